/- Part 3 of a proof that a law of the program answers true for every input. -/
import Derived.Lib.SlicesCompact
import Derived.Lib.SliceRun
import Derived.WalkSpells
import Derived.Test.YtcjbghmhdefdiaaC2
set_option linter.unusedSimpArgs false
set_option linter.unusedVariables false
namespace Go.Proofs.Ytcjbghmhdefdiaa.S
open Go.RowKit Go.Proofs.YtcjbghmhdefdiaaW.PrintWords Go.Proofs.YtcjbghmhdefdiaaW.PrintLast Go.Proofs.YtcjbghmhdefdiaaW.PrintMore
attribute [local go_sem high] eqA55
set_option linter.unusedVariables false
set_option linter.unusedSimpArgs false
instance : DecidableEq S55 := fun a b => decidable_of_iff (a.f0 = b.f0 ∧ a.f1 = b.f1 ∧ a.f2 = b.f2) ⟨fun ⟨h0, h1, h2⟩ => xH h0 h1 h2, fun h => by subst h; exact ⟨rfl, rfl, rfl⟩⟩
def zy (l : List S55) : List S55 := Lib.compact l
theorem cellsE {W : World} {g n cap base : Nat} {ok : Nat → Prop} {l : List S55} (h : Kd.R k55 55 W base ok (.slice (some ⟨g, 0, none⟩) n cap) l) (i : Nat) (hi : i < n) :
  W.cell? ⟨g, i * 3, none⟩ = some (.int .i64 (qf l (i : Int)).f0) ∧ W.cell? ⟨g, i * 3 + 1, none⟩ = some (.int .i64 (qf l (i : Int)).f1) ∧ W.cell? ⟨g, i * 3 + 2, none⟩ = some (.int .i64 (qf l (i : Int)).f2) := by
 obtain ⟨hn, _, hC⟩ := Kd.qN h
 obtain ⟨ad, e, h0, h1, h2⟩ := vN hC (i : Int) (by omega) (by omega)
 cases e
 rw [Int.toNat_natCast, add_plain] at h0 h1 h2
 exact ⟨h0, h1, h2⟩
theorem eq_same (a b : S55) (h : a = b) : (a.f0 == b.f0 && (a.f1 == b.f1 && a.f2 == b.f2)) = true := by subst h; simp
theorem yG (a b : S55) (h : ¬ a = b) : (a.f0 == b.f0 && (a.f1 == b.f1 && a.f2 == b.f2)) = false := by
 rw [← Bool.not_eq_true]
 intro hc
 simp only [Bool.and_eq_true, beq_iff_eq] at hc
 exact h (xH hc.1 hc.2.1 hc.2.2)
theorem jZ (l : List S55) (m : Nat) (h : m < l.length) (hm : 1 ≤ m) : Lib.compactUpTo l.toArray (m + 1) = if qf l (m : Int) = qf l ((m - 1 : Nat) : Int) then Lib.compactUpTo l.toArray m else Lib.compactUpTo l.toArray m ++ [qf l (m : Int)] := by
 have e1 : l.toArray[m]! = qf l (m : Int) := by simp [qf, getElem!_pos, h]
 have e2 : l.toArray[m - 1]! = qf l ((m - 1 : Nat) : Int) := by simp [qf, getElem!_pos, show m - 1 < l.length by omega]
 unfold Lib.compactUpTo
 rw [List.range_succ, List.filter_append, List.map_append]
 split <;> rename_i hq
 ·rw [show List.filter (Lib.keeps l.toArray) [m] = [] by simp [Lib.keeps, e1, e2, hq, show ¬ m = 0 by omega]]
  simp
 ·rw [show List.filter (Lib.keeps l.toArray) [m] = [m] by simp [Lib.keeps, e1, e2, hq]]
  simp only [List.map_cons, List.map_nil, e1]
theorem xG (l : List S55) (m : Nat) (h : m ≤ l.length) (hd : ∀ j, 1 ≤ j → j < m → ¬ qf l (j : Int) = qf l ((j - 1 : Nat) : Int)) : Lib.compactUpTo l.toArray m = l.take m := by
 induction m with
 | zero => simp [Lib.compactUpTo]
 | succ m ih =>
  have ih' := ih (by omega) (fun j h1 h2 => hd j h1 (by omega))
  rcases Nat.eq_zero_or_pos m with h0 | h0
  ·subst h0
   have : 0 < l.length := by omega
   cases l with
   | nil => simp at this
   | cons x l => simp [Lib.compactUpTo, Lib.keeps]
  ·rw [jZ l m (by omega) h0, if_neg (hd m h0 (by omega)), ih', List.take_succ_eq_append_getElem (by omega)]
   simp [qf, show m < l.length by omega]
theorem QI (A l : List S55) (m i : Nat) (hA : m = A.length) (hi : m ≤ i) : qf (A ++ l.drop m) (i : Int) = qf l (i : Int) := by
 unfold qf
 rw [Int.toNat_natCast, List.getD_eq_getElem?_getD, List.getD_eq_getElem?_getD, List.getElem?_append_right (by omega), List.getElem?_drop]
 congr 2
 omega
theorem yX (A l : List S55) (m : Nat) (x : S55) (hA : m = A.length) (hm : m < l.length) : (A ++ l.drop m).set m x = (A ++ [x]) ++ l.drop (m + 1) := by
 rw [List.set_append_right _ _ (by omega), ← hA, Nat.sub_self, List.append_assoc]
 congr 1
 rw [List.drop_eq_getElem_cons hm]
 rfl
theorem kY {W : World} {g : Nat} {m : Nat} {x y z : Value} (h0 : W.cell? ⟨g, m * 3, none⟩ = some x) (h1 : W.cell? ⟨g, m * 3 + 1, none⟩ = some y) (h2 : W.cell? ⟨g, m * 3 + 2, none⟩ = some z) : ∀ (j : Nat) (u : Value), [x, y, z][j]? = some u → W.drew.cell? ⟨g, (m : Int).toNat * k55.sz + j, none⟩ = some u := by
 intro j u hu
 rw [Int.toNat_natCast, show k55.sz = 3 from rfl]
 match j, hu with
 | 0, hu => obtain rfl := Option.some.inj hu; exact h0
 | 1, hu => obtain rfl := Option.some.inj hu; exact h1
 | 2, hu => obtain rfl := Option.some.inj hu; exact h2
theorem kQ (l : List S55) (m : Nat) : (Lib.compactUpTo l.toArray m).length ≤ m := by
 unfold Lib.compactUpTo
 rw [List.length_map]
 exact Nat.le_trans (List.length_filter_le _ _) (by simp)
theorem kX {W : World} {g n cap base m c : Nat} {l : List S55} (ho : Kd.R k55 55 W base (fun _ => True) (.slice (some ⟨g, 0, none⟩) n cap) l) (hm : m < n) :
  ∃ W', (∀ ty, (Builtin.clear_ #[23] ty #[.slice (some ⟨g, m * 3, none⟩) (n - m) c]).run Try.prog W = .ok (.tuple #[]) W') ∧ Kd.R k55 55 W' base (fun _ => True) (.slice (some ⟨g, 0, none⟩) m cap) (l.take m) ∧ W.grownBy W' (some g) := by
 obtain ⟨hn, hnc, _⟩ := Kd.qN ho
 obtain ⟨_, inner, ho2, hr⟩ := ho
 rcases ho2.2 with ⟨h1, _⟩ | ⟨g', cap', cur, h1, hg, hh, hnc', hcm, hcs, htake⟩
 ·cases h1
 injection h1 with h1 _ h2
 injection h1 with h1
 injection h1 with h1
 subst h1
 subst h2
 have hcs3 : cur.size = cap * 3 := hcs
 obtain ⟨news, hnews⟩ : ∃ news, news = (Builtin.zeroCells (Value.agg #[.int .i64 0, .int .i64 0, .int .i64 0]).cells (n - m)).toList := ⟨_, rfl⟩
 have hnl : news.length = (n - m) * 3 := by rw [hnews, Array.length_toList, size_zeroCells]; rfl
 have hone : ∀ v ∈ news, v.oneCell' = true := by
  intro v hv
  rw [hnews] at hv
  simp [Builtin.zeroCells, Value.cells] at hv
  obtain ⟨i, _, rfl⟩ := hv
  have : i % 3 = 0 ∨ i % 3 = 1 ∨ i % 3 = 2 := by omega
  rcases this with h | h | h <;> rw [h] <;> rfl
 have hst := run_storeCells_cells (P := Try.prog) g (m * 3) news 0 W (fun j hj => by
  rw [Nat.add_zero, cell_of_row W g _ cur 55 (0, 0) hh]
  simp
  omega) (fun j _ => qh hh _) hone
 rw [Nat.add_zero] at hst
 obtain ⟨cur', q1, q2, q3⟩ := wB news (m * 3) W cur hh (by rw [hnl, hcs3]; omega)
 obtain ⟨s1, s2, s3, s4⟩ := zY g news (m * 3) W
 have hml : (l.take m).length = m := by rw [List.length_take]; omega
 refine ⟨W.setCells g (m * 3) news, fun ty => ?_, ⟨fun _ _ => trivial, inner.take (m * 3), ⟨?_, .inr ⟨g, cap, cur', by rw [hml], hg, q1, by rw [hml]; omega, hcm, by rw [q2]; exact hcs, ?_⟩⟩, ?_, ?_⟩, ⟨s1, s2, s3, by rw [s4]; exact Nat.le_refl _, fun k _ hk => zS news _ k (fun e => hk (by rw [e]))⟩⟩
 ·obtain ⟨q, hq⟩ : ∃ q, n - m = q + 1 := ⟨n - m - 1, by omega⟩
  rw [hq] at hnews ⊢
  have hv : ∀ w, (zeroValue 55).run Try.prog w = .ok (.agg #[.int .i64 0, .int .i64 0, .int .i64 0]) w := fun w => by
   obtain ⟨i0, hi, hzz⟩ := Option.map_eq_some_iff.1 (show (Try.prog.info? 55).map (fun i => (i.zero, i.size, i.bytes)) = some (some (.agg #[.int .i64 0, .int .i64 0, .int .i64 0]), 3, 24) by kernel_rfl)
   simp only [Prod.mk.injEq] at hzz
   simp [zeroValue, typeInfo, hi, hzz.1]
  simp [Builtin.clear_, run_underlying Try.underlying23, hv, ← hnews, hst]
 ·rw [List.length_take, List.length_take, ho2.1]
  show min (m * 3) (l.length * 3) = min m l.length * 3
  omega
 ·rw [List.length_take]
  show cur'.toList.take (min m l.length * 3) = _
  rw [show min m l.length * 3 = m * 3 by omega, q3, List.append_assoc, List.take_append_of_le_length (by rw [List.length_take, Array.length_toList]; omega), List.take_take, Nat.min_self, ← htake, List.take_take]
  show _ = cur.toList.take (min (m * 3) (l.length * 3))
  rw [Nat.min_eq_left (by omega)]
 ·rw [List.length_take, List.length_take, ho2.1]
  show min (m * 3) (l.length * 3) = min m l.length * 3
  omega
 ·intro j p hj
  have hjm : j < m := by
   have := (List.getElem?_eq_some_iff.1 hj).1
   rw [List.length_take] at this
   omega
  rw [List.getElem?_take_of_lt hjm] at hj
  have := hr.2 j p hj
  have e3 : ((inner.take (m * 3)).drop (j * k55.sz)).take k55.sz = (inner.drop (j * k55.sz)).take k55.sz := by
   show ((inner.take (m * 3)).drop (j * 3)).take 3 = (inner.drop (j * 3)).take 3
   rw [List.drop_take, List.take_take, Nat.min_eq_left (by omega)]
  rw [e3]
  exact k55.M_move (fun _ _ => by trivial) (by obtain h := kL this; rw [h]; exact je _ _ _ _)
set_option maxHeartbeats 4000000 in
set_option maxRecDepth 100000 in
theorem ko (l : List S55) (g cap : Nat) (base : Nat) (w0 W : World) (hB : Below base w0 W) (ho : Kd.R k55 55 W base (fun _ => True) (.slice (some ⟨g, 0, none⟩) l.length cap) l) (hlt : l.length < 5864062014805) (hWb : base ≤ W.heap.size) :
  Calls Try.prog 127 #[.slice (some ⟨g, 0, none⟩) l.length cap] W fun e W2 => ∃ v, e = .returned v ∧ Kd.R k55 55 W2 base (fun _ => True) v (zy l) ∧ Below base w0 W2 := by
 have hu55 := Try.underlying55
 have hu23 := Try.underlying23
 obtain ⟨n, hnl⟩ : ∃ n, n = l.length := ⟨_, rfl⟩
 have hno := (Kd.qN ho).2.1
 rw [← hnl] at ho hlt hno ⊢
 have HN := qb.mk hnl
 have HO0 := qb.mk ho
 have HB0 := qb.mk hB
 have HW := qb.mk hWb
 have HCAP : qb (cap ≤ 9223372036854775807) := ⟨by
  obtain ⟨_, inner, ho2, _⟩ := ho
  rcases ho2.2 with ⟨h1, _⟩ | ⟨g', cap', cur, h1, _, hh, _, hcm, _⟩
  ·cases h1
  ·injection h1 with _ _ h1
   subst h1
   simpa [maxLen] using hcm⟩
 clear hnl ho hB hWb
 have hcap := HCAP.out
 by_cases hn2 : n < 2
 ·have b1 : decide ((n : Int) < 2) = true := decide_eq_true (by omega)
  have b2 : decide (n < 2) = true := decide_eq_true (by omega)
  go_enter Try.func127, Try.ntmps127
  go_wp2
  go_ret
  refine ⟨_, rfl, ?_, HB0.out⟩
  have : zy l = l := by
   unfold zy Lib.compact
   rw [xG l l.length (Nat.le_refl _) (fun j h1 h2 => by have := HN.out; omega), List.take_length]
  rw [this]
  exact HO0.out
 have b1 : decide ((n : Int) < 2) = false := decide_eq_false (by omega)
 have b2 : decide (n < 2) = false := decide_eq_false (by omega)
 go_enter Try.func127, Try.ntmps127
 go_wp2
 go_loopw [3] (fun x wr => ∃ k : Nat, x = .int .i64 k ∧ 1 ≤ k ∧ k ≤ n ∧ qb (∀ j, 1 ≤ j → j < k → ¬ qf l (j : Int) = qf l ((j - 1 : Nat) : Int)) ∧ qb (Kd.R k55 55 wr base (fun _ => True) (.slice (some ⟨g, 0, none⟩) n cap) l) ∧ qb (Below base w0 wr) ∧ qb (base ≤ wr.heap.size)) (fun x _ => n - (intOf x).toNat)
 case atStart => exact ⟨1, rfl, by omega, by omega, ⟨fun j h1 h2 => absurd h2 (by omega)⟩, HO0, HB0, HW⟩
 case round =>
  clear HO0 HB0 HW
  obtain ⟨k, rfl, hk, hk2, HD, HO, HB, HW⟩ := hrel
  by_cases hlt2 : k < n
  ·have d1 : decide ((k : Int) < (n : Int)) = true := decide_eq_true (by omega)
   have d2 : decide (k < n) = true := decide_eq_true hlt2
   have hwr : wrap64 ((k : Int) - 1) = (k : Int) - 1 := by unfold wrap64; omega
   have hwn : (wrap64 ((k : Int) - 1)).toNat = k - 1 := by rw [hwr]; omega
   have hwc : ((k - 1 : Nat) : Int) = wrap64 ((k : Int) - 1) := by rw [hwr]; omega
   obtain ⟨a0, a1, a2⟩ := cellsE HO.out k hlt2
   obtain ⟨p0, p1, p2⟩ := cellsE HO.out (k - 1) (by omega)
   rw [hwc, ← hwn] at p0 p1 p2
   have c1 : (0 ≤ wrap64 ((k : Int) - 1)) = True := eq_true (by rw [hwr]; omega)
   have c2 : (wrap64 ((k : Int) - 1) < (n : Int)) = True := eq_true (by rw [hwr]; omega)
   have HWN := qb.mk hwn
   have HWC := qb.mk hwc
   have HWR := qb.mk hwr
   clear hwn hwc hwr
   by_cases hq : qf l (k : Int) = qf l (wrap64 ((k : Int) - 1))
   ·have e1 := eq_same _ _ hq
    have HQ := qb.mk hq
    clear hq
    go_wp2
    refine zV (n := 10) (S := fun w' => w'.cell? ⟨g, k * 3, none⟩ = some (.int .i64 (qf l (k : Int)).f0) ∧ w'.cell? ⟨g, k * 3 + 1, none⟩ = some (.int .i64 (qf l (k : Int)).f1) ∧ w'.cell? ⟨g, k * 3 + 2, none⟩ = some (.int .i64 (qf l (k : Int)).f2) ∧ w'.cell? ⟨g, (wrap64 ((k : Int) - 1)).toNat * 3, none⟩ = some (.int .i64 (qf l (wrap64 ((k : Int) - 1))).f0) ∧ w'.cell? ⟨g, (wrap64 ((k : Int) - 1)).toNat * 3 + 1, none⟩ = some (.int .i64 (qf l (wrap64 ((k : Int) - 1))).f1) ∧ w'.cell? ⟨g, (wrap64 ((k : Int) - 1)).toNat * 3 + 2, none⟩ = some (.int .i64 (qf l (wrap64 ((k : Int) - 1))).f2)) (ds := []) #[false, false, false, false, false, false, false, false, false, false] (by kernel_rfl) rfl rfl ⟨a0, a1, a2, p0, p1, p2⟩ (fun hHeld => ?_)
    refine qx (i := 0) (N := some 16) (v := ?_) (a' := ?_) #[true, false, false, false, false, false, false, false, false, false] rfl rfl (by kernel_rfl) (fun _ _ _ h => h) (Or.inl ⟨by rfl, ?_⟩) ?_ ?_
    rotate_left
    ·intro w'
     go_simp
     with_reducible rfl
    rotate_left
    ·simp only [Act.put, sA, sB, sC, ql, qm]
     rfl
    refine qx (i := 1) (N := some 17) (v := ?_) (a' := ?_) #[true, true, false, false, false, false, false, false, false, false] rfl rfl (by kernel_rfl) (fun _ _ _ h => h) (Or.inl ⟨by rfl, ?_⟩) ?_ ?_
    rotate_left
    ·intro w'
     go_simp
     with_reducible rfl
    rotate_left
    ·simp only [Act.put, sA, sB, sC, ql, qm]
     rfl
    refine qx (i := 2) (N := some 18) (v := ?_) (a' := ?_) #[true, true, true, false, false, false, false, false, false, false] rfl rfl (by kernel_rfl) (fun _ _ _ h => h) (Or.inl ⟨by rfl, ?_⟩) ?_ ?_
    rotate_left
    ·intro w'
     go_simp
     with_reducible rfl
    rotate_left
    ·simp only [Act.put, sA, sB, sC, ql, qm]
     rfl
    refine qx (i := 4) (N := some 20) (v := ?_) (a' := ?_) #[true, true, true, false, true, false, false, false, false, false] rfl rfl (by kernel_rfl) (fun _ _ _ h => h) (Or.inl ⟨by rfl, ?_⟩) ?_ ?_
    rotate_left
    ·intro w'
     go_simp
     with_reducible rfl
    rotate_left
    ·simp only [Act.put, sA, sB, sC, ql, qm]
     rfl
    refine qx (i := 5) (N := some 21) (v := ?_) (a' := ?_) #[true, true, true, false, true, true, false, false, false, false] rfl rfl (by kernel_rfl) (fun _ _ _ h => h) (Or.inl ⟨by rfl, ?_⟩) ?_ ?_
    rotate_left
    ·intro w'
     go_simp
     with_reducible rfl
    rotate_left
    ·simp only [Act.put, sA, sB, sC, ql, qm]
     rfl
    refine qx (i := 6) (N := some 22) (v := ?_) (a' := ?_) #[true, true, true, false, true, true, true, false, false, false] rfl rfl (by kernel_rfl) (fun _ _ _ h => h) (Or.inl ⟨by rfl, ?_⟩) ?_ ?_
    rotate_left
    ·intro w'
     go_simp
     with_reducible rfl
    rotate_left
    ·simp only [Act.put, sA, sB, sC, ql, qm]
     rfl
    refine qx (i := 7) (N := some 23) (v := ?_) (a' := ?_) #[true, true, true, false, true, true, true, true, false, false] rfl rfl (by kernel_rfl) (fun _ _ _ h => h) (Or.inl ⟨by rfl, ?_⟩) ?_ ?_
    rotate_left
    ·intro w'
     go_simp
     with_reducible rfl
    rotate_left
    ·simp only [Act.put, sA, sB, sC, ql, qm]
     rfl
    refine vz (i := 3) (N := some 19) (v := ?_) (a' := ?_) #[true, true, true, true, true, true, true, true, false, false] rfl rfl (by kernel_rfl) (fun _ _ _ h => h) (Or.inl ⟨by rfl, ?_⟩) hHeld ?_ ?_
    rotate_left
    ·rintro w' ⟨s0, s1, s2, s3, s4, s5⟩
     go_simp
     with_reducible rfl
    rotate_left
    ·simp only [Act.put, sA, sB, sC, ql, qm]
     rfl
    refine vz (i := 8) (N := some 24) (v := ?_) (a' := ?_) #[true, true, true, true, true, true, true, true, true, false] rfl rfl (by kernel_rfl) (fun _ _ _ h => h) (Or.inl ⟨by rfl, ?_⟩) hHeld ?_ ?_
    rotate_left
    ·rintro w' ⟨s0, s1, s2, s3, s4, s5⟩
     go_simp
     with_reducible rfl
    rotate_left
    ·simp only [Act.put, sA, sB, sC, ql, qm]
     rfl
    refine qx (i := 9) (N := some 25) (v := ?_) (a' := ?_) #[true, true, true, true, true, true, true, true, true, true] rfl rfl (by kernel_rfl) (fun _ _ _ h => h) (Or.inl ⟨by rfl, ?_⟩) ?_ ?_
    rotate_left
    ·intro w'
     go_simp
     with_reducible rfl
    rotate_left
    ·simp only [Act.put, sA, sB, sC, ql, qm]
     rfl
    refine zQ (by kernel_rfl) ?_
    clear a0 a1 a2 p0 p1 p2
    have HO2 : qb (Kd.R k55 55 wr.drew base (fun _ => True) (.slice (some ⟨g, 0, none⟩) n cap) l) := ⟨Kd.qH HO.out⟩
    have HB2 := qb.mk (qd HB.out)
    have HW2 : qb (base ≤ wr.drew.heap.size) := HW
    clear HO HB HW c1 c2 d1 d2
    generalize wr.drew = wo at HO2 HB2 HW2 ⊢
    obtain ⟨k0, rfl⟩ : ∃ k0 : Nat, k0 = k := ⟨_, rfl⟩
    have hk0 : k0 ≤ cap := by omega
    have q1 : (0 ≤ (k0 : Int)) = True := eq_true (by omega)
    have q2 : ((k0 : Int) ≤ (n : Int)) = True := eq_true (by omega)
    have q3 : ((n : Int) ≤ (cap : Int)) = True := eq_true (by omega)
    go_wp2
    go_loopw [3, 5] (fun x y wr => ∃ m k2 : Nat, x = .int .i64 m ∧ y = .int .i64 k2 ∧ 1 ≤ k2 ∧ k2 ≤ n - k0 ∧ m ≤ k0 + k2 - 1 ∧ 1 ≤ m ∧ qb (m = (Lib.compactUpTo l.toArray (k0 + k2)).length) ∧ qb (Kd.R k55 55 wr base (fun _ => True) (.slice (some ⟨g, 0, none⟩) n cap) (Lib.compactUpTo l.toArray (k0 + k2) ++ l.drop m)) ∧ qb (Below base w0 wr) ∧ qb (base ≤ wr.heap.size)) (fun _ y _ => n - k0 - (intOf y).toNat)
    case atStart =>
     have hu : Lib.compactUpTo l.toArray (k0 + 1) = l.take k0 := by
      rw [jZ l k0 (by rw [← HN.out]; exact hlt2) hk, if_pos (by rw [HWC.out]; exact HQ.out)]
      exact xG l k0 (by rw [← HN.out]; exact hk2) HD.out
     exact ⟨k0, 1, rfl, rfl, by omega, by omega, by omega, hk, ⟨by rw [hu, List.length_take, ← HN.out]; omega⟩, ⟨by rw [hu, List.take_append_drop]; exact HO2.out⟩, HB2, HW2⟩
    case round =>
     clear HO2 HB2 HW2
     obtain ⟨m, k2, rfl, rfl, hk21, hk22, hm, hm1, HM, HO, HB, HW⟩ := hrel
     have hz1 : wrap64 ((k2 : Int) - 1) = (k2 : Int) - 1 := by unfold wrap64; omega
     by_cases hlt3 : k2 < n - k0
     ·have d1 : decide ((k2 : Int) < ((n - k0 : Nat) : Int)) = true := decide_eq_true (by omega)
      have d2 : decide (k2 < n - k0) = true := decide_eq_true hlt3
      have hwn : (wrap64 ((k2 : Int) - 1)).toNat = k2 - 1 := by rw [hz1]; omega
      obtain ⟨a0, a1, a2⟩ := cellsE HO.out (k0 + k2) (by omega)
      obtain ⟨p0, p1, p2⟩ := cellsE HO.out (k0 + k2 - 1) (by omega)
      rw [QI _ _ _ _ HM.out (by omega)] at a0 a1 a2 p0 p1 p2
      rw [show (k0 + k2) * 3 = k0 * 3 + k2 * 3 by omega] at a0 a1 a2
      rw [show (k0 + k2 - 1) * 3 = k0 * 3 + (wrap64 ((k2 : Int) - 1)).toNat * 3 by rw [hwn]; omega] at p0 p1 p2
      have c1 : (0 ≤ wrap64 ((k2 : Int) - 1)) = True := eq_true (by rw [hz1]; omega)
      have c2 : (wrap64 ((k2 : Int) - 1) < ((n - k0 : Nat) : Int)) = True := eq_true (by rw [hz1]; omega)
      have c3 : ((k2 : Int) < ((n - k0 : Nat) : Int)) = True := eq_true (by omega)
      have hsu := jZ l (k0 + k2) (by rw [← HN.out]; omega) (by omega)
      have HI : qb (∃ i i1 : Nat, i = k0 + k2 ∧ i1 = k0 + k2 - 1) := ⟨⟨_, _, rfl, rfl⟩⟩
      obtain ⟨i, i1, hi, hi1⟩ := HI.out
      rw [← hi] at a0 a1 a2 hsu
      rw [← hi1] at p0 p1 p2
      rw [show i - 1 = i1 by omega] at hsu
      have HSU := qb.mk hsu
      have HI1 := qb.mk hi
      clear hwn hz1 hsu hi hi1 HI
      by_cases hq2 : (qf l (i : Int)) = (qf l (i1 : Int))
      ·have e1 : (!((qf l (i : Int)).f0 == (qf l (i1 : Int)).f0) || (!((qf l (i : Int)).f1 == (qf l (i1 : Int)).f1) || !((qf l (i : Int)).f2 == (qf l (i1 : Int)).f2))) = false := by rw [hq2]; simp
       have HQ2 := qb.mk hq2
       clear hq2
       go_wp2
       refine zV (n := 10) (S := fun w' => w'.cell? ⟨g, k0 * 3 + k2 * 3, none⟩ = some (.int .i64 (qf l (i : Int)).f0) ∧ w'.cell? ⟨g, k0 * 3 + k2 * 3 + 1, none⟩ = some (.int .i64 (qf l (i : Int)).f1) ∧ w'.cell? ⟨g, k0 * 3 + k2 * 3 + 2, none⟩ = some (.int .i64 (qf l (i : Int)).f2) ∧ w'.cell? ⟨g, k0 * 3 + (wrap64 ((k2 : Int) - 1)).toNat * 3, none⟩ = some (.int .i64 (qf l (i1 : Int)).f0) ∧ w'.cell? ⟨g, k0 * 3 + (wrap64 ((k2 : Int) - 1)).toNat * 3 + 1, none⟩ = some (.int .i64 (qf l (i1 : Int)).f1) ∧ w'.cell? ⟨g, k0 * 3 + (wrap64 ((k2 : Int) - 1)).toNat * 3 + 2, none⟩ = some (.int .i64 (qf l (i1 : Int)).f2)) (ds := []) #[false, false, false, false, false, false, false, false, false, false] (by kernel_rfl) rfl rfl ⟨a0, a1, a2, p0, p1, p2⟩ (fun hHeld => ?_)
       refine qx (i := 0) (N := some 35) (v := ?_) (a' := ?_) #[true, false, false, false, false, false, false, false, false, false] rfl rfl (by kernel_rfl) (fun _ _ _ h => h) (Or.inl ⟨by rfl, ?_⟩) ?_ ?_
       rotate_left
       ·intro w'
        go_simp
        with_reducible rfl
       rotate_left
       ·simp only [Act.put, sA, sB, sC, ql, qm]
        rfl
       refine qx (i := 1) (N := some 36) (v := ?_) (a' := ?_) #[true, true, false, false, false, false, false, false, false, false] rfl rfl (by kernel_rfl) (fun _ _ _ h => h) (Or.inl ⟨by rfl, ?_⟩) ?_ ?_
       rotate_left
       ·intro w'
        go_simp
        with_reducible rfl
       rotate_left
       ·simp only [Act.put, sA, sB, sC, ql, qm]
        rfl
       refine qx (i := 2) (N := some 37) (v := ?_) (a' := ?_) #[true, true, true, false, false, false, false, false, false, false] rfl rfl (by kernel_rfl) (fun _ _ _ h => h) (Or.inl ⟨by rfl, ?_⟩) ?_ ?_
       rotate_left
       ·intro w'
        go_simp
        with_reducible rfl
       rotate_left
       ·simp only [Act.put, sA, sB, sC, ql, qm]
        rfl
       refine qx (i := 4) (N := some 39) (v := ?_) (a' := ?_) #[true, true, true, false, true, false, false, false, false, false] rfl rfl (by kernel_rfl) (fun _ _ _ h => h) (Or.inl ⟨by rfl, ?_⟩) ?_ ?_
       rotate_left
       ·intro w'
        go_simp
        with_reducible rfl
       rotate_left
       ·simp only [Act.put, sA, sB, sC, ql, qm]
        rfl
       refine qx (i := 5) (N := some 40) (v := ?_) (a' := ?_) #[true, true, true, false, true, true, false, false, false, false] rfl rfl (by kernel_rfl) (fun _ _ _ h => h) (Or.inl ⟨by rfl, ?_⟩) ?_ ?_
       rotate_left
       ·intro w'
        go_simp
        with_reducible rfl
       rotate_left
       ·simp only [Act.put, sA, sB, sC, ql, qm]
        rfl
       refine qx (i := 6) (N := some 41) (v := ?_) (a' := ?_) #[true, true, true, false, true, true, true, false, false, false] rfl rfl (by kernel_rfl) (fun _ _ _ h => h) (Or.inl ⟨by rfl, ?_⟩) ?_ ?_
       rotate_left
       ·intro w'
        go_simp
        with_reducible rfl
       rotate_left
       ·simp only [Act.put, sA, sB, sC, ql, qm]
        rfl
       refine qx (i := 7) (N := some 42) (v := ?_) (a' := ?_) #[true, true, true, false, true, true, true, true, false, false] rfl rfl (by kernel_rfl) (fun _ _ _ h => h) (Or.inl ⟨by rfl, ?_⟩) ?_ ?_
       rotate_left
       ·intro w'
        go_simp
        with_reducible rfl
       rotate_left
       ·simp only [Act.put, sA, sB, sC, ql, qm]
        rfl
       refine vz (i := 3) (N := some 38) (v := ?_) (a' := ?_) #[true, true, true, true, true, true, true, true, false, false] rfl rfl (by kernel_rfl) (fun _ _ _ h => h) (Or.inl ⟨by rfl, ?_⟩) hHeld ?_ ?_
       rotate_left
       ·rintro w' ⟨s0, s1, s2, s3, s4, s5⟩
        go_simp
        with_reducible rfl
       rotate_left
       ·simp only [Act.put, sA, sB, sC, ql, qm]
        rfl
       refine vz (i := 8) (N := some 43) (v := ?_) (a' := ?_) #[true, true, true, true, true, true, true, true, true, false] rfl rfl (by kernel_rfl) (fun _ _ _ h => h) (Or.inl ⟨by rfl, ?_⟩) hHeld ?_ ?_
       rotate_left
       ·rintro w' ⟨s0, s1, s2, s3, s4, s5⟩
        go_simp
        with_reducible rfl
       rotate_left
       ·simp only [Act.put, sA, sB, sC, ql, qm]
        rfl
       refine qx (i := 9) (N := some 44) (v := ?_) (a' := ?_) #[true, true, true, true, true, true, true, true, true, true] rfl rfl (by kernel_rfl) (fun _ _ _ h => h) (Or.inl ⟨by rfl, ?_⟩) ?_ ?_
       rotate_left
       ·intro w'
        go_simp
        with_reducible rfl
       rotate_left
       ·simp only [Act.put, sA, sB, sC, ql, qm]
        rfl
       refine zQ (by kernel_rfl) ?_
       clear a0 a1 a2 p0 p1 p2
       go_wp2
       go_roundw
       case rel =>
        have hs := HSU.out
        rw [if_pos HQ2.out] at hs
        have hI := HI1.out
        have hM := HM.out
        have hO := HO.out
        rw [← hI] at hM hO
        rw [← hs] at hM hO
        exact ⟨m, k2 + 1, rfl, by go_num, by omega, by omega, by omega, hm1, ⟨by rw [hM]; congr 2; omega⟩, ⟨by rw [show k0 + (k2 + 1) = i + 1 by omega]; exact Kd.qH hO⟩, ⟨qd HB.out⟩, HW⟩
       case measure => simp [intOf]; omega
      ·have e1 : (!((qf l (i : Int)).f0 == (qf l (i1 : Int)).f0) || (!((qf l (i : Int)).f1 == (qf l (i1 : Int)).f1) || !((qf l (i : Int)).f2 == (qf l (i1 : Int)).f2))) = true := by
        have h9 := yG _ _ hq2
        revert h9
        cases ((qf l (i : Int)).f0 == (qf l (i1 : Int)).f0) <;> cases ((qf l (i : Int)).f1 == (qf l (i1 : Int)).f1) <;> cases ((qf l (i : Int)).f2 == (qf l (i1 : Int)).f2) <;> simp
       have HQ2 := qb.mk hq2
       clear hq2
       go_wp2
       refine zV (n := 10) (S := fun w' => w'.cell? ⟨g, k0 * 3 + k2 * 3, none⟩ = some (.int .i64 (qf l (i : Int)).f0) ∧ w'.cell? ⟨g, k0 * 3 + k2 * 3 + 1, none⟩ = some (.int .i64 (qf l (i : Int)).f1) ∧ w'.cell? ⟨g, k0 * 3 + k2 * 3 + 2, none⟩ = some (.int .i64 (qf l (i : Int)).f2) ∧ w'.cell? ⟨g, k0 * 3 + (wrap64 ((k2 : Int) - 1)).toNat * 3, none⟩ = some (.int .i64 (qf l (i1 : Int)).f0) ∧ w'.cell? ⟨g, k0 * 3 + (wrap64 ((k2 : Int) - 1)).toNat * 3 + 1, none⟩ = some (.int .i64 (qf l (i1 : Int)).f1) ∧ w'.cell? ⟨g, k0 * 3 + (wrap64 ((k2 : Int) - 1)).toNat * 3 + 2, none⟩ = some (.int .i64 (qf l (i1 : Int)).f2)) (ds := []) #[false, false, false, false, false, false, false, false, false, false] (by kernel_rfl) rfl rfl ⟨a0, a1, a2, p0, p1, p2⟩ (fun hHeld => ?_)
       refine qx (i := 0) (N := some 35) (v := ?_) (a' := ?_) #[true, false, false, false, false, false, false, false, false, false] rfl rfl (by kernel_rfl) (fun _ _ _ h => h) (Or.inl ⟨by rfl, ?_⟩) ?_ ?_
       rotate_left
       ·intro w'
        go_simp
        with_reducible rfl
       rotate_left
       ·simp only [Act.put, sA, sB, sC, ql, qm]
        rfl
       refine qx (i := 1) (N := some 36) (v := ?_) (a' := ?_) #[true, true, false, false, false, false, false, false, false, false] rfl rfl (by kernel_rfl) (fun _ _ _ h => h) (Or.inl ⟨by rfl, ?_⟩) ?_ ?_
       rotate_left
       ·intro w'
        go_simp
        with_reducible rfl
       rotate_left
       ·simp only [Act.put, sA, sB, sC, ql, qm]
        rfl
       refine qx (i := 2) (N := some 37) (v := ?_) (a' := ?_) #[true, true, true, false, false, false, false, false, false, false] rfl rfl (by kernel_rfl) (fun _ _ _ h => h) (Or.inl ⟨by rfl, ?_⟩) ?_ ?_
       rotate_left
       ·intro w'
        go_simp
        with_reducible rfl
       rotate_left
       ·simp only [Act.put, sA, sB, sC, ql, qm]
        rfl
       refine qx (i := 4) (N := some 39) (v := ?_) (a' := ?_) #[true, true, true, false, true, false, false, false, false, false] rfl rfl (by kernel_rfl) (fun _ _ _ h => h) (Or.inl ⟨by rfl, ?_⟩) ?_ ?_
       rotate_left
       ·intro w'
        go_simp
        with_reducible rfl
       rotate_left
       ·simp only [Act.put, sA, sB, sC, ql, qm]
        rfl
       refine qx (i := 5) (N := some 40) (v := ?_) (a' := ?_) #[true, true, true, false, true, true, false, false, false, false] rfl rfl (by kernel_rfl) (fun _ _ _ h => h) (Or.inl ⟨by rfl, ?_⟩) ?_ ?_
       rotate_left
       ·intro w'
        go_simp
        with_reducible rfl
       rotate_left
       ·simp only [Act.put, sA, sB, sC, ql, qm]
        rfl
       refine qx (i := 6) (N := some 41) (v := ?_) (a' := ?_) #[true, true, true, false, true, true, true, false, false, false] rfl rfl (by kernel_rfl) (fun _ _ _ h => h) (Or.inl ⟨by rfl, ?_⟩) ?_ ?_
       rotate_left
       ·intro w'
        go_simp
        with_reducible rfl
       rotate_left
       ·simp only [Act.put, sA, sB, sC, ql, qm]
        rfl
       refine qx (i := 7) (N := some 42) (v := ?_) (a' := ?_) #[true, true, true, false, true, true, true, true, false, false] rfl rfl (by kernel_rfl) (fun _ _ _ h => h) (Or.inl ⟨by rfl, ?_⟩) ?_ ?_
       rotate_left
       ·intro w'
        go_simp
        with_reducible rfl
       rotate_left
       ·simp only [Act.put, sA, sB, sC, ql, qm]
        rfl
       refine vz (i := 3) (N := some 38) (v := ?_) (a' := ?_) #[true, true, true, true, true, true, true, true, false, false] rfl rfl (by kernel_rfl) (fun _ _ _ h => h) (Or.inl ⟨by rfl, ?_⟩) hHeld ?_ ?_
       rotate_left
       ·rintro w' ⟨s0, s1, s2, s3, s4, s5⟩
        go_simp
        with_reducible rfl
       rotate_left
       ·simp only [Act.put, sA, sB, sC, ql, qm]
        rfl
       refine vz (i := 8) (N := some 43) (v := ?_) (a' := ?_) #[true, true, true, true, true, true, true, true, true, false] rfl rfl (by kernel_rfl) (fun _ _ _ h => h) (Or.inl ⟨by rfl, ?_⟩) hHeld ?_ ?_
       rotate_left
       ·rintro w' ⟨s0, s1, s2, s3, s4, s5⟩
        go_simp
        with_reducible rfl
       rotate_left
       ·simp only [Act.put, sA, sB, sC, ql, qm]
        rfl
       refine qx (i := 9) (N := some 44) (v := ?_) (a' := ?_) #[true, true, true, true, true, true, true, true, true, true] rfl rfl (by kernel_rfl) (fun _ _ _ h => h) (Or.inl ⟨by rfl, ?_⟩) ?_ ?_
       rotate_left
       ·intro w'
        go_simp
        with_reducible rfl
       rotate_left
       ·simp only [Act.put, sA, sB, sC, ql, qm]
        rfl
       refine zQ (by kernel_rfl) ?_
       clear p0 p1 p2
       obtain ⟨m0, m1, m2⟩ := cellsE HO.out m (by omega)
       have HM0 := qb.mk m0
       have HM1 := qb.mk m1
       have HM2 := qb.mk m2
       clear m0 m1 m2
       have q4 : ((m : Int) < (n : Int)) = True := eq_true (by omega)
       go_wp2_with (first | (refine Kd.R_store k55 (w0 := w0) base rfl rfl 55 (.tmp 51) (.tmp 50) rfl 55 (g := g) (n := n) (cap := cap) (o' := m * 3) (m : Int) 0 _ (qf l (i : Int)) _ [.int .i64 (qf l (i : Int)).f0, .int .i64 (qf l (i : Int)).f1, .int .i64 (qf l (i : Int)).f2] [.int .i64 (qf (Lib.compactUpTo l.toArray (k0 + k2) ++ l.drop m) (m : Int)).f0, .int .i64 (qf (Lib.compactUpTo l.toArray (k0 + k2) ++ l.drop m) (m : Int)).f1, .int .i64 (qf (Lib.compactUpTo l.toArray (k0 + k2) ++ l.drop m) (m : Int)).f2] (fun _ => True) (fun _ => False) rfl rfl rfl rfl (by kernel_rfl) (by simp [Value.oneCell']) (Kd.qH HO.out) (by omega) (by omega) rfl ?cc (Nat.le_refl 3) (je _ _ _ _) (fun _ h => h.elim) (qd HB.out) ?_; (case cc => exact kY HM0.out HM1.out HM2.out); intro w1 ho1 hb1 hg1; have HO1 := qb.mk ho1; have HB1 := qb.mk hb1; have HW1 : qb (base ≤ w1.heap.size) := ⟨Nat.le_trans HW.out hg1.size⟩; clear ho1 hb1 hg1))
       clear a0 a1 a2
       go_roundw
       case rel =>
        have hs := HSU.out
        rw [if_neg HQ2.out] at hs
        have hI := HI1.out
        have hM := HM.out
        have hO := HO1.out
        rw [Int.toNat_natCast, yX _ _ _ _ hM (by rw [← HN.out]; omega)] at hO
        rw [← hI] at hM hO
        rw [← hs] at hO
        have hL := congrArg List.length hs
        rw [List.length_append, List.length_singleton, ← hM] at hL
        exact ⟨m + 1, k2 + 1, by go_num, by go_num, by omega, by omega, by omega, by omega, ⟨by rw [← hL]; congr 2; omega⟩, ⟨by rw [show k0 + (k2 + 1) = i + 1 by omega]; exact hO⟩, HB1, HW1⟩
       case measure => simp [intOf]; omega
     ·have ek : k2 = n - k0 := by omega
      have d1 : decide ((k2 : Int) < ((n - k0 : Nat) : Int)) = false := decide_eq_false (by omega)
      have d2 : decide (k2 < n - k0) = false := decide_eq_false (by omega)
      have hmn : m < n := by omega
      obtain ⟨W', hcl, ho3, hg3⟩ := kX (c := cap - m) HO.out hmn
      have HO3 := qb.mk ho3
      have HG3 := qb.mk hg3
      have HX : qb (k0 + k2 = n) := ⟨by omega⟩
      have q5 : ((m : Int) ≤ (n : Int)) = True := eq_true (by omega)
      have q6 : ((m : Int) ≤ (cap : Int)) = True := eq_true (by omega)
      clear ho3 hg3 hz1 ek
      go_wp2
      go_ret
      refine ⟨_, rfl, ?_, ?_⟩
      ·have h := HO3.out
       rw [List.take_append_of_le_length (by rw [← HM.out]; exact Nat.le_refl _), List.take_of_length_le (by rw [← HM.out]; exact Nat.le_refl _), HX.out, HN.out] at h
       exact h
      ·exact HB.out.grown HG3.out HW.out (fun k hk => by cases hk; exact Kd.zq HO.out g (by simp [Value.ownBlock]))
   ·have e1 := yG _ _ hq
    have HQ := qb.mk hq
    clear hq
    go_wp2
    refine zV (n := 10) (S := fun w' => w'.cell? ⟨g, k * 3, none⟩ = some (.int .i64 (qf l (k : Int)).f0) ∧ w'.cell? ⟨g, k * 3 + 1, none⟩ = some (.int .i64 (qf l (k : Int)).f1) ∧ w'.cell? ⟨g, k * 3 + 2, none⟩ = some (.int .i64 (qf l (k : Int)).f2) ∧ w'.cell? ⟨g, (wrap64 ((k : Int) - 1)).toNat * 3, none⟩ = some (.int .i64 (qf l (wrap64 ((k : Int) - 1))).f0) ∧ w'.cell? ⟨g, (wrap64 ((k : Int) - 1)).toNat * 3 + 1, none⟩ = some (.int .i64 (qf l (wrap64 ((k : Int) - 1))).f1) ∧ w'.cell? ⟨g, (wrap64 ((k : Int) - 1)).toNat * 3 + 2, none⟩ = some (.int .i64 (qf l (wrap64 ((k : Int) - 1))).f2)) (ds := []) #[false, false, false, false, false, false, false, false, false, false] (by kernel_rfl) rfl rfl ⟨a0, a1, a2, p0, p1, p2⟩ (fun hHeld => ?_)
    refine qx (i := 0) (N := some 16) (v := ?_) (a' := ?_) #[true, false, false, false, false, false, false, false, false, false] rfl rfl (by kernel_rfl) (fun _ _ _ h => h) (Or.inl ⟨by rfl, ?_⟩) ?_ ?_
    rotate_left
    ·intro w'
     go_simp
     with_reducible rfl
    rotate_left
    ·simp only [Act.put, sA, sB, sC, ql, qm]
     rfl
    refine qx (i := 1) (N := some 17) (v := ?_) (a' := ?_) #[true, true, false, false, false, false, false, false, false, false] rfl rfl (by kernel_rfl) (fun _ _ _ h => h) (Or.inl ⟨by rfl, ?_⟩) ?_ ?_
    rotate_left
    ·intro w'
     go_simp
     with_reducible rfl
    rotate_left
    ·simp only [Act.put, sA, sB, sC, ql, qm]
     rfl
    refine qx (i := 2) (N := some 18) (v := ?_) (a' := ?_) #[true, true, true, false, false, false, false, false, false, false] rfl rfl (by kernel_rfl) (fun _ _ _ h => h) (Or.inl ⟨by rfl, ?_⟩) ?_ ?_
    rotate_left
    ·intro w'
     go_simp
     with_reducible rfl
    rotate_left
    ·simp only [Act.put, sA, sB, sC, ql, qm]
     rfl
    refine qx (i := 4) (N := some 20) (v := ?_) (a' := ?_) #[true, true, true, false, true, false, false, false, false, false] rfl rfl (by kernel_rfl) (fun _ _ _ h => h) (Or.inl ⟨by rfl, ?_⟩) ?_ ?_
    rotate_left
    ·intro w'
     go_simp
     with_reducible rfl
    rotate_left
    ·simp only [Act.put, sA, sB, sC, ql, qm]
     rfl
    refine qx (i := 5) (N := some 21) (v := ?_) (a' := ?_) #[true, true, true, false, true, true, false, false, false, false] rfl rfl (by kernel_rfl) (fun _ _ _ h => h) (Or.inl ⟨by rfl, ?_⟩) ?_ ?_
    rotate_left
    ·intro w'
     go_simp
     with_reducible rfl
    rotate_left
    ·simp only [Act.put, sA, sB, sC, ql, qm]
     rfl
    refine qx (i := 6) (N := some 22) (v := ?_) (a' := ?_) #[true, true, true, false, true, true, true, false, false, false] rfl rfl (by kernel_rfl) (fun _ _ _ h => h) (Or.inl ⟨by rfl, ?_⟩) ?_ ?_
    rotate_left
    ·intro w'
     go_simp
     with_reducible rfl
    rotate_left
    ·simp only [Act.put, sA, sB, sC, ql, qm]
     rfl
    refine qx (i := 7) (N := some 23) (v := ?_) (a' := ?_) #[true, true, true, false, true, true, true, true, false, false] rfl rfl (by kernel_rfl) (fun _ _ _ h => h) (Or.inl ⟨by rfl, ?_⟩) ?_ ?_
    rotate_left
    ·intro w'
     go_simp
     with_reducible rfl
    rotate_left
    ·simp only [Act.put, sA, sB, sC, ql, qm]
     rfl
    refine vz (i := 3) (N := some 19) (v := ?_) (a' := ?_) #[true, true, true, true, true, true, true, true, false, false] rfl rfl (by kernel_rfl) (fun _ _ _ h => h) (Or.inl ⟨by rfl, ?_⟩) hHeld ?_ ?_
    rotate_left
    ·rintro w' ⟨s0, s1, s2, s3, s4, s5⟩
     go_simp
     with_reducible rfl
    rotate_left
    ·simp only [Act.put, sA, sB, sC, ql, qm]
     rfl
    refine vz (i := 8) (N := some 24) (v := ?_) (a' := ?_) #[true, true, true, true, true, true, true, true, true, false] rfl rfl (by kernel_rfl) (fun _ _ _ h => h) (Or.inl ⟨by rfl, ?_⟩) hHeld ?_ ?_
    rotate_left
    ·rintro w' ⟨s0, s1, s2, s3, s4, s5⟩
     go_simp
     with_reducible rfl
    rotate_left
    ·simp only [Act.put, sA, sB, sC, ql, qm]
     rfl
    refine qx (i := 9) (N := some 25) (v := ?_) (a' := ?_) #[true, true, true, true, true, true, true, true, true, true] rfl rfl (by kernel_rfl) (fun _ _ _ h => h) (Or.inl ⟨by rfl, ?_⟩) ?_ ?_
    rotate_left
    ·intro w'
     go_simp
     with_reducible rfl
    rotate_left
    ·simp only [Act.put, sA, sB, sC, ql, qm]
     rfl
    refine zQ (by kernel_rfl) ?_
    clear a0 a1 a2 p0 p1 p2
    go_wp2
    go_roundw
    case rel => exact ⟨k + 1, by go_num, by omega, by omega, ⟨fun j h1 h2 => by
      rcases Nat.lt_or_ge j k with hj | hj
      ·exact HD.out j h1 hj
      ·obtain rfl : j = k := by omega
       rw [HWC.out]
       exact HQ.out⟩, ⟨Kd.qH HO.out⟩, ⟨qd HB.out⟩, HW⟩
    case measure => simp [intOf]; omega
  ·have e : k = n := by omega
   subst e
   have d1 : decide ((k : Int) < (k : Int)) = false := decide_eq_false (by omega)
   have d2 : decide (k < k) = false := decide_eq_false (by omega)
   go_wp2
   go_ret
   refine ⟨_, rfl, ?_, HB.out⟩
   have : zy l = l := by
    unfold zy Lib.compact
    rw [xG l l.length (Nat.le_refl _) (fun j h1 h2 => HD.out j h1 (by rw [HN.out]; exact h2)), List.take_length]
   rw [this]
   exact HO.out
end Go.Proofs.Ytcjbghmhdefdiaa.S
namespace Go.Proofs.Ytcjbghmhdefdiaa.S
open Go.RowKit Go.Proofs.YtcjbghmhdefdiaaW.PrintWords Go.Proofs.YtcjbghmhdefdiaaW.PrintLast Go.Proofs.YtcjbghmhdefdiaaW.PrintMore
set_option linter.unusedVariables false
def vW.f (l : List S55) : Option (List S55) := if l.length < 5864062014805 then some l else none
set_option maxHeartbeats 1000000 in
set_option maxRecDepth 100000 in
theorem vW.calls (A0 : Option Addr) (c0 : Nat) (l0 : List S55) (r : List S55) (w : World) (hr0 : Kd.C k55 w A0 l0.length l0) (hc0 : l0.length ≤ c0) (h : vW.f l0 = some r) :
  Calls Try.prog 124 #[.slice A0 l0.length c0] w fun e w' => ∃ v0_ : Value, e = .returned (v0_) ∧ Kd.R k55 55 w' w.heap.size (fun _ => True) v0_ r ∧ Below w.heap.size w w' := by
 unfold vW.f at h
 by_cases hlt : l0.length < 5864062014805
 ·rw [if_pos hlt] at h
  obtain rfl := Option.some.inj h
  clear h
  have hut := Try.underlying23
  rcases A0 with _ | ad
  ·have hz : l0 = [] := List.eq_nil_of_length_eq_zero (by
    rcases Nat.eq_zero_or_pos l0.length with h0 | h0
    ·exact h0
    ·obtain ⟨ad, e, _⟩ := hr0.2.2 h0
     cases e)
   subst hz
   clear hr0
   have hq := fun (W : World) => Lib.run_eql_slice_nil (P := Try.prog) W 23 55 none 0 c0 0 0 Try.underlying23
   go_enter Try.func124, Try.ntmps124
   go_wp2
   go_ret
   exact ⟨_, rfl, Kd.jr _ _ _ _ _, Below.refl _ _⟩
  ·have HR := qb.mk hr0
   clear hr0
   have hq := fun (W : World) => Lib.run_eql_slice_nil (P := Try.prog) W 23 55 (some ad) l0.length c0 0 0 Try.underlying23
   go_enter Try.func124, Try.ntmps124
   go_wp2_with (first | ((with_reducible refine qU (N := 5) rfl ?_); refine Kd.xL k55 w.heap.size 55 ?hg (N := 5) ?hd (xs := ([] : List S55)) (inner := []) (ok := fun _ => True) (okp := fun _ => True) ?hr ?hp (fun _ hk => hk) trivial (Below.refl _ _) (Nat.le_refl _) (by simp) ?_; (case hd => rfl); (case hg => rfl); (case hr => first | (go_simp; done) | (go_simp; rfl)); (case hp => exact (Reps.none _ _)); intro v5 w5 ho5 hb5 hg_ hnew_; clear hg_ hnew_; have HO := qb.mk ho5; have HB := qb.mk hb5; clear ho5 hb5) | ((with_reducible refine zw (b := .append) (xs := #[.tmp 5, .tmp 6]) rfl ?_); at_builtin; refine Kd.wL k55 (w0 := w) w.heap.size rfl (.tmp 5) (.tmp 6) 23 55 (.agg #[.int .i64 0, .int .i64 0, .int .i64 0]) 24 rfl Try.underlying23 info55 rfl (by decide) (by omega) _ [] l0 _ _ _ (fun _ => True) (fun _ => False) rfl rfl HO.out (Kd.qW HR.out HB.out) (fun x cs h => (by obtain rfl := yD h; exact je _ _ _ _)) (fun _ h => h.elim) (fun _ _ => trivial) HB.out (Below.size HB.out) (by simp only [List.length_nil]; omega) ?_; intro v7 w7 ho7 hb7 hg_ hnew_; clear hg_ hnew_; have HO7 := qb.mk ho7; have HB7 := qb.mk hb7; clear ho7 hb7))
   go_ret
   exact ⟨_, rfl, HO7.out, HB7.out⟩
 ·rw [if_neg hlt] at h
  cases h
def vJ.f (l : List ByteArray) : Option (List ByteArray) := if l.length < 8796093022208 then some l else none
set_option maxHeartbeats 1000000 in
set_option maxRecDepth 100000 in
theorem vJ.calls (A0 : Option Addr) (c0 : Nat) (l0 : List ByteArray) (r : List ByteArray) (w : World) (hr0 : Kd.C Kd.string w A0 l0.length l0) (hc0 : l0.length ≤ c0) (h : vJ.f l0 = some r) :
  Calls Try.prog 128 #[.slice A0 l0.length c0] w fun e w' => ∃ v0_ : Value, e = .returned (v0_) ∧ Kd.R Kd.string 9 w' w.heap.size (fun _ => True) v0_ r ∧ Below w.heap.size w w' := by
 unfold vJ.f at h
 by_cases hlt : l0.length < 8796093022208
 ·rw [if_pos hlt] at h
  obtain rfl := Option.some.inj h
  clear h
  have hut := Try.underlying22
  rcases A0 with _ | ad
  ·have hz : l0 = [] := List.eq_nil_of_length_eq_zero (by
    rcases Nat.eq_zero_or_pos l0.length with h0 | h0
    ·exact h0
    ·obtain ⟨ad, e, _⟩ := hr0.2.2 h0
     cases e)
   subst hz
   clear hr0
   have hq := fun (W : World) => Lib.run_eql_slice_nil (P := Try.prog) W 22 9 none 0 c0 0 0 Try.underlying22
   go_enter Try.func128, Try.ntmps128
   go_wp2
   go_ret
   exact ⟨_, rfl, Kd.jr _ _ _ _ _, Below.refl _ _⟩
  ·have HR := qb.mk hr0
   clear hr0
   have hq := fun (W : World) => Lib.run_eql_slice_nil (P := Try.prog) W 22 9 (some ad) l0.length c0 0 0 Try.underlying22
   go_enter Try.func128, Try.ntmps128
   go_wp2_with (first | ((with_reducible refine qU (N := 5) rfl ?_); refine Kd.xL Kd.string w.heap.size 9 ?hg (N := 5) ?hd (xs := ([] : List ByteArray)) (inner := []) (ok := fun _ => True) (okp := fun _ => True) ?hr ?hp (fun _ hk => hk) trivial (Below.refl _ _) (Nat.le_refl _) (by simp) ?_; (case hd => rfl); (case hg => rfl); (case hr => first | (go_simp; done) | (go_simp; rfl)); (case hp => exact (Reps.none _ _)); intro v5 w5 ho5 hb5 hg_ hnew_; clear hg_ hnew_; have HO := qb.mk ho5; have HB := qb.mk hb5; clear ho5 hb5) | ((with_reducible refine zw (b := .append) (xs := #[.tmp 5, .tmp 6]) rfl ?_); at_builtin; refine Kd.wL Kd.string (w0 := w) w.heap.size rfl (.tmp 5) (.tmp 6) 22 9 (.string ⟨#[]⟩) 16 rfl Try.underlying22 info9 rfl (by decide) (by omega) _ [] l0 _ _ _ (fun _ => True) (fun _ => False) rfl rfl HO.out (Kd.qW HR.out HB.out) (fun _ _ h => h) (fun _ h => h.elim) (fun _ _ => trivial) HB.out (Below.size HB.out) (by simp only [List.length_nil]; omega) ?_; intro v7 w7 ho7 hb7 hg_ hnew_; clear hg_ hnew_; have HO7 := qb.mk ho7; have HB7 := qb.mk hb7; clear ho7 hb7))
   go_ret
   exact ⟨_, rfl, HO7.out, HB7.out⟩
 ·rw [if_neg hlt] at h
  cases h
end Go.Proofs.Ytcjbghmhdefdiaa.S
namespace Go.Proofs.Ytcjbghmhdefdiaa.S
open Go.RowKit Go.Proofs.YtcjbghmhdefdiaaW.PrintWords Go.Proofs.YtcjbghmhdefdiaaW.PrintLast Go.Proofs.YtcjbghmhdefdiaaW.PrintMore
set_option linter.unusedVariables false
set_option linter.unusedSimpArgs false
def zf.f (k : Nat) (n : Int) (ls : List ByteArray) (es : List S55) : Option (Int × (List ByteArray) × (List S55) × Int) :=
 if es.length < 5864062014805 then (qL.f k n ls (zy (wD es))).bind fun e => if e = 0 then (if ls.length < 8796093022208 then some (n, ls, zy (wD es), 0) else none) else some (0, [], [], e) else none
theorem zf.mono : ∀ a0 a1 a2 k, LeO (zf.f k a0 a1 a2) (zf.f (k + 1) a0 a1 a2) := by
 intro a0 a1 a2 k
 unfold zf.f
 refine LeO.ite (LeO.bind (qL.mono _ _ _ _) fun _ => LeO.refl _) (LeO.refl _)
theorem jY (l : List S55) : (zy l).length ≤ l.length := kQ l l.length
theorem kN (l : List S55) (v : Value) (base : Nat) (w0 W : World) (hB : Below base w0 W) (ho : Kd.R k55 55 W base (fun _ => True) v l) (hlt : l.length < 5864062014805) (hWb : base ≤ W.heap.size) :
  Calls Try.prog 127 #[v] W fun e W2 => ∃ v, e = .returned v ∧ Kd.R k55 55 W2 base (fun _ => True) v (zy l) ∧ Below base w0 W2 := by
 have ho2 := ho
 obtain ⟨_, inner, ho3, _⟩ := ho2
 rcases ho3.2 with ⟨rfl, hn⟩ | ⟨g, cap, cur, rfl, hg, hh, hnc, hcm, hcs, htake⟩
 ·obtain rfl := List.eq_nil_of_length_eq_zero hn
  have HO := qb.mk ho
  have HB := qb.mk hB
  clear ho ho3 hn hB
  go_enter Try.func127, Try.ntmps127
  go_wp2
  go_ret
  exact ⟨_, rfl, by rw [show zy [] = [] by simp [zy, Lib.compact, Lib.compactUpTo]]; exact HO.out, HB.out⟩
 ·exact ko l g cap base w0 W hB ho hlt hWb
theorem zC {α : Type} {d : Kd α} {e : Nat} {w : World} {base g : Nat} {v : Value} {l : List α} (h : d.R e w base (fun _ => True) v l) (hg : g < base) (j : Nat) (u : Value) : d.R e (w.setCell ⟨g, j, none⟩ u) base (fun _ => True) v l :=
 Kd.zb (Kd.vY (Kd.wU h) (fun k hk => by have h1 := hk.2.1; show k ≠ g; omega) u) (fun _ _ => trivial)
theorem jG {w w1 : World} {base g : Nat} {o : Obj} (h : w.heap[g]? = some o) (hb : Below base w w1) (hg : g < base) : w1.heap[g]? = some o := (hb.block g hg).trans h
set_option maxHeartbeats 4000000 in
set_option maxRecDepth 100000 in
theorem zf.calls (k : Nat) (a0_0 : Int) (A0_1 : Option Addr) (c0_1 : Nat) (l0_1 : List ByteArray) (A0_2 : Option Addr) (c0_2 : Nat) (l0_2 : List (S55)) (r1 : Int) (r2 : List ByteArray) (r3 : List (S55)) (r4 : Int) (w : World) (hr0_1 : Kd.C Kd.string w A0_1 l0_1.length l0_1) (hc0_1 : l0_1.length ≤ c0_1) (hr0_2 : Kd.C k55 w A0_2 l0_2.length l0_2) (hc0_2 : l0_2.length ≤ c0_2) (h : zf.f k a0_0 l0_1 l0_2 = some (r1, r2, r3, r4)) :
  Calls Try.prog 65 #[.agg #[.int .i64 a0_0, .slice A0_1 l0_1.length c0_1, .slice A0_2 l0_2.length c0_2]] w fun e w' => ∃ v1_ v2_ : Value, e = .returned (.tuple #[.agg #[.int .i64 r1, v1_, v2_], .int .i64 r4]) ∧ Kd.R Kd.string 9 w' w.heap.size (fun _ => True) v1_ r2 ∧ Kd.R k55 55 w' w.heap.size (fun _ => True) v2_ r3 ∧ Below w.heap.size w w' := by
 have hu25 := Try.underlying25
 unfold zf.f at h
 by_cases hlt0 : ¬ l0_2.length < 5864062014805
 ·rw [if_neg hlt0] at h; cases h
 have hlt : l0_2.length < 5864062014805 := by omega
 clear hlt0
 rw [if_pos hlt] at h
 obtain ⟨e, hck, h⟩ := Option.bind_eq_some_iff.1 h
 have HK := qb.mk hck
 have HR1 := qb.mk hr0_1
 have HR2 := qb.mk hr0_2
 have HC1 := qb.mk hc0_1
 have HC2 := qb.mk hc0_2
 have H := qb.mk h
 clear hck hr0_1 hr0_2 hc0_1 hc0_2 h
 have HL : qb ((wD l0_2).length < 5864062014805) := ⟨by rw [jD]; exact hlt⟩
 go_enter Try.func65, Try.ntmps65
 go_wp2_with fail
 have BK1 := qb.mk (qp (zL w (.cells #[.int .i64 a0_0, .slice A0_1 l0_1.length c0_1, .slice A0_2 l0_2.length c0_2] 25)) (.cells #[.int .i64 0, .slice none 0 0, .slice none 0 0] 25))
 have BK2 := qb.mk (zL (w.alloc (.cells #[.int .i64 a0_0, .slice A0_1 l0_1.length c0_1, .slice A0_2 l0_2.length c0_2] 25)) (.cells #[.int .i64 0, .slice none 0 0, .slice none 0 0] 25))
 have HB := qb.mk (qc (qc (Below.refl w.heap.size w) (.cells #[.int .i64 a0_0, .slice A0_1 l0_1.length c0_1, .slice A0_2 l0_2.length c0_2] 25)) (.cells #[.int .i64 0, .slice none 0 0, .slice none 0 0] 25))
 rw [show (w.alloc (.cells #[.int .i64 a0_0, .slice A0_1 l0_1.length c0_1, .slice A0_2 l0_2.length c0_2] 25)).heap.size = w.heap.size + 1 by simp] at BK2
 obtain ⟨g1, hg1⟩ : ∃ g1, g1 = w.heap.size := ⟨_, rfl⟩
 obtain ⟨g2, hg2⟩ : ∃ g2, g2 = w.heap.size + 1 := ⟨_, rfl⟩
 rw [← hg2] at BK2 ⊢
 rw [← hg1] at BK1 ⊢
 have HG1 : qb (w.heap.size ≤ g1) := ⟨by omega⟩
 have HG2 : qb (w.heap.size ≤ g2) := ⟨by omega⟩
 have HNE : qb (g1 ≠ g2) := ⟨by omega⟩
 clear hg1 hg2
 generalize ((w.alloc (.cells #[.int .i64 a0_0, .slice A0_1 l0_1.length c0_1, .slice A0_2 l0_2.length c0_2] 25)).alloc (.cells #[.int .i64 0, .slice none 0 0, .slice none 0 0] 25)) = wA at BK1 BK2 HB ⊢
 (with_reducible refine (vW.calls _ _ l0_2 _ _ (Kd.qW HR2.out HB.out) HC2.out (by unfold vW.f; exact if_pos hlt)).mono ?_)
 rintro e1 w1 ⟨v1, rfl, ho1, hb1⟩
 obtain ⟨Av1, cv1, rfl⟩ := Kd.vI ho1
 have B1 := qb.mk (qM BK1.out hb1)
 have B2 := qb.mk (qM BK2.out hb1)
 have HB1 := qb.mk (qG HB.out hb1)
 have HO1 := qb.mk ho1
 have HS1 : qb (wA.heap.size ≤ w1.heap.size) := ⟨hb1.size⟩
 have HL1 : qb (g1 < wA.heap.size) := ⟨vv BK1.out⟩
 have HL2 : qb (g2 < wA.heap.size) := ⟨vv BK2.out⟩
 clear BK1 BK2 HB ho1 hb1
 obtain ⟨base, hbase⟩ : ∃ b, b = wA.heap.size := ⟨_, rfl⟩
 rw [← hbase] at HO1 HS1 HL1 HL2
 clear hbase
 have x0 := (qi B1.out 2).trans rfl
 have f0 := qh B1.out 2
 have f1 := qh B1.out 1
 go_wp2_with fail
 have B1b := qb.mk (wC B1.out 2 (.slice Av1 l0_2.length cv1))
 have B2b := qb.mk (vK (p := ⟨g1, 2, none⟩) B2.out (fun e => HNE.out e.symm) (.slice Av1 l0_2.length cv1))
 have HB2 := qb.mk (qj HB1.out HG1.out (j := 2) (v := .slice Av1 l0_2.length cv1))
 have HO2 := qb.mk (zC HO1.out HL1.out 2 (.slice Av1 l0_2.length cv1))
 have HS2 : qb (base ≤ (w1.setCell ⟨g1, 2, none⟩ (.slice Av1 l0_2.length cv1)).heap.size) := ⟨by rw [World.size_setCell]; exact HS1.out⟩
 clear B1 B2 HB1 HO1 HS1 x0 f0 f1
 generalize (w1.setCell ⟨g1, 2, none⟩ (.slice Av1 l0_2.length cv1)) = w2 at B1b B2b HB2 HO2 HS2 ⊢
 have x0 := (qi B1b.out 2).trans rfl
 (with_reducible refine (yV l0_2 (.slice Av1 l0_2.length cv1) base w2 w2 (Below.refl _ _) HO2.out (by omega) HS2.out).mono ?_)
 rintro e2 w3 ⟨rfl, ho3, hb3, _⟩
 have B1 := qb.mk (jG B1b.out hb3 HL1.out)
 have B2 := qb.mk (jG B2b.out hb3 HL2.out)
 have HB3 : qb (Below w.heap.size w w3) := ⟨HB2.out.trans ⟨hb3.os, hb3.tape, hb3.output, hb3.size, fun k hk => hb3.block k (by have := HG1.out; have := HL1.out; omega)⟩⟩
 have HO3 := qb.mk ho3
 have HS3 : qb (base ≤ w3.heap.size) := ⟨Nat.le_trans HS2.out hb3.size⟩
 clear B1b B2b HB2 HO2 HS2 x0 ho3 hb3
 have x0 := (qi B1.out 2).trans rfl
 go_wp2_with fail
 (with_reducible refine (kN (wD l0_2) (.slice Av1 l0_2.length cv1) base w3 w3 (Below.refl _ _) HO3.out HL.out HS3.out).mono ?_)
 rintro e3 w4 ⟨v3, rfl, ho4, hb4⟩
 obtain ⟨Av3, cv3, rfl⟩ := Kd.vI ho4
 obtain ⟨L, hL⟩ : ∃ L, L = zy (wD l0_2) := ⟨_, rfl⟩
 rw [← hL] at ho4
 have HKL := HK
 rw [← hL] at HKL
 have HH := H
 rw [← hL] at HH
 have HLL : qb (L.length < 5864062014805) := ⟨by rw [hL]; have := jY (wD l0_2); have := HL.out; omega⟩
 rw [← hL]
 clear hL HK H HL
 have B1b := qb.mk (jG B1.out hb4 HL1.out)
 have B2b := qb.mk (jG B2.out hb4 HL2.out)
 have HB4 : qb (Below w.heap.size w w4) := ⟨HB3.out.trans ⟨hb4.os, hb4.tape, hb4.output, hb4.size, fun k hk => hb4.block k (by have := HG1.out; have := HL1.out; omega)⟩⟩
 have HO4 := qb.mk ho4
 have HS4 : qb (base ≤ w4.heap.size) := ⟨Nat.le_trans HS3.out hb4.size⟩
 clear B1 B2 HB3 HO3 HS3 x0 ho4 hb4
 have x0 := (qi B1b.out 2).trans rfl
 have y0 := (qi B1b.out 0).trans rfl
 have y1 := (qi B1b.out 1).trans rfl
 have f0 := qh B1b.out 2
 go_wp2_with fail
 have B1 := qb.mk (wC B1b.out 2 (.slice Av3 L.length cv3))
 have B2 := qb.mk (vK (p := ⟨g1, 2, none⟩) B2b.out (fun e => HNE.out e.symm) (.slice Av3 L.length cv3))
 have HB5 := qb.mk (qj HB4.out HG1.out (j := 2) (v := .slice Av3 L.length cv3))
 have HO5 := qb.mk (zC HO4.out HL1.out 2 (.slice Av3 L.length cv3))
 have HS5 : qb (base ≤ (w4.setCell ⟨g1, 2, none⟩ (.slice Av3 L.length cv3)).heap.size) := ⟨by rw [World.size_setCell]; exact HS4.out⟩
 clear B1b B2b HB4 HO4 HS4 x0 y0 y1 f0
 generalize (w4.setCell ⟨g1, 2, none⟩ (.slice Av3 L.length cv3)) = w5 at B1 B2 HB5 HO5 HS5 ⊢
 obtain ⟨_, hlc, hC⟩ := Kd.qN HO5.out
 (with_reducible refine (qL.calls k a0_0 _ _ l0_1 _ _ L _ _ (Kd.qW HR1.out HB5.out) HC1.out hC hlc HKL.out).mono ?_)
 rintro e4 w6 ⟨rfl, hb6⟩
 have B1b := qb.mk (qM B1.out hb6)
 have B2b := qb.mk (qM B2.out hb6)
 have HB6 := qb.mk (qG HB5.out hb6)
 have HO6 := qb.mk (Kd.qP HO5.out hb6)
 have HS6 : qb (base ≤ w6.heap.size) := ⟨Nat.le_trans HS5.out hb6.size⟩
 clear B1 B2 HB5 HO5 HS5 hlc hC hb6
 by_cases he : e = 0
 ·subst he
  have hH := HH.out
  rw [if_pos rfl] at hH
  by_cases hll : ¬ l0_1.length < 8796093022208
  ·rw [if_neg hll] at hH; cases hH
  have hll2 : l0_1.length < 8796093022208 := by omega
  clear hll
  rw [if_pos hll2] at hH
  have hH2 := Option.some.inj hH
  simp only [Prod.mk.injEq] at hH2
  obtain ⟨rfl, rfl, rfl, rfl⟩ := hH2
  clear hH HH
  have x0 := (qi B1b.out 1).trans rfl
  go_wp2_with fail
  (with_reducible refine (vJ.calls _ _ l0_1 _ _ (Kd.qW HR1.out HB6.out) HC1.out (by unfold vJ.f; exact if_pos hll2)).mono ?_)
  rintro e5 w7 ⟨v7, rfl, ho7, hb7⟩
  obtain ⟨Av7, cv7, rfl⟩ := Kd.vI ho7
  have B1 := qb.mk (qM B1b.out hb7)
  have B2 := qb.mk (qM B2b.out hb7)
  have HB7 := qb.mk (qG HB6.out hb7)
  have HO7 := qb.mk (Kd.qP HO6.out hb7)
  have HP7 := qb.mk (Kd.vV ho7 HS6.out)
  clear B1b B2b HB6 HO6 ho7 hb7 x0
  have y0 := (qi B1.out 0).trans rfl
  have y1 := (qi B1.out 1).trans rfl
  have y2 := (qi B1.out 2).trans rfl
  have z0 := (qi B2.out 0).trans rfl
  have z1 := (qi B2.out 1).trans rfl
  have z2 := (qi B2.out 2).trans rfl
  have f0 := qh B1.out 0
  have f1 := qh B1.out 1
  have f2 := qh B1.out 2
  have i0 := qh B2.out 0
  have i1 := qh B2.out 1
  have i2 := qh B2.out 2
  have hne := HNE.out
  have hne2 : g2 ≠ g1 := fun e => hne e.symm
  go_wp2
  clear y0 y1 y2 z0 z1 z2 f0 f1 f2 i0 i1 i2 hne hne2
  have B2E := wC (wC (wC (vK (p := ⟨g1, 1, none⟩) B2.out (fun e => HNE.out e.symm) (.slice Av7 l0_1.length cv7)) 0 (.int .i64 a0_0)) 1 (.slice Av7 l0_1.length cv7)) 2 (.slice Av3 L.length cv3)
  have hb1 := qj HB7.out HG1.out (j := 1) (v := .slice Av7 l0_1.length cv7)
  have hb2 := qj (qj (qj hb1 HG2.out (j := 0) (v := .int .i64 a0_0)) HG2.out (j := 1) (v := .slice Av7 l0_1.length cv7)) HG2.out (j := 2) (v := .slice Av3 L.length cv3)
  have ho1 := zC (zC (zC (zC HO7.out HL1.out 1 (.slice Av7 l0_1.length cv7)) HL2.out 0 (.int .i64 a0_0)) HL2.out 1 (.slice Av7 l0_1.length cv7)) HL2.out 2 (.slice Av3 L.length cv3)
  have hp1 := zC (zC (zC (zC HP7.out HL1.out 1 (.slice Av7 l0_1.length cv7)) HL2.out 0 (.int .i64 a0_0)) HL2.out 1 (.slice Av7 l0_1.length cv7)) HL2.out 2 (.slice Av3 L.length cv3)
  generalize ((((w7.setCell ⟨g1, 1, none⟩ (.slice Av7 l0_1.length cv7)).setCell ⟨g2, 0, none⟩ (.int .i64 a0_0)).setCell ⟨g2, 1, none⟩ (.slice Av7 l0_1.length cv7)).setCell ⟨g2, 2, none⟩ (.slice Av3 L.length cv3)) = wE at B2E hb2 ho1 hp1 ⊢
  have z0 := (qi B2E 0).trans rfl
  have z1 := (qi B2E 1).trans rfl
  have z2 := (qi B2E 2).trans rfl
  refine bodyPost_ret (v := .tuple #[.agg #[.int .i64 a0_0, .slice Av7 l0_1.length cv7, .slice Av3 L.length cv3], .int .i64 0]) (by simp [results, Try.results65, go_sem, hu25, z0, z1, z2]) rfl ⟨_, _, rfl, Kd.vV hp1 ?_, Kd.vV ho1 ?_, hb2⟩
  ·have := HG1.out; have := HL1.out; omega
  ·have := HG1.out; have := HL1.out; omega
 ·have hH := HH.out
  rw [if_neg he] at hH
  have hH2 := Option.some.inj hH
  simp only [Prod.mk.injEq] at hH2
  obtain ⟨rfl, rfl, rfl, rfl⟩ := hH2
  clear hH HH
  have d1 : (e != 0) = true := by simpa using he
  have d2 : (e == 0) = false := by simpa using he
  have z0 := (qi B2b.out 0).trans rfl
  have z1 := (qi B2b.out 1).trans rfl
  have z2 := (qi B2b.out 2).trans rfl
  have i0 := qh B2b.out 0
  have i1 := qh B2b.out 1
  have i2 := qh B2b.out 2
  clear he
  go_wp2
  clear z0 z1 z2 i0 i1 i2
  have B2E := wC (wC (wC B2b.out 0 (.int .i64 0)) 1 (.slice none 0 0)) 2 (.slice none 0 0)
  have hb2 := qj (qj (qj HB6.out HG2.out (j := 0) (v := .int .i64 0)) HG2.out (j := 1) (v := .slice none 0 0)) HG2.out (j := 2) (v := .slice none 0 0)
  generalize (((w6.setCell ⟨g2, 0, none⟩ (.int .i64 0)).setCell ⟨g2, 1, none⟩ (.slice none 0 0)).setCell ⟨g2, 2, none⟩ (.slice none 0 0)) = wE at B2E hb2 ⊢
  have z0 := (qi B2E 0).trans rfl
  have z1 := (qi B2E 1).trans rfl
  have z2 := (qi B2E 2).trans rfl
  exact bodyPost_ret (v := .tuple #[.agg #[.int .i64 0, .slice none 0 0, .slice none 0 0], .int .i64 e]) (by simp [results, Try.results65, go_sem, hu25, z0, z1, z2]) rfl ⟨_, _, rfl, Kd.jr _ _ _ _ _, Kd.jr _ _ _ _ _, hb2⟩
end Go.Proofs.Ytcjbghmhdefdiaa.S
namespace Go.Proofs.Ytcjbghmhdefdiaa.S
open Go.RowKit Go.Proofs.YtcjbghmhdefdiaaW.PrintWords Go.Proofs.YtcjbghmhdefdiaaW.PrintLast Go.Proofs.YtcjbghmhdefdiaaW.PrintMore
attribute [local go_sem] vG vE vS vT vk vg vD vF
set_option linter.unusedVariables false
set_option linter.unusedSimpArgs false
def zB.f (a0_0 : Int) (a0_1 : Int) (a0_2 : Int) (a1 : Int) : Option (Int) := (cmp_Compare_int.f a0_0 a1).bind fun t966 => (some t966)
set_option maxHeartbeats 8000000 in
set_option maxRecDepth 100000 in
theorem zB.calls (a0_0 : Int) (a0_1 : Int) (a0_2 : Int) (a1 : Int) (r : Int) (w : World) (h : zB.f a0_0 a0_1 a0_2 a1 = some r) :
  Calls Try.prog 167 #[.agg #[.int .i64 a0_0, .int .i64 a0_1, .int .i64 a0_2], .int .i64 a1] w fun e w' => e = .returned (.int .i64 r) ∧ Below w.heap.size w w' := by
 have hu55 := Try.underlying55
 have HB := qb.mk (Below.refl w.heap.size w)
 have H : ((cmp_Compare_int.f a0_0 a1).bind fun t966 => (some t966)) = some r := h
 clear h
 replace H := Option.bind_eq_some_iff.mp H
 obtain ⟨t966, A30, H⟩ := H
 replace H : (some t966) = some r := H
 have A3 := qb.mk A30
 clear A30
 obtain rfl := Option.some.inj H
 go_enter Try.func167, Try.ntmps167
 go_wp2_with (first | ((with_reducible refine qU (N := 2) rfl ?_); refine qV ?hg (N := 2) ?hd (cs := #[.int .i64 a0_0, .int .i64 a0_1, .int .i64 a0_2]) (t := 55) ?hr ?_; (case hd => rfl); (case hg => rfl); (case hr => first | (go_simp; done) | (go_simp; rfl)); intro gb965 hg w4 hbox hb; have n0_ := qb.mk (qG (by repeat (first | (with_reducible first | exact HB.out | apply qc | apply qa | apply qd) | exact HB.out)) hb); have n1_ := qb.mk (hbox); have n2_ := qb.mk ((by rw [hg]; exact (qD (by repeat (first | (with_reducible first | exact HB.out | apply qc | apply qa | apply qd) | exact HB.out))) : w.heap.size ≤ gb965)); have n3_ := qb.mk ((by rw [hg]; exact (qD (by repeat (first | (with_reducible first | exact HB.out | apply qc | apply qa | apply qd) | exact HB.out))) : w.heap.size ≤ gb965)); clear HB; have HB := n0_; have BK965 := n1_; have GW965 := n2_; have GE965 := n3_; clear n0_ n1_ n2_ n3_; clear hb hbox hg; have hcz5_0 : w4.cell? ⟨gb965, 0, none⟩ = some (.int .i64 a0_0) := (qi BK965.out 0).trans rfl; have hcz5_1 : w4.cell? ⟨gb965, 1, none⟩ = some (.int .i64 a0_1) := (qi BK965.out 1).trans rfl; have hcz5_2 : w4.cell? ⟨gb965, 2, none⟩ = some (.int .i64 a0_2) := (qi BK965.out 2).trans rfl; have hfz5_0 := qh BK965.out 0; have hfz5_1 := qh BK965.out 1; have hfz5_2 := qh BK965.out 2) | ((with_reducible refine qR (f := 164) rfl ?_); refine vU (some 8) rfl rfl Try.func164 (by kernel_rfl) rfl #[.int .i64 a0_0, .int .i64 a1] rfl (by (try simp only [List.map_toArray, List.map_cons, List.map_nil]); first | done | rfl | (simp only [List.length_drop, List.length_take]; rfl)) ?_; (with_reducible refine (cmp_Compare_int.calls a0_0 a1 t966 _ A3.out).mono ?_); rintro e w' ⟨rfl, ⟨nd, rfl⟩⟩; refine ⟨_, rfl, ?_⟩))
 go_ret
 exact ⟨by first | rfl | (simp [errW_none, errW_some] <;> rfl) | (simp [*, errW_none, errW_some] <;> rfl), by repeat (first | (with_reducible first | exact HB.out | apply qc | apply qa | apply qd | refine qj ?_ GE965.out) | exact HB.out)⟩
attribute [local go_sem] vG vE vS vT vk vg vD vF
set_option linter.unusedVariables false
set_option linter.unusedSimpArgs false
def qQ.l0 : Nat → List (S55) → Int → Int → Int → Int → Option (Int × Bool)
 | 0, _, _, _, _, _ => none
 | k + 1, x0, x1, x8, x9, x10 => if x9 < x10 then (if 0 ≤ (wrap64 ((IntKind.u64.wrap (wrap64 (x9 + x10))) / 2)) then (if (wrap64 ((IntKind.u64.wrap (wrap64 (x9 + x10))) / 2)) < (x0.length : Int) then ((zB.f ((qf x0 (wrap64 ((IntKind.u64.wrap (wrap64 (x9 + x10))) / 2))).f0) ((qf x0 (wrap64 ((IntKind.u64.wrap (wrap64 (x9 + x10))) / 2))).f1) ((qf x0 (wrap64 ((IntKind.u64.wrap (wrap64 (x9 + x10))) / 2))).f2) x1).bind fun t968 => (if t968 < 0 then (qQ.l0 k x0 x1 x8 (wrap64 ((wrap64 ((IntKind.u64.wrap (wrap64 (x9 + x10))) / 2)) + 1)) x10) else (qQ.l0 k x0 x1 x8 x9 (wrap64 ((IntKind.u64.wrap (wrap64 (x9 + x10))) / 2))))) else (none)) else (none)) else (if x9 < x8 then (if 0 ≤ x9 then (if x9 < (x0.length : Int) then ((zB.f ((qf x0 x9).f0) ((qf x0 x9).f1) ((qf x0 x9).f2) x1).bind fun t970 => (some (x9, (t970 == 0)))) else (none)) else (none)) else (some (x9, false)))
def qQ.f (k : Nat) (l0 : List (S55)) (a1 : Int)  : Option (Int × Bool) := qQ.l0 k l0 a1 (l0.length : Int) 0 (l0.length : Int)
theorem qQ.vQ : ∀ k, (∀ y0 y1 y2 y3 y4, LeO (qQ.l0 k y0 y1 y2 y3 y4) (qQ.l0 (k + 1) y0 y1 y2 y3 y4))
 | 0 => fun _ _ _ _ _ r h => by simp [qQ.l0] at h
 | k + 1 => by
  have ih0 := qQ.vQ k
  ·intro y0 y1 y2 y3 y4
   unfold qQ.l0
   repeat' first
   | (with_reducible exact ih0 _ _ _ _ _)
   | (with_reducible exact LeO.refl _)
   | (with_reducible exact LeO.none _)
   | (with_reducible refine LeO.ite ?_ ?_)
   | (with_reducible refine LeO.bind ?_ (fun _ => ?_))
   | exact ih0 _ _ _ _ _
   | exact LeO.none _
   | refine LeO.ite ?_ ?_
   | refine LeO.bind ?_ (fun _ => ?_)
theorem qQ.mono : ∀ a0 a1 k, LeO (qQ.f k a0 a1) (qQ.f (k + 1) a0 a1) := by
 intro a0 a1 k
 have ih0 := qQ.vQ k
 unfold qQ.f
 repeat' first
   | (with_reducible exact ih0 _ _ _ _ _)
   | (with_reducible exact LeO.refl _)
   | (with_reducible exact LeO.none _)
   | (with_reducible refine LeO.ite ?_ ?_)
   | (with_reducible refine LeO.bind ?_ (fun _ => ?_))
   | exact ih0 _ _ _ _ _
   | exact LeO.none _
   | refine LeO.ite ?_ ?_
   | refine LeO.bind ?_ (fun _ => ?_)
set_option maxHeartbeats 8000000 in
set_option maxRecDepth 100000 in
theorem qQ.calls (k : Nat) (A0 : Option Addr) (c0 : Nat) (l0 : List (S55)) (a1 : Int)  (r1 : Int) (r2 : Bool) (w : World) (hr0 : Kd.C k55 w A0 l0.length l0) (hc0 : l0.length ≤ c0) (h : qQ.f k l0 a1 = some (r1, r2)) :
  Calls Try.prog 168 #[.slice A0 l0.length c0, .int .i64 a1, .func (.func 167) #[] #[]] w fun e w' => e = .returned (.tuple #[.int .i64 r1, .bool r2]) ∧ Below w.heap.size w w' := by
 have hu55 := Try.underlying55
 have HR0 := qb.mk hr0
 have HC0 := qb.mk hc0
 clear hr0 hc0
 have HB := qb.mk (Below.refl w.heap.size w)
 have H : (qQ.l0 k l0 a1 (l0.length : Int) 0 (l0.length : Int)) = some (r1, r2) := h
 clear h
 have H' := qb.mk H
 clear H
 go_enter Try.func168, Try.ntmps168
 go_wp2
 go_loopg [9, 10] k (fun kq v9 v10 w' => ∃ (x9_1 : Int) (x10_1 : Int), v9 = .int .i64 x9_1 ∧ v10 = .int .i64 x10_1 ∧ qb (qQ.l0 kq l0 a1 (l0.length : Int) x9_1 x10_1 = some (r1, r2)) ∧ qb (kq ≤ k) ∧ qb (Below w.heap.size w w'))
 case atStart => exact ⟨(0), ((l0.length : Int)), (by first | rfl | (simp; done) | (simp [*]; done)), (by first | rfl | (simp; done) | (simp [*]; done)), H', ⟨Nat.le_refl _⟩, ⟨by repeat (first | (with_reducible first | exact HB.out | apply qc | apply qa | apply qd) | exact HB.out)⟩⟩
 case round =>
  clear H'
  try clear c1
  try clear p2
  obtain ⟨x9_1, x10_1, rfl, rfl, HA, HK1, HB⟩ := hrel
  cases gk with
  | zero => exact absurd HA.out (by simp [qQ.l0])
  | succ k1 =>
   have H := HA.out
   clear HA
   simp only [qQ.l0] at H
   by_cases c4 : x9_1 < x10_1
   ·rw [if_pos c4] at H
    have c4b0 : decide (x9_1 < x10_1) = true := decide_eq_true c4
    clear c4
    obtain ⟨ji5, hji5⟩ : ∃ j_ : Int, (wrap64 ((IntKind.u64.wrap (wrap64 (x9_1 + x10_1))) / 2)) = j_ := ⟨_, rfl⟩
    replace H : (if 0 ≤ (ji5) then (if (ji5) < (l0.length : Int) then ((zB.f ((qf l0 (ji5)).f0) ((qf l0 (ji5)).f1) ((qf l0 (ji5)).f2) a1).bind fun t968 => (if t968 < 0 then (qQ.l0 k1 l0 a1 (l0.length : Int) (wrap64 ((ji5) + 1)) x10_1) else (qQ.l0 k1 l0 a1 (l0.length : Int) x9_1 ji5))) else (none)) else (none)) = some (r1, r2) := by first | (rw [hji5] at H; exact H) | (simp only [hji5] at H ⊢; exact H)
    have hji5w : (IntKind.i64.wrap ((IntKind.u64.wrap (wrap64 (x9_1 + x10_1))) / 2)) = ji5 := (ql _).trans hji5
    by_cases c6 : 0 ≤ (ji5)
    ·rw [if_pos c6] at H
     have c6b0 : decide (0 ≤ (ji5)) = true := decide_eq_true c6
     clear c6
     by_cases c7 : (ji5) < (l0.length : Int)
     ·rw [if_pos c7] at H
      have c7b0 : decide ((ji5) < (l0.length : Int)) = true := decide_eq_true c7
      clear c7
      replace H := Option.bind_eq_some_iff.mp H
      obtain ⟨t968, A80, H⟩ := H
      replace H : (if t968 < 0 then (qQ.l0 k1 l0 a1 (l0.length : Int) (wrap64 ((ji5) + 1)) x10_1) else (qQ.l0 k1 l0 a1 (l0.length : Int) x9_1 ji5)) = some (r1, r2) := H
      have A8 := qb.mk A80
      clear A80
      by_cases c9 : t968 < 0
      ·rw [if_pos c9] at H
       have c9b0 : decide (t968 < 0) = true := decide_eq_true c9
       clear c9
       have H' := qb.mk H
       clear H
       have p967 : 0 ≤ ((ji5) : Int) := of_decide_eq_true (by first | (with_reducible assumption) | assumption)
       have q967 : (ji5) < (l0.length : Int) := of_decide_eq_true (by first | (with_reducible assumption) | assumption)
       obtain ⟨ad967, e967, hx967_0, hx967_1, hx967_2⟩ := vN HR0.out (ji5) p967 q967
       cases e967
       replace hx967_0 := (HB.out.cell (World.block_lt_of_cell? w _ hx967_0)).trans hx967_0
       replace hx967_1 := (HB.out.cell (World.block_lt_of_cell? w _ hx967_1)).trans hx967_1
       replace hx967_2 := (HB.out.cell (World.block_lt_of_cell? w _ hx967_2)).trans hx967_2
       replace p967 := eq_true p967
       replace q967 := eq_true q967
       go_wp2_with (first | ((with_reducible refine wu (f := 167) rfl rfl ?_); refine xX (some 30) rfl rfl Try.func167 (by kernel_rfl) rfl #[.agg #[.int .i64 ((qf l0 (ji5)).f0), .int .i64 ((qf l0 (ji5)).f1), .int .i64 ((qf l0 (ji5)).f2)], .int .i64 a1] rfl rfl (by (try simp only [List.map_toArray, List.map_cons, List.map_nil]); first | done | (simp only [hji5]; rfl) | rfl | (simp only [List.length_drop, List.length_take]; rfl)) ?_; (with_reducible refine (zB.calls ((qf l0 (ji5)).f0) ((qf l0 (ji5)).f1) ((qf l0 (ji5)).f2) a1 t968 _ A8.out).mono ?_); rintro e w10 ⟨rfl, hb⟩; refine ⟨_, rfl, ?_⟩; have n0_ := qb.mk (qG (by repeat (first | (with_reducible first | exact HB.out | apply qc | apply qa | apply qd) | exact HB.out)) hb); clear HB; have HB := n0_; clear n0_; (try clear hb); (try clear hb2); (try clear hk); (try clear hi)))
       go_roundg k1
       case measure => have := HK1.out; omega
       case rel => exact ⟨(wrap64 ((ji5) + 1)), (x10_1), (by first | rfl | (simp; done) | (simp only [← hji5] <;> (first | rfl | simp)) | (simp [*]; done)), (by first | rfl | (simp; done) | (simp [*]; done)), H', ⟨by have := HK1.out; omega⟩, ⟨by repeat (first | (with_reducible first | exact HB.out | apply qc | apply qa | apply qd) | exact HB.out)⟩⟩
      ·rw [if_neg c9] at H
       have c9b0 : decide (t968 < 0) = false := decide_eq_false c9
       clear c9
       have H' := qb.mk H
       clear H
       have p967 : 0 ≤ ((ji5) : Int) := of_decide_eq_true (by first | (with_reducible assumption) | assumption)
       have q967 : (ji5) < (l0.length : Int) := of_decide_eq_true (by first | (with_reducible assumption) | assumption)
       obtain ⟨ad967, e967, hx967_0, hx967_1, hx967_2⟩ := vN HR0.out (ji5) p967 q967
       cases e967
       replace hx967_0 := (HB.out.cell (World.block_lt_of_cell? w _ hx967_0)).trans hx967_0
       replace hx967_1 := (HB.out.cell (World.block_lt_of_cell? w _ hx967_1)).trans hx967_1
       replace hx967_2 := (HB.out.cell (World.block_lt_of_cell? w _ hx967_2)).trans hx967_2
       replace p967 := eq_true p967
       replace q967 := eq_true q967
       go_wp2_with (first | ((with_reducible refine wu (f := 167) rfl rfl ?_); refine xX (some 30) rfl rfl Try.func167 (by kernel_rfl) rfl #[.agg #[.int .i64 ((qf l0 (ji5)).f0), .int .i64 ((qf l0 (ji5)).f1), .int .i64 ((qf l0 (ji5)).f2)], .int .i64 a1] rfl rfl (by (try simp only [List.map_toArray, List.map_cons, List.map_nil]); first | done | (simp only [hji5]; rfl) | rfl | (simp only [List.length_drop, List.length_take]; rfl)) ?_; (with_reducible refine (zB.calls ((qf l0 (ji5)).f0) ((qf l0 (ji5)).f1) ((qf l0 (ji5)).f2) a1 t968 _ A8.out).mono ?_); rintro e w11 ⟨rfl, hb⟩; refine ⟨_, rfl, ?_⟩; have n0_ := qb.mk (qG (by repeat (first | (with_reducible first | exact HB.out | apply qc | apply qa | apply qd) | exact HB.out)) hb); clear HB; have HB := n0_; clear n0_; (try clear hb); (try clear hb2); (try clear hk); (try clear hi)))
       go_roundg k1
       case measure => have := HK1.out; omega
       case rel => exact ⟨(x9_1), (ji5), (by first | rfl | (simp; done) | (simp [*]; done)), (by first | rfl | (simp; done) | (simp only [← hji5] <;> (first | rfl | simp)) | (simp [*]; done)), H', ⟨by have := HK1.out; omega⟩, ⟨by repeat (first | (with_reducible first | exact HB.out | apply qc | apply qa | apply qd) | exact HB.out)⟩⟩
     ·rw [if_neg c7] at H
      exact absurd H (by simp)
    ·rw [if_neg c6] at H
     exact absurd H (by simp)
   ·rw [if_neg c4] at H
    have c4b0 : decide (x9_1 < x10_1) = false := decide_eq_false c4
    clear c4
    by_cases c12 : x9_1 < (l0.length : Int)
    ·rw [if_pos c12] at H
     have c12b0 : decide (x9_1 < (l0.length : Int)) = true := decide_eq_true c12
     clear c12
     by_cases c13 : 0 ≤ x9_1
     ·rw [if_pos c13] at H
      have c13b0 : decide (0 ≤ x9_1) = true := decide_eq_true c13
      clear c13
      by_cases c14 : x9_1 < (l0.length : Int)
      ·rw [if_pos c14] at H
       have c14b0 : decide (x9_1 < (l0.length : Int)) = true := decide_eq_true c14
       clear c14
       replace H := Option.bind_eq_some_iff.mp H
       obtain ⟨t970, A150, H⟩ := H
       replace H : (some (x9_1, (t970 == 0))) = some (r1, r2) := H
       have A15 := qb.mk A150
       clear A150
       simp only [Option.some.injEq, Prod.mk.injEq] at H
       obtain ⟨rfl, rfl⟩ := H
       have p969 : 0 ≤ (x9_1 : Int) := of_decide_eq_true (by first | (with_reducible assumption) | assumption)
       have q969 : x9_1 < (l0.length : Int) := of_decide_eq_true (by first | (with_reducible assumption) | assumption)
       obtain ⟨ad969, e969, hx969_0, hx969_1, hx969_2⟩ := vN HR0.out x9_1 p969 q969
       cases e969
       replace hx969_0 := (HB.out.cell (World.block_lt_of_cell? w _ hx969_0)).trans hx969_0
       replace hx969_1 := (HB.out.cell (World.block_lt_of_cell? w _ hx969_1)).trans hx969_1
       replace hx969_2 := (HB.out.cell (World.block_lt_of_cell? w _ hx969_2)).trans hx969_2
       replace p969 := eq_true p969
       replace q969 := eq_true q969
       go_wp2_with (first | (go_at_call 167; (with_reducible refine (zB.calls ((qf l0 x9_1).f0) ((qf l0 x9_1).f1) ((qf l0 x9_1).f2) a1 t970 _ A15.out).mono ?_); rintro e w16 ⟨rfl, hb⟩; have n0_ := qb.mk (qG (by repeat (first | (with_reducible first | exact HB.out | apply qc | apply qa | apply qd) | exact HB.out)) hb); clear HB; have HB := n0_; clear n0_; (try clear hb); (try clear hb2); (try clear hk); (try clear hi)))
       go_ret2
       exact ⟨by first | rfl | (simp [errW_none, errW_some] <;> rfl) | (simp [*, errW_none, errW_some] <;> rfl), by repeat (first | (with_reducible first | exact HB.out | apply qc | apply qa | apply qd) | exact HB.out)⟩
      ·rw [if_neg c14] at H
       exact absurd H (by simp)
     ·rw [if_neg c13] at H
      exact absurd H (by simp)
    ·rw [if_neg c12] at H
     have c12b0 : decide (x9_1 < (l0.length : Int)) = false := decide_eq_false c12
     clear c12
     simp only [Option.some.injEq, Prod.mk.injEq] at H
     obtain ⟨rfl, rfl⟩ := H
     go_wp2
     go_ret2
     exact ⟨by first | rfl | (simp [errW_none, errW_some] <;> rfl) | (simp [*, errW_none, errW_some] <;> rfl), by repeat (first | (with_reducible first | exact HB.out | apply qc | apply qa | apply qd) | exact HB.out)⟩
end Go.Proofs.Ytcjbghmhdefdiaa.S
namespace Go.Proofs.Ytcjbghmhdefdiaa.S
open Go.RowKit Go.Proofs.YtcjbghmhdefdiaaW.PrintWords Go.Proofs.YtcjbghmhdefdiaaW.PrintLast Go.Proofs.YtcjbghmhdefdiaaW.PrintMore
set_option linter.unusedVariables false
set_option linter.unusedSimpArgs false
def yn (es : List S55) (node : Int) (i : Nat) : List S55 := (es.drop i).takeWhile (fun e => decide (e.f0 = node))
def vR.f (k : Nat) (n : Int) (ls : List ByteArray) (es : List S55) (node : Int) : Option (List S55) :=
 (qQ.f k es node).bind fun p => if 0 ≤ p.1 ∧ p.1 ≤ es.length ∧ es.length ≤ 1000000 then some (yn es node p.1.toNat) else none
theorem vR.mono : ∀ a0 a1 a2 a3 k, LeO (vR.f k a0 a1 a2 a3) (vR.f (k + 1) a0 a1 a2 a3) := by
 intro a0 a1 a2 a3 k
 unfold vR.f
 exact LeO.bind (qQ.mono _ _ _) fun _ => LeO.refl _
theorem zP {es : List S55} {j : Nat} (h : j < es.length) : qf es (j : Int) = es[j] := by
 unfold qf
 rw [Int.toNat_natCast, List.getD_eq_getElem?_getD, List.getElem?_eq_getElem h]
 rfl
theorem yC {es : List S55} {node : Int} {i j : Nat} (hij : i ≤ j) (hj : j ≤ es.length) (hall : ∀ q : Nat, i ≤ q → q < j → (qf es (q : Int)).f0 = node) (hend : ∀ h : j < es.length, (qf es (j : Int)).f0 ≠ node) : (es.take j).drop i = yn es node i := by
 have key : ∀ (m : Nat) (i : Nat), i + m = j → (∀ q : Nat, i ≤ q → q < j → (qf es (q : Int)).f0 = node) → (es.take j).drop i = yn es node i := by
  intro m
  induction m with
  | zero =>
   intro i hi _
   obtain rfl : i = j := by omega
   unfold yn
   rw [List.drop_eq_nil_of_le (by rw [List.length_take]; omega)]
   by_cases h : i < es.length
   ·rw [List.drop_eq_getElem_cons h, List.takeWhile_cons, if_neg]
    have := hend h
    rw [zP h] at this
    simpa using this
   ·rw [List.drop_eq_nil_of_le (by omega)]
    rfl
  | succ m ih =>
   intro i hi ha
   have hlt : i < es.length := by omega
   have h2 := ih (i + 1) (by omega) (fun q h1 h2 => ha q (by omega) h2)
   unfold yn at h2 ⊢
   have hl2 : i < (es.take j).length := by rw [List.length_take]; omega
   rw [List.drop_eq_getElem_cons hl2, h2, List.drop_eq_getElem_cons hlt, List.takeWhile_cons, if_pos, List.getElem_take]
   have := ha i (Nat.le_refl _) (by omega)
   rw [zP hlt] at this
   simpa using this
 exact key (j - i) i (by omega) hall
theorem mid_55 (A : Option Addr) (c : Nat) (xs : List S55) (a b : Int) (h0 : 0 ≤ a) (h1 : a ≤ b) (hm : b ≤ xs.length) (hc : xs.length ≤ c) :
  ∃ A' : Option Addr, (∀ W : World, (Instr.slice 23 (.slice A xs.length c) (some (.int .i64 a)) (some (.int .i64 b)) none).run Try.prog W = .ok (.slice A' ((xs.take b.toNat).drop a.toNat).length (c - a.toNat)) W) ∧
   (∀ (W : World) (ok : Nat → Prop), Kd.F k55 W ok A xs.length xs → Kd.F k55 W ok A' ((xs.take b.toNat).drop a.toNat).length ((xs.take b.toNat).drop a.toNat)) ∧ ((xs.take b.toNat).drop a.toNat).length ≤ c - a.toNat := by
 have hlt : (xs.take b.toNat).length = b.toNat := by rw [List.length_take]; omega
 have hl : ((xs.take b.toNat).drop a.toNat).length = b.toNat - a.toNat := by rw [List.length_drop, hlt]
 refine ⟨if c = a.toNat then A else A.map (·.add (a.toNat * 3)), fun W => ?_, fun w ok h => ?_, by rw [hl]; omega⟩
 ·have ht : Try.prog.underlying 23 = some (.slice 55) := Try.underlying23
  obtain ⟨i, hi, hz, hsz, _⟩ := info_parts info55
  have hel : Try.prog.elem 23 = 55 := by simp [Program.elem, ht]
  have hu : Try.prog.underlying 23 = some (.slice (Try.prog.elem 23)) := by rw [hel]; exact ht
  rw [run_slice_lh W 23 A xs.length c hu .i64 .i64 a b h0 h1 (by omega), hel, hl]
  simp [Go.sizeOf, typeInfo, hi, hsz, sliced, Result.andThen]
 ·exact Kd.F_mid h (by omega) (by omega) hc
set_option maxHeartbeats 4000000 in
set_option maxRecDepth 100000 in
theorem vR.calls (k : Nat) (a0_0 : Int) (A0_1 : Option Addr) (c0_1 : Nat) (l0_1 : List ByteArray) (P0_2_ : Nat → Prop) (A0_2 : Option Addr) (c0_2 : Nat) (l0_2 : List (S55)) (a1 : Int) (r : List (S55)) (w : World) (hr0_1 : Kd.C Kd.string w A0_1 l0_1.length l0_1) (hc0_1 : l0_1.length ≤ c0_1) (hs0_2 : Kd.V k55 55 w w.heap.size (fun k_ => P0_2_ k_) (.slice A0_2 l0_2.length c0_2) l0_2) (h : vR.f k a0_0 l0_1 l0_2 a1 = some r) :
  Calls Try.prog 131 #[.agg #[.int .i64 a0_0, .slice A0_1 l0_1.length c0_1, .slice A0_2 l0_2.length c0_2], .int .i64 a1] w fun e w' => ∃ v0_ : Value, e = .returned v0_ ∧ Kd.V k55 55 w' w.heap.size (fun k_ => (P0_2_ k_ ∨ w.heap.size ≤ k_)) v0_ r ∧ Below w.heap.size w w' := by
 have hu25 := Try.underlying25
 have hu55 := Try.underlying55
 unfold vR.f at h
 obtain ⟨⟨i0, b⟩, hk, h⟩ := Option.bind_eq_some_iff.1 h
 have hcond : 0 ≤ i0 ∧ i0 ≤ l0_2.length ∧ l0_2.length ≤ 1000000 := by
  by_cases hc : 0 ≤ i0 ∧ i0 ≤ l0_2.length ∧ l0_2.length ≤ 1000000
  ·exact hc
  ·rw [if_neg hc] at h; cases h
 rw [if_pos hcond] at h
 have HH := qb.mk (Option.some.inj h)
 have HK := qb.mk hk
 obtain ⟨hi0, hi1, hlen⟩ := hcond
 obtain ⟨i, rfl⟩ : ∃ i : Nat, i0 = i := ⟨i0.toNat, (Int.toNat_of_nonneg hi0).symm⟩
 obtain ⟨_, hc2, hC⟩ := Kd.jo hs0_2
 have HF := qb.mk (Kd.V_F hs0_2)
 have HR := qb.mk hC
 have HC2 := qb.mk hc2
 clear h hk hs0_2 hC hc2 hi0 hr0_1 hc0_1
 go_enter Try.func131, Try.ntmps131
 go_wp2_with fail
 have BK0 := qb.mk (zL w (.cells #[.int .i64 a0_0, .slice A0_1 l0_1.length c0_1, .slice A0_2 l0_2.length c0_2] 25))
 have HB0 := qb.mk (qc (Below.refl w.heap.size w) (.cells #[.int .i64 a0_0, .slice A0_1 l0_1.length c0_1, .slice A0_2 l0_2.length c0_2] 25))
 obtain ⟨g1, hg1⟩ : ∃ g1, g1 = w.heap.size := ⟨_, rfl⟩
 rw [← hg1] at BK0 ⊢
 clear hg1
 generalize (w.alloc (.cells #[.int .i64 a0_0, .slice A0_1 l0_1.length c0_1, .slice A0_2 l0_2.length c0_2] 25)) = wA at BK0 HB0 ⊢
 (with_reducible refine (qQ.calls k A0_2 c0_2 l0_2 a1 (i : Int) b _ (Kd.qW HR.out HB0.out) HC2.out HK.out).mono ?_)
 rintro e w1 ⟨rfl, hb⟩
 have BK := qb.mk (qM BK0.out hb)
 have HB := qb.mk (qG HB0.out hb)
 clear BK0 HB0 hb
 have HR1 := qb.mk (Kd.qW HR.out HB.out)
 have x2 := (qi BK.out 2).trans rfl
 go_wp2
 go_loopw [8] (fun x wr => ∃ j : Nat, x = .int .i64 j ∧ i ≤ j ∧ j ≤ l0_2.length ∧ qb (∀ q : Nat, i ≤ q → q < j → (qf l0_2 (q : Int)).f0 = a1) ∧ wr = w1) (fun x _ => l0_2.length - (intOf x).toNat)
 case atStart => exact ⟨i, rfl, Nat.le_refl _, by omega, ⟨fun q h1 h2 => by omega⟩, rfl⟩
 case round =>
  obtain ⟨j, rfl, hij, hj, HA, rfl⟩ := hrel
  by_cases hlt : j < l0_2.length
  ·have d1 : decide ((j : Int) < (l0_2.length : Int)) = true := decide_eq_true (by omega)
   have d2 : decide (j < l0_2.length) = true := decide_eq_true hlt
   obtain ⟨ad, rfl, hx0, hx1, hx2⟩ := vN HR1.out (j : Int) (by omega) (by omega)
   rw [Int.toNat_natCast] at hx0 hx1 hx2
   by_cases heq : (qf l0_2 (j : Int)).f0 = a1
   ·have d3 : decide ((qf l0_2 (j : Int)).f0 = a1) = true := decide_eq_true heq
    have hA2 : ∀ q : Nat, i ≤ q → q < j + 1 → (qf l0_2 (q : Int)).f0 = a1 := by
     intro q h1 h2
     by_cases h3 : q < j
     ·exact HA.out q h1 h3
     ·obtain rfl : q = j := by omega
      exact heq
    have HA2 := qb.mk hA2
    clear hA2
    have hw : wrap64 ((j : Int) + 1) = ((j + 1 : Nat) : Int) := by unfold wrap64; omega
    go_wp2
    go_roundw
    case measure => simp [intOf]; omega
    case rel => exact ⟨j + 1, rfl, by omega, by omega, HA2, by first | rfl | trivial⟩
   ·have d3 : decide ((qf l0_2 (j : Int)).f0 = a1) = false := decide_eq_false heq
    have hfin := qb.mk (yC hij hj HA.out (fun _ => heq))
    obtain ⟨A', hcut, hF, hcc⟩ := mid_55 (some ad) c0_2 l0_2 (i : Int) (j : Int) (by omega) (by omega) (by omega) HC2.out
    have HF' := qb.mk hF
    have HCC := qb.mk hcc
    clear hF hcc
    rw [Int.toNat_natCast, Int.toNat_natCast] at *
    go_wp2
    go_ret
    have hv : Kd.V k55 55 wr w.heap.size (fun k_ => (P0_2_ k_ ∨ w.heap.size ≤ k_)) (.slice A' ((l0_2.take j).drop i).length (c0_2 - i)) ((l0_2.take j).drop i) := Kd.wO (Kd.V_mk HCC.out (HF'.out wr _ (Kd.j4 HF.out HB.out))) (fun k_ hk_ => .inl hk_)
    simp only [List.length_drop, List.length_take, Nat.min_eq_left hj] at hv
    rw [hfin.out, HH.out] at hv
    exact ⟨_, rfl, hv, HB.out⟩
  ·obtain rfl : j = l0_2.length := by omega
   have d1 : decide ((l0_2.length : Int) < (l0_2.length : Int)) = false := decide_eq_false (by omega)
   have d2 : decide (l0_2.length < l0_2.length) = false := decide_eq_false hlt
   have hfin := qb.mk (yC hij hj HA.out (fun h => absurd h hlt))
   obtain ⟨A', hcut, hF, hcc⟩ := mid_55 A0_2 c0_2 l0_2 (i : Int) (l0_2.length : Int) (by omega) (by omega) (by omega) HC2.out
   have HF' := qb.mk hF
   have HCC := qb.mk hcc
   clear hF hcc
   rw [Int.toNat_natCast] at *
   go_wp2
   go_ret
   have hv : Kd.V k55 55 wr w.heap.size (fun k_ => (P0_2_ k_ ∨ w.heap.size ≤ k_)) (.slice A' ((l0_2.take l0_2.length).drop i).length (c0_2 - i)) ((l0_2.take l0_2.length).drop i) := Kd.wO (Kd.V_mk HCC.out (HF'.out wr _ (Kd.j4 HF.out HB.out))) (fun k_ hk_ => .inl hk_)
   simp only [List.length_drop, List.length_take, Nat.min_self] at hv
   rw [hfin.out, HH.out] at hv
   exact ⟨_, rfl, hv, HB.out⟩
end Go.Proofs.Ytcjbghmhdefdiaa.S
namespace Go.Proofs.Ytcjbghmhdefdiaa.S
open Go.RowKit Go.Proofs.YtcjbghmhdefdiaaW.PrintWords Go.Proofs.YtcjbghmhdefdiaaW.PrintLast Go.Proofs.YtcjbghmhdefdiaaW.PrintMore
attribute [local go_sem] vG vE vS vT vk vg vD vF
set_option linter.unusedVariables false
set_option linter.unusedSimpArgs false
def vP.f (a0_0 : Int) (a0_1 : Int) (a0_2 : Int) (a1_0 : Int) (a1_1 : Int) (a1_2 : Int) : Option (Bool) := if a0_0 = a1_0 then (if a0_1 = a1_1 then (some (decide (a0_2 < a1_2))) else (some (decide (a0_1 < a1_1)))) else (some (decide (a0_0 < a1_0)))
set_option maxHeartbeats 8000000 in
set_option maxRecDepth 100000 in
theorem vP.calls (a0_0 : Int) (a0_1 : Int) (a0_2 : Int) (a1_0 : Int) (a1_1 : Int) (a1_2 : Int) (r : Bool) (w : World) (h : vP.f a0_0 a0_1 a0_2 a1_0 a1_1 a1_2 = some r) :
  Calls Try.prog 82 #[.agg #[.int .i64 a0_0, .int .i64 a0_1, .int .i64 a0_2], .agg #[.int .i64 a1_0, .int .i64 a1_1, .int .i64 a1_2]] w fun e w' => e = .returned (.bool r) ∧ Below w.heap.size w w' := by
 have hu55 := Try.underlying55
 have HB := qb.mk (Below.refl w.heap.size w)
 have H : (if a0_0 = a1_0 then (if a0_1 = a1_1 then (some (decide (a0_2 < a1_2))) else (some (decide (a0_1 < a1_1)))) else (some (decide (a0_0 < a1_0)))) = some r := h
 clear h
 by_cases c3 : a0_0 = a1_0
 ·rw [if_pos c3] at H
  have c3b0 : (a0_0 == a1_0) = true := beq_iff_eq.mpr c3
  have c3b1 : (a0_0 != a1_0) = false := bne_eq_false_iff_eq.mpr c3
  clear c3
  by_cases c4 : a0_1 = a1_1
  ·rw [if_pos c4] at H
   have c4b0 : (a0_1 == a1_1) = true := beq_iff_eq.mpr c4
   have c4b1 : (a0_1 != a1_1) = false := bne_eq_false_iff_eq.mpr c4
   clear c4
   obtain rfl := Option.some.inj H
   go_enter Try.func82, Try.ntmps82
   go_wp2_with (first | ((with_reducible refine qU (N := 2) rfl ?_); refine qV ?hg (N := 2) ?hd (cs := #[.int .i64 a0_0, .int .i64 a0_1, .int .i64 a0_2]) (t := 55) ?hr ?_; (case hd => rfl); (case hg => rfl); (case hr => first | (go_simp; done) | (go_simp; rfl)); intro gb281 hg w5 hbox hb; have n0_ := qb.mk (qG (by repeat (first | (with_reducible first | exact HB.out | apply qc | apply qa | apply qd) | exact HB.out)) hb); have n1_ := qb.mk (hbox); have n2_ := qb.mk ((by rw [hg]; exact (qD (by repeat (first | (with_reducible first | exact HB.out | apply qc | apply qa | apply qd) | exact HB.out))) : w.heap.size ≤ gb281)); have n3_ := qb.mk ((by rw [hg]; exact (qD (by repeat (first | (with_reducible first | exact HB.out | apply qc | apply qa | apply qd) | exact HB.out))) : w.heap.size ≤ gb281)); clear HB; have HB := n0_; have BK281 := n1_; have GW281 := n2_; have GE281 := n3_; clear n0_ n1_ n2_ n3_; clear hb hbox hg) | ((with_reducible refine qU (N := 3) rfl ?_); refine qV ?hg (N := 3) ?hd (cs := #[.int .i64 a1_0, .int .i64 a1_1, .int .i64 a1_2]) (t := 55) ?hr ?_; (case hd => rfl); (case hg => rfl); (case hr => first | (go_simp; done) | (go_simp; rfl)); intro gb282 hg w6 hbox hb; have n0_ := qb.mk (qM (g := gb281) (o := .cells #[.int .i64 a0_0, .int .i64 a0_1, .int .i64 a0_2] 55 (0, 0)) (by (with_reducible repeat (first | refine qw ?_ _ | refine qy ?_ | refine qp ?_ _)); exact BK281.out) hb); have n1_ := qb.mk (qG (by repeat (first | (with_reducible first | exact HB.out | apply qc | apply qa | apply qd | refine qj ?_ GE281.out) | exact HB.out)) hb); have n2_ := qb.mk (hbox); have n3_ := qb.mk ((by rw [hg]; exact (qD (by repeat (first | (with_reducible first | exact HB.out | apply qc | apply qa | apply qd | refine qj ?_ GE281.out) | exact HB.out))) : w.heap.size ≤ gb282)); have n4_ := qb.mk ((by rw [hg]; exact (qD (by repeat (first | (with_reducible first | exact HB.out | apply qc | apply qa | apply qd | refine qj ?_ GE281.out) | exact HB.out))) : w.heap.size ≤ gb282)); have n5_ := qb.mk ((by rw [hg]; exact Nat.ne_of_lt (vv (g := gb281) (o := .cells #[.int .i64 a0_0, .int .i64 a0_1, .int .i64 a0_2] 55 (0, 0)) (by (with_reducible repeat (first | refine qw ?_ _ | refine qy ?_ | refine qp ?_ _)); exact BK281.out)) : gb281 ≠ gb282)); have n6_ := qb.mk ((by rw [hg]; exact Nat.ne_of_gt (vv (g := gb281) (o := .cells #[.int .i64 a0_0, .int .i64 a0_1, .int .i64 a0_2] 55 (0, 0)) (by (with_reducible repeat (first | refine qw ?_ _ | refine qy ?_ | refine qp ?_ _)); exact BK281.out)) : gb282 ≠ gb281)); clear BK281; clear HB; have BK281 := n0_; have HB := n1_; have BK282 := n2_; have GW282 := n3_; have GE282 := n4_; have NB281_282 := n5_; have NB282_281 := n6_; clear n0_ n1_ n2_ n3_ n4_ n5_ n6_; clear hb hbox hg; have hnb7 := NB281_282.out; have hnc7 := NB282_281.out; have hcz8_0 : w6.cell? ⟨gb281, 0, none⟩ = some (.int .i64 a0_0) := (qi BK281.out 0).trans rfl; have hcz8_1 : w6.cell? ⟨gb281, 1, none⟩ = some (.int .i64 a0_1) := (qi BK281.out 1).trans rfl; have hcz8_2 : w6.cell? ⟨gb281, 2, none⟩ = some (.int .i64 a0_2) := (qi BK281.out 2).trans rfl; have hfz8_0 := qh BK281.out 0; have hfz8_1 := qh BK281.out 1; have hfz8_2 := qh BK281.out 2; have hcz9_0 : w6.cell? ⟨gb282, 0, none⟩ = some (.int .i64 a1_0) := (qi BK282.out 0).trans rfl; have hcz9_1 : w6.cell? ⟨gb282, 1, none⟩ = some (.int .i64 a1_1) := (qi BK282.out 1).trans rfl; have hcz9_2 : w6.cell? ⟨gb282, 2, none⟩ = some (.int .i64 a1_2) := (qi BK282.out 2).trans rfl; have hfz9_0 := qh BK282.out 0; have hfz9_1 := qh BK282.out 1; have hfz9_2 := qh BK282.out 2))
   go_ret
   exact ⟨by first | rfl | (simp [errW_none, errW_some] <;> rfl) | (simp [*, errW_none, errW_some] <;> rfl), by repeat (first | (with_reducible first | exact HB.out | apply qc | apply qa | apply qd | refine qj ?_ GE281.out | refine qj ?_ GE282.out) | exact HB.out)⟩
  ·rw [if_neg c4] at H
   have c4b0 : (a0_1 == a1_1) = false := beq_eq_false_iff_ne.mpr c4
   have c4b1 : (a0_1 != a1_1) = true := bne_iff_ne.mpr c4
   obtain rfl := Option.some.inj H
   go_enter Try.func82, Try.ntmps82
   go_wp2_with (first | ((with_reducible refine qU (N := 2) rfl ?_); refine qV ?hg (N := 2) ?hd (cs := #[.int .i64 a0_0, .int .i64 a0_1, .int .i64 a0_2]) (t := 55) ?hr ?_; (case hd => rfl); (case hg => rfl); (case hr => first | (go_simp; done) | (go_simp; rfl)); intro gb281 hg w10 hbox hb; have n0_ := qb.mk (qG (by repeat (first | (with_reducible first | exact HB.out | apply qc | apply qa | apply qd) | exact HB.out)) hb); have n1_ := qb.mk (hbox); have n2_ := qb.mk ((by rw [hg]; exact (qD (by repeat (first | (with_reducible first | exact HB.out | apply qc | apply qa | apply qd) | exact HB.out))) : w.heap.size ≤ gb281)); have n3_ := qb.mk ((by rw [hg]; exact (qD (by repeat (first | (with_reducible first | exact HB.out | apply qc | apply qa | apply qd) | exact HB.out))) : w.heap.size ≤ gb281)); clear HB; have HB := n0_; have BK281 := n1_; have GW281 := n2_; have GE281 := n3_; clear n0_ n1_ n2_ n3_; clear hb hbox hg) | ((with_reducible refine qU (N := 3) rfl ?_); refine qV ?hg (N := 3) ?hd (cs := #[.int .i64 a1_0, .int .i64 a1_1, .int .i64 a1_2]) (t := 55) ?hr ?_; (case hd => rfl); (case hg => rfl); (case hr => first | (go_simp; done) | (go_simp; rfl)); intro gb282 hg w11 hbox hb; have n0_ := qb.mk (qM (g := gb281) (o := .cells #[.int .i64 a0_0, .int .i64 a0_1, .int .i64 a0_2] 55 (0, 0)) (by (with_reducible repeat (first | refine qw ?_ _ | refine qy ?_ | refine qp ?_ _)); exact BK281.out) hb); have n1_ := qb.mk (qG (by repeat (first | (with_reducible first | exact HB.out | apply qc | apply qa | apply qd | refine qj ?_ GE281.out) | exact HB.out)) hb); have n2_ := qb.mk (hbox); have n3_ := qb.mk ((by rw [hg]; exact (qD (by repeat (first | (with_reducible first | exact HB.out | apply qc | apply qa | apply qd | refine qj ?_ GE281.out) | exact HB.out))) : w.heap.size ≤ gb282)); have n4_ := qb.mk ((by rw [hg]; exact (qD (by repeat (first | (with_reducible first | exact HB.out | apply qc | apply qa | apply qd | refine qj ?_ GE281.out) | exact HB.out))) : w.heap.size ≤ gb282)); have n5_ := qb.mk ((by rw [hg]; exact Nat.ne_of_lt (vv (g := gb281) (o := .cells #[.int .i64 a0_0, .int .i64 a0_1, .int .i64 a0_2] 55 (0, 0)) (by (with_reducible repeat (first | refine qw ?_ _ | refine qy ?_ | refine qp ?_ _)); exact BK281.out)) : gb281 ≠ gb282)); have n6_ := qb.mk ((by rw [hg]; exact Nat.ne_of_gt (vv (g := gb281) (o := .cells #[.int .i64 a0_0, .int .i64 a0_1, .int .i64 a0_2] 55 (0, 0)) (by (with_reducible repeat (first | refine qw ?_ _ | refine qy ?_ | refine qp ?_ _)); exact BK281.out)) : gb282 ≠ gb281)); clear BK281; clear HB; have BK281 := n0_; have HB := n1_; have BK282 := n2_; have GW282 := n3_; have GE282 := n4_; have NB281_282 := n5_; have NB282_281 := n6_; clear n0_ n1_ n2_ n3_ n4_ n5_ n6_; clear hb hbox hg; have hnb12 := NB281_282.out; have hnc12 := NB282_281.out; have hcz13_0 : w11.cell? ⟨gb281, 0, none⟩ = some (.int .i64 a0_0) := (qi BK281.out 0).trans rfl; have hcz13_1 : w11.cell? ⟨gb281, 1, none⟩ = some (.int .i64 a0_1) := (qi BK281.out 1).trans rfl; have hcz13_2 : w11.cell? ⟨gb281, 2, none⟩ = some (.int .i64 a0_2) := (qi BK281.out 2).trans rfl; have hfz13_0 := qh BK281.out 0; have hfz13_1 := qh BK281.out 1; have hfz13_2 := qh BK281.out 2; have hcz14_0 : w11.cell? ⟨gb282, 0, none⟩ = some (.int .i64 a1_0) := (qi BK282.out 0).trans rfl; have hcz14_1 : w11.cell? ⟨gb282, 1, none⟩ = some (.int .i64 a1_1) := (qi BK282.out 1).trans rfl; have hcz14_2 : w11.cell? ⟨gb282, 2, none⟩ = some (.int .i64 a1_2) := (qi BK282.out 2).trans rfl; have hfz14_0 := qh BK282.out 0; have hfz14_1 := qh BK282.out 1; have hfz14_2 := qh BK282.out 2))
   go_ret
   exact ⟨by first | rfl | (simp [errW_none, errW_some] <;> rfl) | (simp [*, errW_none, errW_some] <;> rfl), by repeat (first | (with_reducible first | exact HB.out | apply qc | apply qa | apply qd | refine qj ?_ GE281.out | refine qj ?_ GE282.out) | exact HB.out)⟩
 ·rw [if_neg c3] at H
  have c3b0 : (a0_0 == a1_0) = false := beq_eq_false_iff_ne.mpr c3
  have c3b1 : (a0_0 != a1_0) = true := bne_iff_ne.mpr c3
  obtain rfl := Option.some.inj H
  go_enter Try.func82, Try.ntmps82
  go_wp2_with (first | ((with_reducible refine qU (N := 2) rfl ?_); refine qV ?hg (N := 2) ?hd (cs := #[.int .i64 a0_0, .int .i64 a0_1, .int .i64 a0_2]) (t := 55) ?hr ?_; (case hd => rfl); (case hg => rfl); (case hr => first | (go_simp; done) | (go_simp; rfl)); intro gb281 hg w15 hbox hb; have n0_ := qb.mk (qG (by repeat (first | (with_reducible first | exact HB.out | apply qc | apply qa | apply qd) | exact HB.out)) hb); have n1_ := qb.mk (hbox); have n2_ := qb.mk ((by rw [hg]; exact (qD (by repeat (first | (with_reducible first | exact HB.out | apply qc | apply qa | apply qd) | exact HB.out))) : w.heap.size ≤ gb281)); have n3_ := qb.mk ((by rw [hg]; exact (qD (by repeat (first | (with_reducible first | exact HB.out | apply qc | apply qa | apply qd) | exact HB.out))) : w.heap.size ≤ gb281)); clear HB; have HB := n0_; have BK281 := n1_; have GW281 := n2_; have GE281 := n3_; clear n0_ n1_ n2_ n3_; clear hb hbox hg) | ((with_reducible refine qU (N := 3) rfl ?_); refine qV ?hg (N := 3) ?hd (cs := #[.int .i64 a1_0, .int .i64 a1_1, .int .i64 a1_2]) (t := 55) ?hr ?_; (case hd => rfl); (case hg => rfl); (case hr => first | (go_simp; done) | (go_simp; rfl)); intro gb282 hg w16 hbox hb; have n0_ := qb.mk (qM (g := gb281) (o := .cells #[.int .i64 a0_0, .int .i64 a0_1, .int .i64 a0_2] 55 (0, 0)) (by (with_reducible repeat (first | refine qw ?_ _ | refine qy ?_ | refine qp ?_ _)); exact BK281.out) hb); have n1_ := qb.mk (qG (by repeat (first | (with_reducible first | exact HB.out | apply qc | apply qa | apply qd | refine qj ?_ GE281.out) | exact HB.out)) hb); have n2_ := qb.mk (hbox); have n3_ := qb.mk ((by rw [hg]; exact (qD (by repeat (first | (with_reducible first | exact HB.out | apply qc | apply qa | apply qd | refine qj ?_ GE281.out) | exact HB.out))) : w.heap.size ≤ gb282)); have n4_ := qb.mk ((by rw [hg]; exact (qD (by repeat (first | (with_reducible first | exact HB.out | apply qc | apply qa | apply qd | refine qj ?_ GE281.out) | exact HB.out))) : w.heap.size ≤ gb282)); have n5_ := qb.mk ((by rw [hg]; exact Nat.ne_of_lt (vv (g := gb281) (o := .cells #[.int .i64 a0_0, .int .i64 a0_1, .int .i64 a0_2] 55 (0, 0)) (by (with_reducible repeat (first | refine qw ?_ _ | refine qy ?_ | refine qp ?_ _)); exact BK281.out)) : gb281 ≠ gb282)); have n6_ := qb.mk ((by rw [hg]; exact Nat.ne_of_gt (vv (g := gb281) (o := .cells #[.int .i64 a0_0, .int .i64 a0_1, .int .i64 a0_2] 55 (0, 0)) (by (with_reducible repeat (first | refine qw ?_ _ | refine qy ?_ | refine qp ?_ _)); exact BK281.out)) : gb282 ≠ gb281)); clear BK281; clear HB; have BK281 := n0_; have HB := n1_; have BK282 := n2_; have GW282 := n3_; have GE282 := n4_; have NB281_282 := n5_; have NB282_281 := n6_; clear n0_ n1_ n2_ n3_ n4_ n5_ n6_; clear hb hbox hg; have hnb17 := NB281_282.out; have hnc17 := NB282_281.out; have hcz18_0 : w16.cell? ⟨gb281, 0, none⟩ = some (.int .i64 a0_0) := (qi BK281.out 0).trans rfl; have hcz18_1 : w16.cell? ⟨gb281, 1, none⟩ = some (.int .i64 a0_1) := (qi BK281.out 1).trans rfl; have hcz18_2 : w16.cell? ⟨gb281, 2, none⟩ = some (.int .i64 a0_2) := (qi BK281.out 2).trans rfl; have hfz18_0 := qh BK281.out 0; have hfz18_1 := qh BK281.out 1; have hfz18_2 := qh BK281.out 2; have hcz19_0 : w16.cell? ⟨gb282, 0, none⟩ = some (.int .i64 a1_0) := (qi BK282.out 0).trans rfl; have hcz19_1 : w16.cell? ⟨gb282, 1, none⟩ = some (.int .i64 a1_1) := (qi BK282.out 1).trans rfl; have hcz19_2 : w16.cell? ⟨gb282, 2, none⟩ = some (.int .i64 a1_2) := (qi BK282.out 2).trans rfl; have hfz19_0 := qh BK282.out 0; have hfz19_1 := qh BK282.out 1; have hfz19_2 := qh BK282.out 2))
  go_ret
  exact ⟨by first | rfl | (simp [errW_none, errW_some] <;> rfl) | (simp [*, errW_none, errW_some] <;> rfl), by repeat (first | (with_reducible first | exact HB.out | apply qc | apply qa | apply qd | refine qj ?_ GE281.out | refine qj ?_ GE282.out) | exact HB.out)⟩
attribute [local go_sem] vG vE vS vT vk vg vD vF
set_option linter.unusedVariables false
set_option linter.unusedSimpArgs false
attribute [local go_sem high] eqA55
mutual
def vH.l0 : Nat → List (S55) → Int → Int → List ByteArray → List (S55) → Option (Int × List ByteArray × (List (S55)))
 | 0, _, _, _, _, _ => none
 | k + 1, x3, x4, x684000, x684001, x684002 => if x4 < (x684002.length : Int) then (if 0 ≤ x4 then (vH.l1 k x3 x4 (x3.length : Int) x684000 x684001 x684002 ((qf x684002 x4).f0) ((qf x684002 x4).f1) ((qf x684002 x4).f2)) else (none)) else (some (x684000, x684001, x3))
def vH.l1 : Nat → List (S55) → Int → Int → Int → List ByteArray → List (S55) → Int → Int → Int → Option (Int × List ByteArray × (List (S55)))
 | 0, _, _, _, _, _, _, _, _, _ => none
 | k + 1, x3, x4, x6, x684000, x684001, x684002, x690000, x690001, x690002 => if x6 > 0 then (if 0 ≤ (wrap64 (x6 - 1)) then (if (wrap64 (x6 - 1)) < (x3.length : Int) then ((vP.f x690000 x690001 x690002 ((qf x3 (wrap64 (x6 - 1))).f0) ((qf x3 (wrap64 (x6 - 1))).f1) ((qf x3 (wrap64 (x6 - 1))).f2)).bind fun t691 => (if t691 = true then (vH.l1 k x3 x4 (wrap64 (x6 - 1)) x684000 x684001 x684002 x690000 x690001 x690002) else (if (((qf x3 (wrap64 (x6 - 1))).f0) == x690000 && (((qf x3 (wrap64 (x6 - 1))).f1) == x690001 && (((qf x3 (wrap64 (x6 - 1))).f2) == x690002))) = true then (vH.l0 k x3 (wrap64 (x4 + 1)) x684000 x684001 x684002) else ((some (([] : List (S55)) : List (S55))).bind fun y693 => (if 0 ≤ x6 then (if x6 ≤ (x3.length : Int) then ((some (x3.drop (x6 : Int).toNat : List (S55))).bind fun y696 => (if y693.length + y696.length < 5864062014805 then ((some (y693 ++ y696 : List (S55))).bind fun y700 => ((some (([] : List (S55)) : List (S55))).bind fun y703 => ((some (x3.take (x6 : Int).toNat : List (S55))).bind fun y706 => (if y703.length + y706.length < 5864062014805 then ((some (y703 ++ y706 : List (S55))).bind fun y710 => ((some (([(⟨x690000, x690001, x690002⟩ : S55)] : List (S55)) : List (S55))).bind fun y713 => (if y710.length + y713.length < 5864062014805 then ((some (y710 ++ y713 : List (S55))).bind fun y716 => (if y716.length + y700.length < 5864062014805 then (vH.l0 k (y716 ++ y700) (wrap64 (x4 + 1)) x684000 x684001 x684002) else (none))) else (none)))) else (none))))) else (none))) else (none)) else (none)))))) else (none)) else (none)) else ((some (([] : List (S55)) : List (S55))).bind fun y722 => (if 0 ≤ x6 then (if x6 ≤ (x3.length : Int) then ((some (x3.drop (x6 : Int).toNat : List (S55))).bind fun y725 => (if y722.length + y725.length < 5864062014805 then ((some (y722 ++ y725 : List (S55))).bind fun y729 => ((some (([] : List (S55)) : List (S55))).bind fun y732 => ((some (x3.take (x6 : Int).toNat : List (S55))).bind fun y735 => (if y732.length + y735.length < 5864062014805 then ((some (y732 ++ y735 : List (S55))).bind fun y739 => ((some (([(⟨x690000, x690001, x690002⟩ : S55)] : List (S55)) : List (S55))).bind fun y742 => (if y739.length + y742.length < 5864062014805 then ((some (y739 ++ y742 : List (S55))).bind fun y745 => (if y745.length + y729.length < 5864062014805 then (vH.l0 k (y745 ++ y729) (wrap64 (x4 + 1)) x684000 x684001 x684002) else (none))) else (none)))) else (none))))) else (none))) else (none)) else (none)))
end
def vH.f (k : Nat) (a0_0 : Int) (l0_1 : List ByteArray) (l0_2 : List (S55)) : Option (Int × List ByteArray × (List (S55))) := vH.l0 k (([] : List (S55))) 0 a0_0 l0_1 l0_2
attribute [local go_sem] vG vE vS vT vk vg vD vF
set_option linter.unusedVariables false
set_option linter.unusedSimpArgs false
def ze.l0 : Nat → List ByteArray → List ByteArray → Int → Option (Bool)
 | 0, _, _, _ => none
 | k + 1, x0, x1, x5 => if x5 < (x0.length : Int) then (if 0 ≤ x5 then (if x5 < (x1.length : Int) then (if (rdOf ByteArray.empty x0 x5).toList = (rdOf ByteArray.empty x1 x5).toList then (ze.l0 k x0 x1 (wrap64 (x5 + 1))) else (some false)) else (none)) else (none)) else (some true)
def ze.f (k : Nat) (l0 : List ByteArray) (l1 : List ByteArray) : Option (Bool) := if (l0.length : Int) = (l1.length : Int) then (ze.l0 k l0 l1 0) else (some false)
attribute [local go_sem] vG vE vS vT vk vg vD vF
set_option linter.unusedVariables false
set_option linter.unusedSimpArgs false
attribute [local go_sem high] eqA55
mutual
def vO.j0 : Nat → Bool → Int → List ByteArray → List (S55) → Int → List ByteArray → List (S55) → Option (Bool)
 | 0, _, _, _, _, _, _, _ => none
 | k + 1, x27, x672000, x672001, x672002, x673000, x673001, x673002 => if x27 = true then (some false) else (vO.l0 k 0 x672000 x672001 x672002 x673000 x673001 x673002)
def vO.l0 : Nat → Int → Int → List ByteArray → List (S55) → Int → List ByteArray → List (S55) → Option (Bool)
 | 0, _, _, _, _, _, _, _ => none
 | k + 1, x5, x672000, x672001, x672002, x673000, x673001, x673002 => if x5 < (x672002.length : Int) then (if 0 ≤ x5 then (if x5 < (x673002.length : Int) then (if (!(((qf x672002 x5).f0) == ((qf x673002 x5).f0)) || (!(((qf x672002 x5).f1) == ((qf x673002 x5).f1)) || (!(((qf x672002 x5).f2) == ((qf x673002 x5).f2))))) = true then (some false) else (vO.l0 k (wrap64 (x5 + 1)) x672000 x672001 x672002 x673000 x673001 x673002)) else (none)) else (none)) else (some true)
end
def vO.f (k : Nat) (a0_0 : Int) (l0_1 : List ByteArray) (l0_2 : List (S55)) (a1_0 : Int) (l1_1 : List ByteArray) (l1_2 : List (S55)) : Option (Bool) := if a0_0 = a1_0 then ((ze.f k l0_1 l1_1).bind fun t673 => (if t673 = true then (vO.j0 k ((l0_2.length : Int) != (l1_2.length : Int)) a0_0 l0_1 l0_2 a1_0 l1_1 l1_2) else (vO.j0 k true a0_0 l0_1 l0_2 a1_0 l1_1 l1_2))) else (vO.j0 k true a0_0 l0_1 l0_2 a1_0 l1_1 l1_2)
end Go.Proofs.Ytcjbghmhdefdiaa.S
namespace Go.Proofs.Ytcjbghmhdefdiaa.S
open Go.RowKit Go.Proofs.YtcjbghmhdefdiaaW.PrintWords Go.Proofs.YtcjbghmhdefdiaaW.PrintLast Go.Proofs.YtcjbghmhdefdiaaW.PrintMore
set_option linter.unusedVariables false
set_option linter.unusedSimpArgs false
def ltE (a b : S55) : Prop := leE a b = true ∧ a ≠ b
theorem Qc (a : S55) : cmpE a a = 0 := by unfold cmpE; repeat' split <;> omega
theorem yx (a b : S55) : cmpE a b < 0 ↔ ltE a b := by
 unfold ltE
 constructor
 ·intro h
  refine ⟨by unfold leE; exact decide_eq_true (by omega), fun e => ?_⟩
  rw [e, Qc] at h
  omega
 ·rintro ⟨h1, h2⟩
  unfold leE at h1
  have h1 := of_decide_eq_true h1
  rcases Int.lt_or_eq_of_le h1 with h | h
  ·exact h
  ·refine absurd ?_ h2
   unfold cmpE at h
   repeat' split at h
   all_goals first | omega | exact xH (by omega) (by omega) (by omega)
theorem Ql (a b c : S55) (h1 : ltE a b) (h2 : ltE b c) : ltE a c :=
 ⟨wV a b c h1.1 h2.1, fun e => by subst e; exact h1.2 (wS h1.1 h2.1)⟩
end Go.Proofs.Ytcjbghmhdefdiaa.S
namespace Go.Proofs.Ytcjbghmhdefdiaa.S
open Go.RowKit Go.Proofs.YtcjbghmhdefdiaaW.PrintWords Go.Proofs.YtcjbghmhdefdiaaW.PrintLast Go.Proofs.YtcjbghmhdefdiaaW.PrintMore
attribute [local go_sem] vG vE vS vT vk vg vD vF
set_option linter.unusedVariables false
set_option linter.unusedSimpArgs false
mutual
def qz.j0 : Nat → Int → Bool → Int → List ByteArray → List (S55) → Option (List Int)
 | 0, _, _, _, _, _ => none
 | k + 1, x1, x24, x996000, x996001, x996002 => if x24 = true then (some ([] : List Int)) else (if 0 ≤ x996000 then (if (x996000 : Int).toNat ≤ 281474976710656 then ((some (List.replicate (x996000 : Int).toNat false : List Bool)).bind fun y997 => (if 0 ≤ x1 then (if x1 < (y997.length : Int) then (qz.l0 k (y997.set (x1 : Int).toNat true) (([x1] : List Int)) x996000 x996001 x996002) else (none)) else (none))) else (none)) else (none))
def qz.l0 : Nat → List Bool → List Int → Int → List ByteArray → List (S55) → Option (List Int)
 | 0, _, _, _, _, _ => none
 | k + 1, x5, x6, x996000, x996001, x996002 => if (x6.length : Int) > 0 then (if 0 < (x6.length : Int) then ((vR.f k x996000 x996001 x996002 (rd x6 0)).bind fun t1005 => (qz.l1 k x5 x6 t1005 (t1005.length : Int) 0 x996000 x996001 x996002)) else (none)) else (qz.l2 k ([] : List Int) x5 (x5.length : Int) 0)
def qz.l1 : Nat → List Bool → List Int → List (S55) → Int → Int → Int → List ByteArray → List (S55) → Option (List Int)
 | 0, _, _, _, _, _, _, _, _ => none
 | k + 1, x5, x6, x42, x43, x44, x996000, x996001, x996002 => if x44 < x43 then (if 0 ≤ x44 then (if x44 < (x42.length : Int) then (if 0 ≤ ((qf x42 x44).f2) then (if ((qf x42 x44).f2) < (x5.length : Int) then (if (rdOf false x5 ((qf x42 x44).f2) = true) then (qz.l1 k x5 x6 x42 x43 (wrap64 (x44 + 1)) x996000 x996001 x996002) else (if x6.length < 17592186044416 then (qz.l1 k (x5.set (((qf x42 x44).f2) : Int).toNat true) (x6 ++ [(qf x42 x44).f2]) x42 x43 (wrap64 (x44 + 1)) x996000 x996001 x996002) else (none))) else (none)) else (none)) else (none)) else (none)) else (if 1 ≤ (x6.length : Int) then (qz.l0 k x5 (x6.drop (1 : Int).toNat) x996000 x996001 x996002) else (none))
def qz.l2 : Nat → List Int → List Bool → Int → Int → Option (List Int)
 | 0, _, _, _, _ => none
 | k + 1, x9, x64, x65, x66 => if x66 < x65 then (if 0 ≤ x66 then (if x66 < (x64.length : Int) then (if rdOf false x64 x66 = true then (if x9.length < 17592186044416 then (qz.l2 k (x9 ++ [x66]) x64 x65 (wrap64 (x66 + 1))) else (none)) else (qz.l2 k x9 x64 x65 (wrap64 (x66 + 1)))) else (none)) else (none)) else (some x9)
end
def qz.f (k : Nat) (a0_0 : Int) (l0_1 : List ByteArray) (l0_2 : List (S55)) (a1 : Int) : Option (List Int) := (qL.f k a0_0 l0_1 l0_2).bind fun t996 => (if t996 = 0 then (if a1 < 0 then (qz.j0 k a1 true a0_0 l0_1 l0_2) else (qz.j0 k a1 (decide (a1 ≥ a0_0)) a0_0 l0_1 l0_2)) else (qz.j0 k a1 true a0_0 l0_1 l0_2))
theorem qz.vQ : ∀ k, (∀ y0 y1 y2 y3 y4, LeO (qz.j0 k y0 y1 y2 y3 y4) (qz.j0 (k + 1) y0 y1 y2 y3 y4)) ∧ (∀ y0 y1 y2 y3 y4, LeO (qz.l0 k y0 y1 y2 y3 y4) (qz.l0 (k + 1) y0 y1 y2 y3 y4)) ∧ (∀ y0 y1 y2 y3 y4 y5 y6 y7, LeO (qz.l1 k y0 y1 y2 y3 y4 y5 y6 y7) (qz.l1 (k + 1) y0 y1 y2 y3 y4 y5 y6 y7)) ∧ (∀ y0 y1 y2 y3, LeO (qz.l2 k y0 y1 y2 y3) (qz.l2 (k + 1) y0 y1 y2 y3))
 | 0 => ⟨fun _ _ _ _ _ r h => by simp [qz.j0] at h, fun _ _ _ _ _ r h => by simp [qz.l0] at h, fun _ _ _ _ _ _ _ _ r h => by simp [qz.l1] at h, fun _ _ _ _ r h => by simp [qz.l2] at h⟩
 | k + 1 => by
  obtain ⟨ih0, ih1, ih2, ih3⟩ := qz.vQ k
  refine ⟨?_, ?_, ?_, ?_⟩
  ·intro y0 y1 y2 y3 y4
   unfold qz.j0
   repeat' first
   | (with_reducible exact ih0 _ _ _ _ _)
   | (with_reducible exact ih1 _ _ _ _ _)
   | (with_reducible exact ih2 _ _ _ _ _ _ _ _)
   | (with_reducible exact ih3 _ _ _ _)
   | (with_reducible exact qL.mono _ _ _ _)
   | (with_reducible exact vR.mono _ _ _ _ _)
   | (with_reducible exact LeO.refl _)
   | (with_reducible exact LeO.none _)
   | (with_reducible refine LeO.ite ?_ ?_)
   | (with_reducible refine LeO.bind ?_ (fun _ => ?_))
   | exact ih0 _ _ _ _ _
   | exact ih1 _ _ _ _ _
   | exact ih2 _ _ _ _ _ _ _ _
   | exact ih3 _ _ _ _
   | exact qL.mono _ _ _ _
   | exact vR.mono _ _ _ _ _
   | exact LeO.none _
   | refine LeO.ite ?_ ?_
   | refine LeO.bind ?_ (fun _ => ?_)
  ·intro y0 y1 y2 y3 y4
   unfold qz.l0
   repeat' first
   | (with_reducible exact ih0 _ _ _ _ _)
   | (with_reducible exact ih1 _ _ _ _ _)
   | (with_reducible exact ih2 _ _ _ _ _ _ _ _)
   | (with_reducible exact ih3 _ _ _ _)
   | (with_reducible exact qL.mono _ _ _ _)
   | (with_reducible exact vR.mono _ _ _ _ _)
   | (with_reducible exact LeO.refl _)
   | (with_reducible exact LeO.none _)
   | (with_reducible refine LeO.ite ?_ ?_)
   | (with_reducible refine LeO.bind ?_ (fun _ => ?_))
   | exact ih0 _ _ _ _ _
   | exact ih1 _ _ _ _ _
   | exact ih2 _ _ _ _ _ _ _ _
   | exact ih3 _ _ _ _
   | exact qL.mono _ _ _ _
   | exact vR.mono _ _ _ _ _
   | exact LeO.none _
   | refine LeO.ite ?_ ?_
   | refine LeO.bind ?_ (fun _ => ?_)
  ·intro y0 y1 y2 y3 y4 y5 y6 y7
   unfold qz.l1
   repeat' first
   | (with_reducible exact ih0 _ _ _ _ _)
   | (with_reducible exact ih1 _ _ _ _ _)
   | (with_reducible exact ih2 _ _ _ _ _ _ _ _)
   | (with_reducible exact ih3 _ _ _ _)
   | (with_reducible exact qL.mono _ _ _ _)
   | (with_reducible exact vR.mono _ _ _ _ _)
   | (with_reducible exact LeO.refl _)
   | (with_reducible exact LeO.none _)
   | (with_reducible refine LeO.ite ?_ ?_)
   | (with_reducible refine LeO.bind ?_ (fun _ => ?_))
   | exact ih0 _ _ _ _ _
   | exact ih1 _ _ _ _ _
   | exact ih2 _ _ _ _ _ _ _ _
   | exact ih3 _ _ _ _
   | exact qL.mono _ _ _ _
   | exact vR.mono _ _ _ _ _
   | exact LeO.none _
   | refine LeO.ite ?_ ?_
   | refine LeO.bind ?_ (fun _ => ?_)
  ·intro y0 y1 y2 y3
   unfold qz.l2
   repeat' first
   | (with_reducible exact ih0 _ _ _ _ _)
   | (with_reducible exact ih1 _ _ _ _ _)
   | (with_reducible exact ih2 _ _ _ _ _ _ _ _)
   | (with_reducible exact ih3 _ _ _ _)
   | (with_reducible exact qL.mono _ _ _ _)
   | (with_reducible exact vR.mono _ _ _ _ _)
   | (with_reducible exact LeO.refl _)
   | (with_reducible exact LeO.none _)
   | (with_reducible refine LeO.ite ?_ ?_)
   | (with_reducible refine LeO.bind ?_ (fun _ => ?_))
   | exact ih0 _ _ _ _ _
   | exact ih1 _ _ _ _ _
   | exact ih2 _ _ _ _ _ _ _ _
   | exact ih3 _ _ _ _
   | exact qL.mono _ _ _ _
   | exact vR.mono _ _ _ _ _
   | exact LeO.none _
   | refine LeO.ite ?_ ?_
   | refine LeO.bind ?_ (fun _ => ?_)
theorem qz.mono : ∀ a0 a1 a2 a3 k, LeO (qz.f k a0 a1 a2 a3) (qz.f (k + 1) a0 a1 a2 a3) := by
 intro a0 a1 a2 a3 k
 obtain ⟨ih0, ih1, ih2, ih3⟩ := qz.vQ k
 unfold qz.f
 repeat' first
   | (with_reducible exact ih0 _ _ _ _ _)
   | (with_reducible exact ih1 _ _ _ _ _)
   | (with_reducible exact ih2 _ _ _ _ _ _ _ _)
   | (with_reducible exact ih3 _ _ _ _)
   | (with_reducible exact qL.mono _ _ _ _)
   | (with_reducible exact vR.mono _ _ _ _ _)
   | (with_reducible exact LeO.refl _)
   | (with_reducible exact LeO.none _)
   | (with_reducible refine LeO.ite ?_ ?_)
   | (with_reducible refine LeO.bind ?_ (fun _ => ?_))
   | exact ih0 _ _ _ _ _
   | exact ih1 _ _ _ _ _
   | exact ih2 _ _ _ _ _ _ _ _
   | exact ih3 _ _ _ _
   | exact qL.mono _ _ _ _
   | exact vR.mono _ _ _ _ _
   | exact LeO.none _
   | refine LeO.ite ?_ ?_
   | refine LeO.bind ?_ (fun _ => ?_)
set_option maxHeartbeats 8000000 in
set_option maxRecDepth 100000 in
theorem qz.calls (k : Nat) (a0_0 : Int) (A0_1 : Option Addr) (c0_1 : Nat) (l0_1 : List ByteArray) (A0_2 : Option Addr) (c0_2 : Nat) (l0_2 : List (S55)) (a1 : Int) (r : List Int) (w : World) (hr0_1 : Kd.C Kd.string w A0_1 l0_1.length l0_1) (hc0_1 : l0_1.length ≤ c0_1) (hr0_2 : Kd.C k55 w A0_2 l0_2.length l0_2) (hc0_2 : l0_2.length ≤ c0_2) (h : qz.f k a0_0 l0_1 l0_2 a1 = some r) :
  Calls Try.prog 73 #[.agg #[.int .i64 a0_0, .slice A0_1 l0_1.length c0_1, .slice A0_2 l0_2.length c0_2], .int .i64 a1] w fun e w' => ∃ v0_ : Value, e = .returned (v0_) ∧ Kd.R (Kd.int .i64) 3 w' w.heap.size (fun _ => True) v0_ r ∧ Below w.heap.size w w' := by
 have hu25 := Try.underlying25
 have hu55 := Try.underlying55
 have HR0_1 := qb.mk hr0_1
 have HC0_1 := qb.mk hc0_1
 clear hr0_1 hc0_1
 have HR0_2 := qb.mk hr0_2
 have HC0_2 := qb.mk hc0_2
 clear hr0_2 hc0_2
 have HB := qb.mk (Below.refl w.heap.size w)
 have H : ((qL.f k a0_0 l0_1 l0_2).bind fun t996 => (if t996 = 0 then (if a1 < 0 then (qz.j0 k a1 true a0_0 l0_1 l0_2) else (qz.j0 k a1 (decide (a1 ≥ a0_0)) a0_0 l0_1 l0_2)) else (qz.j0 k a1 true a0_0 l0_1 l0_2))) = some r := h
 clear h
 have HC3 := qb.mk H
 clear H
 go_enter Try.func73, Try.ntmps73
 go_upto_region 1 with (first | ((with_reducible refine qU (N := 2) rfl ?_); refine qV ?hg (N := 2) ?hd (cs := #[.int .i64 a0_0, .slice A0_1 l0_1.length c0_1, .slice A0_2 l0_2.length c0_2]) (t := 25) ?hr ?_; (case hd => rfl); (case hg => rfl); (case hr => first | (go_simp; done) | (go_simp; rfl)); intro gb995 hg w4 hbox hb; have n0_ := qb.mk (qG (by repeat (first | (with_reducible first | exact HB.out | apply qc | apply qa | apply qd) | exact HB.out)) hb); have n1_ := qb.mk (hbox); have n2_ := qb.mk ((by rw [hg]; exact (qD (by repeat (first | (with_reducible first | exact HB.out | apply qc | apply qa | apply qd) | exact HB.out))) : w.heap.size ≤ gb995)); have n3_ := qb.mk ((by rw [hg]; exact (qD (by repeat (first | (with_reducible first | exact HB.out | apply qc | apply qa | apply qd) | exact HB.out))) : w.heap.size ≤ gb995)); clear HB; have HB := n0_; have BK995 := n1_; have GW995 := n2_; have GE995 := n3_; clear n0_ n1_ n2_ n3_; clear hb hbox hg))
 (try simp only [Act.put, List.setIfInBounds_toArray, List.set_cons_zero, List.set_cons_succ])
 go_cut [24] (fun v24 wc => ∃ (kq : Nat) (x24_2 : Bool), v24 = .bool x24_2 ∧ qb (qz.j0 kq a1 x24_2 a0_0 l0_1 l0_2 = some r) ∧ qb (kq ≤ k) ∧ qb (wc.heap[gb995]? = some (.cells #[.int .i64 a0_0, (.slice A0_1 l0_1.length c0_1), (.slice A0_2 l0_2.length c0_2)] 25 (0, 0))) ∧ qb (Below w.heap.size w wc))
 case first =>
  have H := HC3.out
  clear HC3
  replace H := Option.bind_eq_some_iff.mp H
  obtain ⟨t996, A50, H⟩ := H
  replace H : (if t996 = 0 then (if a1 < 0 then (qz.j0 k a1 true a0_0 l0_1 l0_2) else (qz.j0 k a1 (decide (a1 ≥ a0_0)) a0_0 l0_1 l0_2)) else (qz.j0 k a1 true a0_0 l0_1 l0_2)) = some r := H
  have A5 := qb.mk A50
  clear A50
  by_cases c6 : t996 = 0
  ·rw [if_pos c6] at H
   have c6b0 : (t996 == 0) = true := beq_iff_eq.mpr c6
   have c6b1 : (t996 != 0) = false := bne_eq_false_iff_eq.mpr c6
   clear c6
   (first | rw [c6b0] | (simp only [ql, qm]; rw [c6b0]) | skip)
   by_cases c7 : a1 < 0
   ·rw [if_pos c7] at H
    have c7b0 : decide (a1 < 0) = true := decide_eq_true c7
    clear c7
    have H' := qb.mk H
    clear H
    have hcz8_0 : w4.cell? ⟨gb995, 0, none⟩ = some (.int .i64 a0_0) := (qi BK995.out 0).trans rfl
    have hcz8_1 : w4.cell? ⟨gb995, 1, none⟩ = some (.slice A0_1 l0_1.length c0_1) := (qi BK995.out 1).trans rfl
    have hcz8_2 : w4.cell? ⟨gb995, 2, none⟩ = some (.slice A0_2 l0_2.length c0_2) := (qi BK995.out 2).trans rfl
    have hfz8_0 := qh BK995.out 0
    have hfz8_1 := qh BK995.out 1
    have hfz8_2 := qh BK995.out 2
    go_wp2_with (first | ((with_reducible refine qR (f := 67) rfl ?_); refine vU (some 13) rfl rfl Try.func67 (by kernel_rfl) rfl #[.agg #[.int .i64 a0_0, .slice A0_1 l0_1.length c0_1, .slice A0_2 l0_2.length c0_2]] rfl (by (try simp only [List.map_toArray, List.map_cons, List.map_nil]); first | done | rfl | (simp only [List.length_drop, List.length_take]; rfl)) ?_; (with_reducible refine (qL.calls k a0_0 _ _ l0_1 _ _ l0_2 t996 _ ?side1 ?side2 ?side3 ?side4 A5.out).mono ?_); (case side1 => repeat (first | exact (Kd.qW HR0_1.out HB.out) | (with_reducible refine Kd.C_alloc ?_ _) | (with_reducible refine Kd.C_drewN ?_ _) | (with_reducible refine Kd.C_drew ?_))); (case side2 => exact HC0_1.out); (case side3 => repeat (first | exact (Kd.qW HR0_2.out HB.out) | (with_reducible refine Kd.C_alloc ?_ _) | (with_reducible refine Kd.C_drewN ?_ _) | (with_reducible refine Kd.C_drew ?_))); (case side4 => exact HC0_2.out); rintro e w9 ⟨rfl, hb⟩; refine ⟨_, rfl, ?_⟩; have n0_ := qb.mk (qM (g := gb995) (o := .cells #[.int .i64 a0_0, .slice A0_1 l0_1.length c0_1, .slice A0_2 l0_2.length c0_2] 25 (0, 0)) (by (with_reducible repeat (first | refine qw ?_ _ | refine qy ?_ | refine qp ?_ _)); exact BK995.out) hb); have n1_ := qb.mk (qG (by repeat (first | (with_reducible first | exact HB.out | apply qc | apply qa | apply qd | refine qj ?_ GE995.out) | exact HB.out)) hb); clear BK995; clear HB; have BK995 := n0_; have HB := n1_; clear n0_ n1_; (try clear hb); (try clear hb2); (try clear hk); (try clear hi)))
    go_meet
    case rel => exact ⟨_, (true), (by first | rfl | (simp; done) | (simp [*]; done)), H', ⟨by first | omega | exact Nat.le_refl _⟩, ⟨by (with_reducible repeat (first | refine qw ?_ _ | refine qy ?_ | refine qp ?_ _)); exact BK995.out⟩, ⟨by repeat (first | (with_reducible first | exact HB.out | apply qc | apply qa | apply qd | refine qj ?_ GE995.out) | exact HB.out)⟩⟩
   ·rw [if_neg c7] at H
    have c7b0 : decide (a1 < 0) = false := decide_eq_false c7
    clear c7
    have H' := qb.mk H
    clear H
    have hcz10_0 : w4.cell? ⟨gb995, 0, none⟩ = some (.int .i64 a0_0) := (qi BK995.out 0).trans rfl
    have hcz10_1 : w4.cell? ⟨gb995, 1, none⟩ = some (.slice A0_1 l0_1.length c0_1) := (qi BK995.out 1).trans rfl
    have hcz10_2 : w4.cell? ⟨gb995, 2, none⟩ = some (.slice A0_2 l0_2.length c0_2) := (qi BK995.out 2).trans rfl
    have hfz10_0 := qh BK995.out 0
    have hfz10_1 := qh BK995.out 1
    have hfz10_2 := qh BK995.out 2
    go_wp2_with (first | ((with_reducible refine qR (f := 67) rfl ?_); refine vU (some 13) rfl rfl Try.func67 (by kernel_rfl) rfl #[.agg #[.int .i64 a0_0, .slice A0_1 l0_1.length c0_1, .slice A0_2 l0_2.length c0_2]] rfl (by (try simp only [List.map_toArray, List.map_cons, List.map_nil]); first | done | rfl | (simp only [List.length_drop, List.length_take]; rfl)) ?_; (with_reducible refine (qL.calls k a0_0 _ _ l0_1 _ _ l0_2 t996 _ ?side1 ?side2 ?side3 ?side4 A5.out).mono ?_); (case side1 => repeat (first | exact (Kd.qW HR0_1.out HB.out) | (with_reducible refine Kd.C_alloc ?_ _) | (with_reducible refine Kd.C_drewN ?_ _) | (with_reducible refine Kd.C_drew ?_))); (case side2 => exact HC0_1.out); (case side3 => repeat (first | exact (Kd.qW HR0_2.out HB.out) | (with_reducible refine Kd.C_alloc ?_ _) | (with_reducible refine Kd.C_drewN ?_ _) | (with_reducible refine Kd.C_drew ?_))); (case side4 => exact HC0_2.out); rintro e w11 ⟨rfl, hb⟩; refine ⟨_, rfl, ?_⟩; have n0_ := qb.mk (qM (g := gb995) (o := .cells #[.int .i64 a0_0, .slice A0_1 l0_1.length c0_1, .slice A0_2 l0_2.length c0_2] 25 (0, 0)) (by (with_reducible repeat (first | refine qw ?_ _ | refine qy ?_ | refine qp ?_ _)); exact BK995.out) hb); have n1_ := qb.mk (qG (by repeat (first | (with_reducible first | exact HB.out | apply qc | apply qa | apply qd | refine qj ?_ GE995.out) | exact HB.out)) hb); clear BK995; clear HB; have BK995 := n0_; have HB := n1_; clear n0_ n1_; (try clear hb); (try clear hb2); (try clear hk); (try clear hi); have hcz12_0 : w11.cell? ⟨gb995, 0, none⟩ = some (.int .i64 a0_0) := (qi BK995.out 0).trans rfl; have hcz12_1 : w11.cell? ⟨gb995, 1, none⟩ = some (.slice A0_1 l0_1.length c0_1) := (qi BK995.out 1).trans rfl; have hcz12_2 : w11.cell? ⟨gb995, 2, none⟩ = some (.slice A0_2 l0_2.length c0_2) := (qi BK995.out 2).trans rfl; have hfz12_0 := qh BK995.out 0; have hfz12_1 := qh BK995.out 1; have hfz12_2 := qh BK995.out 2))
    go_meet
    case rel => exact ⟨_, (decide (a1 ≥ a0_0)), (by first | rfl | (simp; done) | (simp [*]; done)), H', ⟨by first | omega | exact Nat.le_refl _⟩, ⟨by (with_reducible repeat (first | refine qw ?_ _ | refine qy ?_ | refine qp ?_ _)); exact BK995.out⟩, ⟨by repeat (first | (with_reducible first | exact HB.out | apply qc | apply qa | apply qd | refine qj ?_ GE995.out) | exact HB.out)⟩⟩
  ·rw [if_neg c6] at H
   have c6b0 : (t996 == 0) = false := beq_eq_false_iff_ne.mpr c6
   have c6b1 : (t996 != 0) = true := bne_iff_ne.mpr c6
   (first | rw [c6b0] | (simp only [ql, qm]; rw [c6b0]) | skip)
   have H' := qb.mk H
   clear H
   have hcz13_0 : w4.cell? ⟨gb995, 0, none⟩ = some (.int .i64 a0_0) := (qi BK995.out 0).trans rfl
   have hcz13_1 : w4.cell? ⟨gb995, 1, none⟩ = some (.slice A0_1 l0_1.length c0_1) := (qi BK995.out 1).trans rfl
   have hcz13_2 : w4.cell? ⟨gb995, 2, none⟩ = some (.slice A0_2 l0_2.length c0_2) := (qi BK995.out 2).trans rfl
   have hfz13_0 := qh BK995.out 0
   have hfz13_1 := qh BK995.out 1
   have hfz13_2 := qh BK995.out 2
   go_wp2_with (first | ((with_reducible refine qR (f := 67) rfl ?_); refine vU (some 13) rfl rfl Try.func67 (by kernel_rfl) rfl #[.agg #[.int .i64 a0_0, .slice A0_1 l0_1.length c0_1, .slice A0_2 l0_2.length c0_2]] rfl (by (try simp only [List.map_toArray, List.map_cons, List.map_nil]); first | done | rfl | (simp only [List.length_drop, List.length_take]; rfl)) ?_; (with_reducible refine (qL.calls k a0_0 _ _ l0_1 _ _ l0_2 t996 _ ?side1 ?side2 ?side3 ?side4 A5.out).mono ?_); (case side1 => repeat (first | exact (Kd.qW HR0_1.out HB.out) | (with_reducible refine Kd.C_alloc ?_ _) | (with_reducible refine Kd.C_drewN ?_ _) | (with_reducible refine Kd.C_drew ?_))); (case side2 => exact HC0_1.out); (case side3 => repeat (first | exact (Kd.qW HR0_2.out HB.out) | (with_reducible refine Kd.C_alloc ?_ _) | (with_reducible refine Kd.C_drewN ?_ _) | (with_reducible refine Kd.C_drew ?_))); (case side4 => exact HC0_2.out); rintro e w14 ⟨rfl, hb⟩; refine ⟨_, rfl, ?_⟩; have n0_ := qb.mk (qM (g := gb995) (o := .cells #[.int .i64 a0_0, .slice A0_1 l0_1.length c0_1, .slice A0_2 l0_2.length c0_2] 25 (0, 0)) (by (with_reducible repeat (first | refine qw ?_ _ | refine qy ?_ | refine qp ?_ _)); exact BK995.out) hb); have n1_ := qb.mk (qG (by repeat (first | (with_reducible first | exact HB.out | apply qc | apply qa | apply qd | refine qj ?_ GE995.out) | exact HB.out)) hb); clear BK995; clear HB; have BK995 := n0_; have HB := n1_; clear n0_ n1_; (try clear hb); (try clear hb2); (try clear hk); (try clear hi)))
   go_meet
   case rel => exact ⟨_, (true), (by first | rfl | (simp; done) | (simp [*]; done)), H', ⟨by first | omega | exact Nat.le_refl _⟩, ⟨by (with_reducible repeat (first | refine qw ?_ _ | refine qy ?_ | refine qp ?_ _)); exact BK995.out⟩, ⟨by repeat (first | (with_reducible first | exact HB.out | apply qc | apply qa | apply qd | refine qj ?_ GE995.out) | exact HB.out)⟩⟩
 case rest =>
  clear HC3
  try clear p2
  try clear c6
  try clear c6b0
  try clear c6b1
  try clear c7
  try clear c7b0
  try clear hcz10_0
  try clear hcz10_1
  try clear hcz10_2
  try clear hcz12_0
  try clear hcz12_1
  try clear hcz12_2
  try clear hcz13_0
  try clear hcz13_1
  try clear hcz13_2
  try clear hcz8_0
  try clear hcz8_1
  try clear hcz8_2
  try clear hfz10_0
  try clear hfz10_1
  try clear hfz10_2
  try clear hfz12_0
  try clear hfz12_1
  try clear hfz12_2
  try clear hfz13_0
  try clear hfz13_1
  try clear hfz13_2
  try clear hfz8_0
  try clear hfz8_1
  try clear hfz8_2
  obtain ⟨kq, x24_2, rfl, HA, HJ2, BK995, HB⟩ := hcut
  cases kq with
  | zero => exact absurd HA.out (by simp [qz.j0])
  | succ kj2 =>
   have H := HA.out
   clear HA
   simp only [qz.j0] at H
   by_cases c15 : x24_2 = true
   ·subst c15
    have H1 : (some ([] : List Int)) = some r := by rw [if_pos rfl] at H; exact H
    clear H
    have H := H1
    clear H1
    obtain rfl := Option.some.inj H
    go_wp2
    go_ret
    exact ⟨_, by first | rfl | (simp [errW_none, errW_some] <;> rfl) | (simp [*, errW_none, errW_some] <;> rfl), by first | exact Kd.jr _ _ _ _ _ | exact Kd.N_nil _ _ _ _ _ | exact Kd.V_nil _ _ _ _ _ | exact Kd.Q_nil _ _ _ _ _ | exact Kd.S_nil _ _ _ _ _, by repeat (first | (with_reducible first | exact HB.out | apply qc | apply qa | apply qd | refine qj ?_ GE995.out) | exact HB.out)⟩
   ·replace c15 := Bool.eq_false_iff.mpr c15
    subst c15
    have H1 : (if 0 ≤ a0_0 then (if (a0_0 : Int).toNat ≤ 281474976710656 then ((some (List.replicate (a0_0 : Int).toNat false : List Bool)).bind fun y997 => (if 0 ≤ a1 then (if a1 < (y997.length : Int) then (qz.l0 kj2 (y997.set (a1 : Int).toNat true) (([a1] : List Int)) a0_0 l0_1 l0_2) else (none)) else (none))) else (none)) else (none)) = some r := by rw [if_neg (show ¬ (false = true) by decide)] at H; exact H
    clear H
    have H := H1
    clear H1
    by_cases c16 : 0 ≤ a0_0
    ·rw [if_pos c16] at H
     have c16b0 := eq_true c16
     have c16b1 : decide (0 ≤ a0_0) = true := decide_eq_true c16
     clear c16
     by_cases c17 : (a0_0 : Int).toNat ≤ 281474976710656
     ·rw [if_pos c17] at H
      have c17b0 := eq_true c17
      have c17b1 : decide ((a0_0 : Int).toNat ≤ 281474976710656) = true := decide_eq_true c17
      clear c17
      obtain ⟨y997, hy997⟩ : ∃ y_ : List Bool, y_ = (List.replicate (a0_0 : Int).toNat false) := ⟨_, rfl⟩
      replace H : (if 0 ≤ a1 then (if a1 < (y997.length : Int) then (qz.l0 kj2 (y997.set (a1 : Int).toNat true) (([a1] : List Int)) a0_0 l0_1 l0_2) else (none)) else (none)) = some r := by first | (rw [hy997]; with_reducible exact H) | (have H2_ := (Option.bind_some _ _).symm.trans H; rw [hy997]; with_reducible exact H2_) | (have H2_ := (Option.bind_some _ _).symm.trans H; with_reducible exact H2_) | with_reducible exact H | (rw [hy997]; exact H) | exact H
      have Ny997 := qb.mk hy997
      clear hy997
      by_cases c18 : 0 ≤ a1
      ·rw [if_pos c18] at H
       have c18b0 : decide (0 ≤ a1) = true := decide_eq_true c18
       clear c18
       by_cases c19 : a1 < (y997.length : Int)
       ·rw [if_pos c19] at H
        have c19b0 : decide (a1 < (y997.length : Int)) = true := decide_eq_true c19
        clear c19
        obtain ⟨y1000, hy1000⟩ : ∃ y_ : List Bool, y_ = (y997.set (a1 : Int).toNat true) := ⟨_, rfl⟩
        replace H : (qz.l0 kj2 y1000 (([a1] : List Int)) a0_0 l0_1 l0_2) = some r := by first | (rw [hy1000]; with_reducible exact H) | (have H2_ := (Option.bind_some _ _).symm.trans H; rw [hy1000]; with_reducible exact H2_) | (have H2_ := (Option.bind_some _ _).symm.trans H; with_reducible exact H2_) | with_reducible exact H | (rw [hy1000]; exact H) | exact H
        have Ny1000 := qb.mk hy1000
        clear hy1000
        obtain ⟨y1001, hy1001⟩ : ∃ y_ : List Int, y_ = (([a1] : List Int)) := ⟨_, rfl⟩
        replace H : (qz.l0 kj2 y1000 y1001 a0_0 l0_1 l0_2) = some r := by first | (rw [hy1001]; with_reducible exact H) | (have H2_ := (Option.bind_some _ _).symm.trans H; rw [hy1001]; with_reducible exact H2_) | (have H2_ := (Option.bind_some _ _).symm.trans H; with_reducible exact H2_) | with_reducible exact H | (rw [hy1001]; exact H) | exact H
        have Ny1001 := qb.mk hy1001
        clear hy1001
        have H' := qb.mk H
        clear H
        have hcz21_0 : wc.cell? ⟨gb995, 0, none⟩ = some (.int .i64 a0_0) := (qi BK995.out 0).trans rfl
        have hcz21_1 : wc.cell? ⟨gb995, 1, none⟩ = some (.slice A0_1 l0_1.length c0_1) := (qi BK995.out 1).trans rfl
        have hcz21_2 : wc.cell? ⟨gb995, 2, none⟩ = some (.slice A0_2 l0_2.length c0_2) := (qi BK995.out 2).trans rfl
        have hfz21_0 := qh BK995.out 0
        have hfz21_1 := qh BK995.out 1
        have hfz21_2 := qh BK995.out 2
        go_wp2_with (first | ((with_reducible refine qU (N := 27) rfl ?_); refine Kd.R_make Kd.bool _ 4 rfl (N := 27) rfl 41 _ _ rfl a0_0 rfl rfl Try.underlying41 (.bool false) 1 info4 rfl (by decide) (by omega) false (ok := fun _ => True) (okp := fun _ => True) rfl (fun _ hk => hk) trivial (of_decide_eq_true (by first | (with_reducible assumption) | assumption)) (Nat.le_trans (Nat.mul_le_mul_right _ (of_decide_eq_true (by first | (with_reducible assumption) | assumption) : a0_0.toNat ≤ 281474976710656)) (by omega)) (Below.refl _ _) (Nat.le_refl _) ?_; intro v998 w22 ho23 hb hg_ hnew_; clear hg_ hnew_; (first | rw [← Ny997.out] at ho23 | (simp only [Int.reduceToNat] at ho23; rw [← Ny997.out] at ho23)); have n0_ := qb.mk (Kd.vV ho23 (qD (by repeat (first | (with_reducible first | exact HB.out | apply qc | apply qa | apply qd | refine qj ?_ GE995.out) | exact HB.out)))); have n1_ := qb.mk (qM (g := gb995) (o := .cells #[.int .i64 a0_0, .slice A0_1 l0_1.length c0_1, .slice A0_2 l0_2.length c0_2] 25 (0, 0)) (by (with_reducible repeat (first | refine qw ?_ _ | refine qy ?_ | refine qp ?_ _)); exact BK995.out) hb); have n2_ := qb.mk (qG (by repeat (first | (with_reducible first | exact HB.out | apply qc | apply qa | apply qd | refine qj ?_ GE995.out) | exact HB.out)) hb); clear BK995; clear HB; have HO999 := n0_; have BK995 := n1_; have HB := n2_; clear n0_ n1_ n2_; clear hb ho23; have p20 : 0 ≤ (a1 : Int) := of_decide_eq_true (by first | (with_reducible assumption) | assumption); have q20 : (a1 : Int) < ((y997.length : Int) : Int) := of_decide_eq_true (by first | (with_reducible assumption) | assumption); obtain ⟨go20, co20, eo20, gb20, gl20, cl20, HG20⟩ := Kd.R_form HO999.out (by omega); (first | cases eo20 | (injection eo20 with ea_ en_ ec_; (first | subst ea_ | (injection ea_ with ea_; subst ea_)); subst ec_; clear en_)); have GB20 := qb.mk gb20; have GG20 := qb.mk HG20; clear gb20 gl20 HG20; obtain ⟨hx20_0, hf20_0⟩ := Kd.jb false HO999.out (a1 : Int) p20 q20; replace p20 := eq_true p20; replace q20 := eq_true q20; obtain ⟨hy24_, hz24_⟩ := Kd.jb false HO999.out (a1 : Int) (of_decide_eq_true (by first | (with_reducible assumption) | assumption)) (of_decide_eq_true (by first | (with_reducible assumption) | assumption)); have HP24 := Kd.yF HO999.out (a1 : Int) true) | ((with_reducible refine wI (t := 4) (p := 30) rfl ?_); refine wm (t := 4) (p := 30) (v := ?vo_w25) (w1 := (w22.setCell ⟨go20, (a1 : Int).toNat, none⟩ (.bool true))) ?hg ?ho ?hn ?hr ?_; (case ho => rfl); (case hg => rfl); (case hn => rfl); (case hr => first | (go_simp; done) | (go_simp; rfl)); intro w25 hw; have hg : w22.grownBy w25 (some go20) := (by rw [hw]; exact HP24.2); have hp_ : Kd.R Kd.bool 4 w25 w.heap.size (fun _ => True) (.slice (some ⟨go20, 0, none⟩) y997.length co20) y1000 := (by rw [hw, Ny1000.out]; exact HP24.1); clear HP24; have n0_ := qb.mk (zm (g := gb995) (o := .cells #[.int .i64 a0_0, .slice A0_1 l0_1.length c0_1, .slice A0_2 l0_2.length c0_2] 25 (0, 0)) (by (with_reducible repeat (first | refine qw ?_ _ | refine qy ?_ | refine qp ?_ _)); exact BK995.out) hg (Kd.R_ne HO999.out BK995.out (by decide))); have n1_ := qb.mk (hp_); have n2_ := qb.mk ((by rw [hw]; exact qj (HB.out) GB20.out : Below w.heap.size w w25)); clear BK995; clear HO999; clear HB; have BK995 := n0_; have HO999 := n1_; have HB := n2_; clear n0_ n1_ n2_; clear hg hw hp_) | ((with_reducible refine qU (N := 32) rfl ?_); refine Kd.xL (Kd.int .i64) _ 3 ?hg (N := 32) ?hd (xs := ([a1] : List Int)) (inner := [.int .i64 a1]) (ok := fun _ => True) (okp := fun _ => True) ?hr ?hp (fun _ hk => hk) trivial (Below.refl _ _) (Nat.le_refl _) (by simp) ?_; (case hd => rfl); (case hg => rfl); (case hr => first | (go_simp; done) | (go_simp; rfl)); (case hp => exact (Reps.one (show Kd.M (Kd.int .i64) _ _ _ a1 [.int .i64 a1] from rfl) (Reps.none _ _))); intro v1002 w26 ho27 hb hg_ hnew_; clear hg_ hnew_; (first | rw [← Ny1001.out] at ho27 | (simp only [Int.reduceToNat] at ho27; rw [← Ny1001.out] at ho27)); have n0_ := qb.mk (Kd.qP (by (with_reducible repeat (first | apply Kd.R_alloc | apply Kd.qF | apply Kd.qH)); exact HO999.out) hb); have n1_ := qb.mk (Kd.vV ho27 (qD (by repeat (first | (with_reducible first | exact HB.out | apply qc | apply qa | apply qd | refine qj ?_ GE995.out) | exact HB.out)))); have n2_ := qb.mk (qM (g := gb995) (o := .cells #[.int .i64 a0_0, .slice A0_1 l0_1.length c0_1, .slice A0_2 l0_2.length c0_2] 25 (0, 0)) (by (with_reducible repeat (first | refine qw ?_ _ | refine qy ?_ | refine qp ?_ _)); exact BK995.out) hb); have n3_ := qb.mk (qG (by repeat (first | (with_reducible first | exact HB.out | apply qc | apply qa | apply qd | refine qj ?_ GE995.out) | exact HB.out)) hb); clear HO999; clear BK995; clear HB; have HO999 := n0_; have HO1003 := n1_; have BK995 := n2_; have HB := n3_; clear n0_ n1_ n2_ n3_; clear hb ho27))
        go_loopg [6] kj2 (fun kq v6 w' => ∃ (x5_2 : List Bool) (x6_2 : List Int), qb (qz.l0 kq x5_2 x6_2 a0_0 l0_1 l0_2 = some r) ∧ qb (kq ≤ kj2) ∧ qb (Kd.R Kd.bool 4 w' w.heap.size (fun _ => True) (.slice (some ⟨go20, 0, none⟩) y997.length co20) x5_2) ∧ qb (Kd.Q (Kd.int .i64) 3 w' w.heap.size (fun _ => True) v6 x6_2) ∧ qb (w'.heap[gb995]? = some (.cells #[.int .i64 a0_0, (.slice A0_1 l0_1.length c0_1), (.slice A0_2 l0_2.length c0_2)] 25 (0, 0))) ∧ qb (Below w.heap.size w w'))
        case atStart => exact ⟨(y1000), (y1001), H', ⟨Nat.le_refl _⟩, ⟨by (with_reducible repeat (first | apply Kd.R_alloc | apply Kd.qF | apply Kd.qH)); exact HO999.out⟩, ⟨Kd.Q_of_R (by (with_reducible repeat (first | apply Kd.R_alloc | apply Kd.qF | apply Kd.qH)); exact HO1003.out)⟩, ⟨by (with_reducible repeat (first | refine qw ?_ _ | refine qy ?_ | refine qp ?_ _)); exact BK995.out⟩, ⟨by repeat (first | (with_reducible first | exact HB.out | apply qc | apply qa | apply qd | refine qj ?_ GE995.out) | exact HB.out)⟩⟩
        case round =>
         clear H'
         try clear c1
         try clear p2
         try clear q2
         try clear hx2
         try clear hf2
         try clear c6
         try clear c6b0
         try clear c6b1
         try clear c7
         try clear c7b0
         try clear c15
         try clear c16
         try clear c16b0
         try clear c16b1
         try clear c17
         try clear c17b0
         try clear c17b1
         try clear c18
         try clear c18b0
         try clear c19
         try clear c19b0
         try clear p20
         try clear q20
         try clear hx20
         try clear hf20
         try clear hcz10_0
         try clear hcz10_1
         try clear hcz10_2
         try clear hcz12_0
         try clear hcz12_1
         try clear hcz12_2
         try clear hcz13_0
         try clear hcz13_1
         try clear hcz13_2
         try clear hcz21_0
         try clear hcz21_1
         try clear hcz21_2
         try clear hcz8_0
         try clear hcz8_1
         try clear hcz8_2
         try clear hfz10_0
         try clear hfz10_1
         try clear hfz10_2
         try clear hfz12_0
         try clear hfz12_1
         try clear hfz12_2
         try clear hfz13_0
         try clear hfz13_1
         try clear hfz13_2
         try clear hfz21_0
         try clear hfz21_1
         try clear hfz21_2
         try clear hfz8_0
         try clear hfz8_1
         try clear hfz8_2
         try clear hx20_0
         try clear p2
         try clear p20
         try clear q20
         obtain ⟨x5_2, x6_2, HA, HK2, HO_5, HO_6, BK995, HB⟩ := hrel
         have hl5_2 := (Kd.qN HO_5.out).1
         rw [hl5_2] at HO_5
         (try simp only [hl5_2])
         (try simp only [hl5_2] at BK995)
         (try simp only [hl5_2] at HO_6)
         cases gk with
         | zero => exact absurd HA.out (by simp [qz.l0])
         | succ k2 =>
          have H := HA.out
          clear HA
          simp only [qz.l0] at H
          by_cases c28 : (x6_2.length : Int) > 0
          ·rw [if_pos c28] at H
           have c28b0 : decide (0 < (x6_2.length : Int)) = true := decide_eq_true c28
           have c28b1 : decide (0 < x6_2.length) = true := decide_eq_true (by omega)
           clear c28
           by_cases c29 : 0 < (x6_2.length : Int)
           ·rw [if_pos c29] at H
            have c29b0 : decide (0 < (x6_2.length : Int)) = true := decide_eq_true c29
            have c29b1 : decide (0 < x6_2.length) = true := decide_eq_true (by omega)
            clear c29
            replace H := Option.bind_eq_some_iff.mp H
            obtain ⟨t1005, A300, H⟩ := H
            replace H : (qz.l1 k2 x5_2 x6_2 t1005 (t1005.length : Int) 0 a0_0 l0_1 l0_2) = some r := H
            have A30 := qb.mk A300
            clear A300
            have H' := qb.mk H
            clear H
            obtain ⟨Ao31, co31, eo31, _⟩ := Kd.kS HO_6.out
            subst eo31
            try go_wp2
            have n0_ := qb.mk (Kd.qH HO_5.out)
            have n1_ := qb.mk (Kd.wJ HO_6.out)
            have n2_ := qb.mk (qy BK995.out)
            have n3_ := qb.mk (qd HB.out)
            clear HO_5
            clear HO_6
            clear BK995
            clear HB
            have HO_5 := n0_
            have HO_6 := n1_
            have BK995 := n2_
            have HB := n3_
            clear n0_ n1_ n2_ n3_
            have p1004 : 0 ≤ (0 : Int) := (by omega)
            have q1004 : 0 < (x6_2.length : Int) := of_decide_eq_true (by first | (with_reducible assumption) | assumption)
            obtain ⟨ad1004, e1004, hx1004_0⟩ := Kd.zK (Kd.yz HO_6.out).2.2 0 p1004 q1004
            cases e1004
            have qi1004 : (0 < x6_2.length) = True := eq_true (by omega)
            (try rw [show ((0 : Int)).toNat = 0 from rfl] at hx1004_0)
            (try rw [Addr.add_zero'] at hx1004_0)
            replace p1004 := eq_true p1004
            replace q1004 := eq_true q1004
            refine zV (n := 7) (S := fun w' => w'.cell? ⟨gb995, 0, none⟩ = some (.int .i64 a0_0) ∧ w'.cell? ⟨gb995, 1, none⟩ = some (.slice A0_1 l0_1.length c0_1) ∧ w'.cell? ⟨gb995, 2, none⟩ = some (.slice A0_2 l0_2.length c0_2) ∧ w'.cell? ad1004 = some (.int .i64 (rd x6_2 0))) (ds := []) #[false, false, false, false, false, false, false] (by kernel_rfl) rfl rfl ⟨(qi BK995.out 0).trans rfl, (qi BK995.out 1).trans rfl, (qi BK995.out 2).trans rfl, hx1004_0⟩ (fun hHeld => ?_)
            generalize wr.drew = w32 at HO_5 HO_6 BK995 HB hx1004_0 hHeld ⊢
            refine qx (i := 1) (N := some 39) (v := ?_) (a' := ?_) #[false, true, false, false, false, false, false] rfl rfl (by kernel_rfl) (fun _ _ _ h => h) (Or.inl ⟨by rfl, ?_⟩) ?_ ?_
            rotate_left
            ·intro w'
             go_simp
             with_reducible rfl
            rotate_left
            ·simp only [Act.put, sA, sB, sC, ql, qm]
             rfl
            refine qx (i := 2) (N := some 40) (v := ?_) (a' := ?_) #[false, true, true, false, false, false, false] rfl rfl (by kernel_rfl) (fun _ _ _ h => h) (Or.inl ⟨by rfl, ?_⟩) ?_ ?_
            rotate_left
            ·intro w'
             go_simp
             with_reducible rfl
            rotate_left
            ·simp only [Act.put, sA, sB, sC, ql, qm]
             rfl
            refine qx (i := 6) (N := some 44) (v := ?_) (a' := ?_) #[false, true, true, false, false, false, true] rfl rfl (by kernel_rfl) (fun _ _ _ h => h) (Or.inl ⟨by rfl, ?_⟩) ?_ ?_
            rotate_left
            ·intro w'
             go_simp
             with_reducible rfl
            rotate_left
            ·simp only [Act.put, sA, sB, sC, ql, qm]
             rfl
            refine vz (i := 0) (N := some 38) (v := ?_) (a' := ?_) #[true, true, true, false, false, false, true] rfl rfl (by kernel_rfl) (fun _ _ _ h => h) (Or.inl ⟨by rfl, ?_⟩) hHeld ?_ ?_
            rotate_left
            ·rintro w' ⟨s0, s1, s2, s3⟩
             go_simp
             with_reducible rfl
            rotate_left
            ·simp only [Act.put, sA, sB, sC, ql, qm]
             rfl
            refine vz (i := 3) (N := some 41) (v := ?_) (a' := ?_) #[true, true, true, true, false, false, true] rfl rfl (by kernel_rfl) (fun _ _ _ h => h) (Or.inl ⟨by rfl, ?_⟩) hHeld ?_ ?_
            rotate_left
            ·rintro w' ⟨s0, s1, s2, s3⟩
             go_simp
             with_reducible rfl
            rotate_left
            ·simp only [Act.put, sA, sB, sC, ql, qm]
             rfl
            refine one_ (i := 4) (N := some 42) #[true, true, true, true, true, false, true] rfl rfl (by kernel_rfl) (by decide) (fun K hK => ?_)
            refine jE Try.func131 (by kernel_rfl) rfl #[.agg #[.int .i64 a0_0, .slice A0_1 l0_1.length c0_1, .slice A0_2 l0_2.length c0_2], .int .i64 (rd x6_2 0)] (by rfl) rfl rfl (by (try simp only [List.map_toArray, List.map_cons, List.map_nil]); first | done | rfl | (simp only [List.length_drop, List.length_take]; rfl)) ?_
            with_reducible refine (vR.calls k2 a0_0 _ _ l0_1 (fun k_ => k_ < w.heap.size) _ _ l0_2 (rd x6_2 0) t1005 _ ?side1 ?side2 ?side3 A30.out).mono ?_
            (case side1 => repeat (first | exact (Kd.qW HR0_1.out HB.out) | (with_reducible refine Kd.C_alloc ?_ _) | (with_reducible refine Kd.C_drewN ?_ _) | (with_reducible refine Kd.C_drew ?_)))
            (case side2 => exact HC0_1.out)
            (case side3 => exact Kd.V_mk HC0_2.out (Kd.j4 (Kd.C_F yB HR0_2.out) (by repeat (first | (with_reducible first | exact HB.out | apply qc | apply qa | apply qd | refine qj ?_ GE995.out) | exact HB.out))))
            rintro e w33 ⟨v1006, rfl, ho0, hb⟩
            have HS3_ := (hb.cell (World.block_lt_of_cell? _ _ (hHeld.2.2.2))).trans (hHeld.2.2.2)
            refine ⟨_, rfl, ?_⟩
            have n0_ := qb.mk (Kd.qP (by (with_reducible repeat (first | apply Kd.R_alloc | apply Kd.qF | apply Kd.qH)); exact HO_5.out) hb)
            have n1_ := qb.mk (Kd.xV (by (with_reducible repeat (first | apply Kd.Q_alloc | apply Kd.Q_drewN | apply Kd.wJ)); exact HO_6.out) hb)
            have n2_ := qb.mk (Kd.Qw (Kd.wO (ok' := fun k_ => some k_ ≠ (.slice (some ⟨go20, 0, none⟩) x5_2.length co20 : Value).ownBlock ∧ some k_ ≠ (.slice (some ad1004) x6_2.length co31 : Value).ownBlock ∧ k_ ≠ gb995) ho0 (fun k_ hk_ => ⟨Or.elim hk_ (fun hs_ => fun e_ => Nat.not_le.2 hs_ (Kd.zq HO_5.out k_ e_.symm)) (fun hn_ => (Kd.fresh' (Kd.R_lt (by (with_reducible repeat (first | apply Kd.R_alloc | apply Kd.qF | apply Kd.qH)); exact HO_5.out)) k_ hn_)), Or.elim hk_ (fun hs_ => fun e_ => Nat.not_le.2 hs_ (Kd.Q_base HO_6.out k_ e_.symm)) (fun hn_ => (Kd.fresh' (Kd.Q_lt (by (with_reducible repeat (first | apply Kd.Q_alloc | apply Kd.Q_drewN | apply Kd.wJ)); exact HO_6.out)) k_ hn_)), Or.elim hk_ (fun hs_ => fun e_ => Nat.not_le.2 hs_ (by rw [e_]; exact GW995.out)) (fun hn_ => (Kd.freshB (g := gb995) (o := .cells #[.int .i64 a0_0, .slice A0_1 l0_1.length c0_1, .slice A0_2 l0_2.length c0_2] 25 (0, 0)) (by (with_reducible repeat (first | refine qw ?_ _ | refine qy ?_ | refine qp ?_ _)); exact BK995.out) k_ hn_))⟩)) (qD (by repeat (first | (with_reducible first | exact HB.out | apply qc | apply qa | apply qd | refine qj ?_ GE995.out) | exact HB.out))))
            have n3_ := qb.mk (qM (g := gb995) (o := .cells #[.int .i64 a0_0, .slice A0_1 l0_1.length c0_1, .slice A0_2 l0_2.length c0_2] 25 (0, 0)) (by (with_reducible repeat (first | refine qw ?_ _ | refine qy ?_ | refine qp ?_ _)); exact BK995.out) hb)
            have n4_ := qb.mk (qG (by repeat (first | (with_reducible first | exact HB.out | apply qc | apply qa | apply qd | refine qj ?_ GE995.out) | exact HB.out)) hb)
            clear HO_5
            clear HO_6
            clear BK995
            clear HB
            have HO_5 := n0_
            have HO_6 := n1_
            have HO1007 := n2_
            have BK995 := n3_
            have HB := n4_
            clear n0_ n1_ n2_ n3_ n4_
            (try clear hb)
            (try clear hb2)
            (try clear hk)
            (try clear hi)
            (try clear ho0)
            obtain ⟨Ao34, co34, eo34⟩ := Kd.Qy HO1007.out
            (first | subst eo34 | (injection eo34 with f1_ f2_ f3_; have f4_ := f1_.symm; have f5_ := f3_.symm; clear f1_ f2_ f3_; subst f4_; subst f5_))
            refine hK.out _ _ ⟨(qi BK995.out 0).trans rfl, (qi BK995.out 1).trans rfl, (qi BK995.out 2).trans rfl, HS3_⟩ (fun hHeld => ?_)
            clear hK K
            refine wH (a' := ?_) ?_ ?_
            rotate_left
            ·show Act.put _ (some 42) _ = _
             simp only [Act.put, sA, sB, sC, ql, qm]
             rfl
            refine qx (i := 5) (N := some 43) (v := ?_) (a' := ?_) #[true, true, true, true, true, true, true] rfl rfl (by kernel_rfl) (fun _ _ _ h => h) (Or.inl ⟨by rfl, ?_⟩) ?_ ?_
            rotate_left
            ·intro w'
             go_simp
             with_reducible rfl
            rotate_left
            ·simp only [Act.put, sA, sB, sC, ql, qm]
             rfl
            refine zQ (by kernel_rfl) ?_
            try go_wp2
            go_loopg [6, 44] k2 (fun kq v6 v44 w' => ∃ (x5_3 : List Bool) (x6_3 : List Int) (x44_3 : Int), v44 = .int .i64 x44_3 ∧ qb (qz.l1 kq x5_3 x6_3 t1005 (t1005.length : Int) x44_3 a0_0 l0_1 l0_2 = some r) ∧ qb (kq ≤ k2) ∧ qb (Kd.R Kd.bool 4 w' w.heap.size (fun _ => True) (.slice (some ⟨go20, 0, none⟩) x5_2.length co20) x5_3) ∧ qb (Kd.Q (Kd.int .i64) 3 w' w.heap.size (fun _ => True) v6 x6_3) ∧ qb (Kd.V k55 55 w' w.heap.size (fun k_ => some k_ ≠ ((.slice (some ⟨go20, 0, none⟩) x5_2.length co20) : Value).ownBlock ∧ some k_ ≠ (v6 : Value).ownBlock ∧ k_ ≠ gb995) (.slice Ao34 t1005.length co34) t1005) ∧ qb (w'.heap[gb995]? = some (.cells #[.int .i64 a0_0, (.slice A0_1 l0_1.length c0_1), (.slice A0_2 l0_2.length c0_2)] 25 (0, 0))) ∧ qb (Below w.heap.size w w'))
            case atStart => exact ⟨(x5_2), (x6_2), (0), (by first | rfl | (simp; done) | (simp [*]; done)), H', ⟨Nat.le_refl _⟩, ⟨by (try simp only [hl5_2]); (with_reducible repeat (first | apply Kd.R_alloc | apply Kd.qF | apply Kd.qH)); exact HO_5.out⟩, ⟨by (try simp only [hl5_2]); (with_reducible repeat (first | apply Kd.Q_alloc | apply Kd.Q_drewN | apply Kd.wJ)); exact HO_6.out⟩, ⟨by (try simp only [hl5_2]); (with_reducible repeat (first | apply Kd.V_alloc | apply Kd.V_drewN | apply Kd.V_drew)); exact HO1007.out⟩, ⟨by (try simp only [hl5_2]); (with_reducible repeat (first | refine qw ?_ _ | refine qy ?_ | refine qp ?_ _)); exact BK995.out⟩, ⟨by repeat (first | (with_reducible first | exact HB.out | apply qc | apply qa | apply qd | refine qj ?_ GE995.out) | exact HB.out)⟩⟩
            case round =>
             clear H'
             try clear c1
             try clear p1
             try clear q1
             try clear hx1
             try clear qi1
             try clear c2
             try clear p2
             try clear q2
             try clear hx2
             try clear hf2
             try clear c6
             try clear c6b0
             try clear c6b1
             try clear c7
             try clear c7b0
             try clear p10
             try clear q10
             try clear hx10
             try clear qi10
             try clear c13
             try clear c15
             try clear c16
             try clear c16b0
             try clear c16b1
             try clear c17
             try clear c17b0
             try clear c17b1
             try clear c18
             try clear c18b0
             try clear c19
             try clear c19b0
             try clear p20
             try clear q20
             try clear hx20
             try clear hf20
             try clear c28
             try clear c28b0
             try clear c28b1
             try clear c29
             try clear c29b0
             try clear c29b1
             try clear hcz10_0
             try clear hcz10_1
             try clear hcz10_2
             try clear hcz12_0
             try clear hcz12_1
             try clear hcz12_2
             try clear hcz13_0
             try clear hcz13_1
             try clear hcz13_2
             try clear hcz21_0
             try clear hcz21_1
             try clear hcz21_2
             try clear hcz8_0
             try clear hcz8_1
             try clear hcz8_2
             try clear hfz10_0
             try clear hfz10_1
             try clear hfz10_2
             try clear hfz12_0
             try clear hfz12_1
             try clear hfz12_2
             try clear hfz13_0
             try clear hfz13_1
             try clear hfz13_2
             try clear hfz21_0
             try clear hfz21_1
             try clear hfz21_2
             try clear hfz8_0
             try clear hfz8_1
             try clear hfz8_2
             try clear hx1004_0
             try clear hx20_0
             try clear p1004
             try clear p2
             try clear p20
             try clear q1004
             try clear q2
             try clear q20
             obtain ⟨x5_3, x6_3, x44_3, rfl, HA, HK3, HO_5, HO_6, HO_42, BK995, HB⟩ := hrel
             have hl5_3 := (Kd.qN HO_5.out).1
             rw [hl5_3] at HO_5
             (try simp only [hl5_3])
             (try simp only [hl5_3] at BK995)
             (try simp only [hl5_3] at HO_6)
             (try simp only [hl5_3] at HO_42)
             cases gk with
             | zero => exact absurd HA.out (by simp [qz.l1])
             | succ k3 =>
              have H := HA.out
              clear HA
              simp only [qz.l1] at H
              by_cases c35 : x44_3 < (t1005.length : Int)
              ·rw [if_pos c35] at H
               have c35b0 : decide (x44_3 < (t1005.length : Int)) = true := decide_eq_true c35
               clear c35
               by_cases c36 : 0 ≤ x44_3
               ·rw [if_pos c36] at H
                have c36b0 : decide (0 ≤ x44_3) = true := decide_eq_true c36
                clear c36
                by_cases c37 : x44_3 < (t1005.length : Int)
                ·rw [if_pos c37] at H
                 have c37b0 : decide (x44_3 < (t1005.length : Int)) = true := decide_eq_true c37
                 clear c37
                 by_cases c38 : 0 ≤ ((qf t1005 x44_3).f2)
                 ·rw [if_pos c38] at H
                  have c38b0 : decide (0 ≤ ((qf t1005 x44_3).f2)) = true := decide_eq_true c38
                  clear c38
                  by_cases c39 : ((qf t1005 x44_3).f2) < (x5_3.length : Int)
                  ·rw [if_pos c39] at H
                   have c39b0 : decide (((qf t1005 x44_3).f2) < (x5_3.length : Int)) = true := decide_eq_true c39
                   clear c39
                   obtain ⟨bq40, hbq40⟩ : ∃ b_ : Bool, b_ = (rdOf false x5_3 ((qf t1005 x44_3).f2)) := ⟨_, rfl⟩
                   replace H : (if (bq40 = true) then (qz.l1 k3 x5_3 x6_3 t1005 (t1005.length : Int) (wrap64 (x44_3 + 1)) a0_0 l0_1 l0_2) else (if x6_3.length < 17592186044416 then (qz.l1 k3 (x5_3.set (((qf t1005 x44_3).f2) : Int).toNat true) (x6_3 ++ [(qf t1005 x44_3).f2]) t1005 (t1005.length : Int) (wrap64 (x44_3 + 1)) a0_0 l0_1 l0_2) else (none))) = some r := by rw [← hbq40] at H; exact H
                   have Nbq40 := qb.mk hbq40
                   clear hbq40
                   by_cases c41 : (bq40 = true)
                   ·subst c41
                    have H1 : (qz.l1 k3 x5_3 x6_3 t1005 (t1005.length : Int) (wrap64 (x44_3 + 1)) a0_0 l0_1 l0_2) = some r := by rw [if_pos rfl] at H; exact H
                    clear H
                    have H := H1
                    clear H1
                    have H' := qb.mk H
                    clear H
                    have p1008 : 0 ≤ (x44_3 : Int) := of_decide_eq_true (by first | (with_reducible assumption) | assumption)
                    have q1008 : x44_3 < (t1005.length : Int) := of_decide_eq_true (by first | (with_reducible assumption) | assumption)
                    obtain ⟨ad1008, e1008, hx1008_0, hx1008_1, hx1008_2⟩ := vN (Kd.jo HO_42.out).2.2 x44_3 p1008 q1008
                    cases e1008
                    replace p1008 := eq_true p1008
                    replace q1008 := eq_true q1008
                    go_wp2_with (first | ((with_reducible refine qU (N := 8) rfl ?_); refine qV ?hg (N := 8) ?hd (cs := #[.int .i64 0, .int .i64 0, .int .i64 0]) (t := 55) ?hr ?_; (case hd => rfl); (case hg => rfl); (case hr => first | (go_simp; done) | (go_simp; rfl)); intro gb1009 hg w42 hbox hb; have n0_ := qb.mk (Kd.qP (by (with_reducible repeat (first | apply Kd.R_alloc | apply Kd.qF | apply Kd.qH)); exact HO_5.out) hb); have n1_ := qb.mk (Kd.xV (by (with_reducible repeat (first | apply Kd.Q_alloc | apply Kd.Q_drewN | apply Kd.wJ)); exact HO_6.out) hb); have n2_ := qb.mk (Kd.Qk (Kd.yE (by (with_reducible repeat (first | apply Kd.V_alloc | apply Kd.V_drewN | apply Kd.V_drew)); exact HO_42.out) gb1009 (Nat.le_of_eq hg.symm)) hb); have n3_ := qb.mk (qM (g := gb995) (o := .cells #[.int .i64 a0_0, .slice A0_1 l0_1.length c0_1, .slice A0_2 l0_2.length c0_2] 25 (0, 0)) (by (with_reducible repeat (first | refine qw ?_ _ | refine qy ?_ | refine qp ?_ _)); exact BK995.out) hb); have n4_ := qb.mk (qG (by repeat (first | (with_reducible first | exact HB.out | apply qc | apply qa | apply qd | refine qj ?_ GE995.out) | exact HB.out)) hb); have n5_ := qb.mk (hbox); have n6_ := qb.mk ((by rw [hg]; exact (qD (by repeat (first | (with_reducible first | exact HB.out | apply qc | apply qa | apply qd | refine qj ?_ GE995.out) | exact HB.out))) : w.heap.size ≤ gb1009)); have n7_ := qb.mk ((by rw [hg]; exact (qD (by repeat (first | (with_reducible first | exact HB.out | apply qc | apply qa | apply qd | refine qj ?_ GE995.out) | exact HB.out))) : w.heap.size ≤ gb1009)); have n8_ := qb.mk ((by rw [hg]; exact Nat.ne_of_lt (vv (g := gb995) (o := .cells #[.int .i64 a0_0, .slice A0_1 l0_1.length c0_1, .slice A0_2 l0_2.length c0_2] 25 (0, 0)) (by (with_reducible repeat (first | refine qw ?_ _ | refine qy ?_ | refine qp ?_ _)); exact BK995.out)) : gb995 ≠ gb1009)); have n9_ := qb.mk ((by rw [hg]; exact Nat.ne_of_gt (vv (g := gb995) (o := .cells #[.int .i64 a0_0, .slice A0_1 l0_1.length c0_1, .slice A0_2 l0_2.length c0_2] 25 (0, 0)) (by (with_reducible repeat (first | refine qw ?_ _ | refine qy ?_ | refine qp ?_ _)); exact BK995.out)) : gb1009 ≠ gb995)); clear HO_5; clear HO_6; clear HO_42; clear BK995; clear HB; have HO_5 := n0_; have HO_6 := n1_; have HO_42 := n2_; have BK995 := n3_; have HB := n4_; have BK1009 := n5_; have GW1009 := n6_; have GE1009 := n7_; have NB995_1009 := n8_; have NB1009_995 := n9_; clear n0_ n1_ n2_ n3_ n4_ n5_ n6_ n7_ n8_ n9_; clear hb hbox hg; have hnb43 := NB1009_995.out; have hnc43 := NB995_1009.out; have hcz44_0 : w42.cell? ⟨gb1009, 0, none⟩ = some (.int .i64 0) := (qi BK1009.out 0).trans rfl; have hcz44_1 : w42.cell? ⟨gb1009, 1, none⟩ = some (.int .i64 0) := (qi BK1009.out 1).trans rfl; have hcz44_2 : w42.cell? ⟨gb1009, 2, none⟩ = some (.int .i64 0) := (qi BK1009.out 2).trans rfl; have hfz44_0 := qh BK1009.out 0; have hfz44_1 := qh BK1009.out 1; have hfz44_2 := qh BK1009.out 2; have p1010 : 0 ≤ (((qf t1005 x44_3).f2) : Int) := of_decide_eq_true (by first | (with_reducible assumption) | assumption); have q1010 : ((qf t1005 x44_3).f2) < (x5_3.length : Int) := of_decide_eq_true (by first | (with_reducible assumption) | assumption); obtain ⟨ad1010, e1010, hx1010_0⟩ := Kd.zG (Kd.qN HO_5.out).2.2 ((qf t1005 x44_3).f2) p1010 q1010; (try rw [← Nbq40.out] at hx1010_0); obtain rfl : (⟨go20, 0, none⟩ : Addr) = ad1010 := (by injection e1010); (first | simp only [add_plain] at hx1010_0 | simp only [wM] at hx1010_0 | simp only [Addr.add, Nat.zero_add] at hx1010_0 | skip); have hn1010_0 : (⟨go20, 0, none⟩ : Addr).block ≠ gb1009 := Kd.jd (Kd.R_ne HO_5.out BK1009.out (by decide)); have hn1010_1 : (⟨go20, 0, none⟩ : Addr).block ≠ gb1009 := Kd.jd (Kd.R_ne HO_5.out BK1009.out (by decide)); have hn1010_2 : (⟨go20, 0, none⟩ : Addr).block ≠ gb1009 := Kd.jd (Kd.R_ne HO_5.out BK1009.out (by decide)); replace hx1010_0 := (cell_far (p := ⟨gb1009, 0, none⟩) (by first | (rw [add_block]; exact hn1010_0) | (show (Addr.add _ _).block ≠ _; rw [add_block]; exact hn1010_0) | exact hn1010_0) (.int .i64 ((qf t1005 x44_3).f0))).trans hx1010_0; replace hx1010_0 := (cell_far (p := ⟨gb1009, 1, none⟩) (by first | (rw [add_block]; exact hn1010_1) | (show (Addr.add _ _).block ≠ _; rw [add_block]; exact hn1010_1) | exact hn1010_1) (.int .i64 ((qf t1005 x44_3).f1))).trans hx1010_0; replace hx1010_0 := (cell_far (p := ⟨gb1009, 2, none⟩) (by first | (rw [add_block]; exact hn1010_2) | (show (Addr.add _ _).block ≠ _; rw [add_block]; exact hn1010_2) | exact hn1010_2) (.int .i64 ((qf t1005 x44_3).f2))).trans hx1010_0; clear hn1010_0; clear hn1010_1; clear hn1010_2; replace p1010 := eq_true p1010; replace q1010 := eq_true q1010))
                    (try simp only [← hl5_3])
                    go_roundg k3
                    case measure => have := HJ2.out; have := HK2.out; have := HK3.out; omega
                    case rel => exact ⟨(x5_3), (x6_3), (wrap64 (x44_3 + 1)), (by first | rfl | (simp; done) | (simp [*]; done)), H', ⟨by have := HJ2.out; have := HK2.out; have := HK3.out; omega⟩, ⟨by (try simp only [hl5_2]); (try simp only [hl5_3]); (with_reducible repeat (first | apply Kd.R_alloc | apply Kd.qF | apply Kd.qH)); exact Kd.zb (Kd.vY (p := ⟨gb1009, 2, none⟩) (Kd.vY (p := ⟨gb1009, 1, none⟩) (Kd.vY (p := ⟨gb1009, 0, none⟩) (Kd.zN HO_5.out BK1009.out (by decide)) (fun _ hk => hk.2) (.int .i64 ((qf t1005 x44_3).f0))) (fun _ hk => hk.2) (.int .i64 ((qf t1005 x44_3).f1))) (fun _ hk => hk.2) (.int .i64 ((qf t1005 x44_3).f2))) (fun _ hk => trivial)⟩, ⟨by (try simp only [hl5_2]); (try simp only [hl5_3]); (with_reducible repeat (first | apply Kd.Q_alloc | apply Kd.Q_drewN | apply Kd.wJ)); exact Kd.ky (Kd.yK (p := ⟨gb1009, 2, none⟩) (Kd.yK (p := ⟨gb1009, 1, none⟩) (Kd.yK (p := ⟨gb1009, 0, none⟩) (Kd.Qf HO_6.out BK1009.out (by decide)) (fun _ hk => hk.2) (.int .i64 ((qf t1005 x44_3).f0))) (fun _ hk => hk.2) (.int .i64 ((qf t1005 x44_3).f1))) (fun _ hk => hk.2) (.int .i64 ((qf t1005 x44_3).f2))) (fun _ hk => trivial)⟩, ⟨by (try simp only [hl5_2]); (try simp only [hl5_3]); (with_reducible repeat (first | apply Kd.V_alloc | apply Kd.V_drewN | apply Kd.V_drew)); exact Kd.wO (Kd.yS (p := ⟨gb1009, 2, none⟩) (Kd.yS (p := ⟨gb1009, 1, none⟩) (Kd.yS (p := ⟨gb1009, 0, none⟩) (Kd.wO HO_42.out (fun k_ hk => (⟨hk, hk.2⟩ : _ ∧ k_ ≠ gb1009))) (fun _ hk => hk.2) (.int .i64 ((qf t1005 x44_3).f0))) (fun _ hk => hk.2) (.int .i64 ((qf t1005 x44_3).f1))) (fun _ hk => hk.2) (.int .i64 ((qf t1005 x44_3).f2))) (fun _ hk => ⟨hk.1.1.1, ⟨hk.1.1.2.1, hk.1.1.2.2⟩⟩)⟩, ⟨by (try simp only [hl5_2]); (try simp only [hl5_3]); (with_reducible repeat (first | refine qw ?_ _ | refine qy ?_ | refine qp ?_ _)); refine vK ?_ NB995_1009.out _; (with_reducible repeat (first | refine qw ?_ _ | refine qy ?_ | refine qp ?_ _)); refine vK ?_ NB995_1009.out _; (with_reducible repeat (first | refine qw ?_ _ | refine qy ?_ | refine qp ?_ _)); refine vK ?_ NB995_1009.out _; (with_reducible repeat (first | refine qw ?_ _ | refine qy ?_ | refine qp ?_ _)); exact BK995.out⟩, ⟨by repeat (first | (with_reducible first | exact HB.out | apply qc | apply qa | apply qd | refine qj ?_ GE995.out | refine qj ?_ GE1009.out) | exact HB.out)⟩⟩
                   ·replace c41 := Bool.eq_false_iff.mpr c41
                    subst c41
                    have H1 : (if x6_3.length < 17592186044416 then (qz.l1 k3 (x5_3.set (((qf t1005 x44_3).f2) : Int).toNat true) (x6_3 ++ [(qf t1005 x44_3).f2]) t1005 (t1005.length : Int) (wrap64 (x44_3 + 1)) a0_0 l0_1 l0_2) else (none)) = some r := by rw [if_neg (show ¬ (false = true) by decide)] at H; exact H
                    clear H
                    have H := H1
                    clear H1
                    obtain ⟨y1011, hy1011⟩ : ∃ y_ : List Bool, y_ = (x5_3.set (((qf t1005 x44_3).f2) : Int).toNat true) := ⟨_, rfl⟩
                    replace H : (if x6_3.length < 17592186044416 then (qz.l1 k3 y1011 (x6_3 ++ [(qf t1005 x44_3).f2]) t1005 (t1005.length : Int) (wrap64 (x44_3 + 1)) a0_0 l0_1 l0_2) else (none)) = some r := by first | (rw [hy1011]; with_reducible exact H) | (have H2_ := (Option.bind_some _ _).symm.trans H; rw [hy1011]; with_reducible exact H2_) | (have H2_ := (Option.bind_some _ _).symm.trans H; with_reducible exact H2_) | with_reducible exact H | (rw [hy1011]; exact H) | exact H
                    have Ny1011 := qb.mk hy1011
                    clear hy1011
                    by_cases c46 : x6_3.length < 17592186044416
                    ·rw [if_pos c46] at H
                     have LMc46 := qb.mk c46
                     clear c46
                     obtain ⟨y1012, hy1012⟩ : ∃ y_ : List Int, y_ = (x6_3 ++ [(qf t1005 x44_3).f2]) := ⟨_, rfl⟩
                     replace H : (qz.l1 k3 y1011 y1012 t1005 (t1005.length : Int) (wrap64 (x44_3 + 1)) a0_0 l0_1 l0_2) = some r := by first | (rw [hy1012]; with_reducible exact H) | (have H2_ := (Option.bind_some _ _).symm.trans H; rw [hy1012]; with_reducible exact H2_) | (have H2_ := (Option.bind_some _ _).symm.trans H; with_reducible exact H2_) | with_reducible exact H | (rw [hy1012]; exact H) | exact H
                     have Ny1012 := qb.mk hy1012
                     clear hy1012
                     have H' := qb.mk H
                     clear H
                     have p1008 : 0 ≤ (x44_3 : Int) := of_decide_eq_true (by first | (with_reducible assumption) | assumption)
                     have q1008 : x44_3 < (t1005.length : Int) := of_decide_eq_true (by first | (with_reducible assumption) | assumption)
                     obtain ⟨ad1008, e1008, hx1008_0, hx1008_1, hx1008_2⟩ := vN (Kd.jo HO_42.out).2.2 x44_3 p1008 q1008
                     cases e1008
                     replace p1008 := eq_true p1008
                     replace q1008 := eq_true q1008
                     go_wp2_with (first | ((with_reducible refine qU (N := 8) rfl ?_); refine qV ?hg (N := 8) ?hd (cs := #[.int .i64 0, .int .i64 0, .int .i64 0]) (t := 55) ?hr ?_; (case hd => rfl); (case hg => rfl); (case hr => first | (go_simp; done) | (go_simp; rfl)); intro gb1009 hg w47 hbox hb; have n0_ := qb.mk (Kd.qP (by (with_reducible repeat (first | apply Kd.R_alloc | apply Kd.qF | apply Kd.qH)); exact HO_5.out) hb); have n1_ := qb.mk (Kd.xV (by (with_reducible repeat (first | apply Kd.Q_alloc | apply Kd.Q_drewN | apply Kd.wJ)); exact HO_6.out) hb); have n2_ := qb.mk (Kd.Qk (Kd.yE (by (with_reducible repeat (first | apply Kd.V_alloc | apply Kd.V_drewN | apply Kd.V_drew)); exact HO_42.out) gb1009 (Nat.le_of_eq hg.symm)) hb); have n3_ := qb.mk (qM (g := gb995) (o := .cells #[.int .i64 a0_0, .slice A0_1 l0_1.length c0_1, .slice A0_2 l0_2.length c0_2] 25 (0, 0)) (by (with_reducible repeat (first | refine qw ?_ _ | refine qy ?_ | refine qp ?_ _)); exact BK995.out) hb); have n4_ := qb.mk (qG (by repeat (first | (with_reducible first | exact HB.out | apply qc | apply qa | apply qd | refine qj ?_ GE995.out) | exact HB.out)) hb); have n5_ := qb.mk (hbox); have n6_ := qb.mk ((by rw [hg]; exact (qD (by repeat (first | (with_reducible first | exact HB.out | apply qc | apply qa | apply qd | refine qj ?_ GE995.out) | exact HB.out))) : w.heap.size ≤ gb1009)); have n7_ := qb.mk ((by rw [hg]; exact (qD (by repeat (first | (with_reducible first | exact HB.out | apply qc | apply qa | apply qd | refine qj ?_ GE995.out) | exact HB.out))) : w.heap.size ≤ gb1009)); have n8_ := qb.mk ((by rw [hg]; exact Nat.ne_of_lt (vv (g := gb995) (o := .cells #[.int .i64 a0_0, .slice A0_1 l0_1.length c0_1, .slice A0_2 l0_2.length c0_2] 25 (0, 0)) (by (with_reducible repeat (first | refine qw ?_ _ | refine qy ?_ | refine qp ?_ _)); exact BK995.out)) : gb995 ≠ gb1009)); have n9_ := qb.mk ((by rw [hg]; exact Nat.ne_of_gt (vv (g := gb995) (o := .cells #[.int .i64 a0_0, .slice A0_1 l0_1.length c0_1, .slice A0_2 l0_2.length c0_2] 25 (0, 0)) (by (with_reducible repeat (first | refine qw ?_ _ | refine qy ?_ | refine qp ?_ _)); exact BK995.out)) : gb1009 ≠ gb995)); clear HO_5; clear HO_6; clear HO_42; clear BK995; clear HB; have HO_5 := n0_; have HO_6 := n1_; have HO_42 := n2_; have BK995 := n3_; have HB := n4_; have BK1009 := n5_; have GW1009 := n6_; have GE1009 := n7_; have NB995_1009 := n8_; have NB1009_995 := n9_; clear n0_ n1_ n2_ n3_ n4_ n5_ n6_ n7_ n8_ n9_; clear hb hbox hg; have hnb48 := NB1009_995.out; have hnc48 := NB995_1009.out; have hcz49_0 : w47.cell? ⟨gb1009, 0, none⟩ = some (.int .i64 0) := (qi BK1009.out 0).trans rfl; have hcz49_1 : w47.cell? ⟨gb1009, 1, none⟩ = some (.int .i64 0) := (qi BK1009.out 1).trans rfl; have hcz49_2 : w47.cell? ⟨gb1009, 2, none⟩ = some (.int .i64 0) := (qi BK1009.out 2).trans rfl; have hfz49_0 := qh BK1009.out 0; have hfz49_1 := qh BK1009.out 1; have hfz49_2 := qh BK1009.out 2) | ((with_reducible refine wI (t := 55) (p := 8) rfl ?_); refine wm (t := 55) (p := 8) (v := ?vo_w50) (w1 := (((w47.setCell ⟨gb1009, 0, none⟩ (.int .i64 ((qf t1005 x44_3).f0))).setCell ⟨gb1009, 1, none⟩ (.int .i64 ((qf t1005 x44_3).f1))).setCell ⟨gb1009, 2, none⟩ (.int .i64 ((qf t1005 x44_3).f2)))) ?hg ?ho ?hn ?hr ?_; (case ho => rfl); (case hg => rfl); (case hn => rfl); (case hr => first | (go_simp; done) | (go_simp; rfl)); intro w50 hw; have n0_ : qb (Kd.R Kd.bool 4 w50 w.heap.size (fun _ => True) (.slice (some ⟨go20, 0, none⟩) x5_3.length co20) x5_3) := ⟨(by rw [hw]; exact (by (with_reducible repeat (first | apply Kd.R_alloc | apply Kd.qF | apply Kd.qH)); exact Kd.zb (Kd.vY (p := ⟨gb1009, 2, none⟩) (Kd.vY (p := ⟨gb1009, 1, none⟩) (Kd.vY (p := ⟨gb1009, 0, none⟩) (Kd.zN HO_5.out BK1009.out (by decide)) (fun _ hk => hk.2) (.int .i64 ((qf t1005 x44_3).f0))) (fun _ hk => hk.2) (.int .i64 ((qf t1005 x44_3).f1))) (fun _ hk => hk.2) (.int .i64 ((qf t1005 x44_3).f2))) (fun _ hk => trivial)))⟩; have n1_ : qb (Kd.Q (Kd.int .i64) 3 w50 w.heap.size (fun _ => True) u6 x6_3) := ⟨(by rw [hw]; exact (by (with_reducible repeat (first | apply Kd.Q_alloc | apply Kd.Q_drewN | apply Kd.wJ)); exact Kd.ky (Kd.yK (p := ⟨gb1009, 2, none⟩) (Kd.yK (p := ⟨gb1009, 1, none⟩) (Kd.yK (p := ⟨gb1009, 0, none⟩) (Kd.Qf HO_6.out BK1009.out (by decide)) (fun _ hk => hk.2) (.int .i64 ((qf t1005 x44_3).f0))) (fun _ hk => hk.2) (.int .i64 ((qf t1005 x44_3).f1))) (fun _ hk => hk.2) (.int .i64 ((qf t1005 x44_3).f2))) (fun _ hk => trivial)))⟩; have n2_ : qb (Kd.V k55 55 w50 w.heap.size (fun k_ => some k_ ≠ (.slice (some ⟨go20, 0, none⟩) x5_3.length co20 : Value).ownBlock ∧ some k_ ≠ (u6 : Value).ownBlock ∧ k_ ≠ gb995 ∧ k_ ≠ gb1009) (.slice (some ad1008) t1005.length co34) t1005) := ⟨(by rw [hw]; exact (by (with_reducible repeat (first | apply Kd.V_alloc | apply Kd.V_drewN | apply Kd.V_drew)); exact Kd.wO (Kd.yS (p := ⟨gb1009, 2, none⟩) (Kd.yS (p := ⟨gb1009, 1, none⟩) (Kd.yS (p := ⟨gb1009, 0, none⟩) (Kd.wO HO_42.out (fun k_ hk => (⟨hk, hk.2⟩ : _ ∧ k_ ≠ gb1009))) (fun _ hk => hk.2) (.int .i64 ((qf t1005 x44_3).f0))) (fun _ hk => hk.2) (.int .i64 ((qf t1005 x44_3).f1))) (fun _ hk => hk.2) (.int .i64 ((qf t1005 x44_3).f2))) (fun _ hk => ⟨hk.1.1.1, ⟨hk.1.1.2.1, ⟨hk.1.1.2.2, hk.1.2⟩⟩⟩)))⟩; have n3_ : qb (w50.heap[gb995]? = some (.cells #[.int .i64 a0_0, .slice A0_1 l0_1.length c0_1, .slice A0_2 l0_2.length c0_2] 25 (0, 0))) := ⟨(by rw [hw]; exact (by (with_reducible repeat (first | refine qw ?_ _ | refine qy ?_ | refine qp ?_ _)); refine vK ?_ NB995_1009.out _; (with_reducible repeat (first | refine qw ?_ _ | refine qy ?_ | refine qp ?_ _)); refine vK ?_ NB995_1009.out _; (with_reducible repeat (first | refine qw ?_ _ | refine qy ?_ | refine qp ?_ _)); refine vK ?_ NB995_1009.out _; (with_reducible repeat (first | refine qw ?_ _ | refine qy ?_ | refine qp ?_ _)); exact BK995.out))⟩; have n4_ : qb (w50.heap[gb1009]? = some (.cells #[.int .i64 ((qf t1005 x44_3).f0), .int .i64 ((qf t1005 x44_3).f1), .int .i64 ((qf t1005 x44_3).f2)] 55 (0, 0))) := ⟨(by rw [hw]; exact (by (with_reducible repeat (first | refine qw ?_ _ | refine qy ?_ | refine qp ?_ _)); refine zT (cs := #[.int .i64 ((qf t1005 x44_3).f0), .int .i64 ((qf t1005 x44_3).f1), .int .i64 0]) ?_ 2 _ rfl; (with_reducible repeat (first | refine qw ?_ _ | refine qy ?_ | refine qp ?_ _)); refine zT (cs := #[.int .i64 ((qf t1005 x44_3).f0), .int .i64 0, .int .i64 0]) ?_ 1 _ rfl; (with_reducible repeat (first | refine qw ?_ _ | refine qy ?_ | refine qp ?_ _)); refine zT (cs := #[.int .i64 0, .int .i64 0, .int .i64 0]) ?_ 0 _ rfl; (with_reducible repeat (first | refine qw ?_ _ | refine qy ?_ | refine qp ?_ _)); exact BK1009.out))⟩; have n5_ : qb (Below w.heap.size w w50) := ⟨(by rw [hw]; exact (by repeat (first | (with_reducible first | exact HB.out | apply qc | apply qa | apply qd | refine qj ?_ GE995.out | refine qj ?_ GE1009.out) | exact HB.out)))⟩; clear hw; clear HO_5; clear HO_6; clear HO_42; clear BK995; clear BK1009; clear HB; have HO_5 := n0_; have HO_6 := n1_; have HO_42 := n2_; have BK995 := n3_; have BK1009 := n4_; have HB := n5_; clear n0_ n1_ n2_ n3_ n4_ n5_; have hcz51_0 : w50.cell? ⟨gb1009, 0, none⟩ = some (.int .i64 ((qf t1005 x44_3).f0)) := (qi BK1009.out 0).trans rfl; have hcz51_1 : w50.cell? ⟨gb1009, 1, none⟩ = some (.int .i64 ((qf t1005 x44_3).f1)) := (qi BK1009.out 1).trans rfl; have hcz51_2 : w50.cell? ⟨gb1009, 2, none⟩ = some (.int .i64 ((qf t1005 x44_3).f2)) := (qi BK1009.out 2).trans rfl; have hfz51_0 := qh BK1009.out 0; have hfz51_1 := qh BK1009.out 1; have hfz51_2 := qh BK1009.out 2; have p1010 : 0 ≤ (((qf t1005 x44_3).f2) : Int) := of_decide_eq_true (by first | (with_reducible assumption) | assumption); have q1010 : ((qf t1005 x44_3).f2) < (x5_3.length : Int) := of_decide_eq_true (by first | (with_reducible assumption) | assumption); obtain ⟨ad1010, e1010, hx1010_0⟩ := Kd.zG (Kd.qN HO_5.out).2.2 ((qf t1005 x44_3).f2) p1010 q1010; (try rw [← Nbq40.out] at hx1010_0); obtain rfl : (⟨go20, 0, none⟩ : Addr) = ad1010 := (by injection e1010); (first | simp only [add_plain] at hx1010_0 | simp only [wM] at hx1010_0 | simp only [Addr.add, Nat.zero_add] at hx1010_0 | skip); replace p1010 := eq_true p1010; replace q1010 := eq_true q1010; have p45 : 0 ≤ (((qf t1005 x44_3).f2) : Int) := of_decide_eq_true (by first | (with_reducible assumption) | assumption); have q45 : (((qf t1005 x44_3).f2) : Int) < ((x5_3.length : Int) : Int) := of_decide_eq_true (by first | (with_reducible assumption) | assumption); obtain ⟨hx45_0, hf45_0⟩ := Kd.jb false HO_5.out (((qf t1005 x44_3).f2) : Int) p45 q45; replace p45 := eq_true p45; replace q45 := eq_true q45; obtain ⟨hy52_, hz52_⟩ := Kd.jb false HO_5.out (((qf t1005 x44_3).f2) : Int) (of_decide_eq_true (by first | (with_reducible assumption) | assumption)) (of_decide_eq_true (by first | (with_reducible assumption) | assumption)); have HP52 := Kd.yF HO_5.out (((qf t1005 x44_3).f2) : Int) true) | ((with_reducible refine wI (t := 4) (p := 57) rfl ?_); refine wm (t := 4) (p := 57) (v := ?vo_w53) (w1 := (w50.setCell ⟨go20, (((qf t1005 x44_3).f2) : Int).toNat, none⟩ (.bool true))) ?hg ?ho ?hn ?hr ?_; (case ho => rfl); (case hg => rfl); (case hn => rfl); (case hr => first | (go_simp; done) | (go_simp; rfl)); intro w53 hw; have hg : w50.grownBy w53 (some go20) := (by rw [hw]; exact HP52.2); have hp_ : Kd.R Kd.bool 4 w53 w.heap.size (fun _ => True) (.slice (some ⟨go20, 0, none⟩) x5_3.length co20) y1011 := (by rw [hw, Ny1011.out]; exact HP52.1); clear HP52; have n0_ := qb.mk (hp_); have n1_ := qb.mk (Kd.Q_over' (v := (.slice (some ⟨go20, 0, none⟩) x5_3.length co20)) (by (with_reducible repeat (first | apply Kd.Q_alloc | apply Kd.Q_drewN | apply Kd.wJ)); exact HO_6.out) (Kd.yj HO_5.out) (by decide) hg); have n2_ := qb.mk (Kd.yo (v := (.slice (some ⟨go20, 0, none⟩) x5_3.length co20)) (v1 := (.slice (some ⟨go20, 0, none⟩) x5_3.length co20)) (ok := (fun k_ => some k_ ≠ (u6 : Value).ownBlock ∧ k_ ≠ gb995 ∧ k_ ≠ gb1009)) (by (with_reducible repeat (first | apply Kd.V_alloc | apply Kd.V_drewN | apply Kd.V_drew)); exact Kd.wO HO_42.out (fun _ hk => ⟨⟨hk.2.1, ⟨hk.2.2.1, hk.2.2.2⟩⟩, hk.1⟩)) hg (.inl rfl)); have n3_ := qb.mk (zm (g := gb995) (o := .cells #[.int .i64 a0_0, .slice A0_1 l0_1.length c0_1, .slice A0_2 l0_2.length c0_2] 25 (0, 0)) (by (with_reducible repeat (first | refine qw ?_ _ | refine qy ?_ | refine qp ?_ _)); exact BK995.out) hg (Kd.R_ne HO_5.out BK995.out (by decide))); have n4_ := qb.mk (zm (g := gb1009) (o := .cells #[.int .i64 ((qf t1005 x44_3).f0), .int .i64 ((qf t1005 x44_3).f1), .int .i64 ((qf t1005 x44_3).f2)] 55 (0, 0)) (by (with_reducible repeat (first | refine qw ?_ _ | refine qy ?_ | refine qp ?_ _)); exact BK1009.out) hg (Kd.R_ne HO_5.out BK1009.out (by decide))); have n5_ := qb.mk ((by rw [hw]; exact qj (HB.out) GB20.out : Below w.heap.size w w53)); clear HO_5; clear HO_6; clear HO_42; clear BK995; clear BK1009; clear HB; have HO_5 := n0_; have HO_6 := n1_; have HO_42 := n2_; have BK995 := n3_; have BK1009 := n4_; have HB := n5_; clear n0_ n1_ n2_ n3_ n4_ n5_; clear hg hw hp_; have hcz54_0 : w53.cell? ⟨gb1009, 0, none⟩ = some (.int .i64 ((qf t1005 x44_3).f0)) := (qi BK1009.out 0).trans rfl; have hcz54_1 : w53.cell? ⟨gb1009, 1, none⟩ = some (.int .i64 ((qf t1005 x44_3).f1)) := (qi BK1009.out 1).trans rfl; have hcz54_2 : w53.cell? ⟨gb1009, 2, none⟩ = some (.int .i64 ((qf t1005 x44_3).f2)) := (qi BK1009.out 2).trans rfl; have hfz54_0 := qh BK1009.out 0; have hfz54_1 := qh BK1009.out 1; have hfz54_2 := qh BK1009.out 2) | ((with_reducible refine zw (b := .append) (xs := #[.tmp 58, .tmp 61]) rfl ?_); at_builtin; refine Kd.Q_append (Kd.int .i64) (w0 := w) w.heap.size rfl (.tmp 58) (.tmp 61) 28 3 (.int .i64 0) 8 rfl Try.underlying28 info3 rfl (by decide) (by omega) u6 x6_3 ((qf t1005 x44_3).f2) [.int .i64 ((qf t1005 x44_3).f2)] (fun _ => True) (fun _ => False) rfl rfl ?aP (fun _ hk => hk.elim) ?aF ?aO ?aB ?aS ?aL ?_; (case aP => exact rfl); (case aB => exact (by repeat (first | (with_reducible first | exact HB.out | apply qc | apply qa | apply qd | refine qj ?_ GE995.out | refine qj ?_ GE1009.out) | exact HB.out))); (case aF => exact (fun _ _ => trivial)); (case aO => exact (by (with_reducible repeat (first | apply Kd.Q_alloc | apply Kd.Q_drewN | apply Kd.wJ)); exact HO_6.out)); (case aS => exact (qD (by repeat (first | (with_reducible first | exact HB.out | apply qc | apply qa | apply qd | refine qj ?_ GE995.out | refine qj ?_ GE1009.out) | exact HB.out)))); (case aL => have := LMc46.out; omega); intro v1013 w55 ho hb hg hat; rw [← Ny1012.out] at ho; have n0_ := qb.mk (Kd.kW (by (with_reducible repeat (first | apply Kd.R_alloc | apply Kd.qF | apply Kd.qH)); exact HO_5.out) (Kd.Q_typed (by (with_reducible repeat (first | apply Kd.Q_alloc | apply Kd.Q_drewN | apply Kd.wJ)); exact HO_6.out)) (by decide) hg); have n1_ := qb.mk (Kd.yo (ok := (fun k_ => some k_ ≠ (.slice (some ⟨go20, 0, none⟩) x5_3.length co20 : Value).ownBlock ∧ k_ ≠ gb995 ∧ k_ ≠ gb1009)) (by (with_reducible repeat (first | apply Kd.V_alloc | apply Kd.V_drewN | apply Kd.V_drew)); exact Kd.wO HO_42.out (fun _ hk => ⟨⟨hk.2, ⟨hk.1.2.1, hk.1.2.2⟩⟩, hk.1.1⟩)) hg hat); have n2_ := qb.mk (zm (g := gb995) (o := .cells #[.int .i64 a0_0, .slice A0_1 l0_1.length c0_1, .slice A0_2 l0_2.length c0_2] 25 (0, 0)) (by (with_reducible repeat (first | refine qw ?_ _ | refine qy ?_ | refine qp ?_ _)); exact BK995.out) hg (Kd.Q_ne HO_6.out BK995.out (by decide))); have n3_ := qb.mk (zm (g := gb1009) (o := .cells #[.int .i64 ((qf t1005 x44_3).f0), .int .i64 ((qf t1005 x44_3).f1), .int .i64 ((qf t1005 x44_3).f2)] 55 (0, 0)) (by (with_reducible repeat (first | refine qw ?_ _ | refine qy ?_ | refine qp ?_ _)); exact BK1009.out) hg (Kd.Q_ne HO_6.out BK1009.out (by decide))); have n4_ := qb.mk (hb); have n5_ := qb.mk (ho); clear HO_5; clear HO_42; clear BK995; clear BK1009; clear HB; clear HO_6; have HO_5 := n0_; have HO_42 := n1_; have BK995 := n2_; have BK1009 := n3_; have HB := n4_; have HO1014 := n5_; clear n0_ n1_ n2_ n3_ n4_ n5_; clear ho hb hg hat))
                     (try simp only [← hl5_3])
                     go_roundg k3
                     case measure => have := HJ2.out; have := HK2.out; have := HK3.out; omega
                     case rel => exact ⟨(y1011), (y1012), (wrap64 (x44_3 + 1)), (by first | rfl | (simp; done) | (simp [*]; done)), H', ⟨by have := HJ2.out; have := HK2.out; have := HK3.out; omega⟩, ⟨by (try simp only [hl5_2]); (try simp only [hl5_3]); (with_reducible repeat (first | apply Kd.R_alloc | apply Kd.qF | apply Kd.qH)); exact HO_5.out⟩, ⟨by (try simp only [hl5_2]); (try simp only [hl5_3]); (with_reducible repeat (first | apply Kd.Q_alloc | apply Kd.Q_drewN | apply Kd.wJ)); exact HO1014.out⟩, ⟨by (try simp only [hl5_2]); (try simp only [hl5_3]); (with_reducible repeat (first | apply Kd.V_alloc | apply Kd.V_drewN | apply Kd.V_drew)); exact Kd.wO HO_42.out (fun _ hk => ⟨hk.1.1, ⟨hk.2, hk.1.2.1⟩⟩)⟩, ⟨by (try simp only [hl5_2]); (try simp only [hl5_3]); (with_reducible repeat (first | refine qw ?_ _ | refine qy ?_ | refine qp ?_ _)); exact BK995.out⟩, ⟨by repeat (first | (with_reducible first | exact HB.out | apply qc | apply qa | apply qd | refine qj ?_ GE995.out | refine qj ?_ GE1009.out) | exact HB.out)⟩⟩
                    ·rw [if_neg c46] at H
                     exact absurd H (by simp)
                  ·rw [if_neg c39] at H
                   exact absurd H (by simp)
                 ·rw [if_neg c38] at H
                  exact absurd H (by simp)
                ·rw [if_neg c37] at H
                 exact absurd H (by simp)
               ·rw [if_neg c36] at H
                exact absurd H (by simp)
              ·rw [if_neg c35] at H
               have c35b0 : decide (x44_3 < (t1005.length : Int)) = false := decide_eq_false c35
               clear c35
               by_cases c56 : 1 ≤ (x6_3.length : Int)
               ·rw [if_pos c56] at H
                have c56b0 := eq_true c56
                have c56b1 : decide (1 ≤ (x6_3.length : Int)) = true := decide_eq_true c56
                clear c56
                obtain ⟨y1015, hy1015⟩ : ∃ y_ : List Int, y_ = (x6_3.drop (1 : Int).toNat) := ⟨_, rfl⟩
                replace H : (qz.l0 k3 x5_3 y1015 a0_0 l0_1 l0_2) = some r := by first | (rw [hy1015]; with_reducible exact H) | (have H2_ := (Option.bind_some _ _).symm.trans H; rw [hy1015]; with_reducible exact H2_) | (have H2_ := (Option.bind_some _ _).symm.trans H; with_reducible exact H2_) | with_reducible exact H | (rw [hy1015]; exact H) | exact H
                have Ny1015 := qb.mk hy1015
                clear hy1015
                have H' := qb.mk H
                clear H
                obtain ⟨Ao57, co57, eo57, _⟩ := Kd.kS HO_6.out
                subst eo57
                have q58 : (1 : Int) ≤ ((x6_3.length : Int) : Int) := of_decide_eq_true (by first | (with_reducible assumption) | assumption)
                obtain ⟨i058, hi058, _, hsz58, _⟩ := info_parts info3
                have hcut58 := cut_from (P := Try.prog) 28 3 .i64 Try.underlying28 hi058 1 hsz58 Ao57 x6_3.length co57 1 (by omega) q58
                have hr58 := Kd.Q_drop (k := (1 : Int).toNat) HO_6.out (by omega)
                obtain ⟨A58, hA58⟩ : ∃ A1, A1 = (if co57 = (1 : Int).toNat then Ao57 else (Ao57 : Option Addr).map (·.add ((1 : Int).toNat * 1))) := ⟨_, rfl⟩
                obtain ⟨c58, hc58⟩ : ∃ c1, c1 = co57 - (1 : Int).toNat := ⟨_, rfl⟩
                have hy58 : y1015.length = x6_3.length - (1 : Int).toNat := (by rw [Ny1015.out, List.length_drop])
                rw [← Ny1015.out] at hr58
                rw [← hy58, ← hA58, ← hc58] at hcut58
                replace hr58 : Kd.Q (Kd.int .i64) 3 wr w.heap.size (fun _ => True) (.slice A58 y1015.length c58) y1015 := (by rw [hA58, hc58, hy58]; exact hr58)
                have HE58 : qb ((Value.slice A58 y1015.length c58).ownBlock = (.slice Ao57 x6_3.length co57 : Value).ownBlock) := ⟨by rw [hA58]; split <;> (cases (Ao57 : Option Addr) <;> rfl)⟩
                clear hy58 hi058 hsz58 HO_6 hA58 hc58
                have HO1017 := qb.mk hr58
                clear hr58
                replace q58 := eq_true q58
                have n_ := qb.mk (Kd.wO (ok' := fun k_ => (some k_ ≠ (.slice (some ⟨go20, 0, none⟩) x5_3.length co20 : Value).ownBlock ∧ (some k_ ≠ (.slice A58 y1015.length c58 : Value).ownBlock ∧ k_ ≠ gb995))) HO_42.out (fun k_ hk => ⟨hk.1, ⟨(by rw [HE58.out]; exact hk.2.1), hk.2.2⟩⟩))
                clear HO_42
                have HO_42 := n_
                clear n_
                go_wp2
                (try simp only [← hl5_2, ← hl5_3])
                go_roundg k3
                case measure => have := HJ2.out; have := HK2.out; have := HK3.out; omega
                case rel => exact ⟨(x5_3), (y1015), H', ⟨by have := HJ2.out; have := HK2.out; have := HK3.out; omega⟩, ⟨by (try simp only [hl5_2]); (try simp only [hl5_3]); (with_reducible repeat (first | apply Kd.R_alloc | apply Kd.qF | apply Kd.qH)); exact HO_5.out⟩, ⟨by (try simp only [hl5_2]); (try simp only [hl5_3]); (with_reducible repeat (first | apply Kd.Q_alloc | apply Kd.Q_drewN | apply Kd.wJ)); exact HO1017.out⟩, ⟨by (try simp only [hl5_2]); (try simp only [hl5_3]); (with_reducible repeat (first | refine qw ?_ _ | refine qy ?_ | refine qp ?_ _)); exact BK995.out⟩, ⟨by repeat (first | (with_reducible first | exact HB.out | apply qc | apply qa | apply qd | refine qj ?_ GE995.out) | exact HB.out)⟩⟩
               ·rw [if_neg c56] at H
                exact absurd H (by simp)
           ·rw [if_neg c29] at H
            exact absurd H (by simp)
          ·rw [if_neg c28] at H
           have c28b0 : decide (0 < (x6_2.length : Int)) = false := decide_eq_false c28
           have c28b1 : decide (0 < x6_2.length) = false := decide_eq_false (by omega)
           clear c28
           have H' := qb.mk H
           clear H
           obtain ⟨Ao59, co59, eo59, _⟩ := Kd.kS HO_6.out
           subst eo59
           go_wp2
           go_loopg [9, 66] k2 (fun kq v9 v66 w' => ∃ (x9_3 : List Int) (x66_3 : Int), v66 = .int .i64 x66_3 ∧ qb (qz.l2 kq x9_3 x5_2 (x5_2.length : Int) x66_3 = some r) ∧ qb (kq ≤ k2) ∧ qb (Kd.R (Kd.int .i64) 3 w' w.heap.size (fun _ => True) v9 x9_3) ∧ qb (Kd.R Kd.bool 4 w' w.heap.size (fun _ => True) (.slice (some ⟨go20, 0, none⟩) x5_2.length co20) x5_2) ∧ qb (w'.heap[gb995]? = some (.cells #[.int .i64 a0_0, (.slice A0_1 l0_1.length c0_1), (.slice A0_2 l0_2.length c0_2)] 25 (0, 0))) ∧ qb (Below w.heap.size w w'))
           case atStart => exact ⟨(([] : List Int)), (0), (by first | rfl | (simp; done) | (simp [*]; done)), H', ⟨Nat.le_refl _⟩, ⟨by (try simp only [hl5_2]); first | exact Kd.jr _ _ _ _ _ | exact Kd.N_nil _ _ _ _ _ | exact Kd.V_nil _ _ _ _ _ | exact Kd.Q_nil _ _ _ _ _ | exact Kd.S_nil _ _ _ _ _⟩, ⟨by (try simp only [hl5_2]); (with_reducible repeat (first | apply Kd.R_alloc | apply Kd.qF | apply Kd.qH)); exact HO_5.out⟩, ⟨by (try simp only [hl5_2]); (with_reducible repeat (first | refine qw ?_ _ | refine qy ?_ | refine qp ?_ _)); exact BK995.out⟩, ⟨by repeat (first | (with_reducible first | exact HB.out | apply qc | apply qa | apply qd | refine qj ?_ GE995.out) | exact HB.out)⟩⟩
           case round =>
            clear H'
            try clear c1
            try clear p1
            try clear q1
            try clear hx1
            try clear qi1
            try clear c2
            try clear p2
            try clear q2
            try clear hx2
            try clear hf2
            try clear c3
            try clear c4
            try clear p4
            try clear q4
            try clear hx4
            try clear hf4
            try clear c5
            try clear q5
            try clear c6
            try clear c6b0
            try clear c6b1
            try clear p6
            try clear c7
            try clear c7b0
            try clear p10
            try clear q10
            try clear hx10
            try clear qi10
            try clear c13
            try clear c15
            try clear c16
            try clear c16b0
            try clear c16b1
            try clear c17
            try clear c17b0
            try clear c17b1
            try clear c18
            try clear c18b0
            try clear c19
            try clear c19b0
            try clear p20
            try clear q20
            try clear hx20
            try clear hf20
            try clear c28
            try clear c28b0
            try clear c28b1
            try clear c29
            try clear c29b0
            try clear c29b1
            try clear c35
            try clear c35b0
            try clear c36
            try clear c36b0
            try clear c37
            try clear c37b0
            try clear c38
            try clear c38b0
            try clear c39
            try clear c39b0
            try clear q40
            try clear c41
            try clear c43
            try clear p45
            try clear q45
            try clear hx45
            try clear hf45
            try clear c46
            try clear c48
            try clear c56
            try clear c56b0
            try clear c56b1
            try clear c58
            try clear q58
            try clear hcz10_0
            try clear hcz10_1
            try clear hcz10_2
            try clear hcz12_0
            try clear hcz12_1
            try clear hcz12_2
            try clear hcz13_0
            try clear hcz13_1
            try clear hcz13_2
            try clear hcz21_0
            try clear hcz21_1
            try clear hcz21_2
            try clear hcz44_0
            try clear hcz44_1
            try clear hcz44_2
            try clear hcz49_0
            try clear hcz49_1
            try clear hcz49_2
            try clear hcz51_0
            try clear hcz51_1
            try clear hcz51_2
            try clear hcz54_0
            try clear hcz54_1
            try clear hcz54_2
            try clear hcz8_0
            try clear hcz8_1
            try clear hcz8_2
            try clear hfz10_0
            try clear hfz10_1
            try clear hfz10_2
            try clear hfz12_0
            try clear hfz12_1
            try clear hfz12_2
            try clear hfz13_0
            try clear hfz13_1
            try clear hfz13_2
            try clear hfz21_0
            try clear hfz21_1
            try clear hfz21_2
            try clear hfz44_0
            try clear hfz44_1
            try clear hfz44_2
            try clear hfz49_0
            try clear hfz49_1
            try clear hfz49_2
            try clear hfz51_0
            try clear hfz51_1
            try clear hfz51_2
            try clear hfz54_0
            try clear hfz54_1
            try clear hfz54_2
            try clear hfz8_0
            try clear hfz8_1
            try clear hfz8_2
            try clear hx1004_0
            try clear hx1008_0
            try clear hx1008_1
            try clear hx1008_2
            try clear hx1010_0
            try clear hx20_0
            try clear hx45_0
            try clear p1
            try clear p10
            try clear p1004
            try clear p1008
            try clear p1010
            try clear p2
            try clear p20
            try clear p45
            try clear q1
            try clear q10
            try clear q1004
            try clear q1008
            try clear q1010
            try clear q2
            try clear q20
            try clear q45
            try clear q58
            obtain ⟨x9_3, x66_3, rfl, HA, HK3, HO_9, HO_64, BK995, HB⟩ := hrel
            cases gk with
            | zero => exact absurd HA.out (by simp [qz.l2])
            | succ k3 =>
             have H := HA.out
             clear HA
             simp only [qz.l2] at H
             by_cases c60 : x66_3 < (x5_2.length : Int)
             ·rw [if_pos c60] at H
              have c60b0 : decide (x66_3 < (x5_2.length : Int)) = true := decide_eq_true c60
              clear c60
              by_cases c61 : 0 ≤ x66_3
              ·rw [if_pos c61] at H
               have c61b0 : decide (0 ≤ x66_3) = true := decide_eq_true c61
               clear c61
               by_cases c62 : x66_3 < (x5_2.length : Int)
               ·rw [if_pos c62] at H
                have c62b0 : decide (x66_3 < (x5_2.length : Int)) = true := decide_eq_true c62
                clear c62
                obtain ⟨bq63, hbq63⟩ : ∃ b_ : Bool, b_ = (rdOf false x5_2 x66_3) := ⟨_, rfl⟩
                replace H : (if bq63 = true then (if x9_3.length < 17592186044416 then (qz.l2 k3 (x9_3 ++ [x66_3]) x5_2 (x5_2.length : Int) (wrap64 (x66_3 + 1))) else (none)) else (qz.l2 k3 x9_3 x5_2 (x5_2.length : Int) (wrap64 (x66_3 + 1)))) = some r := by rw [← hbq63] at H; exact H
                have Nbq63 := qb.mk hbq63
                clear hbq63
                by_cases c64 : bq63 = true
                ·subst c64
                 have H1 : (if x9_3.length < 17592186044416 then (qz.l2 k3 (x9_3 ++ [x66_3]) x5_2 (x5_2.length : Int) (wrap64 (x66_3 + 1))) else (none)) = some r := by rw [if_pos rfl] at H; exact H
                 clear H
                 have H := H1
                 clear H1
                 by_cases c65 : x9_3.length < 17592186044416
                 ·rw [if_pos c65] at H
                  have LMc65 := qb.mk c65
                  clear c65
                  obtain ⟨y1019, hy1019⟩ : ∃ y_ : List Int, y_ = (x9_3 ++ [x66_3]) := ⟨_, rfl⟩
                  replace H : (qz.l2 k3 y1019 x5_2 (x5_2.length : Int) (wrap64 (x66_3 + 1))) = some r := by first | (rw [hy1019]; with_reducible exact H) | (have H2_ := (Option.bind_some _ _).symm.trans H; rw [hy1019]; with_reducible exact H2_) | (have H2_ := (Option.bind_some _ _).symm.trans H; with_reducible exact H2_) | with_reducible exact H | (rw [hy1019]; exact H) | exact H
                  have Ny1019 := qb.mk hy1019
                  clear hy1019
                  have H' := qb.mk H
                  clear H
                  have p1018 : 0 ≤ (x66_3 : Int) := of_decide_eq_true (by first | (with_reducible assumption) | assumption)
                  have q1018 : x66_3 < (x5_2.length : Int) := of_decide_eq_true (by first | (with_reducible assumption) | assumption)
                  obtain ⟨ad1018, e1018, hx1018_0⟩ := Kd.zG (Kd.qN HO_64.out).2.2 x66_3 p1018 q1018
                  (try rw [← Nbq63.out] at hx1018_0)
                  obtain rfl : (⟨go20, 0, none⟩ : Addr) = ad1018 := (by injection e1018)
                  (first | simp only [add_plain] at hx1018_0 | simp only [wM] at hx1018_0 | simp only [Addr.add, Nat.zero_add] at hx1018_0 | skip)
                  replace p1018 := eq_true p1018
                  replace q1018 := eq_true q1018
                  go_wp2_with (first | ((with_reducible refine zw (b := .append) (xs := #[.tmp 72, .tmp 74]) rfl ?_); at_builtin; refine Kd.xP (Kd.int .i64) (w0 := w) w.heap.size rfl (.tmp 72) (.tmp 74) 28 3 (.int .i64 0) 8 rfl Try.underlying28 info3 rfl (by decide) (by omega) u9 x9_3 x66_3 [.int .i64 x66_3] (fun _ => True) (fun _ => False) rfl rfl ?aP (fun _ hk => hk.elim) ?aF ?aO ?aB ?aS ?aL ?_; (case aP => exact rfl); (case aB => exact (by repeat (first | (with_reducible first | exact HB.out | apply qc | apply qa | apply qd | refine qj ?_ GE995.out) | exact HB.out))); (case aF => exact (fun _ _ => trivial)); (case aO => exact (by (with_reducible repeat (first | apply Kd.R_alloc | apply Kd.qF | apply Kd.qH)); exact HO_9.out)); (case aS => exact (qD (by repeat (first | (with_reducible first | exact HB.out | apply qc | apply qa | apply qd | refine qj ?_ GE995.out) | exact HB.out)))); (case aL => have := LMc65.out; omega); intro v1020 w66 ho hb hg hat; rw [← Ny1019.out] at ho; have n0_ := qb.mk (Kd.kW (by (with_reducible repeat (first | apply Kd.R_alloc | apply Kd.qF | apply Kd.qH)); exact HO_64.out) (Kd.yj (by (with_reducible repeat (first | apply Kd.R_alloc | apply Kd.qF | apply Kd.qH)); exact HO_9.out)) (by decide) hg); have n1_ := qb.mk (zm (g := gb995) (o := .cells #[.int .i64 a0_0, .slice A0_1 l0_1.length c0_1, .slice A0_2 l0_2.length c0_2] 25 (0, 0)) (by (with_reducible repeat (first | refine qw ?_ _ | refine qy ?_ | refine qp ?_ _)); exact BK995.out) hg (Kd.R_ne HO_9.out BK995.out (by decide))); have n2_ := qb.mk (hb); have n3_ := qb.mk (ho); clear HO_64; clear BK995; clear HB; clear HO_9; have HO_64 := n0_; have BK995 := n1_; have HB := n2_; have HO1021 := n3_; clear n0_ n1_ n2_ n3_; clear ho hb hg hat))
                  go_roundg k3
                  case measure => have := HJ2.out; have := HK2.out; have := HK3.out; omega
                  case rel => exact ⟨(y1019), (wrap64 (x66_3 + 1)), (by first | rfl | (simp; done) | (simp [*]; done)), H', ⟨by have := HJ2.out; have := HK2.out; have := HK3.out; omega⟩, ⟨by (try simp only [hl5_2]); (with_reducible repeat (first | apply Kd.R_alloc | apply Kd.qF | apply Kd.qH)); exact HO1021.out⟩, ⟨by (try simp only [hl5_2]); (with_reducible repeat (first | apply Kd.R_alloc | apply Kd.qF | apply Kd.qH)); exact HO_64.out⟩, ⟨by (try simp only [hl5_2]); (with_reducible repeat (first | refine qw ?_ _ | refine qy ?_ | refine qp ?_ _)); exact BK995.out⟩, ⟨by repeat (first | (with_reducible first | exact HB.out | apply qc | apply qa | apply qd | refine qj ?_ GE995.out) | exact HB.out)⟩⟩
                 ·rw [if_neg c65] at H
                  exact absurd H (by simp)
                ·replace c64 := Bool.eq_false_iff.mpr c64
                 subst c64
                 have H1 : (qz.l2 k3 x9_3 x5_2 (x5_2.length : Int) (wrap64 (x66_3 + 1))) = some r := by rw [if_neg (show ¬ (false = true) by decide)] at H; exact H
                 clear H
                 have H := H1
                 clear H1
                 have H' := qb.mk H
                 clear H
                 have p1018 : 0 ≤ (x66_3 : Int) := of_decide_eq_true (by first | (with_reducible assumption) | assumption)
                 have q1018 : x66_3 < (x5_2.length : Int) := of_decide_eq_true (by first | (with_reducible assumption) | assumption)
                 obtain ⟨ad1018, e1018, hx1018_0⟩ := Kd.zG (Kd.qN HO_64.out).2.2 x66_3 p1018 q1018
                 (try rw [← Nbq63.out] at hx1018_0)
                 obtain rfl : (⟨go20, 0, none⟩ : Addr) = ad1018 := (by injection e1018)
                 (first | simp only [add_plain] at hx1018_0 | simp only [wM] at hx1018_0 | simp only [Addr.add, Nat.zero_add] at hx1018_0 | skip)
                 replace p1018 := eq_true p1018
                 replace q1018 := eq_true q1018
                 go_wp2
                 go_roundg k3
                 case measure => have := HJ2.out; have := HK2.out; have := HK3.out; omega
                 case rel => exact ⟨(x9_3), (wrap64 (x66_3 + 1)), (by first | rfl | (simp; done) | (simp [*]; done)), H', ⟨by have := HJ2.out; have := HK2.out; have := HK3.out; omega⟩, ⟨by (try simp only [hl5_2]); (with_reducible repeat (first | apply Kd.R_alloc | apply Kd.qF | apply Kd.qH)); exact HO_9.out⟩, ⟨by (try simp only [hl5_2]); (with_reducible repeat (first | apply Kd.R_alloc | apply Kd.qF | apply Kd.qH)); exact HO_64.out⟩, ⟨by (try simp only [hl5_2]); (with_reducible repeat (first | refine qw ?_ _ | refine qy ?_ | refine qp ?_ _)); exact BK995.out⟩, ⟨by repeat (first | (with_reducible first | exact HB.out | apply qc | apply qa | apply qd | refine qj ?_ GE995.out) | exact HB.out)⟩⟩
               ·rw [if_neg c62] at H
                exact absurd H (by simp)
              ·rw [if_neg c61] at H
               exact absurd H (by simp)
             ·rw [if_neg c60] at H
              have c60b0 : decide (x66_3 < (x5_2.length : Int)) = false := decide_eq_false c60
              clear c60
              obtain rfl := Option.some.inj H
              go_wp2
              go_ret
              exact ⟨_, by first | rfl | (simp [errW_none, errW_some] <;> rfl) | (simp [*, errW_none, errW_some] <;> rfl), by (with_reducible repeat (first | apply Kd.R_alloc | apply Kd.qF | apply Kd.qH)); exact HO_9.out, by repeat (first | (with_reducible first | exact HB.out | apply qc | apply qa | apply qd | refine qj ?_ GE995.out) | exact HB.out)⟩
       ·rw [if_neg c19] at H
        exact absurd H (by simp)
      ·rw [if_neg c18] at H
       exact absurd H (by simp)
     ·rw [if_neg c17] at H
      exact absurd H (by simp)
    ·rw [if_neg c16] at H
     exact absurd H (by simp)
attribute [local go_sem] vG vE vS vT vk vg vD vF
set_option linter.unusedVariables false
set_option linter.unusedSimpArgs false
mutual
def qo.l0 : Nat → List Bool → Bool → Int → List ByteArray → List (S55) → Option (List Bool)
 | 0, _, _, _, _, _ => none
 | k + 1, x5, x6, x414000, x414001, x414002 => if x6 = true then (qo.l1 k x5 false 0 x414000 x414001 x414002) else (some x5)
def qo.l1 : Nat → List Bool → Bool → Int → Int → List ByteArray → List (S55) → Option (List Bool)
 | 0, _, _, _, _, _, _ => none
 | k + 1, x5, x6, x7, x414000, x414001, x414002 => if x7 < (x414002.length : Int) then (if 0 ≤ x7 then (if 0 ≤ ((qf x414002 x7).f0) then (if ((qf x414002 x7).f0) < (x5.length : Int) then (if rdOf false x5 ((qf x414002 x7).f0) = true then (if 0 ≤ ((qf x414002 x7).f2) then (if ((qf x414002 x7).f2) < (x5.length : Int) then (if (rdOf false x5 ((qf x414002 x7).f2) = true) then (qo.l1 k x5 x6 (wrap64 (x7 + 1)) x414000 x414001 x414002) else (qo.l1 k (x5.set (((qf x414002 x7).f2) : Int).toNat true) true (wrap64 (x7 + 1)) x414000 x414001 x414002)) else (none)) else (none)) else (qo.l1 k x5 x6 (wrap64 (x7 + 1)) x414000 x414001 x414002)) else (none)) else (none)) else (none)) else (qo.l0 k x5 x6 x414000 x414001 x414002)
end
def qo.f (k : Nat) (a0_0 : Int) (l0_1 : List ByteArray) (l0_2 : List (S55)) (a1 : Int) : Option (List Bool) := if 0 ≤ a0_0 then (if (a0_0 : Int).toNat ≤ 281474976710656 then ((some (List.replicate (a0_0 : Int).toNat false : List Bool)).bind fun y414 => (if 0 ≤ a1 then (if a1 < (y414.length : Int) then (qo.l0 k (y414.set (a1 : Int).toNat true) true a0_0 l0_1 l0_2) else (none)) else (none))) else (none)) else (none)
theorem qo.vQ : ∀ k, (∀ y0 y1 y2 y3 y4, LeO (qo.l0 k y0 y1 y2 y3 y4) (qo.l0 (k + 1) y0 y1 y2 y3 y4)) ∧ (∀ y0 y1 y2 y3 y4 y5, LeO (qo.l1 k y0 y1 y2 y3 y4 y5) (qo.l1 (k + 1) y0 y1 y2 y3 y4 y5))
 | 0 => ⟨fun _ _ _ _ _ r h => by simp [qo.l0] at h, fun _ _ _ _ _ _ r h => by simp [qo.l1] at h⟩
 | k + 1 => by
  obtain ⟨ih0, ih1⟩ := qo.vQ k
  refine ⟨?_, ?_⟩
  ·intro y0 y1 y2 y3 y4
   unfold qo.l0
   repeat' first
   | (with_reducible exact ih0 _ _ _ _ _)
   | (with_reducible exact ih1 _ _ _ _ _ _)
   | (with_reducible exact LeO.refl _)
   | (with_reducible exact LeO.none _)
   | (with_reducible refine LeO.ite ?_ ?_)
   | (with_reducible refine LeO.bind ?_ (fun _ => ?_))
   | exact ih0 _ _ _ _ _
   | exact ih1 _ _ _ _ _ _
   | exact LeO.none _
   | refine LeO.ite ?_ ?_
   | refine LeO.bind ?_ (fun _ => ?_)
  ·intro y0 y1 y2 y3 y4 y5
   unfold qo.l1
   repeat' first
   | (with_reducible exact ih0 _ _ _ _ _)
   | (with_reducible exact ih1 _ _ _ _ _ _)
   | (with_reducible exact LeO.refl _)
   | (with_reducible exact LeO.none _)
   | (with_reducible refine LeO.ite ?_ ?_)
   | (with_reducible refine LeO.bind ?_ (fun _ => ?_))
   | exact ih0 _ _ _ _ _
   | exact ih1 _ _ _ _ _ _
   | exact LeO.none _
   | refine LeO.ite ?_ ?_
   | refine LeO.bind ?_ (fun _ => ?_)
theorem qo.mono : ∀ a0 a1 a2 a3 k, LeO (qo.f k a0 a1 a2 a3) (qo.f (k + 1) a0 a1 a2 a3) := by
 intro a0 a1 a2 a3 k
 obtain ⟨ih0, ih1⟩ := qo.vQ k
 unfold qo.f
 repeat' first
   | (with_reducible exact ih0 _ _ _ _ _)
   | (with_reducible exact ih1 _ _ _ _ _ _)
   | (with_reducible exact LeO.refl _)
   | (with_reducible exact LeO.none _)
   | (with_reducible refine LeO.ite ?_ ?_)
   | (with_reducible refine LeO.bind ?_ (fun _ => ?_))
   | exact ih0 _ _ _ _ _
   | exact ih1 _ _ _ _ _ _
   | exact LeO.none _
   | refine LeO.ite ?_ ?_
   | refine LeO.bind ?_ (fun _ => ?_)
set_option maxHeartbeats 8000000 in
set_option maxRecDepth 100000 in
theorem qo.calls (k : Nat) (a0_0 : Int) (A0_1 : Option Addr) (c0_1 : Nat) (l0_1 : List ByteArray) (A0_2 : Option Addr) (c0_2 : Nat) (l0_2 : List (S55)) (a1 : Int) (r : List Bool) (w : World) (hr0_1 : Kd.C Kd.string w A0_1 l0_1.length l0_1) (hc0_1 : l0_1.length ≤ c0_1) (hr0_2 : Kd.C k55 w A0_2 l0_2.length l0_2) (hc0_2 : l0_2.length ≤ c0_2) (h : qo.f k a0_0 l0_1 l0_2 a1 = some r) :
  Calls Try.prog 35 #[.agg #[.int .i64 a0_0, .slice A0_1 l0_1.length c0_1, .slice A0_2 l0_2.length c0_2], .int .i64 a1] w fun e w' => ∃ v0_ : Value, e = .returned (v0_) ∧ Kd.R Kd.bool 4 w' w.heap.size (fun _ => True) v0_ r ∧ Below w.heap.size w w' := by
 have hu25 := Try.underlying25
 have HR0_1 := qb.mk hr0_1
 have HC0_1 := qb.mk hc0_1
 clear hr0_1 hc0_1
 have HR0_2 := qb.mk hr0_2
 have HC0_2 := qb.mk hc0_2
 clear hr0_2 hc0_2
 have HB := qb.mk (Below.refl w.heap.size w)
 have H : (if 0 ≤ a0_0 then (if (a0_0 : Int).toNat ≤ 281474976710656 then ((some (List.replicate (a0_0 : Int).toNat false : List Bool)).bind fun y414 => (if 0 ≤ a1 then (if a1 < (y414.length : Int) then (qo.l0 k (y414.set (a1 : Int).toNat true) true a0_0 l0_1 l0_2) else (none)) else (none))) else (none)) else (none)) = some r := h
 clear h
 by_cases c3 : 0 ≤ a0_0
 ·rw [if_pos c3] at H
  have c3b0 := eq_true c3
  have c3b1 : decide (0 ≤ a0_0) = true := decide_eq_true c3
  clear c3
  by_cases c4 : (a0_0 : Int).toNat ≤ 281474976710656
  ·rw [if_pos c4] at H
   have c4b0 := eq_true c4
   have c4b1 : decide ((a0_0 : Int).toNat ≤ 281474976710656) = true := decide_eq_true c4
   clear c4
   obtain ⟨y414, hy414⟩ : ∃ y_ : List Bool, y_ = (List.replicate (a0_0 : Int).toNat false) := ⟨_, rfl⟩
   replace H : (if 0 ≤ a1 then (if a1 < (y414.length : Int) then (qo.l0 k (y414.set (a1 : Int).toNat true) true a0_0 l0_1 l0_2) else (none)) else (none)) = some r := by first | (rw [hy414]; with_reducible exact H) | (have H2_ := (Option.bind_some _ _).symm.trans H; rw [hy414]; with_reducible exact H2_) | (have H2_ := (Option.bind_some _ _).symm.trans H; with_reducible exact H2_) | with_reducible exact H | (rw [hy414]; exact H) | exact H
   have Ny414 := qb.mk hy414
   clear hy414
   by_cases c5 : 0 ≤ a1
   ·rw [if_pos c5] at H
    have c5b0 : decide (0 ≤ a1) = true := decide_eq_true c5
    clear c5
    by_cases c6 : a1 < (y414.length : Int)
    ·rw [if_pos c6] at H
     have c6b0 : decide (a1 < (y414.length : Int)) = true := decide_eq_true c6
     clear c6
     obtain ⟨y417, hy417⟩ : ∃ y_ : List Bool, y_ = (y414.set (a1 : Int).toNat true) := ⟨_, rfl⟩
     replace H : (qo.l0 k y417 true a0_0 l0_1 l0_2) = some r := by first | (rw [hy417]; with_reducible exact H) | (have H2_ := (Option.bind_some _ _).symm.trans H; rw [hy417]; with_reducible exact H2_) | (have H2_ := (Option.bind_some _ _).symm.trans H; with_reducible exact H2_) | with_reducible exact H | (rw [hy417]; exact H) | exact H
     have Ny417 := qb.mk hy417
     clear hy417
     have H' := qb.mk H
     clear H
     go_enter Try.func35, Try.ntmps35
     go_wp2_with (first | ((with_reducible refine qU (N := 2) rfl ?_); refine qV ?hg (N := 2) ?hd (cs := #[.int .i64 a0_0, .slice A0_1 l0_1.length c0_1, .slice A0_2 l0_2.length c0_2]) (t := 25) ?hr ?_; (case hd => rfl); (case hg => rfl); (case hr => first | (go_simp; done) | (go_simp; rfl)); intro gb413 hg w8 hbox hb; have n0_ := qb.mk (qG (by repeat (first | (with_reducible first | exact HB.out | apply qc | apply qa | apply qd) | exact HB.out)) hb); have n1_ := qb.mk (hbox); have n2_ := qb.mk ((by rw [hg]; exact (qD (by repeat (first | (with_reducible first | exact HB.out | apply qc | apply qa | apply qd) | exact HB.out))) : w.heap.size ≤ gb413)); have n3_ := qb.mk ((by rw [hg]; exact (qD (by repeat (first | (with_reducible first | exact HB.out | apply qc | apply qa | apply qd) | exact HB.out))) : w.heap.size ≤ gb413)); clear HB; have HB := n0_; have BK413 := n1_; have GW413 := n2_; have GE413 := n3_; clear n0_ n1_ n2_ n3_; clear hb hbox hg; have hcz9_0 : w8.cell? ⟨gb413, 0, none⟩ = some (.int .i64 a0_0) := (qi BK413.out 0).trans rfl; have hcz9_1 : w8.cell? ⟨gb413, 1, none⟩ = some (.slice A0_1 l0_1.length c0_1) := (qi BK413.out 1).trans rfl; have hcz9_2 : w8.cell? ⟨gb413, 2, none⟩ = some (.slice A0_2 l0_2.length c0_2) := (qi BK413.out 2).trans rfl; have hfz9_0 := qh BK413.out 0; have hfz9_1 := qh BK413.out 1; have hfz9_2 := qh BK413.out 2) | ((with_reducible refine qU (N := 10) rfl ?_); refine Kd.R_make Kd.bool _ 4 rfl (N := 10) rfl 41 _ _ rfl a0_0 rfl rfl Try.underlying41 (.bool false) 1 info4 rfl (by decide) (by omega) false (ok := fun _ => True) (okp := fun _ => True) rfl (fun _ hk => hk) trivial (of_decide_eq_true (by first | (with_reducible assumption) | assumption)) (Nat.le_trans (Nat.mul_le_mul_right _ (of_decide_eq_true (by first | (with_reducible assumption) | assumption) : a0_0.toNat ≤ 281474976710656)) (by omega)) (Below.refl _ _) (Nat.le_refl _) ?_; intro v415 w10 ho11 hb hg_ hnew_; clear hg_ hnew_; (first | rw [← Ny414.out] at ho11 | (simp only [Int.reduceToNat] at ho11; rw [← Ny414.out] at ho11)); have n0_ := qb.mk (Kd.vV ho11 (qD (by repeat (first | (with_reducible first | exact HB.out | apply qc | apply qa | apply qd | refine qj ?_ GE413.out) | exact HB.out)))); have n1_ := qb.mk (qM (g := gb413) (o := .cells #[.int .i64 a0_0, .slice A0_1 l0_1.length c0_1, .slice A0_2 l0_2.length c0_2] 25 (0, 0)) (by (with_reducible repeat (first | refine qw ?_ _ | refine qy ?_ | refine qp ?_ _)); exact BK413.out) hb); have n2_ := qb.mk (qG (by repeat (first | (with_reducible first | exact HB.out | apply qc | apply qa | apply qd | refine qj ?_ GE413.out) | exact HB.out)) hb); clear BK413; clear HB; have HO416 := n0_; have BK413 := n1_; have HB := n2_; clear n0_ n1_ n2_; clear hb ho11; have p7 : 0 ≤ (a1 : Int) := of_decide_eq_true (by first | (with_reducible assumption) | assumption); have q7 : (a1 : Int) < ((y414.length : Int) : Int) := of_decide_eq_true (by first | (with_reducible assumption) | assumption); obtain ⟨go7, co7, eo7, gb7, gl7, cl7, HG7⟩ := Kd.R_form HO416.out (by omega); (first | cases eo7 | (injection eo7 with ea_ en_ ec_; (first | subst ea_ | (injection ea_ with ea_; subst ea_)); subst ec_; clear en_)); have GB7 := qb.mk gb7; have GG7 := qb.mk HG7; clear gb7 gl7 HG7; obtain ⟨hx7_0, hf7_0⟩ := Kd.jb false HO416.out (a1 : Int) p7 q7; replace p7 := eq_true p7; replace q7 := eq_true q7; obtain ⟨hy12_, hz12_⟩ := Kd.jb false HO416.out (a1 : Int) (of_decide_eq_true (by first | (with_reducible assumption) | assumption)) (of_decide_eq_true (by first | (with_reducible assumption) | assumption)); have HP12 := Kd.yF HO416.out (a1 : Int) true) | ((with_reducible refine wI (t := 4) (p := 13) rfl ?_); refine wm (t := 4) (p := 13) (v := ?vo_w13) (w1 := (w10.setCell ⟨go7, (a1 : Int).toNat, none⟩ (.bool true))) ?hg ?ho ?hn ?hr ?_; (case ho => rfl); (case hg => rfl); (case hn => rfl); (case hr => first | (go_simp; done) | (go_simp; rfl)); intro w13 hw; have hg : w10.grownBy w13 (some go7) := (by rw [hw]; exact HP12.2); have hp_ : Kd.R Kd.bool 4 w13 w.heap.size (fun _ => True) (.slice (some ⟨go7, 0, none⟩) y414.length co7) y417 := (by rw [hw, Ny417.out]; exact HP12.1); clear HP12; have n0_ := qb.mk (zm (g := gb413) (o := .cells #[.int .i64 a0_0, .slice A0_1 l0_1.length c0_1, .slice A0_2 l0_2.length c0_2] 25 (0, 0)) (by (with_reducible repeat (first | refine qw ?_ _ | refine qy ?_ | refine qp ?_ _)); exact BK413.out) hg (Kd.R_ne HO416.out BK413.out (by decide))); have n1_ := qb.mk (hp_); have n2_ := qb.mk ((by rw [hw]; exact qj (HB.out) GB7.out : Below w.heap.size w w13)); clear BK413; clear HO416; clear HB; have BK413 := n0_; have HO416 := n1_; have HB := n2_; clear n0_ n1_ n2_; clear hg hw hp_))
     go_loopg [6] k (fun kq v6 w' => ∃ (x5_1 : List Bool) (x6_1 : Bool), v6 = .bool x6_1 ∧ qb (qo.l0 kq x5_1 x6_1 a0_0 l0_1 l0_2 = some r) ∧ qb (kq ≤ k) ∧ qb (Kd.R Kd.bool 4 w' w.heap.size (fun _ => True) (.slice (some ⟨go7, 0, none⟩) y414.length co7) x5_1) ∧ qb (w'.heap[gb413]? = some (.cells #[.int .i64 a0_0, (.slice A0_1 l0_1.length c0_1), (.slice A0_2 l0_2.length c0_2)] 25 (0, 0))) ∧ qb (Below w.heap.size w w'))
     case atStart => exact ⟨(y417), (true), (by first | rfl | (simp; done) | (simp [*]; done)), H', ⟨Nat.le_refl _⟩, ⟨by (with_reducible repeat (first | apply Kd.R_alloc | apply Kd.qF | apply Kd.qH)); exact HO416.out⟩, ⟨by (with_reducible repeat (first | refine qw ?_ _ | refine qy ?_ | refine qp ?_ _)); exact BK413.out⟩, ⟨by repeat (first | (with_reducible first | exact HB.out | apply qc | apply qa | apply qd | refine qj ?_ GE413.out) | exact HB.out)⟩⟩
     case round =>
      clear H'
      try clear p2
      try clear c3
      try clear c3b0
      try clear c3b1
      try clear c4
      try clear c4b0
      try clear c4b1
      try clear c5
      try clear c5b0
      try clear c6
      try clear c6b0
      try clear p7
      try clear q7
      try clear hx7
      try clear hf7
      try clear hcz9_0
      try clear hcz9_1
      try clear hcz9_2
      try clear hfz9_0
      try clear hfz9_1
      try clear hfz9_2
      try clear hx7_0
      try clear p7
      try clear q7
      obtain ⟨x5_1, x6_1, rfl, HA, HK1, HO_5, BK413, HB⟩ := hrel
      have hl5_1 := (Kd.qN HO_5.out).1
      rw [hl5_1] at HO_5
      (try simp only [hl5_1])
      (try simp only [hl5_1] at BK413)
      cases gk with
      | zero => exact absurd HA.out (by simp [qo.l0])
      | succ k1 =>
       have H := HA.out
       clear HA
       simp only [qo.l0] at H
       by_cases c14 : x6_1 = true
       ·subst c14
        have H1 : (qo.l1 k1 x5_1 false 0 a0_0 l0_1 l0_2) = some r := by rw [if_pos rfl] at H; exact H
        clear H
        have H := H1
        clear H1
        have H' := qb.mk H
        clear H
        go_wp2
        go_loopg [6, 7] k1 (fun kq v6 v7 w' => ∃ (x5_2 : List Bool) (x6_2 : Bool) (x7_2 : Int), v6 = .bool x6_2 ∧ v7 = .int .i64 x7_2 ∧ qb (qo.l1 kq x5_2 x6_2 x7_2 a0_0 l0_1 l0_2 = some r) ∧ qb (kq ≤ k1) ∧ qb (Kd.R Kd.bool 4 w' w.heap.size (fun _ => True) (.slice (some ⟨go7, 0, none⟩) x5_1.length co7) x5_2) ∧ qb (w'.heap[gb413]? = some (.cells #[.int .i64 a0_0, (.slice A0_1 l0_1.length c0_1), (.slice A0_2 l0_2.length c0_2)] 25 (0, 0))) ∧ qb (Below w.heap.size w w'))
        case atStart => exact ⟨(x5_1), (false), (0), (by first | rfl | (simp; done) | (simp [*]; done)), (by first | rfl | (simp; done) | (simp [*]; done)), H', ⟨Nat.le_refl _⟩, ⟨by (try simp only [hl5_1]); (with_reducible repeat (first | apply Kd.R_alloc | apply Kd.qF | apply Kd.qH)); exact HO_5.out⟩, ⟨by (try simp only [hl5_1]); (with_reducible repeat (first | refine qw ?_ _ | refine qy ?_ | refine qp ?_ _)); exact BK413.out⟩, ⟨by repeat (first | (with_reducible first | exact HB.out | apply qc | apply qa | apply qd | refine qj ?_ GE413.out) | exact HB.out)⟩⟩
        case round =>
         clear H'
         try clear c1
         try clear p2
         try clear c3
         try clear c3b0
         try clear c3b1
         try clear c4
         try clear c4b0
         try clear c4b1
         try clear c5
         try clear c5b0
         try clear c6
         try clear c6b0
         try clear p7
         try clear q7
         try clear hx7
         try clear hf7
         try clear c14
         try clear hcz9_0
         try clear hcz9_1
         try clear hcz9_2
         try clear hfz9_0
         try clear hfz9_1
         try clear hfz9_2
         try clear hx7_0
         try clear p2
         try clear p7
         try clear q7
         obtain ⟨x5_2, x6_2, x7_2, rfl, rfl, HA, HK2, HO_5, BK413, HB⟩ := hrel
         have hl5_2 := (Kd.qN HO_5.out).1
         rw [hl5_2] at HO_5
         (try simp only [hl5_2])
         (try simp only [hl5_2] at BK413)
         cases gk with
         | zero => exact absurd HA.out (by simp [qo.l1])
         | succ k2 =>
          have H := HA.out
          clear HA
          simp only [qo.l1] at H
          by_cases c15 : x7_2 < (l0_2.length : Int)
          ·rw [if_pos c15] at H
           have c15b0 : decide (x7_2 < (l0_2.length : Int)) = true := decide_eq_true c15
           clear c15
           by_cases c16 : 0 ≤ x7_2
           ·rw [if_pos c16] at H
            have c16b0 : decide (0 ≤ x7_2) = true := decide_eq_true c16
            clear c16
            by_cases c17 : 0 ≤ ((qf l0_2 x7_2).f0)
            ·rw [if_pos c17] at H
             have c17b0 : decide (0 ≤ ((qf l0_2 x7_2).f0)) = true := decide_eq_true c17
             clear c17
             by_cases c18 : ((qf l0_2 x7_2).f0) < (x5_2.length : Int)
             ·rw [if_pos c18] at H
              have c18b0 : decide (((qf l0_2 x7_2).f0) < (x5_2.length : Int)) = true := decide_eq_true c18
              clear c18
              obtain ⟨bq19, hbq19⟩ : ∃ b_ : Bool, b_ = (rdOf false x5_2 ((qf l0_2 x7_2).f0)) := ⟨_, rfl⟩
              replace H : (if bq19 = true then (if 0 ≤ ((qf l0_2 x7_2).f2) then (if ((qf l0_2 x7_2).f2) < (x5_2.length : Int) then (if (rdOf false x5_2 ((qf l0_2 x7_2).f2) = true) then (qo.l1 k2 x5_2 x6_2 (wrap64 (x7_2 + 1)) a0_0 l0_1 l0_2) else (qo.l1 k2 (x5_2.set (((qf l0_2 x7_2).f2) : Int).toNat true) true (wrap64 (x7_2 + 1)) a0_0 l0_1 l0_2)) else (none)) else (none)) else (qo.l1 k2 x5_2 x6_2 (wrap64 (x7_2 + 1)) a0_0 l0_1 l0_2)) = some r := by rw [← hbq19] at H; exact H
              have Nbq19 := qb.mk hbq19
              clear hbq19
              by_cases c20 : bq19 = true
              ·subst c20
               have H1 : (if 0 ≤ ((qf l0_2 x7_2).f2) then (if ((qf l0_2 x7_2).f2) < (x5_2.length : Int) then (if (rdOf false x5_2 ((qf l0_2 x7_2).f2) = true) then (qo.l1 k2 x5_2 x6_2 (wrap64 (x7_2 + 1)) a0_0 l0_1 l0_2) else (qo.l1 k2 (x5_2.set (((qf l0_2 x7_2).f2) : Int).toNat true) true (wrap64 (x7_2 + 1)) a0_0 l0_1 l0_2)) else (none)) else (none)) = some r := by rw [if_pos rfl] at H; exact H
               clear H
               have H := H1
               clear H1
               by_cases c21 : 0 ≤ ((qf l0_2 x7_2).f2)
               ·rw [if_pos c21] at H
                have c21b0 : decide (0 ≤ ((qf l0_2 x7_2).f2)) = true := decide_eq_true c21
                clear c21
                by_cases c22 : ((qf l0_2 x7_2).f2) < (x5_2.length : Int)
                ·rw [if_pos c22] at H
                 have c22b0 : decide (((qf l0_2 x7_2).f2) < (x5_2.length : Int)) = true := decide_eq_true c22
                 clear c22
                 obtain ⟨bq23, hbq23⟩ : ∃ b_ : Bool, b_ = (rdOf false x5_2 ((qf l0_2 x7_2).f2)) := ⟨_, rfl⟩
                 replace H : (if (bq23 = true) then (qo.l1 k2 x5_2 x6_2 (wrap64 (x7_2 + 1)) a0_0 l0_1 l0_2) else (qo.l1 k2 (x5_2.set (((qf l0_2 x7_2).f2) : Int).toNat true) true (wrap64 (x7_2 + 1)) a0_0 l0_1 l0_2)) = some r := by rw [← hbq23] at H; exact H
                 have Nbq23 := qb.mk hbq23
                 clear hbq23
                 by_cases c24 : (bq23 = true)
                 ·subst c24
                  have H1 : (qo.l1 k2 x5_2 x6_2 (wrap64 (x7_2 + 1)) a0_0 l0_1 l0_2) = some r := by rw [if_pos rfl] at H; exact H
                  clear H
                  have H := H1
                  clear H1
                  have H' := qb.mk H
                  clear H
                  have hcz25_0 : wr.cell? ⟨gb413, 0, none⟩ = some (.int .i64 a0_0) := (qi BK413.out 0).trans rfl
                  have hcz25_1 : wr.cell? ⟨gb413, 1, none⟩ = some (.slice A0_1 l0_1.length c0_1) := (qi BK413.out 1).trans rfl
                  have hcz25_2 : wr.cell? ⟨gb413, 2, none⟩ = some (.slice A0_2 l0_2.length c0_2) := (qi BK413.out 2).trans rfl
                  have hfz25_0 := qh BK413.out 0
                  have hfz25_1 := qh BK413.out 1
                  have hfz25_2 := qh BK413.out 2
                  have p418 : 0 ≤ (x7_2 : Int) := of_decide_eq_true (by first | (with_reducible assumption) | assumption)
                  have q418 : x7_2 < (l0_2.length : Int) := of_decide_eq_true (by first | (with_reducible assumption) | assumption)
                  obtain ⟨ad418, e418, hx418_0, hx418_1, hx418_2⟩ := vN HR0_2.out x7_2 p418 q418
                  cases e418
                  replace hx418_0 := (HB.out.cell (World.block_lt_of_cell? w _ hx418_0)).trans hx418_0
                  replace hx418_1 := (HB.out.cell (World.block_lt_of_cell? w _ hx418_1)).trans hx418_1
                  replace hx418_2 := (HB.out.cell (World.block_lt_of_cell? w _ hx418_2)).trans hx418_2
                  replace p418 := eq_true p418
                  replace q418 := eq_true q418
                  have p419 : 0 ≤ (((qf l0_2 x7_2).f0) : Int) := of_decide_eq_true (by first | (with_reducible assumption) | assumption)
                  have q419 : ((qf l0_2 x7_2).f0) < (x5_2.length : Int) := of_decide_eq_true (by first | (with_reducible assumption) | assumption)
                  obtain ⟨ad419, e419, hx419_0⟩ := Kd.zG (Kd.qN HO_5.out).2.2 ((qf l0_2 x7_2).f0) p419 q419
                  (try rw [← Nbq19.out] at hx419_0)
                  (try rw [← Nbq23.out] at hx419_0)
                  obtain rfl : (⟨go7, 0, none⟩ : Addr) = ad419 := (by injection e419)
                  (first | simp only [add_plain] at hx419_0 | simp only [wM] at hx419_0 | simp only [Addr.add, Nat.zero_add] at hx419_0 | skip)
                  replace p419 := eq_true p419
                  replace q419 := eq_true q419
                  have p420 : 0 ≤ (x7_2 : Int) := of_decide_eq_true (by first | (with_reducible assumption) | assumption)
                  have q420 : x7_2 < (l0_2.length : Int) := of_decide_eq_true (by first | (with_reducible assumption) | assumption)
                  obtain ⟨ad420, e420, hx420_0, hx420_1, hx420_2⟩ := vN HR0_2.out x7_2 p420 q420
                  obtain rfl : ad418 = ad420 := (by injection e420)
                  replace hx420_0 := (HB.out.cell (World.block_lt_of_cell? w _ hx420_0)).trans hx420_0
                  replace hx420_1 := (HB.out.cell (World.block_lt_of_cell? w _ hx420_1)).trans hx420_1
                  replace hx420_2 := (HB.out.cell (World.block_lt_of_cell? w _ hx420_2)).trans hx420_2
                  replace p420 := eq_true p420
                  replace q420 := eq_true q420
                  have p421 : 0 ≤ (((qf l0_2 x7_2).f2) : Int) := of_decide_eq_true (by first | (with_reducible assumption) | assumption)
                  have q421 : ((qf l0_2 x7_2).f2) < (x5_2.length : Int) := of_decide_eq_true (by first | (with_reducible assumption) | assumption)
                  obtain ⟨ad421, e421, hx421_0⟩ := Kd.zG (Kd.qN HO_5.out).2.2 ((qf l0_2 x7_2).f2) p421 q421
                  (try rw [← Nbq19.out] at hx421_0)
                  (try rw [← Nbq23.out] at hx421_0)
                  obtain rfl : (⟨go7, 0, none⟩ : Addr) = ad421 := (by injection e421)
                  (first | simp only [add_plain] at hx421_0 | simp only [wM] at hx421_0 | simp only [Addr.add, Nat.zero_add] at hx421_0 | skip)
                  replace p421 := eq_true p421
                  replace q421 := eq_true q421
                  go_wp2
                  (try simp only [← hl5_2])
                  go_roundg k2
                  case measure => have := HK1.out; have := HK2.out; omega
                  case rel => exact ⟨(x5_2), (x6_2), (wrap64 (x7_2 + 1)), (by first | rfl | (simp; done) | (simp [*]; done)), (by first | rfl | (simp; done) | (simp [*]; done)), H', ⟨by have := HK1.out; have := HK2.out; omega⟩, ⟨by (try simp only [hl5_1]); (try simp only [hl5_2]); (with_reducible repeat (first | apply Kd.R_alloc | apply Kd.qF | apply Kd.qH)); exact HO_5.out⟩, ⟨by (try simp only [hl5_1]); (try simp only [hl5_2]); (with_reducible repeat (first | refine qw ?_ _ | refine qy ?_ | refine qp ?_ _)); exact BK413.out⟩, ⟨by repeat (first | (with_reducible first | exact HB.out | apply qc | apply qa | apply qd | refine qj ?_ GE413.out) | exact HB.out)⟩⟩
                 ·replace c24 := Bool.eq_false_iff.mpr c24
                  subst c24
                  have H1 : (qo.l1 k2 (x5_2.set (((qf l0_2 x7_2).f2) : Int).toNat true) true (wrap64 (x7_2 + 1)) a0_0 l0_1 l0_2) = some r := by rw [if_neg (show ¬ (false = true) by decide)] at H; exact H
                  clear H
                  have H := H1
                  clear H1
                  obtain ⟨y423, hy423⟩ : ∃ y_ : List Bool, y_ = (x5_2.set (((qf l0_2 x7_2).f2) : Int).toNat true) := ⟨_, rfl⟩
                  replace H : (qo.l1 k2 y423 true (wrap64 (x7_2 + 1)) a0_0 l0_1 l0_2) = some r := by first | (rw [hy423]; with_reducible exact H) | (have H2_ := (Option.bind_some _ _).symm.trans H; rw [hy423]; with_reducible exact H2_) | (have H2_ := (Option.bind_some _ _).symm.trans H; with_reducible exact H2_) | with_reducible exact H | (rw [hy423]; exact H) | exact H
                  have Ny423 := qb.mk hy423
                  clear hy423
                  have H' := qb.mk H
                  clear H
                  have hcz27_0 : wr.cell? ⟨gb413, 0, none⟩ = some (.int .i64 a0_0) := (qi BK413.out 0).trans rfl
                  have hcz27_1 : wr.cell? ⟨gb413, 1, none⟩ = some (.slice A0_1 l0_1.length c0_1) := (qi BK413.out 1).trans rfl
                  have hcz27_2 : wr.cell? ⟨gb413, 2, none⟩ = some (.slice A0_2 l0_2.length c0_2) := (qi BK413.out 2).trans rfl
                  have hfz27_0 := qh BK413.out 0
                  have hfz27_1 := qh BK413.out 1
                  have hfz27_2 := qh BK413.out 2
                  have p418 : 0 ≤ (x7_2 : Int) := of_decide_eq_true (by first | (with_reducible assumption) | assumption)
                  have q418 : x7_2 < (l0_2.length : Int) := of_decide_eq_true (by first | (with_reducible assumption) | assumption)
                  obtain ⟨ad418, e418, hx418_0, hx418_1, hx418_2⟩ := vN HR0_2.out x7_2 p418 q418
                  cases e418
                  replace hx418_0 := (HB.out.cell (World.block_lt_of_cell? w _ hx418_0)).trans hx418_0
                  replace hx418_1 := (HB.out.cell (World.block_lt_of_cell? w _ hx418_1)).trans hx418_1
                  replace hx418_2 := (HB.out.cell (World.block_lt_of_cell? w _ hx418_2)).trans hx418_2
                  replace p418 := eq_true p418
                  replace q418 := eq_true q418
                  have p419 : 0 ≤ (((qf l0_2 x7_2).f0) : Int) := of_decide_eq_true (by first | (with_reducible assumption) | assumption)
                  have q419 : ((qf l0_2 x7_2).f0) < (x5_2.length : Int) := of_decide_eq_true (by first | (with_reducible assumption) | assumption)
                  obtain ⟨ad419, e419, hx419_0⟩ := Kd.zG (Kd.qN HO_5.out).2.2 ((qf l0_2 x7_2).f0) p419 q419
                  (try rw [← Nbq19.out] at hx419_0)
                  (try rw [← Nbq23.out] at hx419_0)
                  obtain rfl : (⟨go7, 0, none⟩ : Addr) = ad419 := (by injection e419)
                  (first | simp only [add_plain] at hx419_0 | simp only [wM] at hx419_0 | simp only [Addr.add, Nat.zero_add] at hx419_0 | skip)
                  replace p419 := eq_true p419
                  replace q419 := eq_true q419
                  have p420 : 0 ≤ (x7_2 : Int) := of_decide_eq_true (by first | (with_reducible assumption) | assumption)
                  have q420 : x7_2 < (l0_2.length : Int) := of_decide_eq_true (by first | (with_reducible assumption) | assumption)
                  obtain ⟨ad420, e420, hx420_0, hx420_1, hx420_2⟩ := vN HR0_2.out x7_2 p420 q420
                  obtain rfl : ad418 = ad420 := (by injection e420)
                  replace hx420_0 := (HB.out.cell (World.block_lt_of_cell? w _ hx420_0)).trans hx420_0
                  replace hx420_1 := (HB.out.cell (World.block_lt_of_cell? w _ hx420_1)).trans hx420_1
                  replace hx420_2 := (HB.out.cell (World.block_lt_of_cell? w _ hx420_2)).trans hx420_2
                  replace p420 := eq_true p420
                  replace q420 := eq_true q420
                  have p421 : 0 ≤ (((qf l0_2 x7_2).f2) : Int) := of_decide_eq_true (by first | (with_reducible assumption) | assumption)
                  have q421 : ((qf l0_2 x7_2).f2) < (x5_2.length : Int) := of_decide_eq_true (by first | (with_reducible assumption) | assumption)
                  obtain ⟨ad421, e421, hx421_0⟩ := Kd.zG (Kd.qN HO_5.out).2.2 ((qf l0_2 x7_2).f2) p421 q421
                  (try rw [← Nbq19.out] at hx421_0)
                  (try rw [← Nbq23.out] at hx421_0)
                  obtain rfl : (⟨go7, 0, none⟩ : Addr) = ad421 := (by injection e421)
                  (first | simp only [add_plain] at hx421_0 | simp only [wM] at hx421_0 | simp only [Addr.add, Nat.zero_add] at hx421_0 | skip)
                  replace p421 := eq_true p421
                  replace q421 := eq_true q421
                  have p422 : 0 ≤ (x7_2 : Int) := of_decide_eq_true (by first | (with_reducible assumption) | assumption)
                  have q422 : x7_2 < (l0_2.length : Int) := of_decide_eq_true (by first | (with_reducible assumption) | assumption)
                  obtain ⟨ad422, e422, hx422_0, hx422_1, hx422_2⟩ := vN HR0_2.out x7_2 p422 q422
                  obtain rfl : ad418 = ad422 := (by injection e422)
                  replace hx422_0 := (HB.out.cell (World.block_lt_of_cell? w _ hx422_0)).trans hx422_0
                  replace hx422_1 := (HB.out.cell (World.block_lt_of_cell? w _ hx422_1)).trans hx422_1
                  replace hx422_2 := (HB.out.cell (World.block_lt_of_cell? w _ hx422_2)).trans hx422_2
                  replace p422 := eq_true p422
                  replace q422 := eq_true q422
                  have p26 : 0 ≤ (((qf l0_2 x7_2).f2) : Int) := of_decide_eq_true (by first | (with_reducible assumption) | assumption)
                  have q26 : (((qf l0_2 x7_2).f2) : Int) < ((x5_2.length : Int) : Int) := of_decide_eq_true (by first | (with_reducible assumption) | assumption)
                  obtain ⟨hx26_0, hf26_0⟩ := Kd.jb false HO_5.out (((qf l0_2 x7_2).f2) : Int) p26 q26
                  replace p26 := eq_true p26
                  replace q26 := eq_true q26
                  have HP28 := Kd.yF HO_5.out (((qf l0_2 x7_2).f2) : Int) true
                  go_wp2_with (first | ((with_reducible refine wI (t := 4) (p := 50) rfl ?_); refine wm (t := 4) (p := 50) (v := ?vo_w29) (w1 := (wr.setCell ⟨go7, (((qf l0_2 x7_2).f2) : Int).toNat, none⟩ (.bool true))) ?hg ?ho ?hn ?hr ?_; (case ho => rfl); (case hg => rfl); (case hn => rfl); (case hr => first | (go_simp; done) | (go_simp; rfl)); intro w29 hw; have hg : wr.grownBy w29 (some go7) := (by rw [hw]; exact HP28.2); have hp_ : Kd.R Kd.bool 4 w29 w.heap.size (fun _ => True) (.slice (some ⟨go7, 0, none⟩) x5_2.length co7) y423 := (by rw [hw, Ny423.out]; exact HP28.1); clear HP28; have n0_ := qb.mk (hp_); have n1_ := qb.mk (zm (g := gb413) (o := .cells #[.int .i64 a0_0, .slice A0_1 l0_1.length c0_1, .slice (some ad418) l0_2.length c0_2] 25 (0, 0)) (by (with_reducible repeat (first | refine qw ?_ _ | refine qy ?_ | refine qp ?_ _)); exact BK413.out) hg (Kd.R_ne HO_5.out BK413.out (by decide))); have n2_ := qb.mk ((by rw [hw]; exact qj (HB.out) GB7.out : Below w.heap.size w w29)); clear HO_5; clear BK413; clear HB; have HO_5 := n0_; have BK413 := n1_; have HB := n2_; clear n0_ n1_ n2_; clear hg hw hp_))
                  (try simp only [← hl5_2])
                  go_roundg k2
                  case measure => have := HK1.out; have := HK2.out; omega
                  case rel => exact ⟨(y423), (true), (wrap64 (x7_2 + 1)), (by first | rfl | (simp; done) | (simp [*]; done)), (by first | rfl | (simp; done) | (simp [*]; done)), H', ⟨by have := HK1.out; have := HK2.out; omega⟩, ⟨by (try simp only [hl5_1]); (try simp only [hl5_2]); (with_reducible repeat (first | apply Kd.R_alloc | apply Kd.qF | apply Kd.qH)); exact HO_5.out⟩, ⟨by (try simp only [hl5_1]); (try simp only [hl5_2]); (with_reducible repeat (first | refine qw ?_ _ | refine qy ?_ | refine qp ?_ _)); exact BK413.out⟩, ⟨by repeat (first | (with_reducible first | exact HB.out | apply qc | apply qa | apply qd | refine qj ?_ GE413.out) | exact HB.out)⟩⟩
                ·rw [if_neg c22] at H
                 exact absurd H (by simp)
               ·rw [if_neg c21] at H
                exact absurd H (by simp)
              ·replace c20 := Bool.eq_false_iff.mpr c20
               subst c20
               have H1 : (qo.l1 k2 x5_2 x6_2 (wrap64 (x7_2 + 1)) a0_0 l0_1 l0_2) = some r := by rw [if_neg (show ¬ (false = true) by decide)] at H; exact H
               clear H
               have H := H1
               clear H1
               have H' := qb.mk H
               clear H
               have hcz30_0 : wr.cell? ⟨gb413, 0, none⟩ = some (.int .i64 a0_0) := (qi BK413.out 0).trans rfl
               have hcz30_1 : wr.cell? ⟨gb413, 1, none⟩ = some (.slice A0_1 l0_1.length c0_1) := (qi BK413.out 1).trans rfl
               have hcz30_2 : wr.cell? ⟨gb413, 2, none⟩ = some (.slice A0_2 l0_2.length c0_2) := (qi BK413.out 2).trans rfl
               have hfz30_0 := qh BK413.out 0
               have hfz30_1 := qh BK413.out 1
               have hfz30_2 := qh BK413.out 2
               have p418 : 0 ≤ (x7_2 : Int) := of_decide_eq_true (by first | (with_reducible assumption) | assumption)
               have q418 : x7_2 < (l0_2.length : Int) := of_decide_eq_true (by first | (with_reducible assumption) | assumption)
               obtain ⟨ad418, e418, hx418_0, hx418_1, hx418_2⟩ := vN HR0_2.out x7_2 p418 q418
               cases e418
               replace hx418_0 := (HB.out.cell (World.block_lt_of_cell? w _ hx418_0)).trans hx418_0
               replace hx418_1 := (HB.out.cell (World.block_lt_of_cell? w _ hx418_1)).trans hx418_1
               replace hx418_2 := (HB.out.cell (World.block_lt_of_cell? w _ hx418_2)).trans hx418_2
               replace p418 := eq_true p418
               replace q418 := eq_true q418
               have p419 : 0 ≤ (((qf l0_2 x7_2).f0) : Int) := of_decide_eq_true (by first | (with_reducible assumption) | assumption)
               have q419 : ((qf l0_2 x7_2).f0) < (x5_2.length : Int) := of_decide_eq_true (by first | (with_reducible assumption) | assumption)
               obtain ⟨ad419, e419, hx419_0⟩ := Kd.zG (Kd.qN HO_5.out).2.2 ((qf l0_2 x7_2).f0) p419 q419
               (try rw [← Nbq19.out] at hx419_0)
               obtain rfl : (⟨go7, 0, none⟩ : Addr) = ad419 := (by injection e419)
               (first | simp only [add_plain] at hx419_0 | simp only [wM] at hx419_0 | simp only [Addr.add, Nat.zero_add] at hx419_0 | skip)
               replace p419 := eq_true p419
               replace q419 := eq_true q419
               go_wp2
               (try simp only [← hl5_2])
               go_roundg k2
               case measure => have := HK1.out; have := HK2.out; omega
               case rel => exact ⟨(x5_2), (x6_2), (wrap64 (x7_2 + 1)), (by first | rfl | (simp; done) | (simp [*]; done)), (by first | rfl | (simp; done) | (simp [*]; done)), H', ⟨by have := HK1.out; have := HK2.out; omega⟩, ⟨by (try simp only [hl5_1]); (try simp only [hl5_2]); (with_reducible repeat (first | apply Kd.R_alloc | apply Kd.qF | apply Kd.qH)); exact HO_5.out⟩, ⟨by (try simp only [hl5_1]); (try simp only [hl5_2]); (with_reducible repeat (first | refine qw ?_ _ | refine qy ?_ | refine qp ?_ _)); exact BK413.out⟩, ⟨by repeat (first | (with_reducible first | exact HB.out | apply qc | apply qa | apply qd | refine qj ?_ GE413.out) | exact HB.out)⟩⟩
             ·rw [if_neg c18] at H
              exact absurd H (by simp)
            ·rw [if_neg c17] at H
             exact absurd H (by simp)
           ·rw [if_neg c16] at H
            exact absurd H (by simp)
          ·rw [if_neg c15] at H
           have c15b0 : decide (x7_2 < (l0_2.length : Int)) = false := decide_eq_false c15
           clear c15
           have H' := qb.mk H
           clear H
           have hcz31_0 : wr.cell? ⟨gb413, 0, none⟩ = some (.int .i64 a0_0) := (qi BK413.out 0).trans rfl
           have hcz31_1 : wr.cell? ⟨gb413, 1, none⟩ = some (.slice A0_1 l0_1.length c0_1) := (qi BK413.out 1).trans rfl
           have hcz31_2 : wr.cell? ⟨gb413, 2, none⟩ = some (.slice A0_2 l0_2.length c0_2) := (qi BK413.out 2).trans rfl
           have hfz31_0 := qh BK413.out 0
           have hfz31_1 := qh BK413.out 1
           have hfz31_2 := qh BK413.out 2
           go_wp2
           (try simp only [← hl5_1, ← hl5_2])
           go_roundg k2
           case measure => have := HK1.out; have := HK2.out; omega
           case rel => exact ⟨(x5_2), (x6_2), (by first | rfl | (simp; done) | (simp [*]; done)), H', ⟨by have := HK1.out; have := HK2.out; omega⟩, ⟨by (try simp only [hl5_1]); (try simp only [hl5_2]); (with_reducible repeat (first | apply Kd.R_alloc | apply Kd.qF | apply Kd.qH)); exact HO_5.out⟩, ⟨by (try simp only [hl5_1]); (try simp only [hl5_2]); (with_reducible repeat (first | refine qw ?_ _ | refine qy ?_ | refine qp ?_ _)); exact BK413.out⟩, ⟨by repeat (first | (with_reducible first | exact HB.out | apply qc | apply qa | apply qd | refine qj ?_ GE413.out) | exact HB.out)⟩⟩
       ·replace c14 := Bool.eq_false_iff.mpr c14
        subst c14
        have H1 : (some x5_1) = some r := by rw [if_neg (show ¬ (false = true) by decide)] at H; exact H
        clear H
        have H := H1
        clear H1
        obtain rfl := Option.some.inj H
        go_wp2
        go_ret
        exact ⟨_, by first | rfl | (simp [errW_none, errW_some] <;> rfl) | (simp [*, errW_none, errW_some] <;> rfl), by (with_reducible repeat (first | apply Kd.R_alloc | apply Kd.qF | apply Kd.qH)); exact HO_5.out, by repeat (first | (with_reducible first | exact HB.out | apply qc | apply qa | apply qd | refine qj ?_ GE413.out) | exact HB.out)⟩
    ·rw [if_neg c6] at H
     exact absurd H (by simp)
   ·rw [if_neg c5] at H
    exact absurd H (by simp)
  ·rw [if_neg c4] at H
   exact absurd H (by simp)
 ·rw [if_neg c3] at H
  exact absurd H (by simp)
end Go.Proofs.Ytcjbghmhdefdiaa.S
namespace Go.Proofs.Ytcjbghmhdefdiaa.S
open Go.RowKit Go.Proofs.YtcjbghmhdefdiaaW.PrintWords Go.Proofs.YtcjbghmhdefdiaaW.PrintLast Go.Proofs.YtcjbghmhdefdiaaW.PrintMore
set_option linter.unusedVariables false
set_option linter.unusedSimpArgs false
structure Fits (n m : Int) (es : List S55) : Prop where
 from0 : ∀ e ∈ es, 0 ≤ e.f0 ∧ e.f0 < n
 to0 : ∀ e ∈ es, 0 ≤ e.f2 ∧ e.f2 < n
 lab : ∀ e ∈ es, 0 ≤ e.f1 ∧ e.f1 < m
 strict : es.Pairwise ltE
theorem kJ {n m : Int} {es : List S55} (h : vZ n m es = true) : Fits n m es := by
 unfold vZ at h
 rw [List.all_eq_true] at h
 have each : ∀ i (hi : i < es.length), (0 ≤ es[i].f0 ∧ es[i].f0 < n) ∧ (0 ≤ es[i].f2 ∧ es[i].f2 < n) ∧ 0 ≤ es[i].f1 ∧ es[i].f1 < m ∧ (i = 0 ∨ cmpE (qf es ((i : Int) - 1)) es[i] < 0) := by
  intro i hi
  have := h i (List.mem_range.2 hi)
  unfold edgeOk at this
  rw [zP hi] at this
  simpa only [Bool.and_eq_true, Bool.or_eq_true, decide_eq_true_iff] using this
 refine ⟨fun e he => ?_, fun e he => ?_, fun e he => ?_, ?_⟩
 ·obtain ⟨i, hi, rfl⟩ := List.mem_iff_getElem.1 he
  exact (each i hi).1
 ·obtain ⟨i, hi, rfl⟩ := List.mem_iff_getElem.1 he
  exact (each i hi).2.1
 ·obtain ⟨i, hi, rfl⟩ := List.mem_iff_getElem.1 he
  exact ⟨(each i hi).2.2.1, (each i hi).2.2.2.1⟩
 ·refine wW Ql fun i hi => ?_
  rcases (each (i + 1) hi).2.2.2.2 with h1 | h1
  ·omega
  ·rw [show (((i + 1 : Nat) : Int) - 1) = (i : Int) by omega, zP (by omega)] at h1
   exact (yx _ _).1 h1
theorem xU {a b : S55} (h : ltE a b) : a.f0 ≤ b.f0 := by
 have := (yx a b).2 h
 unfold cmpE at this
 repeat' split at this
 all_goals omega
theorem mid_at {i j : Nat} (h : j < 1000000) (hij : i ≤ j) : wrap64 ((IntKind.u64.wrap (wrap64 ((i : Int) + (j : Int)))) / 2) = (((i + j) / 2 : Nat) : Int) := by
 rw [wrap_small (i := (i : Int) + j) (by omega) (by omega)]
 have : IntKind.u64.wrap ((i : Int) + j) = (i : Int) + j := by
  simp only [IntKind.wrap, IntKind.signed, IntKind.bits]
  simp
  omega
 rw [this, wrap_small (by omega) (by omega)]
 omega
theorem QD (es : List S55) (node : Int) (hlen : es.length < 1000000) (hs : es.Pairwise ltE) (d : Nat) : ∀ (k i j : Nat), i ≤ j → j ≤ es.length → j - i ≤ d → d < k →
  (∀ q (h : q < es.length), q < i → es[q].f0 < node) → (∀ q (h : q < es.length), j ≤ q → node ≤ es[q].f0) →
  ∃ (p : Nat) (b : Bool), qQ.l0 k es node (es.length : Int) (i : Int) (j : Int) = some (Int.ofNat p, b) ∧ p ≤ es.length ∧ (∀ q (h : q < es.length), q < p → es[q].f0 < node) ∧ (∀ q (h : q < es.length), p ≤ q → node ≤ es[q].f0) := by
 have fin : ∀ (k i : Nat), i ≤ es.length → (∀ q (h : q < es.length), q < i → es[q].f0 < node) → (∀ q (h : q < es.length), i ≤ q → node ≤ es[q].f0) →
  ∃ (p : Nat) (b : Bool), qQ.l0 (k + 1) es node (es.length : Int) (i : Int) (i : Int) = some (Int.ofNat p, b) ∧ p ≤ es.length ∧ (∀ q (h : q < es.length), q < p → es[q].f0 < node) ∧ (∀ q (h : q < es.length), p ≤ q → node ≤ es[q].f0) := by
  intro k i hi h1 h2
  rw [qQ.l0, if_neg (by omega)]
  by_cases h3 : (i : Int) < (es.length : Int)
  ·rw [if_pos h3, if_pos (by omega), if_pos h3]
   unfold zB.f
   rw [wy]
   simp only [Option.bind_some]
   exact ⟨i, _, rfl, hi, h1, h2⟩
  ·rw [if_neg h3]
   exact ⟨i, _, rfl, hi, h1, h2⟩
 induction d with
 | zero =>
  intro k i j hij hj hd hk h1 h2
  obtain ⟨k, rfl⟩ : ∃ k', k = k' + 1 := ⟨k - 1, by omega⟩
  obtain rfl : i = j := by omega
  exact fin k i hj h1 h2
 | succ d ih =>
  intro k i j hij hj hd hk h1 h2
  obtain ⟨k, rfl⟩ : ∃ k', k = k' + 1 := ⟨k - 1, by omega⟩
  rcases Nat.lt_or_eq_of_le hij with hlt | heq
  ·rw [qQ.l0, if_pos (by omega), mid_at (by omega) hij]
   obtain ⟨h, hh⟩ : ∃ h, h = (i + j) / 2 := ⟨_, rfl⟩
   rw [← hh]
   have hhl : h < es.length := by omega
   rw [if_pos (by omega), if_pos (by omega), zP hhl]
   unfold zB.f
   rw [wy]
   simp only [Option.bind_some]
   by_cases hc : es[h].f0 < node
   ·rw [if_pos hc, if_pos (by decide), za (by omega)]
    refine ih k (h + 1) j (by omega) hj (by omega) (by omega) (fun q hq hqi => ?_) h2
    rcases Nat.lt_or_eq_of_le (Nat.le_of_lt_succ hqi) with h3 | h3
    ·have := xU (List.pairwise_iff_getElem.1 hs q h hq hhl h3)
     omega
    ·subst h3; exact hc
   ·rw [if_neg hc, if_neg (by split <;> decide)]
    refine ih k i h (by omega) (by omega) (by omega) (by omega) h1 (fun q hq hqh => ?_)
    rcases Nat.lt_or_eq_of_le hqh with h3 | h3
    ·have := xU (List.pairwise_iff_getElem.1 hs h q hhl hq h3)
     omega
    ·subst h3; omega
  ·subst heq
   exact fin k i hj h1 h2
theorem wh (node : Int) : ∀ (l : List S55), l.Pairwise ltE → (∀ e ∈ l, node ≤ e.f0) → l.takeWhile (fun e => decide (e.f0 = node)) = l.filter (fun e => decide (e.f0 = node))
 | [], _, _ => rfl
 | e :: l, hs, h => by
  obtain ⟨h1, h2⟩ := List.pairwise_cons.1 hs
  by_cases he : e.f0 = node
  ·rw [List.takeWhile_cons, if_pos (decide_eq_true he), List.filter_cons, if_pos (decide_eq_true he), wh node l h2 (fun x hx => h x (List.mem_cons_of_mem _ hx))]
  ·rw [List.takeWhile_cons, if_neg (by simpa using he)]
   symm
   rw [List.filter_eq_nil_iff]
   intro x hx
   simp only [decide_eq_true_iff]
   have hle := h e List.mem_cons_self
   rcases List.mem_cons.1 hx with h3 | h3
   ·subst h3; exact he
   ·have := xU (h1 x h3)
    omega
def jh (es : List S55) (node : Int) : List S55 := es.filter fun e => decide (e.f0 = node)
theorem out_at (n : Int) (ls : List ByteArray) (es : List S55) (node : Int) (hlen : es.length < 1000000) (hs : es.Pairwise ltE) {k : Nat} (hk : es.length < k) : vR.f k n ls es node = some (jh es node) := by
 obtain ⟨p, b, h1, h2, h3, h4⟩ := QD es node hlen hs es.length k 0 es.length (by omega) (by omega) (by omega) hk (fun q _ h => by omega) (fun q h1 h2 => by omega)
 unfold vR.f qQ.f
 rw [show ((0 : Nat) : Int) = 0 from rfl, show Int.ofNat p = (p : Int) from rfl] at h1
 rw [h1, Option.bind_some, if_pos ⟨by omega, by omega, by omega⟩]
 congr 1
 show yn es node ((p : Nat) : Int).toNat = _
 rw [Int.toNat_natCast]
 unfold yn jh
 rw [wh node _ (hs.sublist (List.drop_sublist _ _))]
 ·conv => rhs; rw [← List.take_append_drop p es, List.filter_append]
  have hz : (es.take p).filter (fun e => decide (e.f0 = node)) = [] := by
   rw [List.filter_eq_nil_iff]
   intro x hx
   obtain ⟨i, hi, rfl⟩ := List.mem_iff_getElem.1 hx
   rw [List.length_take] at hi
   rw [List.getElem_take]
   have := h3 i (by omega) (by omega)
   simp only [decide_eq_true_iff]
   omega
  rw [hz, List.nil_append]
 ·intro x hx
  obtain ⟨i, hi, rfl⟩ := List.mem_iff_getElem.1 hx
  rw [List.length_drop] at hi
  rw [List.getElem_drop]
  exact h4 _ (by omega) (by omega)
inductive Rch (es : List S55) (node : Int) : Int → Prop
 | here : Rch es node node
 | step {x : Int} (e : S55) : Rch es node x → e ∈ es → e.f0 = x → Rch es node e.f2
theorem Rch.trans {es : List S55} {a b c : Int} (h1 : Rch es a b) (h2 : Rch es b c) : Rch es a c := by
 induction h2 with
 | here => exact h1
 | step e _ he hx ih => exact Rch.step e ih he hx
def zl : List Bool → Nat → List Int
 | [], _ => []
 | b :: l, i => if b = true then (i : Int) :: zl l (i + 1) else zl l (i + 1)
theorem z8 (b : Bool) (l : List Bool) (i : Nat) : zl (b :: l) i = if b = true then (i : Int) :: zl l (i + 1) else zl l (i + 1) := rfl
theorem j3 : ∀ (l : List Bool) (i : Nat) (x : Int), x ∈ zl l i ↔ ∃ j : Nat, j < l.length ∧ x = ((i + j : Nat) : Int) ∧ l[j]? = some true
 | [], i, x => by simp [zl]
 | b :: l, i, x => by
  have ih := j3 l (i + 1) x
  have split : (∃ j : Nat, j < (b :: l).length ∧ x = ((i + j : Nat) : Int) ∧ (b :: l)[j]? = some true) ↔ (b = true ∧ x = (i : Int)) ∨ ∃ j : Nat, j < l.length ∧ x = ((i + 1 + j : Nat) : Int) ∧ l[j]? = some true := by
   constructor
   ·rintro ⟨j, h1, h2, h3⟩
    cases j with
    | zero => exact .inl ⟨by simpa using h3, by simpa using h2⟩
    | succ j => exact .inr ⟨j, by simpa using h1, by rw [h2]; congr 1; omega, by simpa using h3⟩
   ·rintro (⟨h1, h2⟩ | ⟨j, h1, h2, h3⟩)
    ·exact ⟨0, by simp, by simpa using h2, by simp [h1]⟩
    ·exact ⟨j + 1, by simpa using h1, by rw [h2]; congr 1; omega, by simpa using h3⟩
  rw [split, ← ih, z8]
  by_cases hb : b = true
  ·rw [if_pos hb, List.mem_cons]
   simp [hb]
  ·rw [if_neg hb]
   simp [hb]
theorem jK {l : List Bool} {j : Nat} (h : j < l.length) : rdOf false l (j : Int) = l[j] := zX h
theorem l2_at : ∀ (m k i : Nat) (acc : List Int) (l : List Bool), i + m = l.length → m < k → l.length < 5000 → acc.length ≤ i → qz.l2 k acc l (l.length : Int) (i : Int) = some (acc ++ zl (l.drop i) i)
 | 0, k + 1, i, acc, l, h, _, _, _ => by
  rw [qz.l2, if_neg (by omega), List.drop_eq_nil_of_le (by omega)]
  simp [zl]
 | m + 1, k + 1, i, acc, l, h, hk, hl, ha => by
  have hi : i < l.length := by omega
  rw [qz.l2, if_pos (by omega), if_pos (by omega), if_pos (by omega), jK hi, za (by omega), List.drop_eq_getElem_cons hi, z8]
  by_cases hb : l[i] = true
  ·rw [if_pos hb, if_pos hb, if_pos (by omega), l2_at m k (i + 1) _ l (by omega) (by omega) hl (by simp; omega)]
   simp
  ·rw [if_neg hb, if_neg hb]
   exact l2_at m k (i + 1) acc l (by omega) (by omega) hl (by omega)
end Go.Proofs.Ytcjbghmhdefdiaa.S
namespace Go.Proofs.Ytcjbghmhdefdiaa.S
open Go.RowKit Go.Proofs.YtcjbghmhdefdiaaW.PrintWords Go.Proofs.YtcjbghmhdefdiaaW.PrintLast Go.Proofs.YtcjbghmhdefdiaaW.PrintMore
set_option linter.unusedVariables false
set_option linter.unusedSimpArgs false
open Classical in
noncomputable def closB (es : List S55) (n : Nat) (node : Int) : List Bool := (List.range n).map fun j : Nat => decide (Rch es node (j : Int))
theorem zH (es : List S55) (n : Nat) (node : Int) : (closB es n node).length = n := by simp [closB]
theorem wT {es : List S55} {n : Nat} {node : Int} {j : Nat} (h : j < n) : (closB es n node)[j]? = some true ↔ Rch es node (j : Int) := by
 simp [closB, h]
theorem Rch.range {n m : Int} {es : List S55} (hf : Fits n m es) {node : Int} (h0 : 0 ≤ node) (h1 : node < n) {x : Int} (h : Rch es node x) : 0 ≤ x ∧ x < n := by
 induction h with
 | here => exact ⟨h0, h1⟩
 | step e _ he _ _ => exact hf.to0 e he
structure Met (es : List S55) (n : Nat) (node : Int) (met : List Bool) : Prop where
 len : met.length = n
 sound : ∀ j : Nat, met[j]? = some true → Rch es node (j : Int)
 node : met[node.toNat]? = some true
theorem Met.set {es : List S55} {n : Nat} {node : Int} {met : List Bool} (h : Met es n node met) {j : Nat} (hr : Rch es node (j : Int)) : Met es n node (met.set j true) := by
 refine ⟨by rw [List.length_set]; exact h.len, fun i hi => ?_, ?_⟩
 ·rw [List.getElem?_set] at hi
  split at hi
  ·rename_i e; subst e; exact hr
  ·exact h.sound i hi
 ·rw [List.getElem?_set]
  split
  ·rename_i e
   rw [e]
   have := (List.getElem?_eq_some_iff.1 h.node).1
   rw [if_pos this]
  ·exact h.node
theorem Met.eq {es : List S55} {n : Nat} {node : Int} {met : List Bool} (h : Met es n node met) (h0 : 0 ≤ node) (hr : ∀ e ∈ es, 0 ≤ e.f2) (hc : ∀ j : Nat, met[j]? = some true → ∀ e ∈ es, e.f0 = (j : Int) → met[e.f2.toNat]? = some true) : met = closB es n node := by
 have all : ∀ x, Rch es node x → 0 ≤ x ∧ met[x.toNat]? = some true := by
  intro x hx
  induction hx with
  | here => exact ⟨h0, h.node⟩
  | step e _ he hx ih =>
   refine ⟨hr e he, hc _ ih.2 e he ?_⟩
   rw [hx, Int.toNat_of_nonneg ih.1]
 apply List.ext_getElem?
 intro j
 by_cases hj : j < n
 ·have hm : ∃ b, met[j]? = some b := ⟨met[j]'(by rw [h.len]; exact hj), List.getElem?_eq_getElem _⟩
  obtain ⟨b, hb⟩ := hm
  have hcl : ∃ b, (closB es n node)[j]? = some b := ⟨_, List.getElem?_eq_getElem (by rw [zH]; exact hj)⟩
  obtain ⟨c, hcb⟩ := hcl
  have i1 : (b = true) ↔ (c = true) := by
   constructor
   ·intro hbt
    subst hbt
    have := (wT hj).2 (h.sound j hb)
    rw [hcb] at this
    exact Option.some.inj this
   ·intro hct
    subst hct
    have := (all _ ((wT hj).1 hcb)).2
    rw [Int.toNat_natCast, hb] at this
    exact Option.some.inj this
  rw [hb, hcb]
  cases b <;> cases c <;> simp_all
 ·rw [List.getElem?_eq_none (by rw [h.len]; omega), List.getElem?_eq_none (by rw [zH]; omega)]
def wG (l : List Bool) : Nat := l.countP (fun b => !b)
theorem xu {l : List Bool} {j : Nat} (h : l[j]? = some false) : wG (l.set j true) + 1 = wG l := by
 induction l generalizing j with
 | nil => simp at h
 | cons b l ih =>
  cases j with
  | zero =>
   simp at h
   subst h
   simp [wG]
  | succ j =>
   have := ih (j := j) (by simpa using h)
   simp only [wG, List.set_cons_succ, List.countP_cons] at this ⊢
   omega
theorem Qv {met : List Bool} {x : Int} (h0 : 0 ≤ x) (h1 : x < met.length) : ∃ b, met[x.toNat]? = some b ∧ rdOf false met x = b := by
 refine ⟨met[x.toNat]'(by omega), List.getElem?_eq_getElem _, ?_⟩
 have := jK (l := met) (j := x.toNat) (by omega)
 rw [Int.toNat_of_nonneg h0] at this
 exact this
section
variable (n : Int) (ls : List ByteArray) (es : List S55)
theorem lr0 {met : List Bool} {q : List Int} {r : List Int} {k k' : Nat} (h : qz.l0 k met q n ls es = some r) (hk : k ≤ k') : qz.l0 k' met q n ls es = some r := up (fun k => (qz.vQ k).2.1 _ _ _ _ _) h hk
theorem lr1 {met : List Bool} {q : List Int} {o : List S55} {a b : Int} {r : List Int} {k k' : Nat} (h : qz.l1 k met q o a b n ls es = some r) (hk : k ≤ k') : qz.l1 k' met q o a b n ls es = some r := up (fun k => (qz.vQ k).2.2.1 _ _ _ _ _ _ _ _) h hk
set_option linter.unusedSectionVars false
variable {m : Int} (hf : Fits n m es) (hlen : es.length < 1000000) {node : Int} (h0 : 0 ≤ node) (h1 : node < n) (hn : n ≤ 2048)
include hf hlen h0 h1 hn
theorem kM (M : Nat) : ∀ out : List Bool, wG out ≤ M → Met es n.toNat node out → ∃ k, qo.l0 k out true n ls es = some (closB es n.toNat node) := by
 induction M using Nat.strongRecOn with
 | _ M IH =>
  intro out hM hmet
  have hlo := hmet.len
  have pass : ∀ (d i : Nat) (o : List Bool) (fl : Bool), i + d = es.length → Met es n.toNat node o → (fl = false → o = out ∧ ∀ j (h : j < es.length), j < i → o[es[j].f0.toNat]? = some true → o[es[j].f2.toNat]? = some true) → (fl = true → wG o < wG out) →
    ∃ k, qo.l1 k o fl (i : Int) n ls es = some (closB es n.toNat node) := by
   intro d
   induction d with
   | zero =>
    intro i o fl hi hm h3 h4
    have hie : i = es.length := by omega
    cases fl with
    | true =>
     obtain ⟨k, hk⟩ := IH (wG o) (by have := h4 rfl; omega) o (Nat.le_refl _) hm
     exact ⟨k + 1, by rw [qo.l1, if_neg (by omega)]; exact hk⟩
    | false =>
     refine ⟨2, ?_⟩
     rw [qo.l1, if_neg (by omega), qo.l0, if_neg (by decide)]
     congr 1
     refine hm.eq h0 (fun e he => (hf.to0 e he).1) fun j hj e he hef => ?_
     obtain ⟨q, hq, rfl⟩ := List.mem_iff_getElem.1 he
     exact (h3 rfl).2 q hq (by omega) (by rw [hef, Int.toNat_natCast]; exact hj)
   | succ d ihd =>
    intro i o fl hi hm h3 h4
    have hil : i < es.length := by omega
    have hmem : es[i] ∈ es := List.getElem_mem hil
    have f1 := hf.from0 _ hmem
    have f2 := hf.to0 _ hmem
    have hol := hm.len
    obtain ⟨b1, hb1, hr1⟩ := Qv (met := o) (x := es[i].f0) f1.1 (by rw [hol]; omega)
    obtain ⟨b2, hb2, hr2⟩ := Qv (met := o) (x := es[i].f2) f2.1 (by rw [hol]; omega)
    by_cases hc : b1 = true
    ·subst hc
     by_cases hc2 : b2 = true
     ·subst hc2
      obtain ⟨k, hk⟩ := ihd (i + 1) o fl (by omega) hm (fun e => ⟨(h3 e).1, fun j hj hji hjt => by
       rcases Nat.lt_or_eq_of_le (Nat.le_of_lt_succ hji) with h5 | h5
       ·exact (h3 e).2 j hj h5 hjt
       ·subst h5; exact hb2⟩) h4
      refine ⟨k + 1, ?_⟩
      rw [qo.l1, if_pos (by omega), if_pos (by omega), zP hil, if_pos f1.1, if_pos (by rw [hol]; omega), if_pos hr1, if_pos f2.1, if_pos (by rw [hol]; omega), if_pos hr2, za (by omega)]
      exact hk
     ·have hb2' : b2 = false := by simpa using hc2
      subst hb2'
      have hrt : Rch es node ((es[i].f2.toNat : Nat) : Int) := by
       rw [Int.toNat_of_nonneg f2.1]
       exact Rch.step _ (by have := hm.sound _ hb1; rw [Int.toNat_of_nonneg f1.1] at this; exact this) hmem rfl
      have hfs := xu hb2
      obtain ⟨k, hk⟩ := ihd (i + 1) (o.set es[i].f2.toNat true) true (by omega) (hm.set hrt) (fun e => by cases e) (fun _ => by
       cases fl with
       | true => have := h4 rfl; omega
       | false => have := (h3 rfl).1; subst this; omega)
      refine ⟨k + 1, ?_⟩
      rw [qo.l1, if_pos (by omega), if_pos (by omega), zP hil, if_pos f1.1, if_pos (by rw [hol]; omega), if_pos hr1, if_pos f2.1, if_pos (by rw [hol]; omega), if_neg (by rw [hr2]; decide), za (by omega)]
      exact hk
    ·obtain ⟨k, hk⟩ := ihd (i + 1) o fl (by omega) hm (fun e => ⟨(h3 e).1, fun j hj hji hjt => by
       rcases Nat.lt_or_eq_of_le (Nat.le_of_lt_succ hji) with h5 | h5
       ·exact (h3 e).2 j hj h5 hjt
       ·subst h5; rw [hb1] at hjt; exact absurd (Option.some.inj hjt) hc⟩) h4
     refine ⟨k + 1, ?_⟩
     rw [qo.l1, if_pos (by omega), if_pos (by omega), zP hil, if_pos f1.1, if_pos (by rw [hol]; omega), if_neg (by rw [hr1]; exact hc), za (by omega)]
     exact hk
  obtain ⟨k, hk⟩ := pass es.length 0 out false (by omega) hmet (fun _ => ⟨rfl, fun j _ h => by omega⟩) (fun h => by cases h)
  exact ⟨k + 1, by rw [qo.l0, if_pos rfl]; exact hk⟩
theorem xB : ∃ k, qo.f k n ls es node = some (closB es n.toNat node) := by
 have hm : Met es n.toNat node ((List.replicate n.toNat false).set node.toNat true) := by
  refine ⟨by simp, fun j hj => ?_, ?_⟩
  ·rw [List.getElem?_set] at hj
   split at hj
   ·rename_i e; subst e; rw [Int.toNat_of_nonneg h0]; exact Rch.here
   ·rw [List.getElem?_replicate] at hj
    split at hj <;> cases hj
  ·rw [List.getElem?_set, if_pos rfl, if_pos (by simp; omega)]
 obtain ⟨k, hk⟩ := kM n ls es hf hlen h0 h1 hn _ _ (Nat.le_refl _) hm
 refine ⟨k, ?_⟩
 unfold qo.f
 rw [if_pos (by omega), if_pos (by omega), Option.bind_some, if_pos h0, if_pos (by simp; omega)]
 exact hk
theorem kZ (M : Nat) : ∀ (met : List Bool) (q : List Int), 2 * wG met + q.length ≤ M → q.length + wG met ≤ 5000 → Met es n.toNat node met → (∀ x ∈ q, 0 ≤ x ∧ met[x.toNat]? = some true) →
  (∀ j : Nat, met[j]? = some true → (j : Int) ∈ q ∨ ∀ e ∈ es, e.f0 = (j : Int) → met[e.f2.toNat]? = some true) → ∃ k, qz.l0 k met q n ls es = some (zl (closB es n.toNat node) 0) := by
 induction M with
 | zero =>
  intro met q hM hb hm hq hcl
  obtain rfl : q = [] := List.eq_nil_of_length_eq_zero (by omega)
  have he := hm.eq h0 (fun e he => (hf.to0 e he).1) fun j hj e hes => (hcl j hj).resolve_left (by simp) e hes
  have hl := hm.len
  refine ⟨met.length + 2, ?_⟩
  rw [qz.l0, if_neg (by simp)]
  have := l2_at met.length (met.length + 1) 0 [] met (by omega) (by omega) (by omega) (by simp)
  rw [show ((0 : Nat) : Int) = 0 from rfl] at this
  rw [this, he]
  simp
 | succ M IH =>
  intro met q hM hb hm hq hcl
  cases q with
  | nil =>
   have he := hm.eq h0 (fun e he => (hf.to0 e he).1) fun j hj e hes => (hcl j hj).resolve_left (by simp) e hes
   have hl := hm.len
   refine ⟨met.length + 2, ?_⟩
   rw [qz.l0, if_neg (by simp)]
   have := l2_at met.length (met.length + 1) 0 [] met (by omega) (by omega) (by omega) (by simp)
   rw [show ((0 : Nat) : Int) = 0 from rfl] at this
   rw [this, he]
   simp
  | cons x rest =>
   have hx := hq x List.mem_cons_self
   obtain ⟨O, hO⟩ : ∃ O, O = jh es x := ⟨_, rfl⟩
   have hOm : ∀ e, e ∈ O ↔ e ∈ es ∧ e.f0 = x := by intro e; rw [hO]; unfold jh; rw [List.mem_filter]; simp
   have hOl : O.length ≤ es.length := by rw [hO]; exact List.length_filter_le _ _
   have inner : ∀ (d i : Nat) (met' : List Bool) (tl : List Int), i + d = O.length → 2 * wG met' + tl.length ≤ M → (x :: tl).length + wG met' ≤ 5000 → Met es n.toNat node met' → (∀ y ∈ x :: tl, 0 ≤ y ∧ met'[y.toNat]? = some true) →
     (∀ j : Nat, met'[j]? = some true → (j : Int) ∈ x :: tl ∨ ∀ e ∈ es, e.f0 = (j : Int) → met'[e.f2.toNat]? = some true) → (∀ j (h : j < O.length), j < i → met'[O[j].f2.toNat]? = some true) →
     ∃ k, qz.l1 k met' (x :: tl) O (O.length : Int) (i : Int) n ls es = some (zl (closB es n.toNat node) 0) := by
    intro d
    induction d with
    | zero =>
     intro i met' tl hi hM' hb' hm' hq' hcl' hdone
     obtain ⟨k, hk⟩ := IH met' tl (by omega) (by simp at hb'; omega) hm' (fun y hy => hq' y (List.mem_cons_of_mem _ hy)) (fun j hj => by
      by_cases hjx : (j : Int) = x
      ·refine .inr fun e he hef => ?_
       obtain ⟨p, hp, rfl⟩ := List.mem_iff_getElem.1 ((hOm e).2 ⟨he, hef.trans hjx⟩)
       exact hdone p hp (by omega)
      ·rcases hcl' j hj with h | h
       ·exact .inl ((List.mem_cons.1 h).resolve_left hjx)
       ·exact .inr h)
     refine ⟨k + 1, ?_⟩
     rw [qz.l1, if_neg (by omega), if_pos (by simp; omega)]
     exact hk
    | succ d ihd =>
     intro i met' tl hi hM' hb' hm' hq' hcl' hdone
     have hil : i < O.length := by omega
     have hmem := (hOm _).1 (List.getElem_mem hil)
     have f2 := hf.to0 _ hmem.1
     have hl' := hm'.len
     obtain ⟨b, hb1, hr1⟩ := Qv (met := met') (x := O[i].f2) f2.1 (by rw [hl']; omega)
     by_cases hc : b = true
     ·subst hc
      obtain ⟨k, hk⟩ := ihd (i + 1) met' tl (by omega) hM' hb' hm' hq' hcl' (fun j hj hji => by
       rcases Nat.lt_or_eq_of_le (Nat.le_of_lt_succ hji) with h5 | h5
       ·exact hdone j hj h5
       ·subst h5; exact hb1)
      refine ⟨k + 1, ?_⟩
      rw [qz.l1, if_pos (by omega), if_pos (by omega), if_pos (by omega), zP hil, if_pos f2.1, if_pos (by rw [hl']; omega), if_pos hr1, za (by omega)]
      exact hk
     ·have hb' : b = false := by simpa using hc
      subst hb'
      have hxr : Rch es node x := by have := hm'.sound _ (hq' x List.mem_cons_self).2; rw [Int.toNat_of_nonneg hx.1] at this; exact this
      have hrt : Rch es node ((O[i].f2.toNat : Nat) : Int) := by
       rw [Int.toNat_of_nonneg f2.1]
       exact Rch.step _ hxr hmem.1 hmem.2
      have hfs := xu hb1
      have keep : ∀ j : Nat, met'[j]? = some true → (met'.set O[i].f2.toNat true)[j]? = some true := by
       intro j hj
       rw [List.getElem?_set]
       split
       ·rename_i e; rw [if_pos (by have := (List.getElem?_eq_some_iff.1 hj).1; omega)]
       ·exact hj
      have here : (met'.set O[i].f2.toNat true)[O[i].f2.toNat]? = some true := by
       rw [List.getElem?_set, if_pos rfl, if_pos (by omega)]
      obtain ⟨k, hk⟩ := ihd (i + 1) (met'.set O[i].f2.toNat true) (tl ++ [O[i].f2]) (by omega) (by rw [List.length_append]; simp; omega) (by simp only [List.length_cons, List.length_append, List.length_nil] at hb' ⊢; omega) (hm'.set hrt) (fun y hy => by
        rw [← List.cons_append, List.mem_append] at hy
        rcases hy with hy | hy
        ·exact ⟨(hq' y hy).1, keep _ (hq' y hy).2⟩
        ·obtain rfl : y = O[i].f2 := by simpa using hy
         exact ⟨f2.1, here⟩)
       (fun j hj => by
        by_cases hjn : j = O[i].f2.toNat
        ·refine .inl ?_
         rw [← List.cons_append, List.mem_append]
         refine .inr ?_
         rw [hjn, Int.toNat_of_nonneg f2.1]
         simp
        ·rw [List.getElem?_set, if_neg (fun e => hjn e.symm)] at hj
         rcases hcl' j hj with h | h
         ·refine .inl ?_
          rw [← List.cons_append, List.mem_append]
          exact .inl h
         ·exact .inr fun e he hef => keep _ (h e he hef))
       (fun j hj hji => by
        rcases Nat.lt_or_eq_of_le (Nat.le_of_lt_succ hji) with h5 | h5
        ·exact keep _ (hdone j hj h5)
        ·subst h5; exact here)
      refine ⟨k + 1, ?_⟩
      rw [qz.l1, if_pos (by omega), if_pos (by omega), if_pos (by omega), zP hil, if_pos f2.1, if_pos (by rw [hl']; omega), if_neg (by rw [hr1]; decide), if_pos (by simp only [List.length_cons, List.length_append, List.length_nil] at hb' ⊢; omega), za (by omega)]
      exact hk
   obtain ⟨k, hk⟩ := inner O.length 0 met rest (by omega) (by simp at hM; omega) hb hm hq hcl (fun j _ h => by omega)
   refine ⟨k + es.length + 2, ?_⟩
   rw [qz.l0, if_pos (by simp), if_pos (by simp)]
   have hrd : rd (x :: rest) 0 = x := rfl
   rw [hrd, out_at n ls es x hlen hf.strict (by omega), ← hO, Option.bind_some]
   exact lr1 n ls es hk (by omega)
end
theorem Qz (l : List Bool) : wG l ≤ l.length := List.countP_le_length
theorem jk {n : Int} {ls : List ByteArray} {es : List S55} (hmay : mayF n ls es = true) (hf : Fits n ls.length es) (hlen : es.length < 1000000) {node : Int} (h0 : 0 ≤ node) (h1 : node < n) (hn : n ≤ 2048) : ∃ k, qz.f k n ls es node = some (zl (closB es n.toNat node) 0) := by
 have hm : Met es n.toNat node ((List.replicate n.toNat false).set node.toNat true) := by
  refine ⟨by simp, fun j hj => ?_, ?_⟩
  ·rw [List.getElem?_set] at hj
   split at hj
   ·rename_i e; subst e; rw [Int.toNat_of_nonneg h0]; exact Rch.here
   ·rw [List.getElem?_replicate] at hj
    split at hj <;> cases hj
  ·rw [List.getElem?_set, if_pos rfl, if_pos (by simp; omega)]
 have hfl := Qz ((List.replicate n.toNat false).set node.toNat true)
 rw [hm.len] at hfl
 obtain ⟨k, hk⟩ := kZ n ls es hf hlen h0 h1 hn _ _ [node] (Nat.le_refl _) (by simp; omega) hm (fun x hx => by
                                       have e : x = node := by simpa using hx
                                       rw [e]; exact ⟨h0, hm.node⟩) (fun j hj => by
  rw [List.getElem?_set] at hj
  split at hj
  ·rename_i e; refine .inl ?_; rw [← e, Int.toNat_of_nonneg h0]; simp
  ·rw [List.getElem?_replicate] at hj
   split at hj <;> cases hj)
 refine ⟨k + 141, ?_⟩
 unfold qz.f
 rw [jg _ _ _ _ (by omega), if_pos hmay, Option.bind_some, if_pos rfl, if_neg (by omega), show (decide (node ≥ n)) = false from decide_eq_false (by omega)]
 rw [show k + 141 = (k + 140) + 1 by omega, qz.j0, if_neg (by decide), if_pos (by omega), if_pos (by omega), Option.bind_some, if_pos h0, if_pos (by simp; omega)]
 exact lr0 n ls es hk (by omega)
end Go.Proofs.Ytcjbghmhdefdiaa.S
namespace Go.Proofs.Ytcjbghmhdefdiaa.S
open Go.RowKit Go.Proofs.YtcjbghmhdefdiaaW.PrintWords Go.Proofs.YtcjbghmhdefdiaaW.PrintLast Go.Proofs.YtcjbghmhdefdiaaW.PrintMore
attribute [local go_sem] vG vE vS vT vk vg vD vF
set_option linter.unusedVariables false
set_option linter.unusedSimpArgs false
mutual
def qC.l0 : Nat → Int → Int → List ByteArray → List (S55) → Option (Bool)
 | 0, _, _, _, _ => none
 | k + 1, x3, x102000, x102001, x102002 => if x3 < (x102001.length : Int) then (qC.j1 k x3 (decide (x3 < 70)) x102000 x102001 x102002) else (qC.j1 k x3 false x102000 x102001 x102002)
def qC.j1 : Nat → Int → Bool → Int → List ByteArray → List (S55) → Option (Bool)
 | 0, _, _, _, _, _ => none
 | k + 1, x3, x12, x102000, x102001, x102002 => if x12 = true then (if 0 ≤ x3 then (if x3 < (x102001.length : Int) then (if ((rdOf ByteArray.empty x102001 x3).size : Int) > 300 then (some false) else (qC.l0 k (wrap64 (x3 + 1)) x102000 x102001 x102002)) else (none)) else (none)) else (if (x102001.length : Int) < 70 then (if (x102002.length : Int) ≤ 200 then (if x102000 ≤ 60 then (some true) else (some (decide (x102000 > 2048)))) else (some false)) else (some false))
end
def qC.f (k : Nat) (a0_0 : Int) (l0_1 : List ByteArray) (l0_2 : List (S55)) : Option (Bool) := qC.l0 k 0 a0_0 l0_1 l0_2
theorem qC.vQ : ∀ k, (∀ y0 y1 y2 y3, LeO (qC.l0 k y0 y1 y2 y3) (qC.l0 (k + 1) y0 y1 y2 y3)) ∧ (∀ y0 y1 y2 y3 y4, LeO (qC.j1 k y0 y1 y2 y3 y4) (qC.j1 (k + 1) y0 y1 y2 y3 y4))
 | 0 => ⟨fun _ _ _ _ r h => by simp [qC.l0] at h, fun _ _ _ _ _ r h => by simp [qC.j1] at h⟩
 | k + 1 => by
  obtain ⟨ih0, ih1⟩ := qC.vQ k
  refine ⟨?_, ?_⟩
  ·intro y0 y1 y2 y3
   unfold qC.l0
   repeat' first
   | (with_reducible exact ih0 _ _ _ _)
   | (with_reducible exact ih1 _ _ _ _ _)
   | (with_reducible exact LeO.refl _)
   | (with_reducible exact LeO.none _)
   | (with_reducible refine LeO.ite ?_ ?_)
   | (with_reducible refine LeO.bind ?_ (fun _ => ?_))
   | exact ih0 _ _ _ _
   | exact ih1 _ _ _ _ _
   | exact LeO.none _
   | refine LeO.ite ?_ ?_
   | refine LeO.bind ?_ (fun _ => ?_)
  ·intro y0 y1 y2 y3 y4
   unfold qC.j1
   repeat' first
   | (with_reducible exact ih0 _ _ _ _)
   | (with_reducible exact ih1 _ _ _ _ _)
   | (with_reducible exact LeO.refl _)
   | (with_reducible exact LeO.none _)
   | (with_reducible refine LeO.ite ?_ ?_)
   | (with_reducible refine LeO.bind ?_ (fun _ => ?_))
   | exact ih0 _ _ _ _
   | exact ih1 _ _ _ _ _
   | exact LeO.none _
   | refine LeO.ite ?_ ?_
   | refine LeO.bind ?_ (fun _ => ?_)
theorem qC.mono : ∀ a0 a1 a2 k, LeO (qC.f k a0 a1 a2) (qC.f (k + 1) a0 a1 a2) := by
 intro a0 a1 a2 k
 obtain ⟨ih0, ih1⟩ := qC.vQ k
 unfold qC.f
 repeat' first
   | (with_reducible exact ih0 _ _ _ _)
   | (with_reducible exact ih1 _ _ _ _ _)
   | (with_reducible exact LeO.refl _)
   | (with_reducible exact LeO.none _)
   | (with_reducible refine LeO.ite ?_ ?_)
   | (with_reducible refine LeO.bind ?_ (fun _ => ?_))
   | exact ih0 _ _ _ _
   | exact ih1 _ _ _ _ _
   | exact LeO.none _
   | refine LeO.ite ?_ ?_
   | refine LeO.bind ?_ (fun _ => ?_)
set_option maxHeartbeats 8000000 in
set_option maxRecDepth 100000 in
theorem qC.calls (k : Nat) (a0_0 : Int) (A0_1 : Option Addr) (c0_1 : Nat) (l0_1 : List ByteArray) (A0_2 : Option Addr) (c0_2 : Nat) (l0_2 : List (S55)) (r : Bool) (w : World) (hr0_1 : Kd.C Kd.string w A0_1 l0_1.length l0_1) (hc0_1 : l0_1.length ≤ c0_1) (hr0_2 : Kd.C k55 w A0_2 l0_2.length l0_2) (hc0_2 : l0_2.length ≤ c0_2) (h : qC.f k a0_0 l0_1 l0_2 = some r) :
  Calls Try.prog 63 #[.agg #[.int .i64 a0_0, .slice A0_1 l0_1.length c0_1, .slice A0_2 l0_2.length c0_2]] w fun e w' => e = .returned (.bool r) ∧ Below w.heap.size w w' := by
 have hu25 := Try.underlying25
 have HR0_1 := qb.mk hr0_1
 have HC0_1 := qb.mk hc0_1
 clear hr0_1 hc0_1
 have HR0_2 := qb.mk hr0_2
 have HC0_2 := qb.mk hc0_2
 clear hr0_2 hc0_2
 have HB := qb.mk (Below.refl w.heap.size w)
 have H : (qC.l0 k 0 a0_0 l0_1 l0_2) = some r := h
 clear h
 have H' := qb.mk H
 clear H
 go_enter Try.func63, Try.ntmps63
 go_wp2_with (first | ((with_reducible refine qU (N := 1) rfl ?_); (try (refine zz (by rfl) ?_; dsimp only)); refine qV ?hg (N := 1) ?hd (cs := #[.int .i64 a0_0, .slice A0_1 l0_1.length c0_1, .slice A0_2 l0_2.length c0_2]) (t := 25) ?hr ?_; (case hd => rfl); (case hg => rfl); (case hr => first | (go_simp; done) | (go_simp; rfl)); intro gb101 hg w2 hbox hb; have n0_ := qb.mk (qG (by repeat (first | (with_reducible first | exact HB.out | apply qc | apply qa | apply qd) | exact HB.out)) hb); have n1_ := qb.mk (hbox); have n2_ := qb.mk ((by rw [hg]; exact (qD (by repeat (first | (with_reducible first | exact HB.out | apply qc | apply qa | apply qd) | exact HB.out))) : w.heap.size ≤ gb101)); have n3_ := qb.mk ((by rw [hg]; exact (qD (by repeat (first | (with_reducible first | exact HB.out | apply qc | apply qa | apply qd) | exact HB.out))) : w.heap.size ≤ gb101)); clear HB; have HB := n0_; have BK101 := n1_; have GW101 := n2_; have GE101 := n3_; clear n0_ n1_ n2_ n3_; clear hb hbox hg))
 go_loopg [3] k (fun kq v3 w' => ∃ (x3_1 : Int), v3 = .int .i64 x3_1 ∧ qb (qC.l0 kq x3_1 a0_0 l0_1 l0_2 = some r) ∧ qb (kq ≤ k) ∧ qb (w'.heap[gb101]? = some (.cells #[.int .i64 a0_0, (.slice A0_1 l0_1.length c0_1), (.slice A0_2 l0_2.length c0_2)] 25 (0, 0))) ∧ qb (Below w.heap.size w w'))
 case atStart => exact ⟨(0), (by first | rfl | (simp; done) | (simp [*]; done)), H', ⟨Nat.le_refl _⟩, ⟨by (with_reducible repeat (first | refine qw ?_ _ | refine qy ?_ | refine qp ?_ _)); exact BK101.out⟩, ⟨by repeat (first | (with_reducible first | exact HB.out | apply qc | apply qa | apply qd | refine qj ?_ GE101.out) | exact HB.out)⟩⟩
 case round =>
  clear H'
  try clear p2
  obtain ⟨x3_1, rfl, HA, HK1, BK101, HB⟩ := hrel
  cases gk with
  | zero => exact absurd HA.out (by simp [qC.l0])
  | succ k1 =>
   have H := HA.out
   clear HA
   simp only [qC.l0] at H
   have HC3 := qb.mk H
   clear H
   go_upto_region 2 with (fail)
   go_cut [12] (fun v12 wc => ∃ (kq : Nat) (x12_2 : Bool), v12 = .bool x12_2 ∧ qb (qC.j1 kq x3_1 x12_2 a0_0 l0_1 l0_2 = some r) ∧ qb (kq ≤ k1) ∧ qb (wc.heap[gb101]? = some (.cells #[.int .i64 a0_0, (.slice A0_1 l0_1.length c0_1), (.slice A0_2 l0_2.length c0_2)] 25 (0, 0))) ∧ qb (Below w.heap.size w wc))
   case first =>
    have H := HC3.out
    clear HC3
    by_cases c4 : x3_1 < (l0_1.length : Int)
    ·rw [if_pos c4] at H
     have c4b0 : decide (x3_1 < (l0_1.length : Int)) = true := decide_eq_true c4
     clear c4
     (first | rw [c4b0] | (simp only [ql, qm]; rw [c4b0]) | skip)
     have H' := qb.mk H
     clear H
     have hcz5_0 : wr.cell? ⟨gb101, 0, none⟩ = some (.int .i64 a0_0) := (qi BK101.out 0).trans rfl
     have hcz5_1 : wr.cell? ⟨gb101, 1, none⟩ = some (.slice A0_1 l0_1.length c0_1) := (qi BK101.out 1).trans rfl
     have hcz5_2 : wr.cell? ⟨gb101, 2, none⟩ = some (.slice A0_2 l0_2.length c0_2) := (qi BK101.out 2).trans rfl
     have hfz5_0 := qh BK101.out 0
     have hfz5_1 := qh BK101.out 1
     have hfz5_2 := qh BK101.out 2
     go_wp2
     go_meet
     case rel => exact ⟨_, (decide (x3_1 < 70)), (by first | rfl | (simp; done) | (simp [*]; done)), H', ⟨by have := HK1.out; first | omega | exact Nat.le_refl _⟩, ⟨by (with_reducible repeat (first | refine qw ?_ _ | refine qy ?_ | refine qp ?_ _)); exact BK101.out⟩, ⟨by repeat (first | (with_reducible first | exact HB.out | apply qc | apply qa | apply qd | refine qj ?_ GE101.out) | exact HB.out)⟩⟩
    ·rw [if_neg c4] at H
     have c4b0 : decide (x3_1 < (l0_1.length : Int)) = false := decide_eq_false c4
     clear c4
     (first | rw [c4b0] | (simp only [ql, qm]; rw [c4b0]) | skip)
     have H' := qb.mk H
     clear H
     have hcz6_0 : wr.cell? ⟨gb101, 0, none⟩ = some (.int .i64 a0_0) := (qi BK101.out 0).trans rfl
     have hcz6_1 : wr.cell? ⟨gb101, 1, none⟩ = some (.slice A0_1 l0_1.length c0_1) := (qi BK101.out 1).trans rfl
     have hcz6_2 : wr.cell? ⟨gb101, 2, none⟩ = some (.slice A0_2 l0_2.length c0_2) := (qi BK101.out 2).trans rfl
     have hfz6_0 := qh BK101.out 0
     have hfz6_1 := qh BK101.out 1
     have hfz6_2 := qh BK101.out 2
     go_wp2
     go_meet
     case rel => exact ⟨_, (false), (by first | rfl | (simp; done) | (simp [*]; done)), H', ⟨by have := HK1.out; first | omega | exact Nat.le_refl _⟩, ⟨by (with_reducible repeat (first | refine qw ?_ _ | refine qy ?_ | refine qp ?_ _)); exact BK101.out⟩, ⟨by repeat (first | (with_reducible first | exact HB.out | apply qc | apply qa | apply qd | refine qj ?_ GE101.out) | exact HB.out)⟩⟩
   case rest =>
    clear HC3
    try clear p2
    try clear c4
    try clear c4b0
    try clear c6
    try clear hcz5_0
    try clear hcz5_1
    try clear hcz5_2
    try clear hcz6_0
    try clear hcz6_1
    try clear hcz6_2
    try clear hfz5_0
    try clear hfz5_1
    try clear hfz5_2
    try clear hfz6_0
    try clear hfz6_1
    try clear hfz6_2
    try clear p2
    obtain ⟨kq, x12_2, rfl, HA, HJ2, BK101, HB⟩ := hcut
    cases kq with
    | zero => exact absurd HA.out (by simp [qC.j1])
    | succ kj2 =>
     have H := HA.out
     clear HA
     simp only [qC.j1] at H
     by_cases c7 : x12_2 = true
     ·subst c7
      have H1 : (if 0 ≤ x3_1 then (if x3_1 < (l0_1.length : Int) then (if ((rdOf ByteArray.empty l0_1 x3_1).size : Int) > 300 then (some false) else (qC.l0 kj2 (wrap64 (x3_1 + 1)) a0_0 l0_1 l0_2)) else (none)) else (none)) = some r := by rw [if_pos rfl] at H; exact H
      clear H
      have H := H1
      clear H1
      by_cases c8 : 0 ≤ x3_1
      ·rw [if_pos c8] at H
       have c8b0 : decide (0 ≤ x3_1) = true := decide_eq_true c8
       clear c8
       by_cases c9 : x3_1 < (l0_1.length : Int)
       ·rw [if_pos c9] at H
        have c9b0 : decide (x3_1 < (l0_1.length : Int)) = true := decide_eq_true c9
        clear c9
        by_cases c10 : ((rdOf ByteArray.empty l0_1 x3_1).size : Int) > 300
        ·rw [if_pos c10] at H
         have c10b0 : decide (300 < ((rdOf ByteArray.empty l0_1 x3_1).size : Int)) = true := decide_eq_true c10
         have c10b1 : decide (300 < (rdOf ByteArray.empty l0_1 x3_1).size) = true := decide_eq_true (by omega)
         clear c10
         obtain rfl := Option.some.inj H
         have hcz11_0 : wc.cell? ⟨gb101, 0, none⟩ = some (.int .i64 a0_0) := (qi BK101.out 0).trans rfl
         have hcz11_1 : wc.cell? ⟨gb101, 1, none⟩ = some (.slice A0_1 l0_1.length c0_1) := (qi BK101.out 1).trans rfl
         have hcz11_2 : wc.cell? ⟨gb101, 2, none⟩ = some (.slice A0_2 l0_2.length c0_2) := (qi BK101.out 2).trans rfl
         have hfz11_0 := qh BK101.out 0
         have hfz11_1 := qh BK101.out 1
         have hfz11_2 := qh BK101.out 2
         have p102 : 0 ≤ (x3_1 : Int) := of_decide_eq_true (by first | (with_reducible assumption) | assumption)
         have q102 : x3_1 < (l0_1.length : Int) := of_decide_eq_true (by first | (with_reducible assumption) | assumption)
         obtain ⟨ad102, e102, hx102_0⟩ := Kd.zD HR0_1.out x3_1 p102 q102
         cases e102
         replace hx102_0 := (HB.out.cell (World.block_lt_of_cell? w _ hx102_0)).trans hx102_0
         replace p102 := eq_true p102
         replace q102 := eq_true q102
         go_wp2
         go_ret
         exact ⟨by first | rfl | (simp [errW_none, errW_some] <;> rfl) | (simp [*, errW_none, errW_some] <;> rfl), by repeat (first | (with_reducible first | exact HB.out | apply qc | apply qa | apply qd | refine qj ?_ GE101.out) | exact HB.out)⟩
        ·rw [if_neg c10] at H
         have c10b0 : decide (300 < ((rdOf ByteArray.empty l0_1 x3_1).size : Int)) = false := decide_eq_false c10
         have c10b1 : decide (300 < (rdOf ByteArray.empty l0_1 x3_1).size) = false := decide_eq_false (by omega)
         clear c10
         have H' := qb.mk H
         clear H
         have hcz12_0 : wc.cell? ⟨gb101, 0, none⟩ = some (.int .i64 a0_0) := (qi BK101.out 0).trans rfl
         have hcz12_1 : wc.cell? ⟨gb101, 1, none⟩ = some (.slice A0_1 l0_1.length c0_1) := (qi BK101.out 1).trans rfl
         have hcz12_2 : wc.cell? ⟨gb101, 2, none⟩ = some (.slice A0_2 l0_2.length c0_2) := (qi BK101.out 2).trans rfl
         have hfz12_0 := qh BK101.out 0
         have hfz12_1 := qh BK101.out 1
         have hfz12_2 := qh BK101.out 2
         have p102 : 0 ≤ (x3_1 : Int) := of_decide_eq_true (by first | (with_reducible assumption) | assumption)
         have q102 : x3_1 < (l0_1.length : Int) := of_decide_eq_true (by first | (with_reducible assumption) | assumption)
         obtain ⟨ad102, e102, hx102_0⟩ := Kd.zD HR0_1.out x3_1 p102 q102
         cases e102
         replace hx102_0 := (HB.out.cell (World.block_lt_of_cell? w _ hx102_0)).trans hx102_0
         replace p102 := eq_true p102
         replace q102 := eq_true q102
         go_wp2
         go_roundg kj2
         case measure => have := HK1.out; have := HJ2.out; omega
         case rel => exact ⟨(wrap64 (x3_1 + 1)), (by first | rfl | (simp; done) | (simp [*]; done)), H', ⟨by have := HK1.out; have := HJ2.out; omega⟩, ⟨by (with_reducible repeat (first | refine qw ?_ _ | refine qy ?_ | refine qp ?_ _)); exact BK101.out⟩, ⟨by repeat (first | (with_reducible first | exact HB.out | apply qc | apply qa | apply qd | refine qj ?_ GE101.out) | exact HB.out)⟩⟩
       ·rw [if_neg c9] at H
        exact absurd H (by simp)
      ·rw [if_neg c8] at H
       exact absurd H (by simp)
     ·replace c7 := Bool.eq_false_iff.mpr c7
      subst c7
      have H1 : (if (l0_1.length : Int) < 70 then (if (l0_2.length : Int) ≤ 200 then (if a0_0 ≤ 60 then (some true) else (some (decide (a0_0 > 2048)))) else (some false)) else (some false)) = some r := by rw [if_neg (show ¬ (false = true) by decide)] at H; exact H
      clear H
      have H := H1
      clear H1
      by_cases c13 : (l0_1.length : Int) < 70
      ·rw [if_pos c13] at H
       have c13b0 : decide ((l0_1.length : Int) < 70) = true := decide_eq_true c13
       have c13b1 : decide (l0_1.length < 70) = true := decide_eq_true (by omega)
       clear c13
       by_cases c14 : (l0_2.length : Int) ≤ 200
       ·rw [if_pos c14] at H
        have c14b0 : decide ((l0_2.length : Int) ≤ 200) = true := decide_eq_true c14
        have c14b1 : decide (l0_2.length ≤ 200) = true := decide_eq_true (by omega)
        clear c14
        by_cases c15 : a0_0 ≤ 60
        ·rw [if_pos c15] at H
         have c15b0 : decide (a0_0 ≤ 60) = true := decide_eq_true c15
         clear c15
         obtain rfl := Option.some.inj H
         have hcz16_0 : wc.cell? ⟨gb101, 0, none⟩ = some (.int .i64 a0_0) := (qi BK101.out 0).trans rfl
         have hcz16_1 : wc.cell? ⟨gb101, 1, none⟩ = some (.slice A0_1 l0_1.length c0_1) := (qi BK101.out 1).trans rfl
         have hcz16_2 : wc.cell? ⟨gb101, 2, none⟩ = some (.slice A0_2 l0_2.length c0_2) := (qi BK101.out 2).trans rfl
         have hfz16_0 := qh BK101.out 0
         have hfz16_1 := qh BK101.out 1
         have hfz16_2 := qh BK101.out 2
         go_wp2
         go_ret
         exact ⟨by first | rfl | (simp [errW_none, errW_some] <;> rfl) | (simp [*, errW_none, errW_some] <;> rfl), by repeat (first | (with_reducible first | exact HB.out | apply qc | apply qa | apply qd | refine qj ?_ GE101.out) | exact HB.out)⟩
        ·rw [if_neg c15] at H
         have c15b0 : decide (a0_0 ≤ 60) = false := decide_eq_false c15
         clear c15
         obtain rfl := Option.some.inj H
         have hcz17_0 : wc.cell? ⟨gb101, 0, none⟩ = some (.int .i64 a0_0) := (qi BK101.out 0).trans rfl
         have hcz17_1 : wc.cell? ⟨gb101, 1, none⟩ = some (.slice A0_1 l0_1.length c0_1) := (qi BK101.out 1).trans rfl
         have hcz17_2 : wc.cell? ⟨gb101, 2, none⟩ = some (.slice A0_2 l0_2.length c0_2) := (qi BK101.out 2).trans rfl
         have hfz17_0 := qh BK101.out 0
         have hfz17_1 := qh BK101.out 1
         have hfz17_2 := qh BK101.out 2
         go_wp2
         go_ret
         exact ⟨by first | rfl | (simp [errW_none, errW_some] <;> rfl) | (simp [*, errW_none, errW_some] <;> rfl), by repeat (first | (with_reducible first | exact HB.out | apply qc | apply qa | apply qd | refine qj ?_ GE101.out) | exact HB.out)⟩
       ·rw [if_neg c14] at H
        have c14b0 : decide ((l0_2.length : Int) ≤ 200) = false := decide_eq_false c14
        have c14b1 : decide (l0_2.length ≤ 200) = false := decide_eq_false (by omega)
        clear c14
        obtain rfl := Option.some.inj H
        have hcz18_0 : wc.cell? ⟨gb101, 0, none⟩ = some (.int .i64 a0_0) := (qi BK101.out 0).trans rfl
        have hcz18_1 : wc.cell? ⟨gb101, 1, none⟩ = some (.slice A0_1 l0_1.length c0_1) := (qi BK101.out 1).trans rfl
        have hcz18_2 : wc.cell? ⟨gb101, 2, none⟩ = some (.slice A0_2 l0_2.length c0_2) := (qi BK101.out 2).trans rfl
        have hfz18_0 := qh BK101.out 0
        have hfz18_1 := qh BK101.out 1
        have hfz18_2 := qh BK101.out 2
        go_wp2
        go_ret
        exact ⟨by first | rfl | (simp [errW_none, errW_some] <;> rfl) | (simp [*, errW_none, errW_some] <;> rfl), by repeat (first | (with_reducible first | exact HB.out | apply qc | apply qa | apply qd | refine qj ?_ GE101.out) | exact HB.out)⟩
      ·rw [if_neg c13] at H
       have c13b0 : decide ((l0_1.length : Int) < 70) = false := decide_eq_false c13
       have c13b1 : decide (l0_1.length < 70) = false := decide_eq_false (by omega)
       clear c13
       obtain rfl := Option.some.inj H
       have hcz19_0 : wc.cell? ⟨gb101, 0, none⟩ = some (.int .i64 a0_0) := (qi BK101.out 0).trans rfl
       have hcz19_1 : wc.cell? ⟨gb101, 1, none⟩ = some (.slice A0_1 l0_1.length c0_1) := (qi BK101.out 1).trans rfl
       have hcz19_2 : wc.cell? ⟨gb101, 2, none⟩ = some (.slice A0_2 l0_2.length c0_2) := (qi BK101.out 2).trans rfl
       have hfz19_0 := qh BK101.out 0
       have hfz19_1 := qh BK101.out 1
       have hfz19_2 := qh BK101.out 2
       go_wp2
       go_ret
       exact ⟨by first | rfl | (simp [errW_none, errW_some] <;> rfl) | (simp [*, errW_none, errW_some] <;> rfl), by repeat (first | (with_reducible first | exact HB.out | apply qc | apply qa | apply qd | refine qj ?_ GE101.out) | exact HB.out)⟩
end Go.Proofs.Ytcjbghmhdefdiaa.S
namespace Go.Proofs.Ytcjbghmhdefdiaa.S
open Go.RowKit Go.Proofs.YtcjbghmhdefdiaaW.PrintWords Go.Proofs.YtcjbghmhdefdiaaW.PrintLast Go.Proofs.YtcjbghmhdefdiaaW.PrintMore
set_option linter.unusedVariables false
set_option linter.unusedSimpArgs false
def Qu (n : Int) (ls : List ByteArray) (es : List S55) : Prop := ls.length < 70 ∧ es.length ≤ 200 ∧ (n ≤ 60 ∨ 2048 < n)
theorem light0 : ∀ (m k : Nat) (i : Nat) (n : Int) (ls : List ByteArray) (es : List S55), i + m = 71 → m * 2 + 2 < k → i ≤ ls.length → ∃ r, qC.l0 k (i : Int) n ls es = some r ∧ (r = true → Qu n ls es)
 | 0, k + 2, i, n, ls, es, h, hk, hi => by
  obtain rfl : i = 71 := by omega
  rw [qC.l0]
  by_cases h1 : ((71 : Nat) : Int) < (ls.length : Int)
  ·rw [if_pos h1, qC.j1, if_neg (by decide)]
   rw [if_neg (by omega)]
   exact ⟨_, rfl, fun h => by cases h⟩
  ·rw [if_neg h1, qC.j1, if_neg (by decide), if_neg (by omega)]
   exact ⟨_, rfl, fun h => by cases h⟩
 | m + 1, k + 2, i, n, ls, es, h, hk, hi => by
  have fin : ∃ r, (if (ls.length : Int) < 70 then (if (es.length : Int) ≤ 200 then (if n ≤ 60 then (some true) else (some (decide (n > 2048)))) else (some false)) else (some false)) = some r ∧ (r = true → Qu n ls es) := by
   by_cases h1 : (ls.length : Int) < 70
   ·rw [if_pos h1]
    by_cases h2 : (es.length : Int) ≤ 200
    ·rw [if_pos h2]
     by_cases h3 : n ≤ 60
     ·rw [if_pos h3]
      exact ⟨_, rfl, fun _ => ⟨by omega, by omega, .inl h3⟩⟩
     ·rw [if_neg h3]
      exact ⟨_, rfl, fun h => ⟨by omega, by omega, .inr (of_decide_eq_true h)⟩⟩
    ·rw [if_neg h2]
     exact ⟨_, rfl, fun h => by cases h⟩
   ·rw [if_neg h1]
    exact ⟨_, rfl, fun h => by cases h⟩
  rw [qC.l0]
  by_cases h1 : (i : Int) < (ls.length : Int)
  ·rw [if_pos h1, qC.j1]
   by_cases h2 : (i : Int) < 70
   ·rw [if_pos (decide_eq_true h2), if_pos (by omega), if_pos h1]
    by_cases h3 : ((rdOf ByteArray.empty ls (i : Int)).size : Int) > 300
    ·rw [if_pos h3]
     exact ⟨_, rfl, fun h => by cases h⟩
    ·rw [if_neg h3, za (by omega)]
     exact light0 m k (i + 1) n ls es (by omega) (by omega) (by omega)
   ·rw [if_neg (by simpa using h2)]
    exact fin
  ·rw [if_neg h1, qC.j1, if_neg (by decide)]
   exact fin
theorem light_ev (n : Int) (ls : List ByteArray) (es : List S55) : ∃ r, Ev (fun k => qC.f k n ls es) r ∧ (r = true → Qu n ls es) := by
 obtain ⟨r, h1, h2⟩ := light0 71 200 0 n ls es (by omega) (by omega) (by omega)
 exact ⟨r, Ev.Qe (fun k => qC.mono n ls es k) h1, h2⟩
end Go.Proofs.Ytcjbghmhdefdiaa.S
