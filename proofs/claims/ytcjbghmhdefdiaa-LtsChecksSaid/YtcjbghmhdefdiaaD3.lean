/- Part 3 of a proof that a law of the program answers true for every input. -/
import Derived.Lib.SlicesCompact
import Derived.Lib.SliceRun
import Derived.WalkSpells
import Derived.Test.YtcjbghmhdefdiaaD2
set_option linter.unusedSimpArgs false
set_option linter.unusedVariables false
namespace Go.Proofs.Ytcjbghmhdefdiaa.S
open Go.RowKit Go.Proofs.YtcjbghmhdefdiaaW.PrintWords Go.Proofs.YtcjbghmhdefdiaaW.PrintLast Go.Proofs.YtcjbghmhdefdiaaW.PrintMore
attribute [local go_sem high] eqA55
set_option linter.unusedVariables false
set_option linter.unusedSimpArgs false
instance : DecidableEq S55 := fun a b => decidable_of_iff (a.f0 = b.f0 ∧ a.f1 = b.f1 ∧ a.f2 = b.f2) ⟨fun ⟨h0, h1, h2⟩ => xg h0 h1 h2, fun h => by subst h; exact ⟨rfl, rfl, rfl⟩⟩
def zx (l : List S55) : List S55 := Lib.compact l
theorem cellsE {W : World} {g n cap base : Nat} {ok : Nat → Prop} {l : List S55} (h : Kd.R k55 55 W base ok (.slice (some ⟨g, 0, none⟩) n cap) l) (i : Nat) (hi : i < n) :
  W.cell? ⟨g, i * 3, none⟩ = some (.int .i64 (qc l (i : Int)).f0) ∧ W.cell? ⟨g, i * 3 + 1, none⟩ = some (.int .i64 (qc l (i : Int)).f1) ∧ W.cell? ⟨g, i * 3 + 2, none⟩ = some (.int .i64 (qc l (i : Int)).f2) := by
 obtain ⟨hn, _, hC⟩ := Kd.qH h
 obtain ⟨ad, e, h0, h1, h2⟩ := vU hC (i : Int) (by omega) (by omega)
 cases e
 rw [Int.toNat_natCast, add_plain] at h0 h1 h2
 exact ⟨h0, h1, h2⟩
theorem eq_same (a b : S55) (h : a = b) : (a.f0 == b.f0 && (a.f1 == b.f1 && a.f2 == b.f2)) = true := by subst h; simp
theorem yS (a b : S55) (h : ¬ a = b) : (a.f0 == b.f0 && (a.f1 == b.f1 && a.f2 == b.f2)) = false := by
 rw [← Bool.not_eq_true]
 intro hc
 simp only [Bool.and_eq_true, beq_iff_eq] at hc
 exact h (xg hc.1 hc.2.1 hc.2.2)
theorem xu (l : List S55) (m : Nat) (h : m < l.length) (hm : 1 ≤ m) : Lib.compactUpTo l.toArray (m + 1) = if qc l (m : Int) = qc l ((m - 1 : Nat) : Int) then Lib.compactUpTo l.toArray m else Lib.compactUpTo l.toArray m ++ [qc l (m : Int)] := by
 have e1 : l.toArray[m]! = qc l (m : Int) := by simp [qc, getElem!_pos, h]
 have e2 : l.toArray[m - 1]! = qc l ((m - 1 : Nat) : Int) := by simp [qc, getElem!_pos, show m - 1 < l.length by omega]
 unfold Lib.compactUpTo
 rw [List.range_succ, List.filter_append, List.map_append]
 split <;> rename_i hq
 ·rw [show List.filter (Lib.keeps l.toArray) [m] = [] by simp [Lib.keeps, e1, e2, hq, show ¬ m = 0 by omega]]
  simp
 ·rw [show List.filter (Lib.keeps l.toArray) [m] = [m] by simp [Lib.keeps, e1, e2, hq]]
  simp only [List.map_cons, List.map_nil, e1]
theorem xS (l : List S55) (m : Nat) (h : m ≤ l.length) (hd : ∀ j, 1 ≤ j → j < m → ¬ qc l (j : Int) = qc l ((j - 1 : Nat) : Int)) : Lib.compactUpTo l.toArray m = l.take m := by
 induction m with
 | zero => simp [Lib.compactUpTo]
 | succ m ih =>
  have ih' := ih (by omega) (fun j h1 h2 => hd j h1 (by omega))
  rcases Nat.eq_zero_or_pos m with h0 | h0
  ·subst h0
   have : 0 < l.length := by omega
   cases l with
   | nil => simp at this
   | cons x l => simp [Lib.compactUpTo, Lib.keeps]
  ·rw [xu l m (by omega) h0, if_neg (hd m h0 (by omega)), ih', List.take_succ_eq_append_getElem (by omega)]
   simp [qc, show m < l.length by omega]
theorem Qz (A l : List S55) (m i : Nat) (hA : m = A.length) (hi : m ≤ i) : qc (A ++ l.drop m) (i : Int) = qc l (i : Int) := by
 unfold qc
 rw [Int.toNat_natCast, List.getD_eq_getElem?_getD, List.getD_eq_getElem?_getD, List.getElem?_append_right (by omega), List.getElem?_drop]
 congr 2
 omega
theorem yX (A l : List S55) (m : Nat) (x : S55) (hA : m = A.length) (hm : m < l.length) : (A ++ l.drop m).set m x = (A ++ [x]) ++ l.drop (m + 1) := by
 rw [List.set_append_right _ _ (by omega), ← hA, Nat.sub_self, List.append_assoc]
 congr 1
 rw [List.drop_eq_getElem_cons hm]
 rfl
theorem yG {W : World} {g : Nat} {m : Nat} {x y z : Value} (h0 : W.cell? ⟨g, m * 3, none⟩ = some x) (h1 : W.cell? ⟨g, m * 3 + 1, none⟩ = some y) (h2 : W.cell? ⟨g, m * 3 + 2, none⟩ = some z) : ∀ (j : Nat) (u : Value), [x, y, z][j]? = some u → W.drew.cell? ⟨g, (m : Int).toNat * k55.sz + j, none⟩ = some u := by
 intro j u hu
 rw [Int.toNat_natCast, show k55.sz = 3 from rfl]
 match j, hu with
 | 0, hu => obtain rfl := Option.some.inj hu; exact h0
 | 1, hu => obtain rfl := Option.some.inj hu; exact h1
 | 2, hu => obtain rfl := Option.some.inj hu; exact h2
theorem yj (l : List S55) (m : Nat) : (Lib.compactUpTo l.toArray m).length ≤ m := by
 unfold Lib.compactUpTo
 rw [List.length_map]
 exact Nat.le_trans (List.length_filter_le _ _) (by simp)
theorem yu {W : World} {g n cap base m c : Nat} {l : List S55} (ho : Kd.R k55 55 W base (fun _ => True) (.slice (some ⟨g, 0, none⟩) n cap) l) (hm : m < n) :
  ∃ W', (∀ ty, (Builtin.clear_ #[23] ty #[.slice (some ⟨g, m * 3, none⟩) (n - m) c]).run Try.prog W = .ok (.tuple #[]) W') ∧ Kd.R k55 55 W' base (fun _ => True) (.slice (some ⟨g, 0, none⟩) m cap) (l.take m) ∧ W.grownBy W' (some g) := by
 obtain ⟨hn, hnc, _⟩ := Kd.qH ho
 obtain ⟨_, inner, ho2, hr⟩ := ho
 rcases ho2.2 with ⟨h1, _⟩ | ⟨g', cap', cur, h1, hg, hh, hnc', hcm, hcs, htake⟩
 ·cases h1
 injection h1 with h1 _ h2
 injection h1 with h1
 injection h1 with h1
 subst h1
 subst h2
 have hcs3 : cur.size = cap * 3 := hcs
 obtain ⟨news, hnews⟩ : ∃ news, news = (Builtin.zeroCells (Value.agg #[.int .i64 0, .int .i64 0, .int .i64 0]).cells (n - m)).toList := ⟨_, rfl⟩
 have hnl : news.length = (n - m) * 3 := by rw [hnews, Array.length_toList, size_zeroCells]; rfl
 have hone : ∀ v ∈ news, v.oneCell' = true := by
  intro v hv
  rw [hnews] at hv
  simp [Builtin.zeroCells, Value.cells] at hv
  obtain ⟨i, _, rfl⟩ := hv
  have : i % 3 = 0 ∨ i % 3 = 1 ∨ i % 3 = 2 := by omega
  rcases this with h | h | h <;> rw [h] <;> rfl
 have hst := run_storeCells_cells (P := Try.prog) g (m * 3) news 0 W (fun j hj => by
  rw [Nat.add_zero, cell_of_row W g _ cur 55 (0, 0) hh]
  simp
  omega) (fun j _ => qm hh _) hone
 rw [Nat.add_zero] at hst
 obtain ⟨cur', q1, q2, q3⟩ := wK news (m * 3) W cur hh (by rw [hnl, hcs3]; omega)
 obtain ⟨s1, s2, s3, s4⟩ := wG g news (m * 3) W
 have hml : (l.take m).length = m := by rw [List.length_take]; omega
 refine ⟨W.setCells g (m * 3) news, fun ty => ?_, ⟨fun _ _ => trivial, inner.take (m * 3), ⟨?_, .inr ⟨g, cap, cur', by rw [hml], hg, q1, by rw [hml]; omega, hcm, by rw [q2]; exact hcs, ?_⟩⟩, ?_, ?_⟩, ⟨s1, s2, s3, by rw [s4]; exact Nat.le_refl _, fun k _ hk => ww news _ k (fun e => hk (by rw [e]))⟩⟩
 ·obtain ⟨q, hq⟩ : ∃ q, n - m = q + 1 := ⟨n - m - 1, by omega⟩
  rw [hq] at hnews ⊢
  have hv : ∀ w, (zeroValue 55).run Try.prog w = .ok (.agg #[.int .i64 0, .int .i64 0, .int .i64 0]) w := fun w => by
   obtain ⟨i0, hi, hzz⟩ := Option.map_eq_some_iff.1 (show (Try.prog.info? 55).map (fun i => (i.zero, i.size, i.bytes)) = some (some (.agg #[.int .i64 0, .int .i64 0, .int .i64 0]), 3, 24) by kernel_rfl)
   simp only [Prod.mk.injEq] at hzz
   simp [zeroValue, typeInfo, hi, hzz.1]
  simp [Builtin.clear_, run_underlying Try.underlying23, hv, ← hnews, hst]
 ·rw [List.length_take, List.length_take, ho2.1]
  show min (m * 3) (l.length * 3) = min m l.length * 3
  omega
 ·rw [List.length_take]
  show cur'.toList.take (min m l.length * 3) = _
  rw [show min m l.length * 3 = m * 3 by omega, q3, List.append_assoc, List.take_append_of_le_length (by rw [List.length_take, Array.length_toList]; omega), List.take_take, Nat.min_self, ← htake, List.take_take]
  show _ = cur.toList.take (min (m * 3) (l.length * 3))
  rw [Nat.min_eq_left (by omega)]
 ·rw [List.length_take, List.length_take, ho2.1]
  show min (m * 3) (l.length * 3) = min m l.length * 3
  omega
 ·intro j p hj
  have hjm : j < m := by
   have := (List.getElem?_eq_some_iff.1 hj).1
   rw [List.length_take] at this
   omega
  rw [List.getElem?_take_of_lt hjm] at hj
  have := hr.2 j p hj
  have e3 : ((inner.take (m * 3)).drop (j * k55.sz)).take k55.sz = (inner.drop (j * k55.sz)).take k55.sz := by
   show ((inner.take (m * 3)).drop (j * 3)).take 3 = (inner.drop (j * 3)).take 3
   rw [List.drop_take, List.take_take, Nat.min_eq_left (by omega)]
  rw [e3]
  exact k55.M_move (fun _ _ => by trivial) (by obtain h := kZ this; rw [h]; exact wm _ _ _ _)
set_option maxHeartbeats 4000000 in
set_option maxRecDepth 100000 in
theorem ky (l : List S55) (g cap : Nat) (base : Nat) (w0 W : World) (hB : Below base w0 W) (ho : Kd.R k55 55 W base (fun _ => True) (.slice (some ⟨g, 0, none⟩) l.length cap) l) (hlt : l.length < 5864062014805) (hWb : base ≤ W.heap.size) :
  Calls Try.prog 127 #[.slice (some ⟨g, 0, none⟩) l.length cap] W fun e W2 => ∃ v, e = .returned v ∧ Kd.R k55 55 W2 base (fun _ => True) v (zx l) ∧ Below base w0 W2 := by
 have hu55 := Try.underlying55
 have hu23 := Try.underlying23
 obtain ⟨n, hnl⟩ : ∃ n, n = l.length := ⟨_, rfl⟩
 have hno := (Kd.qH ho).2.1
 rw [← hnl] at ho hlt hno ⊢
 have HN := qa.mk hnl
 have HO0 := qa.mk ho
 have HB0 := qa.mk hB
 have HW := qa.mk hWb
 have HCAP : qa (cap ≤ 9223372036854775807) := ⟨by
  obtain ⟨_, inner, ho2, _⟩ := ho
  rcases ho2.2 with ⟨h1, _⟩ | ⟨g', cap', cur, h1, _, hh, _, hcm, _⟩
  ·cases h1
  ·injection h1 with _ _ h1
   subst h1
   simpa [maxLen] using hcm⟩
 clear hnl ho hB hWb
 have hcap := HCAP.out
 by_cases hn2 : n < 2
 ·have b1 : decide ((n : Int) < 2) = true := decide_eq_true (by omega)
  have b2 : decide (n < 2) = true := decide_eq_true (by omega)
  go_enter Try.func127, Try.ntmps127
  go_wp2
  go_ret
  refine ⟨_, rfl, ?_, HB0.out⟩
  have : zx l = l := by
   unfold zx Lib.compact
   rw [xS l l.length (Nat.le_refl _) (fun j h1 h2 => by have := HN.out; omega), List.take_length]
  rw [this]
  exact HO0.out
 have b1 : decide ((n : Int) < 2) = false := decide_eq_false (by omega)
 have b2 : decide (n < 2) = false := decide_eq_false (by omega)
 go_enter Try.func127, Try.ntmps127
 go_wp2
 go_loopw [3] (fun x wr => ∃ k : Nat, x = .int .i64 k ∧ 1 ≤ k ∧ k ≤ n ∧ qa (∀ j, 1 ≤ j → j < k → ¬ qc l (j : Int) = qc l ((j - 1 : Nat) : Int)) ∧ qa (Kd.R k55 55 wr base (fun _ => True) (.slice (some ⟨g, 0, none⟩) n cap) l) ∧ qa (Below base w0 wr) ∧ qa (base ≤ wr.heap.size)) (fun x _ => n - (intOf x).toNat)
 case atStart => exact ⟨1, rfl, by omega, by omega, ⟨fun j h1 h2 => absurd h2 (by omega)⟩, HO0, HB0, HW⟩
 case round =>
  clear HO0 HB0 HW
  obtain ⟨k, rfl, hk, hk2, HD, HO, HB, HW⟩ := hrel
  by_cases hlt2 : k < n
  ·have d1 : decide ((k : Int) < (n : Int)) = true := decide_eq_true (by omega)
   have d2 : decide (k < n) = true := decide_eq_true hlt2
   have hwr : wrap64 ((k : Int) - 1) = (k : Int) - 1 := by unfold wrap64; omega
   have hwn : (wrap64 ((k : Int) - 1)).toNat = k - 1 := by rw [hwr]; omega
   have hwc : ((k - 1 : Nat) : Int) = wrap64 ((k : Int) - 1) := by rw [hwr]; omega
   obtain ⟨a0, a1, a2⟩ := cellsE HO.out k hlt2
   obtain ⟨p0, p1, p2⟩ := cellsE HO.out (k - 1) (by omega)
   rw [hwc, ← hwn] at p0 p1 p2
   have c1 : (0 ≤ wrap64 ((k : Int) - 1)) = True := eq_true (by rw [hwr]; omega)
   have c2 : (wrap64 ((k : Int) - 1) < (n : Int)) = True := eq_true (by rw [hwr]; omega)
   have HWN := qa.mk hwn
   have HWC := qa.mk hwc
   have HWR := qa.mk hwr
   clear hwn hwc hwr
   by_cases hq : qc l (k : Int) = qc l (wrap64 ((k : Int) - 1))
   ·have e1 := eq_same _ _ hq
    have HQ := qa.mk hq
    clear hq
    go_wp2
    refine zI (n := 10) (S := fun w' => w'.cell? ⟨g, k * 3, none⟩ = some (.int .i64 (qc l (k : Int)).f0) ∧ w'.cell? ⟨g, k * 3 + 1, none⟩ = some (.int .i64 (qc l (k : Int)).f1) ∧ w'.cell? ⟨g, k * 3 + 2, none⟩ = some (.int .i64 (qc l (k : Int)).f2) ∧ w'.cell? ⟨g, (wrap64 ((k : Int) - 1)).toNat * 3, none⟩ = some (.int .i64 (qc l (wrap64 ((k : Int) - 1))).f0) ∧ w'.cell? ⟨g, (wrap64 ((k : Int) - 1)).toNat * 3 + 1, none⟩ = some (.int .i64 (qc l (wrap64 ((k : Int) - 1))).f1) ∧ w'.cell? ⟨g, (wrap64 ((k : Int) - 1)).toNat * 3 + 2, none⟩ = some (.int .i64 (qc l (wrap64 ((k : Int) - 1))).f2)) (ds := []) #[false, false, false, false, false, false, false, false, false, false] (by kernel_rfl) rfl rfl ⟨a0, a1, a2, p0, p1, p2⟩ (fun hHeld => ?_)
    refine qy (i := 0) (N := some 16) #[true, false, false, false, false, false, false, false, false, false] rfl rfl (by kernel_rfl) (fun _ _ _ h => h) (.inl ⟨by rfl, by intro w'; go_simp; with_reducible rfl⟩) (by simp only [Act.put, sA, sB, sC, qw, qx]; rfl) ?_
    refine qy (i := 1) (N := some 17) #[true, true, false, false, false, false, false, false, false, false] rfl rfl (by kernel_rfl) (fun _ _ _ h => h) (.inl ⟨by rfl, by intro w'; go_simp; with_reducible rfl⟩) (by simp only [Act.put, sA, sB, sC, qw, qx]; rfl) ?_
    refine qy (i := 2) (N := some 18) #[true, true, true, false, false, false, false, false, false, false] rfl rfl (by kernel_rfl) (fun _ _ _ h => h) (.inl ⟨by rfl, by intro w'; go_simp; with_reducible rfl⟩) (by simp only [Act.put, sA, sB, sC, qw, qx]; rfl) ?_
    refine qy (i := 4) (N := some 20) #[true, true, true, false, true, false, false, false, false, false] rfl rfl (by kernel_rfl) (fun _ _ _ h => h) (.inl ⟨by rfl, by intro w'; go_simp; with_reducible rfl⟩) (by simp only [Act.put, sA, sB, sC, qw, qx]; rfl) ?_
    refine qy (i := 5) (N := some 21) #[true, true, true, false, true, true, false, false, false, false] rfl rfl (by kernel_rfl) (fun _ _ _ h => h) (.inl ⟨by rfl, by intro w'; go_simp; with_reducible rfl⟩) (by simp only [Act.put, sA, sB, sC, qw, qx]; rfl) ?_
    refine qy (i := 6) (N := some 22) #[true, true, true, false, true, true, true, false, false, false] rfl rfl (by kernel_rfl) (fun _ _ _ h => h) (.inl ⟨by rfl, by intro w'; go_simp; with_reducible rfl⟩) (by simp only [Act.put, sA, sB, sC, qw, qx]; rfl) ?_
    refine qy (i := 7) (N := some 23) #[true, true, true, false, true, true, true, true, false, false] rfl rfl (by kernel_rfl) (fun _ _ _ h => h) (.inl ⟨by rfl, by intro w'; go_simp; with_reducible rfl⟩) (by simp only [Act.put, sA, sB, sC, qw, qx]; rfl) ?_
    refine vJ (i := 3) (N := some 19) #[true, true, true, true, true, true, true, true, false, false] rfl rfl (by kernel_rfl) (fun _ _ _ h => h) (.inl ⟨by rfl, by rintro w' ⟨s0, s1, s2, s3, s4, s5⟩; go_simp; with_reducible rfl⟩) hHeld (by simp only [Act.put, sA, sB, sC, qw, qx]; rfl) ?_
    refine vJ (i := 8) (N := some 24) #[true, true, true, true, true, true, true, true, true, false] rfl rfl (by kernel_rfl) (fun _ _ _ h => h) (.inl ⟨by rfl, by rintro w' ⟨s0, s1, s2, s3, s4, s5⟩; go_simp; with_reducible rfl⟩) hHeld (by simp only [Act.put, sA, sB, sC, qw, qx]; rfl) ?_
    refine qy (i := 9) (N := some 25) #[true, true, true, true, true, true, true, true, true, true] rfl rfl (by kernel_rfl) (fun _ _ _ h => h) (.inl ⟨by rfl, by intro w'; go_simp; with_reducible rfl⟩) (by simp only [Act.put, sA, sB, sC, qw, qx]; rfl) ?_
    refine zP (by kernel_rfl) ?_
    clear a0 a1 a2 p0 p1 p2
    have HO2 : qa (Kd.R k55 55 wr.drew base (fun _ => True) (.slice (some ⟨g, 0, none⟩) n cap) l) := ⟨Kd.qz HO.out⟩
    have HB2 := qa.mk (qf HB.out)
    have HW2 : qa (base ≤ wr.drew.heap.size) := HW
    clear HO HB HW c1 c2 d1 d2
    generalize wr.drew = wo at HO2 HB2 HW2 ⊢
    obtain ⟨k0, rfl⟩ : ∃ k0 : Nat, k0 = k := ⟨_, rfl⟩
    have hk0 : k0 ≤ cap := by omega
    have q1 : (0 ≤ (k0 : Int)) = True := eq_true (by omega)
    have q2 : ((k0 : Int) ≤ (n : Int)) = True := eq_true (by omega)
    have q3 : ((n : Int) ≤ (cap : Int)) = True := eq_true (by omega)
    go_wp2
    go_loopw [3, 5] (fun x y wr => ∃ m k2 : Nat, x = .int .i64 m ∧ y = .int .i64 k2 ∧ 1 ≤ k2 ∧ k2 ≤ n - k0 ∧ m ≤ k0 + k2 - 1 ∧ 1 ≤ m ∧ qa (m = (Lib.compactUpTo l.toArray (k0 + k2)).length) ∧ qa (Kd.R k55 55 wr base (fun _ => True) (.slice (some ⟨g, 0, none⟩) n cap) (Lib.compactUpTo l.toArray (k0 + k2) ++ l.drop m)) ∧ qa (Below base w0 wr) ∧ qa (base ≤ wr.heap.size)) (fun _ y _ => n - k0 - (intOf y).toNat)
    case atStart =>
     have hu : Lib.compactUpTo l.toArray (k0 + 1) = l.take k0 := by
      rw [xu l k0 (by rw [← HN.out]; exact hlt2) hk, if_pos (by rw [HWC.out]; exact HQ.out)]
      exact xS l k0 (by rw [← HN.out]; exact hk2) HD.out
     exact ⟨k0, 1, rfl, rfl, by omega, by omega, by omega, hk, ⟨by rw [hu, List.length_take, ← HN.out]; omega⟩, ⟨by rw [hu, List.take_append_drop]; exact HO2.out⟩, HB2, HW2⟩
    case round =>
     clear HO2 HB2 HW2
     obtain ⟨m, k2, rfl, rfl, hk21, hk22, hm, hm1, HM, HO, HB, HW⟩ := hrel
     have hz1 : wrap64 ((k2 : Int) - 1) = (k2 : Int) - 1 := by unfold wrap64; omega
     by_cases hlt3 : k2 < n - k0
     ·have d1 : decide ((k2 : Int) < ((n - k0 : Nat) : Int)) = true := decide_eq_true (by omega)
      have d2 : decide (k2 < n - k0) = true := decide_eq_true hlt3
      have hwn : (wrap64 ((k2 : Int) - 1)).toNat = k2 - 1 := by rw [hz1]; omega
      obtain ⟨a0, a1, a2⟩ := cellsE HO.out (k0 + k2) (by omega)
      obtain ⟨p0, p1, p2⟩ := cellsE HO.out (k0 + k2 - 1) (by omega)
      rw [Qz _ _ _ _ HM.out (by omega)] at a0 a1 a2 p0 p1 p2
      rw [show (k0 + k2) * 3 = k0 * 3 + k2 * 3 by omega] at a0 a1 a2
      rw [show (k0 + k2 - 1) * 3 = k0 * 3 + (wrap64 ((k2 : Int) - 1)).toNat * 3 by rw [hwn]; omega] at p0 p1 p2
      have c1 : (0 ≤ wrap64 ((k2 : Int) - 1)) = True := eq_true (by rw [hz1]; omega)
      have c2 : (wrap64 ((k2 : Int) - 1) < ((n - k0 : Nat) : Int)) = True := eq_true (by rw [hz1]; omega)
      have c3 : ((k2 : Int) < ((n - k0 : Nat) : Int)) = True := eq_true (by omega)
      have hsu := xu l (k0 + k2) (by rw [← HN.out]; omega) (by omega)
      have HI : qa (∃ i i1 : Nat, i = k0 + k2 ∧ i1 = k0 + k2 - 1) := ⟨⟨_, _, rfl, rfl⟩⟩
      obtain ⟨i, i1, hi, hi1⟩ := HI.out
      rw [← hi] at a0 a1 a2 hsu
      rw [← hi1] at p0 p1 p2
      rw [show i - 1 = i1 by omega] at hsu
      have HSU := qa.mk hsu
      have HI1 := qa.mk hi
      clear hwn hz1 hsu hi hi1 HI
      by_cases hq2 : (qc l (i : Int)) = (qc l (i1 : Int))
      ·have e1 : (!((qc l (i : Int)).f0 == (qc l (i1 : Int)).f0) || (!((qc l (i : Int)).f1 == (qc l (i1 : Int)).f1) || !((qc l (i : Int)).f2 == (qc l (i1 : Int)).f2))) = false := by rw [hq2]; simp
       have HQ2 := qa.mk hq2
       clear hq2
       go_wp2
       refine zI (n := 10) (S := fun w' => w'.cell? ⟨g, k0 * 3 + k2 * 3, none⟩ = some (.int .i64 (qc l (i : Int)).f0) ∧ w'.cell? ⟨g, k0 * 3 + k2 * 3 + 1, none⟩ = some (.int .i64 (qc l (i : Int)).f1) ∧ w'.cell? ⟨g, k0 * 3 + k2 * 3 + 2, none⟩ = some (.int .i64 (qc l (i : Int)).f2) ∧ w'.cell? ⟨g, k0 * 3 + (wrap64 ((k2 : Int) - 1)).toNat * 3, none⟩ = some (.int .i64 (qc l (i1 : Int)).f0) ∧ w'.cell? ⟨g, k0 * 3 + (wrap64 ((k2 : Int) - 1)).toNat * 3 + 1, none⟩ = some (.int .i64 (qc l (i1 : Int)).f1) ∧ w'.cell? ⟨g, k0 * 3 + (wrap64 ((k2 : Int) - 1)).toNat * 3 + 2, none⟩ = some (.int .i64 (qc l (i1 : Int)).f2)) (ds := []) #[false, false, false, false, false, false, false, false, false, false] (by kernel_rfl) rfl rfl ⟨a0, a1, a2, p0, p1, p2⟩ (fun hHeld => ?_)
       refine qy (i := 0) (N := some 35) #[true, false, false, false, false, false, false, false, false, false] rfl rfl (by kernel_rfl) (fun _ _ _ h => h) (.inl ⟨by rfl, by intro w'; go_simp; with_reducible rfl⟩) (by simp only [Act.put, sA, sB, sC, qw, qx]; rfl) ?_
       refine qy (i := 1) (N := some 36) #[true, true, false, false, false, false, false, false, false, false] rfl rfl (by kernel_rfl) (fun _ _ _ h => h) (.inl ⟨by rfl, by intro w'; go_simp; with_reducible rfl⟩) (by simp only [Act.put, sA, sB, sC, qw, qx]; rfl) ?_
       refine qy (i := 2) (N := some 37) #[true, true, true, false, false, false, false, false, false, false] rfl rfl (by kernel_rfl) (fun _ _ _ h => h) (.inl ⟨by rfl, by intro w'; go_simp; with_reducible rfl⟩) (by simp only [Act.put, sA, sB, sC, qw, qx]; rfl) ?_
       refine qy (i := 4) (N := some 39) #[true, true, true, false, true, false, false, false, false, false] rfl rfl (by kernel_rfl) (fun _ _ _ h => h) (.inl ⟨by rfl, by intro w'; go_simp; with_reducible rfl⟩) (by simp only [Act.put, sA, sB, sC, qw, qx]; rfl) ?_
       refine qy (i := 5) (N := some 40) #[true, true, true, false, true, true, false, false, false, false] rfl rfl (by kernel_rfl) (fun _ _ _ h => h) (.inl ⟨by rfl, by intro w'; go_simp; with_reducible rfl⟩) (by simp only [Act.put, sA, sB, sC, qw, qx]; rfl) ?_
       refine qy (i := 6) (N := some 41) #[true, true, true, false, true, true, true, false, false, false] rfl rfl (by kernel_rfl) (fun _ _ _ h => h) (.inl ⟨by rfl, by intro w'; go_simp; with_reducible rfl⟩) (by simp only [Act.put, sA, sB, sC, qw, qx]; rfl) ?_
       refine qy (i := 7) (N := some 42) #[true, true, true, false, true, true, true, true, false, false] rfl rfl (by kernel_rfl) (fun _ _ _ h => h) (.inl ⟨by rfl, by intro w'; go_simp; with_reducible rfl⟩) (by simp only [Act.put, sA, sB, sC, qw, qx]; rfl) ?_
       refine vJ (i := 3) (N := some 38) #[true, true, true, true, true, true, true, true, false, false] rfl rfl (by kernel_rfl) (fun _ _ _ h => h) (.inl ⟨by rfl, by rintro w' ⟨s0, s1, s2, s3, s4, s5⟩; go_simp; with_reducible rfl⟩) hHeld (by simp only [Act.put, sA, sB, sC, qw, qx]; rfl) ?_
       refine vJ (i := 8) (N := some 43) #[true, true, true, true, true, true, true, true, true, false] rfl rfl (by kernel_rfl) (fun _ _ _ h => h) (.inl ⟨by rfl, by rintro w' ⟨s0, s1, s2, s3, s4, s5⟩; go_simp; with_reducible rfl⟩) hHeld (by simp only [Act.put, sA, sB, sC, qw, qx]; rfl) ?_
       refine qy (i := 9) (N := some 44) #[true, true, true, true, true, true, true, true, true, true] rfl rfl (by kernel_rfl) (fun _ _ _ h => h) (.inl ⟨by rfl, by intro w'; go_simp; with_reducible rfl⟩) (by simp only [Act.put, sA, sB, sC, qw, qx]; rfl) ?_
       refine zP (by kernel_rfl) ?_
       clear a0 a1 a2 p0 p1 p2
       go_wp2
       go_roundw
       case rel =>
        have hs := HSU.out
        rw [if_pos HQ2.out] at hs
        have hI := HI1.out
        have hM := HM.out
        have hO := HO.out
        rw [← hI] at hM hO
        rw [← hs] at hM hO
        exact ⟨m, k2 + 1, rfl, by go_num, by omega, by omega, by omega, hm1, ⟨by rw [hM]; congr 2; omega⟩, ⟨by rw [show k0 + (k2 + 1) = i + 1 by omega]; exact Kd.qz hO⟩, ⟨qf HB.out⟩, HW⟩
       case measure => simp [intOf]; omega
      ·have e1 : (!((qc l (i : Int)).f0 == (qc l (i1 : Int)).f0) || (!((qc l (i : Int)).f1 == (qc l (i1 : Int)).f1) || !((qc l (i : Int)).f2 == (qc l (i1 : Int)).f2))) = true := by
        have h9 := yS _ _ hq2
        revert h9
        cases ((qc l (i : Int)).f0 == (qc l (i1 : Int)).f0) <;> cases ((qc l (i : Int)).f1 == (qc l (i1 : Int)).f1) <;> cases ((qc l (i : Int)).f2 == (qc l (i1 : Int)).f2) <;> simp
       have HQ2 := qa.mk hq2
       clear hq2
       go_wp2
       refine zI (n := 10) (S := fun w' => w'.cell? ⟨g, k0 * 3 + k2 * 3, none⟩ = some (.int .i64 (qc l (i : Int)).f0) ∧ w'.cell? ⟨g, k0 * 3 + k2 * 3 + 1, none⟩ = some (.int .i64 (qc l (i : Int)).f1) ∧ w'.cell? ⟨g, k0 * 3 + k2 * 3 + 2, none⟩ = some (.int .i64 (qc l (i : Int)).f2) ∧ w'.cell? ⟨g, k0 * 3 + (wrap64 ((k2 : Int) - 1)).toNat * 3, none⟩ = some (.int .i64 (qc l (i1 : Int)).f0) ∧ w'.cell? ⟨g, k0 * 3 + (wrap64 ((k2 : Int) - 1)).toNat * 3 + 1, none⟩ = some (.int .i64 (qc l (i1 : Int)).f1) ∧ w'.cell? ⟨g, k0 * 3 + (wrap64 ((k2 : Int) - 1)).toNat * 3 + 2, none⟩ = some (.int .i64 (qc l (i1 : Int)).f2)) (ds := []) #[false, false, false, false, false, false, false, false, false, false] (by kernel_rfl) rfl rfl ⟨a0, a1, a2, p0, p1, p2⟩ (fun hHeld => ?_)
       refine qy (i := 0) (N := some 35) #[true, false, false, false, false, false, false, false, false, false] rfl rfl (by kernel_rfl) (fun _ _ _ h => h) (.inl ⟨by rfl, by intro w'; go_simp; with_reducible rfl⟩) (by simp only [Act.put, sA, sB, sC, qw, qx]; rfl) ?_
       refine qy (i := 1) (N := some 36) #[true, true, false, false, false, false, false, false, false, false] rfl rfl (by kernel_rfl) (fun _ _ _ h => h) (.inl ⟨by rfl, by intro w'; go_simp; with_reducible rfl⟩) (by simp only [Act.put, sA, sB, sC, qw, qx]; rfl) ?_
       refine qy (i := 2) (N := some 37) #[true, true, true, false, false, false, false, false, false, false] rfl rfl (by kernel_rfl) (fun _ _ _ h => h) (.inl ⟨by rfl, by intro w'; go_simp; with_reducible rfl⟩) (by simp only [Act.put, sA, sB, sC, qw, qx]; rfl) ?_
       refine qy (i := 4) (N := some 39) #[true, true, true, false, true, false, false, false, false, false] rfl rfl (by kernel_rfl) (fun _ _ _ h => h) (.inl ⟨by rfl, by intro w'; go_simp; with_reducible rfl⟩) (by simp only [Act.put, sA, sB, sC, qw, qx]; rfl) ?_
       refine qy (i := 5) (N := some 40) #[true, true, true, false, true, true, false, false, false, false] rfl rfl (by kernel_rfl) (fun _ _ _ h => h) (.inl ⟨by rfl, by intro w'; go_simp; with_reducible rfl⟩) (by simp only [Act.put, sA, sB, sC, qw, qx]; rfl) ?_
       refine qy (i := 6) (N := some 41) #[true, true, true, false, true, true, true, false, false, false] rfl rfl (by kernel_rfl) (fun _ _ _ h => h) (.inl ⟨by rfl, by intro w'; go_simp; with_reducible rfl⟩) (by simp only [Act.put, sA, sB, sC, qw, qx]; rfl) ?_
       refine qy (i := 7) (N := some 42) #[true, true, true, false, true, true, true, true, false, false] rfl rfl (by kernel_rfl) (fun _ _ _ h => h) (.inl ⟨by rfl, by intro w'; go_simp; with_reducible rfl⟩) (by simp only [Act.put, sA, sB, sC, qw, qx]; rfl) ?_
       refine vJ (i := 3) (N := some 38) #[true, true, true, true, true, true, true, true, false, false] rfl rfl (by kernel_rfl) (fun _ _ _ h => h) (.inl ⟨by rfl, by rintro w' ⟨s0, s1, s2, s3, s4, s5⟩; go_simp; with_reducible rfl⟩) hHeld (by simp only [Act.put, sA, sB, sC, qw, qx]; rfl) ?_
       refine vJ (i := 8) (N := some 43) #[true, true, true, true, true, true, true, true, true, false] rfl rfl (by kernel_rfl) (fun _ _ _ h => h) (.inl ⟨by rfl, by rintro w' ⟨s0, s1, s2, s3, s4, s5⟩; go_simp; with_reducible rfl⟩) hHeld (by simp only [Act.put, sA, sB, sC, qw, qx]; rfl) ?_
       refine qy (i := 9) (N := some 44) #[true, true, true, true, true, true, true, true, true, true] rfl rfl (by kernel_rfl) (fun _ _ _ h => h) (.inl ⟨by rfl, by intro w'; go_simp; with_reducible rfl⟩) (by simp only [Act.put, sA, sB, sC, qw, qx]; rfl) ?_
       refine zP (by kernel_rfl) ?_
       clear p0 p1 p2
       obtain ⟨m0, m1, m2⟩ := cellsE HO.out m (by omega)
       have HM0 := qa.mk m0
       have HM1 := qa.mk m1
       have HM2 := qa.mk m2
       clear m0 m1 m2
       have q4 : ((m : Int) < (n : Int)) = True := eq_true (by omega)
       go_wp2_with (first | (refine Kd.R_store k55 (w0 := w0) base rfl rfl 55 (.tmp 51) (.tmp 50) rfl 55 (g := g) (n := n) (cap := cap) (o' := m * 3) (m : Int) 0 _ (qc l (i : Int)) _ [.int .i64 (qc l (i : Int)).f0, .int .i64 (qc l (i : Int)).f1, .int .i64 (qc l (i : Int)).f2] [.int .i64 (qc (Lib.compactUpTo l.toArray (k0 + k2) ++ l.drop m) (m : Int)).f0, .int .i64 (qc (Lib.compactUpTo l.toArray (k0 + k2) ++ l.drop m) (m : Int)).f1, .int .i64 (qc (Lib.compactUpTo l.toArray (k0 + k2) ++ l.drop m) (m : Int)).f2] (fun _ => True) (fun _ => False) rfl rfl rfl rfl (by kernel_rfl) (by simp [Value.oneCell']) (Kd.qz HO.out) (by omega) (by omega) rfl ?cc (Nat.le_refl 3) (wm _ _ _ _) (fun _ h => h.elim) (qf HB.out) ?_; (case cc => exact yG HM0.out HM1.out HM2.out); intro w1 ho1 hb1 hg1; have HO1 := qa.mk ho1; have HB1 := qa.mk hb1; have HW1 : qa (base ≤ w1.heap.size) := ⟨Nat.le_trans HW.out hg1.size⟩; clear ho1 hb1 hg1))
       clear a0 a1 a2
       go_roundw
       case rel =>
        have hs := HSU.out
        rw [if_neg HQ2.out] at hs
        have hI := HI1.out
        have hM := HM.out
        have hO := HO1.out
        rw [Int.toNat_natCast, yX _ _ _ _ hM (by rw [← HN.out]; omega)] at hO
        rw [← hI] at hM hO
        rw [← hs] at hO
        have hL := congrArg List.length hs
        rw [List.length_append, List.length_singleton, ← hM] at hL
        exact ⟨m + 1, k2 + 1, by go_num, by go_num, by omega, by omega, by omega, by omega, ⟨by rw [← hL]; congr 2; omega⟩, ⟨by rw [show k0 + (k2 + 1) = i + 1 by omega]; exact hO⟩, HB1, HW1⟩
       case measure => simp [intOf]; omega
     ·have ek : k2 = n - k0 := by omega
      have d1 : decide ((k2 : Int) < ((n - k0 : Nat) : Int)) = false := decide_eq_false (by omega)
      have d2 : decide (k2 < n - k0) = false := decide_eq_false (by omega)
      have hmn : m < n := by omega
      obtain ⟨W', hcl, ho3, hg3⟩ := yu (c := cap - m) HO.out hmn
      have HO3 := qa.mk ho3
      have HG3 := qa.mk hg3
      have HX : qa (k0 + k2 = n) := ⟨by omega⟩
      have q5 : ((m : Int) ≤ (n : Int)) = True := eq_true (by omega)
      have q6 : ((m : Int) ≤ (cap : Int)) = True := eq_true (by omega)
      clear ho3 hg3 hz1 ek
      go_wp2
      go_ret
      refine ⟨_, rfl, ?_, ?_⟩
      ·have h := HO3.out
       rw [List.take_append_of_le_length (by rw [← HM.out]; exact Nat.le_refl _), List.take_of_length_le (by rw [← HM.out]; exact Nat.le_refl _), HX.out, HN.out] at h
       exact h
      ·exact HB.out.grown HG3.out HW.out (fun k hk => by cases hk; exact Kd.vE HO.out g (by simp [Value.ownBlock]))
   ·have e1 := yS _ _ hq
    have HQ := qa.mk hq
    clear hq
    go_wp2
    refine zI (n := 10) (S := fun w' => w'.cell? ⟨g, k * 3, none⟩ = some (.int .i64 (qc l (k : Int)).f0) ∧ w'.cell? ⟨g, k * 3 + 1, none⟩ = some (.int .i64 (qc l (k : Int)).f1) ∧ w'.cell? ⟨g, k * 3 + 2, none⟩ = some (.int .i64 (qc l (k : Int)).f2) ∧ w'.cell? ⟨g, (wrap64 ((k : Int) - 1)).toNat * 3, none⟩ = some (.int .i64 (qc l (wrap64 ((k : Int) - 1))).f0) ∧ w'.cell? ⟨g, (wrap64 ((k : Int) - 1)).toNat * 3 + 1, none⟩ = some (.int .i64 (qc l (wrap64 ((k : Int) - 1))).f1) ∧ w'.cell? ⟨g, (wrap64 ((k : Int) - 1)).toNat * 3 + 2, none⟩ = some (.int .i64 (qc l (wrap64 ((k : Int) - 1))).f2)) (ds := []) #[false, false, false, false, false, false, false, false, false, false] (by kernel_rfl) rfl rfl ⟨a0, a1, a2, p0, p1, p2⟩ (fun hHeld => ?_)
    refine qy (i := 0) (N := some 16) #[true, false, false, false, false, false, false, false, false, false] rfl rfl (by kernel_rfl) (fun _ _ _ h => h) (.inl ⟨by rfl, by intro w'; go_simp; with_reducible rfl⟩) (by simp only [Act.put, sA, sB, sC, qw, qx]; rfl) ?_
    refine qy (i := 1) (N := some 17) #[true, true, false, false, false, false, false, false, false, false] rfl rfl (by kernel_rfl) (fun _ _ _ h => h) (.inl ⟨by rfl, by intro w'; go_simp; with_reducible rfl⟩) (by simp only [Act.put, sA, sB, sC, qw, qx]; rfl) ?_
    refine qy (i := 2) (N := some 18) #[true, true, true, false, false, false, false, false, false, false] rfl rfl (by kernel_rfl) (fun _ _ _ h => h) (.inl ⟨by rfl, by intro w'; go_simp; with_reducible rfl⟩) (by simp only [Act.put, sA, sB, sC, qw, qx]; rfl) ?_
    refine qy (i := 4) (N := some 20) #[true, true, true, false, true, false, false, false, false, false] rfl rfl (by kernel_rfl) (fun _ _ _ h => h) (.inl ⟨by rfl, by intro w'; go_simp; with_reducible rfl⟩) (by simp only [Act.put, sA, sB, sC, qw, qx]; rfl) ?_
    refine qy (i := 5) (N := some 21) #[true, true, true, false, true, true, false, false, false, false] rfl rfl (by kernel_rfl) (fun _ _ _ h => h) (.inl ⟨by rfl, by intro w'; go_simp; with_reducible rfl⟩) (by simp only [Act.put, sA, sB, sC, qw, qx]; rfl) ?_
    refine qy (i := 6) (N := some 22) #[true, true, true, false, true, true, true, false, false, false] rfl rfl (by kernel_rfl) (fun _ _ _ h => h) (.inl ⟨by rfl, by intro w'; go_simp; with_reducible rfl⟩) (by simp only [Act.put, sA, sB, sC, qw, qx]; rfl) ?_
    refine qy (i := 7) (N := some 23) #[true, true, true, false, true, true, true, true, false, false] rfl rfl (by kernel_rfl) (fun _ _ _ h => h) (.inl ⟨by rfl, by intro w'; go_simp; with_reducible rfl⟩) (by simp only [Act.put, sA, sB, sC, qw, qx]; rfl) ?_
    refine vJ (i := 3) (N := some 19) #[true, true, true, true, true, true, true, true, false, false] rfl rfl (by kernel_rfl) (fun _ _ _ h => h) (.inl ⟨by rfl, by rintro w' ⟨s0, s1, s2, s3, s4, s5⟩; go_simp; with_reducible rfl⟩) hHeld (by simp only [Act.put, sA, sB, sC, qw, qx]; rfl) ?_
    refine vJ (i := 8) (N := some 24) #[true, true, true, true, true, true, true, true, true, false] rfl rfl (by kernel_rfl) (fun _ _ _ h => h) (.inl ⟨by rfl, by rintro w' ⟨s0, s1, s2, s3, s4, s5⟩; go_simp; with_reducible rfl⟩) hHeld (by simp only [Act.put, sA, sB, sC, qw, qx]; rfl) ?_
    refine qy (i := 9) (N := some 25) #[true, true, true, true, true, true, true, true, true, true] rfl rfl (by kernel_rfl) (fun _ _ _ h => h) (.inl ⟨by rfl, by intro w'; go_simp; with_reducible rfl⟩) (by simp only [Act.put, sA, sB, sC, qw, qx]; rfl) ?_
    refine zP (by kernel_rfl) ?_
    clear a0 a1 a2 p0 p1 p2
    go_wp2
    go_roundw
    case rel => exact ⟨k + 1, by go_num, by omega, by omega, ⟨fun j h1 h2 => by
      rcases Nat.lt_or_ge j k with hj | hj
      ·exact HD.out j h1 hj
      ·obtain rfl : j = k := by omega
       rw [HWC.out]
       exact HQ.out⟩, ⟨Kd.qz HO.out⟩, ⟨qf HB.out⟩, HW⟩
    case measure => simp [intOf]; omega
  ·have e : k = n := by omega
   subst e
   have d1 : decide ((k : Int) < (k : Int)) = false := decide_eq_false (by omega)
   have d2 : decide (k < k) = false := decide_eq_false (by omega)
   go_wp2
   go_ret
   refine ⟨_, rfl, ?_, HB.out⟩
   have : zx l = l := by
    unfold zx Lib.compact
    rw [xS l l.length (Nat.le_refl _) (fun j h1 h2 => HD.out j h1 (by rw [HN.out]; exact h2)), List.take_length]
   rw [this]
   exact HO.out
end Go.Proofs.Ytcjbghmhdefdiaa.S
namespace Go.Proofs.Ytcjbghmhdefdiaa.S
open Go.RowKit Go.Proofs.YtcjbghmhdefdiaaW.PrintWords Go.Proofs.YtcjbghmhdefdiaaW.PrintLast Go.Proofs.YtcjbghmhdefdiaaW.PrintMore
set_option linter.unusedVariables false
def zl.f (l : List S55) : Option (List S55) := if l.length < 5864062014805 then some l else none
set_option maxHeartbeats 1000000 in
set_option maxRecDepth 100000 in
theorem zl.calls (A0 : Option Addr) (c0 : Nat) (l0 : List S55) (r : List S55) (w : World) (hr0 : Kd.C k55 w A0 l0.length l0) (hc0 : l0.length ≤ c0) (h : zl.f l0 = some r) :
  Calls Try.prog 124 #[.slice A0 l0.length c0] w fun e w' => ∃ v0_ : Value, e = .returned (v0_) ∧ Kd.R k55 55 w' w.heap.size (fun _ => True) v0_ r ∧ Below w.heap.size w w' := by
 unfold zl.f at h
 by_cases hlt : l0.length < 5864062014805
 ·rw [if_pos hlt] at h
  obtain rfl := Option.some.inj h
  clear h
  have hut := Try.underlying23
  rcases A0 with _ | ad
  ·have hz : l0 = [] := List.eq_nil_of_length_eq_zero (by
    rcases Nat.eq_zero_or_pos l0.length with h0 | h0
    ·exact h0
    ·obtain ⟨ad, e, _⟩ := hr0.2.2 h0
     cases e)
   subst hz
   clear hr0
   have hq := fun (W : World) => Lib.run_eql_slice_nil (P := Try.prog) W 23 55 none 0 c0 0 0 Try.underlying23
   go_enter Try.func124, Try.ntmps124
   go_wp2
   go_ret
   exact ⟨_, rfl, Kd.jO _ _ _ _ _, Below.refl _ _⟩
  ·have HR := qa.mk hr0
   clear hr0
   have hq := fun (W : World) => Lib.run_eql_slice_nil (P := Try.prog) W 23 55 (some ad) l0.length c0 0 0 Try.underlying23
   go_enter Try.func124, Try.ntmps124
   go_wp2_with (first | ((with_reducible refine qY (N := 5) rfl ?_); refine Kd.jS k55 w.heap.size 55 ?hg (N := 5) ?hd (xs := ([] : List S55)) (inner := []) (ok := fun _ => True) (okp := fun _ => True) ?hr ?hp (fun _ hk => hk) trivial (Below.refl _ _) (Nat.le_refl _) (by simp) ?_; (case hd => rfl); (case hg => rfl); (case hr => first | (go_simp; done) | (go_simp; rfl)); (case hp => exact (Reps.none _ _)); intro v5 w5 ho5 hb5 hg_ hnew_; clear hg_ hnew_; have HO := qa.mk ho5; have HB := qa.mk hb5; clear ho5 hb5) | ((with_reducible refine zz (b := .append) (xs := #[.tmp 5, .tmp 6]) rfl ?_); at_builtin; refine Kd.zW k55 (w0 := w) w.heap.size rfl (.tmp 5) (.tmp 6) 23 55 (.agg #[.int .i64 0, .int .i64 0, .int .i64 0]) 24 rfl Try.underlying23 zZ rfl (by decide) (by omega) _ [] l0 _ _ _ (fun _ => True) (fun _ => False) rfl rfl HO.out (Kd.qU HR.out HB.out) (fun x cs h => (by obtain rfl := yQ h; exact wm _ _ _ _)) (fun _ h => h.elim) (fun _ _ => trivial) HB.out (Below.size HB.out) (by simp only [List.length_nil]; omega) ?_; intro v7 w7 ho7 hb7 hg_ hnew_; clear hg_ hnew_; have HO7 := qa.mk ho7; have HB7 := qa.mk hb7; clear ho7 hb7))
   go_ret
   exact ⟨_, rfl, HO7.out, HB7.out⟩
 ·rw [if_neg hlt] at h
  cases h
def za.f (l : List ByteArray) : Option (List ByteArray) := if l.length < 8796093022208 then some l else none
set_option maxHeartbeats 1000000 in
set_option maxRecDepth 100000 in
theorem za.calls (A0 : Option Addr) (c0 : Nat) (l0 : List ByteArray) (r : List ByteArray) (w : World) (hr0 : Kd.C Kd.string w A0 l0.length l0) (hc0 : l0.length ≤ c0) (h : za.f l0 = some r) :
  Calls Try.prog 128 #[.slice A0 l0.length c0] w fun e w' => ∃ v0_ : Value, e = .returned (v0_) ∧ Kd.R Kd.string 9 w' w.heap.size (fun _ => True) v0_ r ∧ Below w.heap.size w w' := by
 unfold za.f at h
 by_cases hlt : l0.length < 8796093022208
 ·rw [if_pos hlt] at h
  obtain rfl := Option.some.inj h
  clear h
  have hut := Try.underlying22
  rcases A0 with _ | ad
  ·have hz : l0 = [] := List.eq_nil_of_length_eq_zero (by
    rcases Nat.eq_zero_or_pos l0.length with h0 | h0
    ·exact h0
    ·obtain ⟨ad, e, _⟩ := hr0.2.2 h0
     cases e)
   subst hz
   clear hr0
   have hq := fun (W : World) => Lib.run_eql_slice_nil (P := Try.prog) W 22 9 none 0 c0 0 0 Try.underlying22
   go_enter Try.func128, Try.ntmps128
   go_wp2
   go_ret
   exact ⟨_, rfl, Kd.jO _ _ _ _ _, Below.refl _ _⟩
  ·have HR := qa.mk hr0
   clear hr0
   have hq := fun (W : World) => Lib.run_eql_slice_nil (P := Try.prog) W 22 9 (some ad) l0.length c0 0 0 Try.underlying22
   go_enter Try.func128, Try.ntmps128
   go_wp2_with (first | ((with_reducible refine qY (N := 5) rfl ?_); refine Kd.jS Kd.string w.heap.size 9 ?hg (N := 5) ?hd (xs := ([] : List ByteArray)) (inner := []) (ok := fun _ => True) (okp := fun _ => True) ?hr ?hp (fun _ hk => hk) trivial (Below.refl _ _) (Nat.le_refl _) (by simp) ?_; (case hd => rfl); (case hg => rfl); (case hr => first | (go_simp; done) | (go_simp; rfl)); (case hp => exact (Reps.none _ _)); intro v5 w5 ho5 hb5 hg_ hnew_; clear hg_ hnew_; have HO := qa.mk ho5; have HB := qa.mk hb5; clear ho5 hb5) | ((with_reducible refine zz (b := .append) (xs := #[.tmp 5, .tmp 6]) rfl ?_); at_builtin; refine Kd.zW Kd.string (w0 := w) w.heap.size rfl (.tmp 5) (.tmp 6) 22 9 (.string ⟨#[]⟩) 16 rfl Try.underlying22 info9 rfl (by decide) (by omega) _ [] l0 _ _ _ (fun _ => True) (fun _ => False) rfl rfl HO.out (Kd.qU HR.out HB.out) (fun _ _ h => h) (fun _ h => h.elim) (fun _ _ => trivial) HB.out (Below.size HB.out) (by simp only [List.length_nil]; omega) ?_; intro v7 w7 ho7 hb7 hg_ hnew_; clear hg_ hnew_; have HO7 := qa.mk ho7; have HB7 := qa.mk hb7; clear ho7 hb7))
   go_ret
   exact ⟨_, rfl, HO7.out, HB7.out⟩
 ·rw [if_neg hlt] at h
  cases h
end Go.Proofs.Ytcjbghmhdefdiaa.S
namespace Go.Proofs.Ytcjbghmhdefdiaa.S
open Go.RowKit Go.Proofs.YtcjbghmhdefdiaaW.PrintWords Go.Proofs.YtcjbghmhdefdiaaW.PrintLast Go.Proofs.YtcjbghmhdefdiaaW.PrintMore
set_option linter.unusedVariables false
set_option linter.unusedSimpArgs false
def zh.f (k : Nat) (n : Int) (ls : List ByteArray) (es : List S55) : Option (Int × (List ByteArray) × (List S55) × Int) :=
 if es.length < 5864062014805 then (qK.f k n ls (zx (wh es))).bind fun e => if e = 0 then (if ls.length < 8796093022208 then some (n, ls, zx (wh es), 0) else none) else some (0, [], [], e) else none
theorem zh.mono : ∀ a0 a1 a2 k, LeO (zh.f k a0 a1 a2) (zh.f (k + 1) a0 a1 a2) := by
 intro a0 a1 a2 k
 unfold zh.f
 refine LeO.ite (LeO.bind (qK.mono _ _ _ _) fun _ => LeO.refl _) (LeO.refl _)
theorem je (l : List S55) : (zx l).length ≤ l.length := yj l l.length
theorem yx (l : List S55) (v : Value) (base : Nat) (w0 W : World) (hB : Below base w0 W) (ho : Kd.R k55 55 W base (fun _ => True) v l) (hlt : l.length < 5864062014805) (hWb : base ≤ W.heap.size) :
  Calls Try.prog 127 #[v] W fun e W2 => ∃ v, e = .returned v ∧ Kd.R k55 55 W2 base (fun _ => True) v (zx l) ∧ Below base w0 W2 := by
 have ho2 := ho
 obtain ⟨_, inner, ho3, _⟩ := ho2
 rcases ho3.2 with ⟨rfl, hn⟩ | ⟨g, cap, cur, rfl, hg, hh, hnc, hcm, hcs, htake⟩
 ·obtain rfl := List.eq_nil_of_length_eq_zero hn
  have HO := qa.mk ho
  have HB := qa.mk hB
  clear ho ho3 hn hB
  go_enter Try.func127, Try.ntmps127
  go_wp2
  go_ret
  exact ⟨_, rfl, by rw [show zx [] = [] by simp [zx, Lib.compact, Lib.compactUpTo]]; exact HO.out, HB.out⟩
 ·exact ky l g cap base w0 W hB ho hlt hWb
theorem zR {α : Type} {d : Kd α} {e : Nat} {w : World} {base g : Nat} {v : Value} {l : List α} (h : d.R e w base (fun _ => True) v l) (hg : g < base) (j : Nat) (u : Value) : d.R e (w.setCell ⟨g, j, none⟩ u) base (fun _ => True) v l :=
 Kd.qW (Kd.vT (Kd.wI h) (fun k hk => by have h1 := hk.2.1; show k ≠ g; omega) u) (fun _ _ => trivial)
theorem jV {w w1 : World} {base g : Nat} {o : Obj} (h : w.heap[g]? = some o) (hb : Below base w w1) (hg : g < base) : w1.heap[g]? = some o := (hb.block g hg).trans h
set_option maxHeartbeats 4000000 in
set_option maxRecDepth 100000 in
theorem zh.calls (k : Nat) (a0_0 : Int) (A0_1 : Option Addr) (c0_1 : Nat) (l0_1 : List ByteArray) (A0_2 : Option Addr) (c0_2 : Nat) (l0_2 : List (S55)) (r1 : Int) (r2 : List ByteArray) (r3 : List (S55)) (r4 : Int) (w : World) (hr0_1 : Kd.C Kd.string w A0_1 l0_1.length l0_1) (hc0_1 : l0_1.length ≤ c0_1) (hr0_2 : Kd.C k55 w A0_2 l0_2.length l0_2) (hc0_2 : l0_2.length ≤ c0_2) (h : zh.f k a0_0 l0_1 l0_2 = some (r1, r2, r3, r4)) :
  Calls Try.prog 65 #[.agg #[.int .i64 a0_0, .slice A0_1 l0_1.length c0_1, .slice A0_2 l0_2.length c0_2]] w fun e w' => ∃ v1_ v2_ : Value, e = .returned (.tuple #[.agg #[.int .i64 r1, v1_, v2_], .int .i64 r4]) ∧ Kd.R Kd.string 9 w' w.heap.size (fun _ => True) v1_ r2 ∧ Kd.R k55 55 w' w.heap.size (fun _ => True) v2_ r3 ∧ Below w.heap.size w w' := by
 have hu25 := Try.underlying25
 unfold zh.f at h
 by_cases hlt0 : ¬ l0_2.length < 5864062014805
 ·rw [if_neg hlt0] at h; cases h
 have hlt : l0_2.length < 5864062014805 := by omega
 clear hlt0
 rw [if_pos hlt] at h
 obtain ⟨e, hck, h⟩ := Option.bind_eq_some_iff.1 h
 have HK := qa.mk hck
 have HR1 := qa.mk hr0_1
 have HR2 := qa.mk hr0_2
 have HC1 := qa.mk hc0_1
 have HC2 := qa.mk hc0_2
 have H := qa.mk h
 clear hck hr0_1 hr0_2 hc0_1 hc0_2 h
 have HL : qa ((wh l0_2).length < 5864062014805) := ⟨by rw [jf]; exact hlt⟩
 go_enter Try.func65, Try.ntmps65
 go_wp2_with fail
 have BK1 := qa.mk (qh (zY w (.cells #[.int .i64 a0_0, .slice A0_1 l0_1.length c0_1, .slice A0_2 l0_2.length c0_2] 25)) (.cells #[.int .i64 0, .slice none 0 0, .slice none 0 0] 25))
 have BK2 := qa.mk (zY (w.alloc (.cells #[.int .i64 a0_0, .slice A0_1 l0_1.length c0_1, .slice A0_2 l0_2.length c0_2] 25)) (.cells #[.int .i64 0, .slice none 0 0, .slice none 0 0] 25))
 have HB := qa.mk (qg (qg (Below.refl w.heap.size w) (.cells #[.int .i64 a0_0, .slice A0_1 l0_1.length c0_1, .slice A0_2 l0_2.length c0_2] 25)) (.cells #[.int .i64 0, .slice none 0 0, .slice none 0 0] 25))
 rw [show (w.alloc (.cells #[.int .i64 a0_0, .slice A0_1 l0_1.length c0_1, .slice A0_2 l0_2.length c0_2] 25)).heap.size = w.heap.size + 1 by simp] at BK2
 obtain ⟨g1, hg1⟩ : ∃ g1, g1 = w.heap.size := ⟨_, rfl⟩
 obtain ⟨g2, hg2⟩ : ∃ g2, g2 = w.heap.size + 1 := ⟨_, rfl⟩
 rw [← hg2] at BK2 ⊢
 rw [← hg1] at BK1 ⊢
 have HG1 : qa (w.heap.size ≤ g1) := ⟨by omega⟩
 have HG2 : qa (w.heap.size ≤ g2) := ⟨by omega⟩
 have HNE : qa (g1 ≠ g2) := ⟨by omega⟩
 clear hg1 hg2
 generalize ((w.alloc (.cells #[.int .i64 a0_0, .slice A0_1 l0_1.length c0_1, .slice A0_2 l0_2.length c0_2] 25)).alloc (.cells #[.int .i64 0, .slice none 0 0, .slice none 0 0] 25)) = wA at BK1 BK2 HB ⊢
 (with_reducible refine (zl.calls _ _ l0_2 _ _ (Kd.qU HR2.out HB.out) HC2.out (by unfold zl.f; exact if_pos hlt)).mono ?_)
 rintro e1 w1 ⟨v1, rfl, ho1, hb1⟩
 obtain ⟨Av1, cv1, rfl⟩ := Kd.zn ho1
 have B1 := qa.mk (qB BK1.out hb1)
 have B2 := qa.mk (qB BK2.out hb1)
 have HB1 := qa.mk (qD HB.out hb1)
 have HO1 := qa.mk ho1
 have HS1 : qa (wA.heap.size ≤ w1.heap.size) := ⟨hb1.size⟩
 have HL1 : qa (g1 < wA.heap.size) := ⟨vz BK1.out⟩
 have HL2 : qa (g2 < wA.heap.size) := ⟨vz BK2.out⟩
 clear BK1 BK2 HB ho1 hb1
 obtain ⟨base, hbase⟩ : ∃ b, b = wA.heap.size := ⟨_, rfl⟩
 rw [← hbase] at HO1 HS1 HL1 HL2
 clear hbase
 have x0 := (qj B1.out 2).trans rfl
 have f0 := qm B1.out 2
 have f1 := qm B1.out 1
 go_wp2_with fail
 have B1b := qa.mk (wP B1.out 2 (.slice Av1 l0_2.length cv1))
 have B2b := qa.mk (vG (p := ⟨g1, 2, none⟩) B2.out (fun e => HNE.out e.symm) (.slice Av1 l0_2.length cv1))
 have HB2 := qa.mk (qd HB1.out HG1.out (j := 2) (v := .slice Av1 l0_2.length cv1))
 have HO2 := qa.mk (zR HO1.out HL1.out 2 (.slice Av1 l0_2.length cv1))
 have HS2 : qa (base ≤ (w1.setCell ⟨g1, 2, none⟩ (.slice Av1 l0_2.length cv1)).heap.size) := ⟨by rw [World.size_setCell]; exact HS1.out⟩
 clear B1 B2 HB1 HO1 HS1 x0 f0 f1
 generalize (w1.setCell ⟨g1, 2, none⟩ (.slice Av1 l0_2.length cv1)) = w2 at B1b B2b HB2 HO2 HS2 ⊢
 have x0 := (qj B1b.out 2).trans rfl
 (with_reducible refine (Qa l0_2 (.slice Av1 l0_2.length cv1) base w2 w2 (Below.refl _ _) HO2.out (by omega) HS2.out).mono ?_)
 rintro e2 w3 ⟨rfl, ho3, hb3, _⟩
 have B1 := qa.mk (jV B1b.out hb3 HL1.out)
 have B2 := qa.mk (jV B2b.out hb3 HL2.out)
 have HB3 : qa (Below w.heap.size w w3) := ⟨HB2.out.trans ⟨hb3.os, hb3.tape, hb3.output, hb3.size, fun k hk => hb3.block k (by have := HG1.out; have := HL1.out; omega)⟩⟩
 have HO3 := qa.mk ho3
 have HS3 : qa (base ≤ w3.heap.size) := ⟨Nat.le_trans HS2.out hb3.size⟩
 clear B1b B2b HB2 HO2 HS2 x0 ho3 hb3
 have x0 := (qj B1.out 2).trans rfl
 go_wp2_with fail
 (with_reducible refine (yx (wh l0_2) (.slice Av1 l0_2.length cv1) base w3 w3 (Below.refl _ _) HO3.out HL.out HS3.out).mono ?_)
 rintro e3 w4 ⟨v3, rfl, ho4, hb4⟩
 obtain ⟨Av3, cv3, rfl⟩ := Kd.zn ho4
 obtain ⟨L, hL⟩ : ∃ L, L = zx (wh l0_2) := ⟨_, rfl⟩
 rw [← hL] at ho4
 have HKL := HK
 rw [← hL] at HKL
 have HH := H
 rw [← hL] at HH
 have HLL : qa (L.length < 5864062014805) := ⟨by rw [hL]; have := je (wh l0_2); have := HL.out; omega⟩
 rw [← hL]
 clear hL HK H HL
 have B1b := qa.mk (jV B1.out hb4 HL1.out)
 have B2b := qa.mk (jV B2.out hb4 HL2.out)
 have HB4 : qa (Below w.heap.size w w4) := ⟨HB3.out.trans ⟨hb4.os, hb4.tape, hb4.output, hb4.size, fun k hk => hb4.block k (by have := HG1.out; have := HL1.out; omega)⟩⟩
 have HO4 := qa.mk ho4
 have HS4 : qa (base ≤ w4.heap.size) := ⟨Nat.le_trans HS3.out hb4.size⟩
 clear B1 B2 HB3 HO3 HS3 x0 ho4 hb4
 have x0 := (qj B1b.out 2).trans rfl
 have y0 := (qj B1b.out 0).trans rfl
 have y1 := (qj B1b.out 1).trans rfl
 have f0 := qm B1b.out 2
 go_wp2_with fail
 have B1 := qa.mk (wP B1b.out 2 (.slice Av3 L.length cv3))
 have B2 := qa.mk (vG (p := ⟨g1, 2, none⟩) B2b.out (fun e => HNE.out e.symm) (.slice Av3 L.length cv3))
 have HB5 := qa.mk (qd HB4.out HG1.out (j := 2) (v := .slice Av3 L.length cv3))
 have HO5 := qa.mk (zR HO4.out HL1.out 2 (.slice Av3 L.length cv3))
 have HS5 : qa (base ≤ (w4.setCell ⟨g1, 2, none⟩ (.slice Av3 L.length cv3)).heap.size) := ⟨by rw [World.size_setCell]; exact HS4.out⟩
 clear B1b B2b HB4 HO4 HS4 x0 y0 y1 f0
 generalize (w4.setCell ⟨g1, 2, none⟩ (.slice Av3 L.length cv3)) = w5 at B1 B2 HB5 HO5 HS5 ⊢
 obtain ⟨_, hlc, hC⟩ := Kd.qH HO5.out
 (with_reducible refine (qK.calls k a0_0 _ _ l0_1 _ _ L _ _ (Kd.qU HR1.out HB5.out) HC1.out hC hlc HKL.out).mono ?_)
 rintro e4 w6 ⟨rfl, hb6⟩
 have B1b := qa.mk (qB B1.out hb6)
 have B2b := qa.mk (qB B2.out hb6)
 have HB6 := qa.mk (qD HB5.out hb6)
 have HO6 := qa.mk (Kd.qL HO5.out hb6)
 have HS6 : qa (base ≤ w6.heap.size) := ⟨Nat.le_trans HS5.out hb6.size⟩
 clear B1 B2 HB5 HO5 HS5 hlc hC hb6
 by_cases he : e = 0
 ·subst he
  have hH := HH.out
  rw [if_pos rfl] at hH
  by_cases hll : ¬ l0_1.length < 8796093022208
  ·rw [if_neg hll] at hH; cases hH
  have hll2 : l0_1.length < 8796093022208 := by omega
  clear hll
  rw [if_pos hll2] at hH
  have hH2 := Option.some.inj hH
  simp only [Prod.mk.injEq] at hH2
  obtain ⟨rfl, rfl, rfl, rfl⟩ := hH2
  clear hH HH
  have x0 := (qj B1b.out 1).trans rfl
  go_wp2_with fail
  (with_reducible refine (za.calls _ _ l0_1 _ _ (Kd.qU HR1.out HB6.out) HC1.out (by unfold za.f; exact if_pos hll2)).mono ?_)
  rintro e5 w7 ⟨v7, rfl, ho7, hb7⟩
  obtain ⟨Av7, cv7, rfl⟩ := Kd.zn ho7
  have B1 := qa.mk (qB B1b.out hb7)
  have B2 := qa.mk (qB B2b.out hb7)
  have HB7 := qa.mk (qD HB6.out hb7)
  have HO7 := qa.mk (Kd.qL HO6.out hb7)
  have HP7 := qa.mk (Kd.vO ho7 HS6.out)
  clear B1b B2b HB6 HO6 ho7 hb7 x0
  have y0 := (qj B1.out 0).trans rfl
  have y1 := (qj B1.out 1).trans rfl
  have y2 := (qj B1.out 2).trans rfl
  have z0 := (qj B2.out 0).trans rfl
  have z1 := (qj B2.out 1).trans rfl
  have z2 := (qj B2.out 2).trans rfl
  have f0 := qm B1.out 0
  have f1 := qm B1.out 1
  have f2 := qm B1.out 2
  have i0 := qm B2.out 0
  have i1 := qm B2.out 1
  have i2 := qm B2.out 2
  have hne := HNE.out
  have hne2 : g2 ≠ g1 := fun e => hne e.symm
  go_wp2
  clear y0 y1 y2 z0 z1 z2 f0 f1 f2 i0 i1 i2 hne hne2
  have B2E := wP (wP (wP (vG (p := ⟨g1, 1, none⟩) B2.out (fun e => HNE.out e.symm) (.slice Av7 l0_1.length cv7)) 0 (.int .i64 a0_0)) 1 (.slice Av7 l0_1.length cv7)) 2 (.slice Av3 L.length cv3)
  have hb1 := qd HB7.out HG1.out (j := 1) (v := .slice Av7 l0_1.length cv7)
  have hb2 := qd (qd (qd hb1 HG2.out (j := 0) (v := .int .i64 a0_0)) HG2.out (j := 1) (v := .slice Av7 l0_1.length cv7)) HG2.out (j := 2) (v := .slice Av3 L.length cv3)
  have ho1 := zR (zR (zR (zR HO7.out HL1.out 1 (.slice Av7 l0_1.length cv7)) HL2.out 0 (.int .i64 a0_0)) HL2.out 1 (.slice Av7 l0_1.length cv7)) HL2.out 2 (.slice Av3 L.length cv3)
  have hp1 := zR (zR (zR (zR HP7.out HL1.out 1 (.slice Av7 l0_1.length cv7)) HL2.out 0 (.int .i64 a0_0)) HL2.out 1 (.slice Av7 l0_1.length cv7)) HL2.out 2 (.slice Av3 L.length cv3)
  generalize ((((w7.setCell ⟨g1, 1, none⟩ (.slice Av7 l0_1.length cv7)).setCell ⟨g2, 0, none⟩ (.int .i64 a0_0)).setCell ⟨g2, 1, none⟩ (.slice Av7 l0_1.length cv7)).setCell ⟨g2, 2, none⟩ (.slice Av3 L.length cv3)) = wE at B2E hb2 ho1 hp1 ⊢
  have z0 := (qj B2E 0).trans rfl
  have z1 := (qj B2E 1).trans rfl
  have z2 := (qj B2E 2).trans rfl
  refine bodyPost_ret (v := .tuple #[.agg #[.int .i64 a0_0, .slice Av7 l0_1.length cv7, .slice Av3 L.length cv3], .int .i64 0]) (by simp [results, Try.results65, go_sem, hu25, z0, z1, z2]) rfl ⟨_, _, rfl, Kd.vO hp1 ?_, Kd.vO ho1 ?_, hb2⟩
  ·have := HG1.out; have := HL1.out; omega
  ·have := HG1.out; have := HL1.out; omega
 ·have hH := HH.out
  rw [if_neg he] at hH
  have hH2 := Option.some.inj hH
  simp only [Prod.mk.injEq] at hH2
  obtain ⟨rfl, rfl, rfl, rfl⟩ := hH2
  clear hH HH
  have d1 : (e != 0) = true := by simpa using he
  have d2 : (e == 0) = false := by simpa using he
  have z0 := (qj B2b.out 0).trans rfl
  have z1 := (qj B2b.out 1).trans rfl
  have z2 := (qj B2b.out 2).trans rfl
  have i0 := qm B2b.out 0
  have i1 := qm B2b.out 1
  have i2 := qm B2b.out 2
  clear he
  go_wp2
  clear z0 z1 z2 i0 i1 i2
  have B2E := wP (wP (wP B2b.out 0 (.int .i64 0)) 1 (.slice none 0 0)) 2 (.slice none 0 0)
  have hb2 := qd (qd (qd HB6.out HG2.out (j := 0) (v := .int .i64 0)) HG2.out (j := 1) (v := .slice none 0 0)) HG2.out (j := 2) (v := .slice none 0 0)
  generalize (((w6.setCell ⟨g2, 0, none⟩ (.int .i64 0)).setCell ⟨g2, 1, none⟩ (.slice none 0 0)).setCell ⟨g2, 2, none⟩ (.slice none 0 0)) = wE at B2E hb2 ⊢
  have z0 := (qj B2E 0).trans rfl
  have z1 := (qj B2E 1).trans rfl
  have z2 := (qj B2E 2).trans rfl
  exact bodyPost_ret (v := .tuple #[.agg #[.int .i64 0, .slice none 0 0, .slice none 0 0], .int .i64 e]) (by simp [results, Try.results65, go_sem, hu25, z0, z1, z2]) rfl ⟨_, _, rfl, Kd.jO _ _ _ _ _, Kd.jO _ _ _ _ _, hb2⟩
end Go.Proofs.Ytcjbghmhdefdiaa.S
namespace Go.Proofs.Ytcjbghmhdefdiaa.S
open Go.RowKit Go.Proofs.YtcjbghmhdefdiaaW.PrintWords Go.Proofs.YtcjbghmhdefdiaaW.PrintLast Go.Proofs.YtcjbghmhdefdiaaW.PrintMore
attribute [local go_sem] vW vZ zi zk vL vK vY vV
set_option linter.unusedVariables false
set_option linter.unusedSimpArgs false
def wu.f (a0_0 : Int) (a0_1 : Int) (a0_2 : Int) (a1 : Int) : Option (Int) := (cmp_Compare_int.f a0_0 a1).bind fun t966 => (some t966)
set_option maxHeartbeats 8000000 in
set_option maxRecDepth 100000 in
theorem wu.calls (a0_0 : Int) (a0_1 : Int) (a0_2 : Int) (a1 : Int) (r : Int) (w : World) (h : wu.f a0_0 a0_1 a0_2 a1 = some r) :
  Calls Try.prog 167 #[.agg #[.int .i64 a0_0, .int .i64 a0_1, .int .i64 a0_2], .int .i64 a1] w fun e w' => e = .returned (.int .i64 r) ∧ Below w.heap.size w w' := by
 have hu55 := Try.underlying55
 have HB := qa.mk (Below.refl w.heap.size w)
 have H : ((cmp_Compare_int.f a0_0 a1).bind fun t966 => (some t966)) = some r := h
 clear h
 replace H := Option.bind_eq_some_iff.mp H
 obtain ⟨t966, A30, H⟩ := H
 replace H : (some t966) = some r := H
 have A3 := qa.mk A30
 clear A30
 obtain rfl := Option.some.inj H
 go_enter Try.func167, Try.ntmps167
 go_wp2_with (first | ((with_reducible refine qY (N := 2) rfl ?_); refine qZ ?hg (N := 2) ?hd (cs := #[.int .i64 a0_0, .int .i64 a0_1, .int .i64 a0_2]) (t := 55) ?hr ?_; (case hd => rfl); (case hg => rfl); (case hr => first | (go_simp; done) | (go_simp; rfl)); intro gb965 hg w4 hbox hb; have n0_ := qa.mk (qD (by repeat (first | (with_reducible first | exact HB.out | apply qg | apply qb | apply qf) | exact HB.out)) hb); have n1_ := qa.mk (hbox); have n2_ := qa.mk ((by rw [hg]; exact (qA (by repeat (first | (with_reducible first | exact HB.out | apply qg | apply qb | apply qf) | exact HB.out))) : w.heap.size ≤ gb965)); have n3_ := qa.mk ((by rw [hg]; exact (qA (by repeat (first | (with_reducible first | exact HB.out | apply qg | apply qb | apply qf) | exact HB.out))) : w.heap.size ≤ gb965)); clear HB; have HB := n0_; have BK965 := n1_; have GW965 := n2_; have GE965 := n3_; clear n0_ n1_ n2_ n3_; clear hb hbox hg; have hcz5_0 : w4.cell? ⟨gb965, 0, none⟩ = some (.int .i64 a0_0) := (qj BK965.out 0).trans rfl; have hcz5_1 : w4.cell? ⟨gb965, 1, none⟩ = some (.int .i64 a0_1) := (qj BK965.out 1).trans rfl; have hcz5_2 : w4.cell? ⟨gb965, 2, none⟩ = some (.int .i64 a0_2) := (qj BK965.out 2).trans rfl; have hfz5_0 := qm BK965.out 0; have hfz5_1 := qm BK965.out 1; have hfz5_2 := qm BK965.out 2) | ((with_reducible refine qR (f := 164) rfl ?_); refine vP (some 8) rfl rfl Try.func164 (by kernel_rfl) rfl #[.int .i64 a0_0, .int .i64 a1] rfl (by (try simp only [List.map_toArray, List.map_cons, List.map_nil]); first | done | rfl | (simp only [List.length_drop, List.length_take]; rfl)) ?_; (with_reducible refine (cmp_Compare_int.calls a0_0 a1 t966 _ A3.out).mono ?_); rintro e w' ⟨rfl, ⟨nd, rfl⟩⟩; refine ⟨_, rfl, ?_⟩))
 go_ret
 exact ⟨by first | rfl | (simp [errW_none, errW_some] <;> rfl) | (simp [*, errW_none, errW_some] <;> rfl), by repeat (first | (with_reducible first | exact HB.out | apply qg | apply qb | apply qf | refine qd ?_ GE965.out) | exact HB.out)⟩
attribute [local go_sem] vW vZ zi zk vL vK vY vV
set_option linter.unusedVariables false
set_option linter.unusedSimpArgs false
def vk.l0 : Nat → List (S55) → Int → Int → Int → Int → Option (Int × Bool)
 | 0, _, _, _, _, _ => none
 | k + 1, x0, x1, x8, x9, x10 => if x9 < x10 then (if 0 ≤ (wrap64 ((IntKind.u64.wrap (wrap64 (x9 + x10))) / 2)) then (if (wrap64 ((IntKind.u64.wrap (wrap64 (x9 + x10))) / 2)) < (x0.length : Int) then ((wu.f ((qc x0 (wrap64 ((IntKind.u64.wrap (wrap64 (x9 + x10))) / 2))).f0) ((qc x0 (wrap64 ((IntKind.u64.wrap (wrap64 (x9 + x10))) / 2))).f1) ((qc x0 (wrap64 ((IntKind.u64.wrap (wrap64 (x9 + x10))) / 2))).f2) x1).bind fun t968 => (if t968 < 0 then (vk.l0 k x0 x1 x8 (wrap64 ((wrap64 ((IntKind.u64.wrap (wrap64 (x9 + x10))) / 2)) + 1)) x10) else (vk.l0 k x0 x1 x8 x9 (wrap64 ((IntKind.u64.wrap (wrap64 (x9 + x10))) / 2))))) else (none)) else (none)) else (if x9 < x8 then (if 0 ≤ x9 then (if x9 < (x0.length : Int) then ((wu.f ((qc x0 x9).f0) ((qc x0 x9).f1) ((qc x0 x9).f2) x1).bind fun t970 => (some (x9, (t970 == 0)))) else (none)) else (none)) else (some (x9, false)))
def vk.f (k : Nat) (l0 : List (S55)) (a1 : Int)  : Option (Int × Bool) := vk.l0 k l0 a1 (l0.length : Int) 0 (l0.length : Int)
theorem vk.zA : ∀ k, (∀ y0 y1 y2 y3 y4, LeO (vk.l0 k y0 y1 y2 y3 y4) (vk.l0 (k + 1) y0 y1 y2 y3 y4))
 | 0 => fun _ _ _ _ _ r h => by simp [vk.l0] at h
 | k + 1 => by
  have ih0 := vk.zA k
  ·intro y0 y1 y2 y3 y4
   unfold vk.l0
   repeat' first
   | (with_reducible exact ih0 _ _ _ _ _)
   | (with_reducible exact LeO.refl _)
   | (with_reducible exact LeO.none _)
   | (with_reducible refine LeO.ite ?_ ?_)
   | (with_reducible refine LeO.bind ?_ (fun _ => ?_))
   | exact ih0 _ _ _ _ _
   | exact LeO.none _
   | refine LeO.ite ?_ ?_
   | refine LeO.bind ?_ (fun _ => ?_)
theorem vk.mono : ∀ a0 a1 k, LeO (vk.f k a0 a1) (vk.f (k + 1) a0 a1) := by
 intro a0 a1 k
 have ih0 := vk.zA k
 unfold vk.f
 repeat' first
   | (with_reducible exact ih0 _ _ _ _ _)
   | (with_reducible exact LeO.refl _)
   | (with_reducible exact LeO.none _)
   | (with_reducible refine LeO.ite ?_ ?_)
   | (with_reducible refine LeO.bind ?_ (fun _ => ?_))
   | exact ih0 _ _ _ _ _
   | exact LeO.none _
   | refine LeO.ite ?_ ?_
   | refine LeO.bind ?_ (fun _ => ?_)
set_option maxHeartbeats 8000000 in
set_option maxRecDepth 100000 in
theorem vk.calls (k : Nat) (A0 : Option Addr) (c0 : Nat) (l0 : List (S55)) (a1 : Int)  (r1 : Int) (r2 : Bool) (w : World) (hr0 : Kd.C k55 w A0 l0.length l0) (hc0 : l0.length ≤ c0) (h : vk.f k l0 a1 = some (r1, r2)) :
  Calls Try.prog 168 #[.slice A0 l0.length c0, .int .i64 a1, .func (.func 167) #[] #[]] w fun e w' => e = .returned (.tuple #[.int .i64 r1, .bool r2]) ∧ Below w.heap.size w w' := by
 have hu55 := Try.underlying55
 have HR0 := qa.mk hr0
 have HC0 := qa.mk hc0
 clear hr0 hc0
 have HB := qa.mk (Below.refl w.heap.size w)
 have H : (vk.l0 k l0 a1 (l0.length : Int) 0 (l0.length : Int)) = some (r1, r2) := h
 clear h
 have H' := qa.mk H
 clear H
 go_enter Try.func168, Try.ntmps168
 go_wp2
 go_loopg [9, 10] k (fun kq v9 v10 w' => ∃ (x9_1 : Int) (x10_1 : Int), v9 = .int .i64 x9_1 ∧ v10 = .int .i64 x10_1 ∧ qa (vk.l0 kq l0 a1 (l0.length : Int) x9_1 x10_1 = some (r1, r2)) ∧ qa (kq ≤ k) ∧ qa (Below w.heap.size w w'))
 case atStart => exact ⟨(0), ((l0.length : Int)), (by first | rfl | (simp; done) | (simp [*]; done)), (by first | rfl | (simp; done) | (simp [*]; done)), H', ⟨Nat.le_refl _⟩, ⟨by repeat (first | (with_reducible first | exact HB.out | apply qg | apply qb | apply qf) | exact HB.out)⟩⟩
 case round =>
  clear H'
  try clear c1
  try clear p2
  obtain ⟨x9_1, x10_1, rfl, rfl, HA, HK1, HB⟩ := hrel
  cases gk with
  | zero => exact absurd HA.out (by simp [vk.l0])
  | succ k1 =>
   have H := HA.out
   clear HA
   simp only [vk.l0] at H
   by_cases c4 : x9_1 < x10_1
   ·rw [if_pos c4] at H
    have c4b0 : decide (x9_1 < x10_1) = true := decide_eq_true c4
    clear c4
    obtain ⟨ji5, hji5⟩ : ∃ j_ : Int, (wrap64 ((IntKind.u64.wrap (wrap64 (x9_1 + x10_1))) / 2)) = j_ := ⟨_, rfl⟩
    replace H : (if 0 ≤ (ji5) then (if (ji5) < (l0.length : Int) then ((wu.f ((qc l0 (ji5)).f0) ((qc l0 (ji5)).f1) ((qc l0 (ji5)).f2) a1).bind fun t968 => (if t968 < 0 then (vk.l0 k1 l0 a1 (l0.length : Int) (wrap64 ((ji5) + 1)) x10_1) else (vk.l0 k1 l0 a1 (l0.length : Int) x9_1 ji5))) else (none)) else (none)) = some (r1, r2) := by first | (rw [hji5] at H; exact H) | (simp only [hji5] at H ⊢; exact H)
    have hji5w : (IntKind.i64.wrap ((IntKind.u64.wrap (wrap64 (x9_1 + x10_1))) / 2)) = ji5 := (qw _).trans hji5
    by_cases c6 : 0 ≤ (ji5)
    ·rw [if_pos c6] at H
     have c6b0 : decide (0 ≤ (ji5)) = true := decide_eq_true c6
     clear c6
     by_cases c7 : (ji5) < (l0.length : Int)
     ·rw [if_pos c7] at H
      have c7b0 : decide ((ji5) < (l0.length : Int)) = true := decide_eq_true c7
      clear c7
      replace H := Option.bind_eq_some_iff.mp H
      obtain ⟨t968, A80, H⟩ := H
      replace H : (if t968 < 0 then (vk.l0 k1 l0 a1 (l0.length : Int) (wrap64 ((ji5) + 1)) x10_1) else (vk.l0 k1 l0 a1 (l0.length : Int) x9_1 ji5)) = some (r1, r2) := H
      have A8 := qa.mk A80
      clear A80
      by_cases c9 : t968 < 0
      ·rw [if_pos c9] at H
       have c9b0 : decide (t968 < 0) = true := decide_eq_true c9
       clear c9
       have H' := qa.mk H
       clear H
       have p967 : 0 ≤ ((ji5) : Int) := of_decide_eq_true (by first | (with_reducible assumption) | assumption)
       have q967 : (ji5) < (l0.length : Int) := of_decide_eq_true (by first | (with_reducible assumption) | assumption)
       obtain ⟨ad967, e967, hx967_0, hx967_1, hx967_2⟩ := vU HR0.out (ji5) p967 q967
       cases e967
       replace hx967_0 := (HB.out.cell (World.block_lt_of_cell? w _ hx967_0)).trans hx967_0
       replace hx967_1 := (HB.out.cell (World.block_lt_of_cell? w _ hx967_1)).trans hx967_1
       replace hx967_2 := (HB.out.cell (World.block_lt_of_cell? w _ hx967_2)).trans hx967_2
       replace p967 := eq_true p967
       replace q967 := eq_true q967
       go_wp2_with (first | ((with_reducible refine wL (f := 167) rfl rfl ?_); refine xL (some 30) rfl rfl Try.func167 (by kernel_rfl) rfl #[.agg #[.int .i64 ((qc l0 (ji5)).f0), .int .i64 ((qc l0 (ji5)).f1), .int .i64 ((qc l0 (ji5)).f2)], .int .i64 a1] rfl rfl (by (try simp only [List.map_toArray, List.map_cons, List.map_nil]); first | done | (simp only [hji5]; rfl) | rfl | (simp only [List.length_drop, List.length_take]; rfl)) ?_; (with_reducible refine (wu.calls ((qc l0 (ji5)).f0) ((qc l0 (ji5)).f1) ((qc l0 (ji5)).f2) a1 t968 _ A8.out).mono ?_); rintro e w10 ⟨rfl, hb⟩; refine ⟨_, rfl, ?_⟩; have n0_ := qa.mk (qD (by repeat (first | (with_reducible first | exact HB.out | apply qg | apply qb | apply qf) | exact HB.out)) hb); clear HB; have HB := n0_; clear n0_; (try clear hb); (try clear hb2); (try clear hk); (try clear hi)))
       go_roundg k1
       case measure => have := HK1.out; omega
       case rel => exact ⟨(wrap64 ((ji5) + 1)), (x10_1), (by first | rfl | (simp; done) | (simp only [← hji5] <;> (first | rfl | simp)) | (simp [*]; done)), (by first | rfl | (simp; done) | (simp [*]; done)), H', ⟨by have := HK1.out; omega⟩, ⟨by repeat (first | (with_reducible first | exact HB.out | apply qg | apply qb | apply qf) | exact HB.out)⟩⟩
      ·rw [if_neg c9] at H
       have c9b0 : decide (t968 < 0) = false := decide_eq_false c9
       clear c9
       have H' := qa.mk H
       clear H
       have p967 : 0 ≤ ((ji5) : Int) := of_decide_eq_true (by first | (with_reducible assumption) | assumption)
       have q967 : (ji5) < (l0.length : Int) := of_decide_eq_true (by first | (with_reducible assumption) | assumption)
       obtain ⟨ad967, e967, hx967_0, hx967_1, hx967_2⟩ := vU HR0.out (ji5) p967 q967
       cases e967
       replace hx967_0 := (HB.out.cell (World.block_lt_of_cell? w _ hx967_0)).trans hx967_0
       replace hx967_1 := (HB.out.cell (World.block_lt_of_cell? w _ hx967_1)).trans hx967_1
       replace hx967_2 := (HB.out.cell (World.block_lt_of_cell? w _ hx967_2)).trans hx967_2
       replace p967 := eq_true p967
       replace q967 := eq_true q967
       go_wp2_with (first | ((with_reducible refine wL (f := 167) rfl rfl ?_); refine xL (some 30) rfl rfl Try.func167 (by kernel_rfl) rfl #[.agg #[.int .i64 ((qc l0 (ji5)).f0), .int .i64 ((qc l0 (ji5)).f1), .int .i64 ((qc l0 (ji5)).f2)], .int .i64 a1] rfl rfl (by (try simp only [List.map_toArray, List.map_cons, List.map_nil]); first | done | (simp only [hji5]; rfl) | rfl | (simp only [List.length_drop, List.length_take]; rfl)) ?_; (with_reducible refine (wu.calls ((qc l0 (ji5)).f0) ((qc l0 (ji5)).f1) ((qc l0 (ji5)).f2) a1 t968 _ A8.out).mono ?_); rintro e w11 ⟨rfl, hb⟩; refine ⟨_, rfl, ?_⟩; have n0_ := qa.mk (qD (by repeat (first | (with_reducible first | exact HB.out | apply qg | apply qb | apply qf) | exact HB.out)) hb); clear HB; have HB := n0_; clear n0_; (try clear hb); (try clear hb2); (try clear hk); (try clear hi)))
       go_roundg k1
       case measure => have := HK1.out; omega
       case rel => exact ⟨(x9_1), (ji5), (by first | rfl | (simp; done) | (simp [*]; done)), (by first | rfl | (simp; done) | (simp only [← hji5] <;> (first | rfl | simp)) | (simp [*]; done)), H', ⟨by have := HK1.out; omega⟩, ⟨by repeat (first | (with_reducible first | exact HB.out | apply qg | apply qb | apply qf) | exact HB.out)⟩⟩
     ·rw [if_neg c7] at H
      exact absurd H (by simp)
    ·rw [if_neg c6] at H
     exact absurd H (by simp)
   ·rw [if_neg c4] at H
    have c4b0 : decide (x9_1 < x10_1) = false := decide_eq_false c4
    clear c4
    by_cases c12 : x9_1 < (l0.length : Int)
    ·rw [if_pos c12] at H
     have c12b0 : decide (x9_1 < (l0.length : Int)) = true := decide_eq_true c12
     clear c12
     by_cases c13 : 0 ≤ x9_1
     ·rw [if_pos c13] at H
      have c13b0 : decide (0 ≤ x9_1) = true := decide_eq_true c13
      clear c13
      by_cases c14 : x9_1 < (l0.length : Int)
      ·rw [if_pos c14] at H
       have c14b0 : decide (x9_1 < (l0.length : Int)) = true := decide_eq_true c14
       clear c14
       replace H := Option.bind_eq_some_iff.mp H
       obtain ⟨t970, A150, H⟩ := H
       replace H : (some (x9_1, (t970 == 0))) = some (r1, r2) := H
       have A15 := qa.mk A150
       clear A150
       simp only [Option.some.injEq, Prod.mk.injEq] at H
       obtain ⟨rfl, rfl⟩ := H
       have p969 : 0 ≤ (x9_1 : Int) := of_decide_eq_true (by first | (with_reducible assumption) | assumption)
       have q969 : x9_1 < (l0.length : Int) := of_decide_eq_true (by first | (with_reducible assumption) | assumption)
       obtain ⟨ad969, e969, hx969_0, hx969_1, hx969_2⟩ := vU HR0.out x9_1 p969 q969
       cases e969
       replace hx969_0 := (HB.out.cell (World.block_lt_of_cell? w _ hx969_0)).trans hx969_0
       replace hx969_1 := (HB.out.cell (World.block_lt_of_cell? w _ hx969_1)).trans hx969_1
       replace hx969_2 := (HB.out.cell (World.block_lt_of_cell? w _ hx969_2)).trans hx969_2
       replace p969 := eq_true p969
       replace q969 := eq_true q969
       go_wp2_with (first | (go_at_call 167; (with_reducible refine (wu.calls ((qc l0 x9_1).f0) ((qc l0 x9_1).f1) ((qc l0 x9_1).f2) a1 t970 _ A15.out).mono ?_); rintro e w16 ⟨rfl, hb⟩; have n0_ := qa.mk (qD (by repeat (first | (with_reducible first | exact HB.out | apply qg | apply qb | apply qf) | exact HB.out)) hb); clear HB; have HB := n0_; clear n0_; (try clear hb); (try clear hb2); (try clear hk); (try clear hi)))
       go_ret2
       exact ⟨by first | rfl | (simp [errW_none, errW_some] <;> rfl) | (simp [*, errW_none, errW_some] <;> rfl), by repeat (first | (with_reducible first | exact HB.out | apply qg | apply qb | apply qf) | exact HB.out)⟩
      ·rw [if_neg c14] at H
       exact absurd H (by simp)
     ·rw [if_neg c13] at H
      exact absurd H (by simp)
    ·rw [if_neg c12] at H
     have c12b0 : decide (x9_1 < (l0.length : Int)) = false := decide_eq_false c12
     clear c12
     simp only [Option.some.injEq, Prod.mk.injEq] at H
     obtain ⟨rfl, rfl⟩ := H
     go_wp2
     go_ret2
     exact ⟨by first | rfl | (simp [errW_none, errW_some] <;> rfl) | (simp [*, errW_none, errW_some] <;> rfl), by repeat (first | (with_reducible first | exact HB.out | apply qg | apply qb | apply qf) | exact HB.out)⟩
end Go.Proofs.Ytcjbghmhdefdiaa.S
namespace Go.Proofs.Ytcjbghmhdefdiaa.S
open Go.RowKit Go.Proofs.YtcjbghmhdefdiaaW.PrintWords Go.Proofs.YtcjbghmhdefdiaaW.PrintLast Go.Proofs.YtcjbghmhdefdiaaW.PrintMore
set_option linter.unusedVariables false
set_option linter.unusedSimpArgs false
def QI (es : List S55) (node : Int) (i : Nat) : List S55 := (es.drop i).takeWhile (fun e => decide (e.f0 = node))
def zm.f (k : Nat) (n : Int) (ls : List ByteArray) (es : List S55) (node : Int) : Option (List S55) :=
 (vk.f k es node).bind fun p => if 0 ≤ p.1 ∧ p.1 ≤ es.length ∧ es.length ≤ 1000000 then some (QI es node p.1.toNat) else none
theorem zm.mono : ∀ a0 a1 a2 a3 k, LeO (zm.f k a0 a1 a2 a3) (zm.f (k + 1) a0 a1 a2 a3) := by
 intro a0 a1 a2 a3 k
 unfold zm.f
 exact LeO.bind (vk.mono _ _ _) fun _ => LeO.refl _
theorem jU {es : List S55} {j : Nat} (h : j < es.length) : qc es (j : Int) = es[j] := by
 unfold qc
 rw [Int.toNat_natCast, List.getD_eq_getElem?_getD, List.getElem?_eq_getElem h]
 rfl
theorem yR {es : List S55} {node : Int} {i j : Nat} (hij : i ≤ j) (hj : j ≤ es.length) (hall : ∀ q : Nat, i ≤ q → q < j → (qc es (q : Int)).f0 = node) (hend : ∀ h : j < es.length, (qc es (j : Int)).f0 ≠ node) : (es.take j).drop i = QI es node i := by
 have key : ∀ (m : Nat) (i : Nat), i + m = j → (∀ q : Nat, i ≤ q → q < j → (qc es (q : Int)).f0 = node) → (es.take j).drop i = QI es node i := by
  intro m
  induction m with
  | zero =>
   intro i hi _
   obtain rfl : i = j := by omega
   unfold QI
   rw [List.drop_eq_nil_of_le (by rw [List.length_take]; omega)]
   by_cases h : i < es.length
   ·rw [List.drop_eq_getElem_cons h, List.takeWhile_cons, if_neg]
    have := hend h
    rw [jU h] at this
    simpa using this
   ·rw [List.drop_eq_nil_of_le (by omega)]
    rfl
  | succ m ih =>
   intro i hi ha
   have hlt : i < es.length := by omega
   have h2 := ih (i + 1) (by omega) (fun q h1 h2 => ha q (by omega) h2)
   unfold QI at h2 ⊢
   have hl2 : i < (es.take j).length := by rw [List.length_take]; omega
   rw [List.drop_eq_getElem_cons hl2, h2, List.drop_eq_getElem_cons hlt, List.takeWhile_cons, if_pos, List.getElem_take]
   have := ha i (Nat.le_refl _) (by omega)
   rw [jU hlt] at this
   simpa using this
 exact key (j - i) i (by omega) hall
theorem mid_55 (A : Option Addr) (c : Nat) (xs : List S55) (a b : Int) (h0 : 0 ≤ a) (h1 : a ≤ b) (hm : b ≤ xs.length) (hc : xs.length ≤ c) :
  ∃ A' : Option Addr, (∀ W : World, (Instr.slice 23 (.slice A xs.length c) (some (.int .i64 a)) (some (.int .i64 b)) none).run Try.prog W = .ok (.slice A' ((xs.take b.toNat).drop a.toNat).length (c - a.toNat)) W) ∧
   (∀ (W : World) (ok : Nat → Prop), Kd.F k55 W ok A xs.length xs → Kd.F k55 W ok A' ((xs.take b.toNat).drop a.toNat).length ((xs.take b.toNat).drop a.toNat)) ∧ ((xs.take b.toNat).drop a.toNat).length ≤ c - a.toNat := by
 have hlt : (xs.take b.toNat).length = b.toNat := by rw [List.length_take]; omega
 have hl : ((xs.take b.toNat).drop a.toNat).length = b.toNat - a.toNat := by rw [List.length_drop, hlt]
 refine ⟨if c = a.toNat then A else A.map (·.add (a.toNat * 3)), fun W => ?_, fun w ok h => ?_, by rw [hl]; omega⟩
 ·have ht : Try.prog.underlying 23 = some (.slice 55) := Try.underlying23
  obtain ⟨i, hi, hz, hsz, _⟩ := info_parts zZ
  have hel : Try.prog.elem 23 = 55 := by simp [Program.elem, ht]
  have hu : Try.prog.underlying 23 = some (.slice (Try.prog.elem 23)) := by rw [hel]; exact ht
  rw [run_slice_lh W 23 A xs.length c hu .i64 .i64 a b h0 h1 (by omega), hel, hl]
  simp [Go.sizeOf, typeInfo, hi, hsz, sliced, Result.andThen]
 ·exact Kd.F_mid h (by omega) (by omega) hc
set_option maxHeartbeats 4000000 in
set_option maxRecDepth 100000 in
theorem zm.calls (k : Nat) (a0_0 : Int) (A0_1 : Option Addr) (c0_1 : Nat) (l0_1 : List ByteArray) (P0_2_ : Nat → Prop) (A0_2 : Option Addr) (c0_2 : Nat) (l0_2 : List (S55)) (a1 : Int) (r : List (S55)) (w : World) (hr0_1 : Kd.C Kd.string w A0_1 l0_1.length l0_1) (hc0_1 : l0_1.length ≤ c0_1) (hs0_2 : Kd.V k55 55 w w.heap.size (fun k_ => P0_2_ k_) (.slice A0_2 l0_2.length c0_2) l0_2) (h : zm.f k a0_0 l0_1 l0_2 a1 = some r) :
  Calls Try.prog 131 #[.agg #[.int .i64 a0_0, .slice A0_1 l0_1.length c0_1, .slice A0_2 l0_2.length c0_2], .int .i64 a1] w fun e w' => ∃ v0_ : Value, e = .returned v0_ ∧ Kd.V k55 55 w' w.heap.size (fun k_ => (P0_2_ k_ ∨ w.heap.size ≤ k_)) v0_ r ∧ Below w.heap.size w w' := by
 have hu25 := Try.underlying25
 have hu55 := Try.underlying55
 unfold zm.f at h
 obtain ⟨⟨i0, b⟩, hk, h⟩ := Option.bind_eq_some_iff.1 h
 have hcond : 0 ≤ i0 ∧ i0 ≤ l0_2.length ∧ l0_2.length ≤ 1000000 := by
  by_cases hc : 0 ≤ i0 ∧ i0 ≤ l0_2.length ∧ l0_2.length ≤ 1000000
  ·exact hc
  ·rw [if_neg hc] at h; cases h
 rw [if_pos hcond] at h
 have HH := qa.mk (Option.some.inj h)
 have HK := qa.mk hk
 obtain ⟨hi0, hi1, hlen⟩ := hcond
 obtain ⟨i, rfl⟩ : ∃ i : Nat, i0 = i := ⟨i0.toNat, (Int.toNat_of_nonneg hi0).symm⟩
 obtain ⟨_, hc2, hC⟩ := Kd.vX hs0_2
 have HF := qa.mk (Kd.V_F hs0_2)
 have HR := qa.mk hC
 have HC2 := qa.mk hc2
 clear h hk hs0_2 hC hc2 hi0 hr0_1 hc0_1
 go_enter Try.func131, Try.ntmps131
 go_wp2_with fail
 have BK0 := qa.mk (zY w (.cells #[.int .i64 a0_0, .slice A0_1 l0_1.length c0_1, .slice A0_2 l0_2.length c0_2] 25))
 have HB0 := qa.mk (qg (Below.refl w.heap.size w) (.cells #[.int .i64 a0_0, .slice A0_1 l0_1.length c0_1, .slice A0_2 l0_2.length c0_2] 25))
 obtain ⟨g1, hg1⟩ : ∃ g1, g1 = w.heap.size := ⟨_, rfl⟩
 rw [← hg1] at BK0 ⊢
 clear hg1
 generalize (w.alloc (.cells #[.int .i64 a0_0, .slice A0_1 l0_1.length c0_1, .slice A0_2 l0_2.length c0_2] 25)) = wA at BK0 HB0 ⊢
 (with_reducible refine (vk.calls k A0_2 c0_2 l0_2 a1 (i : Int) b _ (Kd.qU HR.out HB0.out) HC2.out HK.out).mono ?_)
 rintro e w1 ⟨rfl, hb⟩
 have BK := qa.mk (qB BK0.out hb)
 have HB := qa.mk (qD HB0.out hb)
 clear BK0 HB0 hb
 have HR1 := qa.mk (Kd.qU HR.out HB.out)
 have x2 := (qj BK.out 2).trans rfl
 go_wp2
 go_loopw [8] (fun x wr => ∃ j : Nat, x = .int .i64 j ∧ i ≤ j ∧ j ≤ l0_2.length ∧ qa (∀ q : Nat, i ≤ q → q < j → (qc l0_2 (q : Int)).f0 = a1) ∧ wr = w1) (fun x _ => l0_2.length - (intOf x).toNat)
 case atStart => exact ⟨i, rfl, Nat.le_refl _, by omega, ⟨fun q h1 h2 => by omega⟩, rfl⟩
 case round =>
  obtain ⟨j, rfl, hij, hj, HA, rfl⟩ := hrel
  by_cases hlt : j < l0_2.length
  ·have d1 : decide ((j : Int) < (l0_2.length : Int)) = true := decide_eq_true (by omega)
   have d2 : decide (j < l0_2.length) = true := decide_eq_true hlt
   obtain ⟨ad, rfl, hx0, hx1, hx2⟩ := vU HR1.out (j : Int) (by omega) (by omega)
   rw [Int.toNat_natCast] at hx0 hx1 hx2
   by_cases heq : (qc l0_2 (j : Int)).f0 = a1
   ·have d3 : decide ((qc l0_2 (j : Int)).f0 = a1) = true := decide_eq_true heq
    have hA2 : ∀ q : Nat, i ≤ q → q < j + 1 → (qc l0_2 (q : Int)).f0 = a1 := by
     intro q h1 h2
     by_cases h3 : q < j
     ·exact HA.out q h1 h3
     ·obtain rfl : q = j := by omega
      exact heq
    have HA2 := qa.mk hA2
    clear hA2
    have hw : wrap64 ((j : Int) + 1) = ((j + 1 : Nat) : Int) := by unfold wrap64; omega
    go_wp2
    go_roundw
    case measure => simp [intOf]; omega
    case rel => exact ⟨j + 1, rfl, by omega, by omega, HA2, by first | rfl | trivial⟩
   ·have d3 : decide ((qc l0_2 (j : Int)).f0 = a1) = false := decide_eq_false heq
    have hfin := qa.mk (yR hij hj HA.out (fun _ => heq))
    obtain ⟨A', hcut, hF, hcc⟩ := mid_55 (some ad) c0_2 l0_2 (i : Int) (j : Int) (by omega) (by omega) (by omega) HC2.out
    have HF' := qa.mk hF
    have HCC := qa.mk hcc
    clear hF hcc
    rw [Int.toNat_natCast, Int.toNat_natCast] at *
    go_wp2
    go_ret
    have hv : Kd.V k55 55 wr w.heap.size (fun k_ => (P0_2_ k_ ∨ w.heap.size ≤ k_)) (.slice A' ((l0_2.take j).drop i).length (c0_2 - i)) ((l0_2.take j).drop i) := Kd.zg (Kd.V_mk HCC.out (HF'.out wr _ (Kd.jw HF.out HB.out))) (fun k_ hk_ => .inl hk_)
    simp only [List.length_drop, List.length_take, Nat.min_eq_left hj] at hv
    rw [hfin.out, HH.out] at hv
    exact ⟨_, rfl, hv, HB.out⟩
  ·obtain rfl : j = l0_2.length := by omega
   have d1 : decide ((l0_2.length : Int) < (l0_2.length : Int)) = false := decide_eq_false (by omega)
   have d2 : decide (l0_2.length < l0_2.length) = false := decide_eq_false hlt
   have hfin := qa.mk (yR hij hj HA.out (fun h => absurd h hlt))
   obtain ⟨A', hcut, hF, hcc⟩ := mid_55 A0_2 c0_2 l0_2 (i : Int) (l0_2.length : Int) (by omega) (by omega) (by omega) HC2.out
   have HF' := qa.mk hF
   have HCC := qa.mk hcc
   clear hF hcc
   rw [Int.toNat_natCast] at *
   go_wp2
   go_ret
   have hv : Kd.V k55 55 wr w.heap.size (fun k_ => (P0_2_ k_ ∨ w.heap.size ≤ k_)) (.slice A' ((l0_2.take l0_2.length).drop i).length (c0_2 - i)) ((l0_2.take l0_2.length).drop i) := Kd.zg (Kd.V_mk HCC.out (HF'.out wr _ (Kd.jw HF.out HB.out))) (fun k_ hk_ => .inl hk_)
   simp only [List.length_drop, List.length_take, Nat.min_self] at hv
   rw [hfin.out, HH.out] at hv
   exact ⟨_, rfl, hv, HB.out⟩
end Go.Proofs.Ytcjbghmhdefdiaa.S
namespace Go.Proofs.Ytcjbghmhdefdiaa.S
open Go.RowKit Go.Proofs.YtcjbghmhdefdiaaW.PrintWords Go.Proofs.YtcjbghmhdefdiaaW.PrintLast Go.Proofs.YtcjbghmhdefdiaaW.PrintMore
attribute [local go_sem] vW vZ zi zk vL vK vY vV
set_option linter.unusedVariables false
set_option linter.unusedSimpArgs false
def vw.f (a0_0 : Int) (a0_1 : Int) (a0_2 : Int) (a1_0 : Int) (a1_1 : Int) (a1_2 : Int) : Option (Bool) := if a0_0 = a1_0 then (if a0_1 = a1_1 then (some (decide (a0_2 < a1_2))) else (some (decide (a0_1 < a1_1)))) else (some (decide (a0_0 < a1_0)))
set_option maxHeartbeats 8000000 in
set_option maxRecDepth 100000 in
theorem vw.calls (a0_0 : Int) (a0_1 : Int) (a0_2 : Int) (a1_0 : Int) (a1_1 : Int) (a1_2 : Int) (r : Bool) (w : World) (h : vw.f a0_0 a0_1 a0_2 a1_0 a1_1 a1_2 = some r) :
  Calls Try.prog 82 #[.agg #[.int .i64 a0_0, .int .i64 a0_1, .int .i64 a0_2], .agg #[.int .i64 a1_0, .int .i64 a1_1, .int .i64 a1_2]] w fun e w' => e = .returned (.bool r) ∧ Below w.heap.size w w' := by
 have hu55 := Try.underlying55
 have HB := qa.mk (Below.refl w.heap.size w)
 have H : (if a0_0 = a1_0 then (if a0_1 = a1_1 then (some (decide (a0_2 < a1_2))) else (some (decide (a0_1 < a1_1)))) else (some (decide (a0_0 < a1_0)))) = some r := h
 clear h
 by_cases c3 : a0_0 = a1_0
 ·rw [if_pos c3] at H
  have c3b0 : (a0_0 == a1_0) = true := beq_iff_eq.mpr c3
  have c3b1 : (a0_0 != a1_0) = false := bne_eq_false_iff_eq.mpr c3
  clear c3
  by_cases c4 : a0_1 = a1_1
  ·rw [if_pos c4] at H
   have c4b0 : (a0_1 == a1_1) = true := beq_iff_eq.mpr c4
   have c4b1 : (a0_1 != a1_1) = false := bne_eq_false_iff_eq.mpr c4
   clear c4
   obtain rfl := Option.some.inj H
   go_enter Try.func82, Try.ntmps82
   go_wp2_with (first | ((with_reducible refine qY (N := 2) rfl ?_); refine qZ ?hg (N := 2) ?hd (cs := #[.int .i64 a0_0, .int .i64 a0_1, .int .i64 a0_2]) (t := 55) ?hr ?_; (case hd => rfl); (case hg => rfl); (case hr => first | (go_simp; done) | (go_simp; rfl)); intro gb281 hg w5 hbox hb; have n0_ := qa.mk (qD (by repeat (first | (with_reducible first | exact HB.out | apply qg | apply qb | apply qf) | exact HB.out)) hb); have n1_ := qa.mk (hbox); have n2_ := qa.mk ((by rw [hg]; exact (qA (by repeat (first | (with_reducible first | exact HB.out | apply qg | apply qb | apply qf) | exact HB.out))) : w.heap.size ≤ gb281)); have n3_ := qa.mk ((by rw [hg]; exact (qA (by repeat (first | (with_reducible first | exact HB.out | apply qg | apply qb | apply qf) | exact HB.out))) : w.heap.size ≤ gb281)); clear HB; have HB := n0_; have BK281 := n1_; have GW281 := n2_; have GE281 := n3_; clear n0_ n1_ n2_ n3_; clear hb hbox hg) | ((with_reducible refine qY (N := 3) rfl ?_); refine qZ ?hg (N := 3) ?hd (cs := #[.int .i64 a1_0, .int .i64 a1_1, .int .i64 a1_2]) (t := 55) ?hr ?_; (case hd => rfl); (case hg => rfl); (case hr => first | (go_simp; done) | (go_simp; rfl)); intro gb282 hg w6 hbox hb; have n0_ := qa.mk (qB (g := gb281) (o := .cells #[.int .i64 a0_0, .int .i64 a0_1, .int .i64 a0_2] 55 (0, 0)) (by (with_reducible repeat (first | refine qi ?_ _ | refine ql ?_ | refine qh ?_ _)); exact BK281.out) hb); have n1_ := qa.mk (qD (by repeat (first | (with_reducible first | exact HB.out | apply qg | apply qb | apply qf | refine qd ?_ GE281.out) | exact HB.out)) hb); have n2_ := qa.mk (hbox); have n3_ := qa.mk ((by rw [hg]; exact (qA (by repeat (first | (with_reducible first | exact HB.out | apply qg | apply qb | apply qf | refine qd ?_ GE281.out) | exact HB.out))) : w.heap.size ≤ gb282)); have n4_ := qa.mk ((by rw [hg]; exact (qA (by repeat (first | (with_reducible first | exact HB.out | apply qg | apply qb | apply qf | refine qd ?_ GE281.out) | exact HB.out))) : w.heap.size ≤ gb282)); have n5_ := qa.mk ((by rw [hg]; exact Nat.ne_of_lt (vz (g := gb281) (o := .cells #[.int .i64 a0_0, .int .i64 a0_1, .int .i64 a0_2] 55 (0, 0)) (by (with_reducible repeat (first | refine qi ?_ _ | refine ql ?_ | refine qh ?_ _)); exact BK281.out)) : gb281 ≠ gb282)); have n6_ := qa.mk ((by rw [hg]; exact Nat.ne_of_gt (vz (g := gb281) (o := .cells #[.int .i64 a0_0, .int .i64 a0_1, .int .i64 a0_2] 55 (0, 0)) (by (with_reducible repeat (first | refine qi ?_ _ | refine ql ?_ | refine qh ?_ _)); exact BK281.out)) : gb282 ≠ gb281)); clear BK281; clear HB; have BK281 := n0_; have HB := n1_; have BK282 := n2_; have GW282 := n3_; have GE282 := n4_; have NB281_282 := n5_; have NB282_281 := n6_; clear n0_ n1_ n2_ n3_ n4_ n5_ n6_; clear hb hbox hg; have hnb7 := NB281_282.out; have hnc7 := NB282_281.out; have hcz8_0 : w6.cell? ⟨gb281, 0, none⟩ = some (.int .i64 a0_0) := (qj BK281.out 0).trans rfl; have hcz8_1 : w6.cell? ⟨gb281, 1, none⟩ = some (.int .i64 a0_1) := (qj BK281.out 1).trans rfl; have hcz8_2 : w6.cell? ⟨gb281, 2, none⟩ = some (.int .i64 a0_2) := (qj BK281.out 2).trans rfl; have hfz8_0 := qm BK281.out 0; have hfz8_1 := qm BK281.out 1; have hfz8_2 := qm BK281.out 2; have hcz9_0 : w6.cell? ⟨gb282, 0, none⟩ = some (.int .i64 a1_0) := (qj BK282.out 0).trans rfl; have hcz9_1 : w6.cell? ⟨gb282, 1, none⟩ = some (.int .i64 a1_1) := (qj BK282.out 1).trans rfl; have hcz9_2 : w6.cell? ⟨gb282, 2, none⟩ = some (.int .i64 a1_2) := (qj BK282.out 2).trans rfl; have hfz9_0 := qm BK282.out 0; have hfz9_1 := qm BK282.out 1; have hfz9_2 := qm BK282.out 2))
   go_ret
   exact ⟨by first | rfl | (simp [errW_none, errW_some] <;> rfl) | (simp [*, errW_none, errW_some] <;> rfl), by repeat (first | (with_reducible first | exact HB.out | apply qg | apply qb | apply qf | refine qd ?_ GE281.out | refine qd ?_ GE282.out) | exact HB.out)⟩
  ·rw [if_neg c4] at H
   have c4b0 : (a0_1 == a1_1) = false := beq_eq_false_iff_ne.mpr c4
   have c4b1 : (a0_1 != a1_1) = true := bne_iff_ne.mpr c4
   obtain rfl := Option.some.inj H
   go_enter Try.func82, Try.ntmps82
   go_wp2_with (first | ((with_reducible refine qY (N := 2) rfl ?_); refine qZ ?hg (N := 2) ?hd (cs := #[.int .i64 a0_0, .int .i64 a0_1, .int .i64 a0_2]) (t := 55) ?hr ?_; (case hd => rfl); (case hg => rfl); (case hr => first | (go_simp; done) | (go_simp; rfl)); intro gb281 hg w10 hbox hb; have n0_ := qa.mk (qD (by repeat (first | (with_reducible first | exact HB.out | apply qg | apply qb | apply qf) | exact HB.out)) hb); have n1_ := qa.mk (hbox); have n2_ := qa.mk ((by rw [hg]; exact (qA (by repeat (first | (with_reducible first | exact HB.out | apply qg | apply qb | apply qf) | exact HB.out))) : w.heap.size ≤ gb281)); have n3_ := qa.mk ((by rw [hg]; exact (qA (by repeat (first | (with_reducible first | exact HB.out | apply qg | apply qb | apply qf) | exact HB.out))) : w.heap.size ≤ gb281)); clear HB; have HB := n0_; have BK281 := n1_; have GW281 := n2_; have GE281 := n3_; clear n0_ n1_ n2_ n3_; clear hb hbox hg) | ((with_reducible refine qY (N := 3) rfl ?_); refine qZ ?hg (N := 3) ?hd (cs := #[.int .i64 a1_0, .int .i64 a1_1, .int .i64 a1_2]) (t := 55) ?hr ?_; (case hd => rfl); (case hg => rfl); (case hr => first | (go_simp; done) | (go_simp; rfl)); intro gb282 hg w11 hbox hb; have n0_ := qa.mk (qB (g := gb281) (o := .cells #[.int .i64 a0_0, .int .i64 a0_1, .int .i64 a0_2] 55 (0, 0)) (by (with_reducible repeat (first | refine qi ?_ _ | refine ql ?_ | refine qh ?_ _)); exact BK281.out) hb); have n1_ := qa.mk (qD (by repeat (first | (with_reducible first | exact HB.out | apply qg | apply qb | apply qf | refine qd ?_ GE281.out) | exact HB.out)) hb); have n2_ := qa.mk (hbox); have n3_ := qa.mk ((by rw [hg]; exact (qA (by repeat (first | (with_reducible first | exact HB.out | apply qg | apply qb | apply qf | refine qd ?_ GE281.out) | exact HB.out))) : w.heap.size ≤ gb282)); have n4_ := qa.mk ((by rw [hg]; exact (qA (by repeat (first | (with_reducible first | exact HB.out | apply qg | apply qb | apply qf | refine qd ?_ GE281.out) | exact HB.out))) : w.heap.size ≤ gb282)); have n5_ := qa.mk ((by rw [hg]; exact Nat.ne_of_lt (vz (g := gb281) (o := .cells #[.int .i64 a0_0, .int .i64 a0_1, .int .i64 a0_2] 55 (0, 0)) (by (with_reducible repeat (first | refine qi ?_ _ | refine ql ?_ | refine qh ?_ _)); exact BK281.out)) : gb281 ≠ gb282)); have n6_ := qa.mk ((by rw [hg]; exact Nat.ne_of_gt (vz (g := gb281) (o := .cells #[.int .i64 a0_0, .int .i64 a0_1, .int .i64 a0_2] 55 (0, 0)) (by (with_reducible repeat (first | refine qi ?_ _ | refine ql ?_ | refine qh ?_ _)); exact BK281.out)) : gb282 ≠ gb281)); clear BK281; clear HB; have BK281 := n0_; have HB := n1_; have BK282 := n2_; have GW282 := n3_; have GE282 := n4_; have NB281_282 := n5_; have NB282_281 := n6_; clear n0_ n1_ n2_ n3_ n4_ n5_ n6_; clear hb hbox hg; have hnb12 := NB281_282.out; have hnc12 := NB282_281.out; have hcz13_0 : w11.cell? ⟨gb281, 0, none⟩ = some (.int .i64 a0_0) := (qj BK281.out 0).trans rfl; have hcz13_1 : w11.cell? ⟨gb281, 1, none⟩ = some (.int .i64 a0_1) := (qj BK281.out 1).trans rfl; have hcz13_2 : w11.cell? ⟨gb281, 2, none⟩ = some (.int .i64 a0_2) := (qj BK281.out 2).trans rfl; have hfz13_0 := qm BK281.out 0; have hfz13_1 := qm BK281.out 1; have hfz13_2 := qm BK281.out 2; have hcz14_0 : w11.cell? ⟨gb282, 0, none⟩ = some (.int .i64 a1_0) := (qj BK282.out 0).trans rfl; have hcz14_1 : w11.cell? ⟨gb282, 1, none⟩ = some (.int .i64 a1_1) := (qj BK282.out 1).trans rfl; have hcz14_2 : w11.cell? ⟨gb282, 2, none⟩ = some (.int .i64 a1_2) := (qj BK282.out 2).trans rfl; have hfz14_0 := qm BK282.out 0; have hfz14_1 := qm BK282.out 1; have hfz14_2 := qm BK282.out 2))
   go_ret
   exact ⟨by first | rfl | (simp [errW_none, errW_some] <;> rfl) | (simp [*, errW_none, errW_some] <;> rfl), by repeat (first | (with_reducible first | exact HB.out | apply qg | apply qb | apply qf | refine qd ?_ GE281.out | refine qd ?_ GE282.out) | exact HB.out)⟩
 ·rw [if_neg c3] at H
  have c3b0 : (a0_0 == a1_0) = false := beq_eq_false_iff_ne.mpr c3
  have c3b1 : (a0_0 != a1_0) = true := bne_iff_ne.mpr c3
  obtain rfl := Option.some.inj H
  go_enter Try.func82, Try.ntmps82
  go_wp2_with (first | ((with_reducible refine qY (N := 2) rfl ?_); refine qZ ?hg (N := 2) ?hd (cs := #[.int .i64 a0_0, .int .i64 a0_1, .int .i64 a0_2]) (t := 55) ?hr ?_; (case hd => rfl); (case hg => rfl); (case hr => first | (go_simp; done) | (go_simp; rfl)); intro gb281 hg w15 hbox hb; have n0_ := qa.mk (qD (by repeat (first | (with_reducible first | exact HB.out | apply qg | apply qb | apply qf) | exact HB.out)) hb); have n1_ := qa.mk (hbox); have n2_ := qa.mk ((by rw [hg]; exact (qA (by repeat (first | (with_reducible first | exact HB.out | apply qg | apply qb | apply qf) | exact HB.out))) : w.heap.size ≤ gb281)); have n3_ := qa.mk ((by rw [hg]; exact (qA (by repeat (first | (with_reducible first | exact HB.out | apply qg | apply qb | apply qf) | exact HB.out))) : w.heap.size ≤ gb281)); clear HB; have HB := n0_; have BK281 := n1_; have GW281 := n2_; have GE281 := n3_; clear n0_ n1_ n2_ n3_; clear hb hbox hg) | ((with_reducible refine qY (N := 3) rfl ?_); refine qZ ?hg (N := 3) ?hd (cs := #[.int .i64 a1_0, .int .i64 a1_1, .int .i64 a1_2]) (t := 55) ?hr ?_; (case hd => rfl); (case hg => rfl); (case hr => first | (go_simp; done) | (go_simp; rfl)); intro gb282 hg w16 hbox hb; have n0_ := qa.mk (qB (g := gb281) (o := .cells #[.int .i64 a0_0, .int .i64 a0_1, .int .i64 a0_2] 55 (0, 0)) (by (with_reducible repeat (first | refine qi ?_ _ | refine ql ?_ | refine qh ?_ _)); exact BK281.out) hb); have n1_ := qa.mk (qD (by repeat (first | (with_reducible first | exact HB.out | apply qg | apply qb | apply qf | refine qd ?_ GE281.out) | exact HB.out)) hb); have n2_ := qa.mk (hbox); have n3_ := qa.mk ((by rw [hg]; exact (qA (by repeat (first | (with_reducible first | exact HB.out | apply qg | apply qb | apply qf | refine qd ?_ GE281.out) | exact HB.out))) : w.heap.size ≤ gb282)); have n4_ := qa.mk ((by rw [hg]; exact (qA (by repeat (first | (with_reducible first | exact HB.out | apply qg | apply qb | apply qf | refine qd ?_ GE281.out) | exact HB.out))) : w.heap.size ≤ gb282)); have n5_ := qa.mk ((by rw [hg]; exact Nat.ne_of_lt (vz (g := gb281) (o := .cells #[.int .i64 a0_0, .int .i64 a0_1, .int .i64 a0_2] 55 (0, 0)) (by (with_reducible repeat (first | refine qi ?_ _ | refine ql ?_ | refine qh ?_ _)); exact BK281.out)) : gb281 ≠ gb282)); have n6_ := qa.mk ((by rw [hg]; exact Nat.ne_of_gt (vz (g := gb281) (o := .cells #[.int .i64 a0_0, .int .i64 a0_1, .int .i64 a0_2] 55 (0, 0)) (by (with_reducible repeat (first | refine qi ?_ _ | refine ql ?_ | refine qh ?_ _)); exact BK281.out)) : gb282 ≠ gb281)); clear BK281; clear HB; have BK281 := n0_; have HB := n1_; have BK282 := n2_; have GW282 := n3_; have GE282 := n4_; have NB281_282 := n5_; have NB282_281 := n6_; clear n0_ n1_ n2_ n3_ n4_ n5_ n6_; clear hb hbox hg; have hnb17 := NB281_282.out; have hnc17 := NB282_281.out; have hcz18_0 : w16.cell? ⟨gb281, 0, none⟩ = some (.int .i64 a0_0) := (qj BK281.out 0).trans rfl; have hcz18_1 : w16.cell? ⟨gb281, 1, none⟩ = some (.int .i64 a0_1) := (qj BK281.out 1).trans rfl; have hcz18_2 : w16.cell? ⟨gb281, 2, none⟩ = some (.int .i64 a0_2) := (qj BK281.out 2).trans rfl; have hfz18_0 := qm BK281.out 0; have hfz18_1 := qm BK281.out 1; have hfz18_2 := qm BK281.out 2; have hcz19_0 : w16.cell? ⟨gb282, 0, none⟩ = some (.int .i64 a1_0) := (qj BK282.out 0).trans rfl; have hcz19_1 : w16.cell? ⟨gb282, 1, none⟩ = some (.int .i64 a1_1) := (qj BK282.out 1).trans rfl; have hcz19_2 : w16.cell? ⟨gb282, 2, none⟩ = some (.int .i64 a1_2) := (qj BK282.out 2).trans rfl; have hfz19_0 := qm BK282.out 0; have hfz19_1 := qm BK282.out 1; have hfz19_2 := qm BK282.out 2))
  go_ret
  exact ⟨by first | rfl | (simp [errW_none, errW_some] <;> rfl) | (simp [*, errW_none, errW_some] <;> rfl), by repeat (first | (with_reducible first | exact HB.out | apply qg | apply qb | apply qf | refine qd ?_ GE281.out | refine qd ?_ GE282.out) | exact HB.out)⟩
end Go.Proofs.Ytcjbghmhdefdiaa.S
