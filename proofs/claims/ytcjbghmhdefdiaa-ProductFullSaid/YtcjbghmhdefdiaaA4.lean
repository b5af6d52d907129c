/- Part 4 of a proof that a law of the program answers true for every input. -/
import Derived.Lib.SlicesCompact
import Derived.Lib.SliceRun
import Derived.WalkSpells
import Derived.Test.YtcjbghmhdefdiaaA2
import Derived.Test.YtcjbghmhdefdiaaA3
namespace Go.Proofs.Ytcjbghmhdefdiaa.S
open Go.RowKit Go.Proofs.YtcjbghmhdefdiaaW.PrintWords Go.Proofs.YtcjbghmhdefdiaaW.PrintLast Go.Proofs.YtcjbghmhdefdiaaW.PrintMore
attribute [local go_sem high] eqA55
set_option linter.unusedVariables false
set_option linter.unusedSimpArgs false
instance : DecidableEq S55 := fun a b => decidable_of_iff (a.f0 = b.f0 ∧ a.f1 = b.f1 ∧ a.f2 = b.f2) ⟨fun ⟨h0, h1, h2⟩ => S55_ext h0 h1 h2, fun h => by subst h; exact ⟨rfl, rfl, rfl⟩⟩
def compactE (l : List S55) : List S55 := Lib.compact l
theorem cellsE {W : World} {g n cap base : Nat} {ok : Nat → Prop} {l : List S55} (h : Kd.R k55 55 W base ok (.slice (some ⟨g, 0, none⟩) n cap) l) (i : Nat) (hi : i < n) :
  W.cell? ⟨g, i * 3, none⟩ = some (.int .i64 (rd_T55 l (i : Int)).f0) ∧ W.cell? ⟨g, i * 3 + 1, none⟩ = some (.int .i64 (rd_T55 l (i : Int)).f1) ∧ W.cell? ⟨g, i * 3 + 2, none⟩ = some (.int .i64 (rd_T55 l (i : Int)).f2) := by
 obtain ⟨hn, _, hC⟩ := Kd.R_reads' h
 obtain ⟨ad, e, h0, h1, h2⟩ := at_T55 hC (i : Int) (by omega) (by omega)
 cases e
 rw [Int.toNat_natCast, add_plain] at h0 h1 h2
 exact ⟨h0, h1, h2⟩
theorem eq_same (a b : S55) (h : a = b) : (a.f0 == b.f0 && (a.f1 == b.f1 && a.f2 == b.f2)) = true := by subst h; simp
theorem eq_other (a b : S55) (h : ¬ a = b) : (a.f0 == b.f0 && (a.f1 == b.f1 && a.f2 == b.f2)) = false := by
 rw [← Bool.not_eq_true]
 intro hc
 simp only [Bool.and_eq_true, beq_iff_eq] at hc
 exact h (S55_ext hc.1 hc.2.1 hc.2.2)
theorem upTo_succ (l : List S55) (m : Nat) (h : m < l.length) (hm : 1 ≤ m) : Lib.compactUpTo l.toArray (m + 1) = if rd_T55 l (m : Int) = rd_T55 l ((m - 1 : Nat) : Int) then Lib.compactUpTo l.toArray m else Lib.compactUpTo l.toArray m ++ [rd_T55 l (m : Int)] := by
 have e1 : l.toArray[m]! = rd_T55 l (m : Int) := by simp [rd_T55, getElem!_pos, h]
 have e2 : l.toArray[m - 1]! = rd_T55 l ((m - 1 : Nat) : Int) := by simp [rd_T55, getElem!_pos, show m - 1 < l.length by omega]
 unfold Lib.compactUpTo
 rw [List.range_succ, List.filter_append, List.map_append]
 split <;> rename_i hq
 ·rw [show List.filter (Lib.keeps l.toArray) [m] = [] by simp [Lib.keeps, e1, e2, hq, show ¬ m = 0 by omega]]
  simp
 ·rw [show List.filter (Lib.keeps l.toArray) [m] = [m] by simp [Lib.keeps, e1, e2, hq]]
  simp only [List.map_cons, List.map_nil, e1]
theorem upTo_all (l : List S55) (m : Nat) (h : m ≤ l.length) (hd : ∀ j, 1 ≤ j → j < m → ¬ rd_T55 l (j : Int) = rd_T55 l ((j - 1 : Nat) : Int)) : Lib.compactUpTo l.toArray m = l.take m := by
 induction m with
 | zero => simp [Lib.compactUpTo]
 | succ m ih =>
  have ih' := ih (by omega) (fun j h1 h2 => hd j h1 (by omega))
  rcases Nat.eq_zero_or_pos m with h0 | h0
  ·subst h0
   have : 0 < l.length := by omega
   cases l with
   | nil => simp at this
   | cons x l => simp [Lib.compactUpTo, Lib.keeps]
  ·rw [upTo_succ l m (by omega) h0, if_neg (hd m h0 (by omega)), ih', List.take_succ_eq_append_getElem (by omega)]
   simp [rd_T55, show m < l.length by omega]
theorem rd_behind (A l : List S55) (m i : Nat) (hA : m = A.length) (hi : m ≤ i) : rd_T55 (A ++ l.drop m) (i : Int) = rd_T55 l (i : Int) := by
 unfold rd_T55
 rw [Int.toNat_natCast, List.getD_eq_getElem?_getD, List.getD_eq_getElem?_getD, List.getElem?_append_right (by omega), List.getElem?_drop]
 congr 2
 omega
theorem set_behind (A l : List S55) (m : Nat) (x : S55) (hA : m = A.length) (hm : m < l.length) : (A ++ l.drop m).set m x = (A ++ [x]) ++ l.drop (m + 1) := by
 rw [List.set_append_right _ _ (by omega), ← hA, Nat.sub_self, List.append_assoc]
 congr 1
 rw [List.drop_eq_getElem_cons hm]
 rfl
theorem three_cells {W : World} {g : Nat} {m : Nat} {x y z : Value} (h0 : W.cell? ⟨g, m * 3, none⟩ = some x) (h1 : W.cell? ⟨g, m * 3 + 1, none⟩ = some y) (h2 : W.cell? ⟨g, m * 3 + 2, none⟩ = some z) : ∀ (j : Nat) (u : Value), [x, y, z][j]? = some u → W.drew.cell? ⟨g, (m : Int).toNat * k55.sz + j, none⟩ = some u := by
 intro j u hu
 rw [Int.toNat_natCast, show k55.sz = 3 from rfl]
 match j, hu with
 | 0, hu => obtain rfl := Option.some.inj hu; exact h0
 | 1, hu => obtain rfl := Option.some.inj hu; exact h1
 | 2, hu => obtain rfl := Option.some.inj hu; exact h2
theorem upTo_length (l : List S55) (m : Nat) : (Lib.compactUpTo l.toArray m).length ≤ m := by
 unfold Lib.compactUpTo
 rw [List.length_map]
 exact Nat.le_trans (List.length_filter_le _ _) (by simp)
theorem clear_edges {W : World} {g n cap base m c : Nat} {l : List S55} (ho : Kd.R k55 55 W base (fun _ => True) (.slice (some ⟨g, 0, none⟩) n cap) l) (hm : m < n) :
  ∃ W', (∀ ty, (Builtin.clear_ #[23] ty #[.slice (some ⟨g, m * 3, none⟩) (n - m) c]).run Try.prog W = .ok (.tuple #[]) W') ∧ Kd.R k55 55 W' base (fun _ => True) (.slice (some ⟨g, 0, none⟩) m cap) (l.take m) ∧ W.grownBy W' (some g) := by
 obtain ⟨hn, hnc, _⟩ := Kd.R_reads' ho
 obtain ⟨_, inner, ho2, hr⟩ := ho
 rcases ho2.2 with ⟨h1, _⟩ | ⟨g', cap', cur, h1, hg, hh, hnc', hcm, hcs, htake⟩
 ·cases h1
 injection h1 with h1 _ h2
 injection h1 with h1
 injection h1 with h1
 subst h1
 subst h2
 have hcs3 : cur.size = cap * 3 := hcs
 obtain ⟨news, hnews⟩ : ∃ news, news = (Builtin.zeroCells (Value.agg #[.int .i64 0, .int .i64 0, .int .i64 0]).cells (n - m)).toList := ⟨_, rfl⟩
 have hnl : news.length = (n - m) * 3 := by rw [hnews, Array.length_toList, size_zeroCells]; rfl
 have hone : ∀ v ∈ news, v.oneCell' = true := by
  intro v hv
  rw [hnews] at hv
  simp [Builtin.zeroCells, Value.cells] at hv
  obtain ⟨i, _, rfl⟩ := hv
  have : i % 3 = 0 ∨ i % 3 = 1 ∨ i % 3 = 2 := by omega
  rcases this with h | h | h <;> rw [h] <;> rfl
 have hst := run_storeCells_cells (P := Try.prog) g (m * 3) news 0 W (fun j hj => by
  rw [Nat.add_zero, cell_of_row W g _ cur 55 (0, 0) hh]
  simp
  omega) (fun j _ => blk_frozen hh _) hone
 rw [Nat.add_zero] at hst
 obtain ⟨cur', q1, q2, q3⟩ := setCells_row news (m * 3) W cur hh (by rw [hnl, hcs3]; omega)
 obtain ⟨s1, s2, s3, s4⟩ := setCells_same g news (m * 3) W
 have hml : (l.take m).length = m := by rw [List.length_take]; omega
 refine ⟨W.setCells g (m * 3) news, fun ty => ?_, ⟨fun _ _ => trivial, inner.take (m * 3), ⟨?_, .inr ⟨g, cap, cur', by rw [hml], hg, q1, by rw [hml]; omega, hcm, by rw [q2]; exact hcs, ?_⟩⟩, ?_, ?_⟩, ⟨s1, s2, s3, by rw [s4]; exact Nat.le_refl _, fun k _ hk => setCells_far news _ k (fun e => hk (by rw [e]))⟩⟩
 ·obtain ⟨q, hq⟩ : ∃ q, n - m = q + 1 := ⟨n - m - 1, by omega⟩
  rw [hq] at hnews ⊢
  have hv : ∀ w, (zeroValue 55).run Try.prog w = .ok (.agg #[.int .i64 0, .int .i64 0, .int .i64 0]) w := fun w => by
   obtain ⟨i0, hi, hzz⟩ := Option.map_eq_some_iff.1 (show (Try.prog.info? 55).map (fun i => (i.zero, i.size, i.bytes)) = some (some (.agg #[.int .i64 0, .int .i64 0, .int .i64 0]), 3, 24) by kernel_rfl)
   simp only [Prod.mk.injEq] at hzz
   simp [zeroValue, typeInfo, hi, hzz.1]
  simp [Builtin.clear_, run_underlying Try.underlying23, hv, ← hnews, hst]
 ·rw [List.length_take, List.length_take, ho2.1]
  show min (m * 3) (l.length * 3) = min m l.length * 3
  omega
 ·rw [List.length_take]
  show cur'.toList.take (min m l.length * 3) = _
  rw [show min m l.length * 3 = m * 3 by omega, q3, List.append_assoc, List.take_append_of_le_length (by rw [List.length_take, Array.length_toList]; omega), List.take_take, Nat.min_self, ← htake, List.take_take]
  show _ = cur.toList.take (min (m * 3) (l.length * 3))
  rw [Nat.min_eq_left (by omega)]
 ·rw [List.length_take, List.length_take, ho2.1]
  show min (m * 3) (l.length * 3) = min m l.length * 3
  omega
 ·intro j p hj
  have hjm : j < m := by
   have := (List.getElem?_eq_some_iff.1 hj).1
   rw [List.length_take] at this
   omega
  rw [List.getElem?_take_of_lt hjm] at hj
  have := hr.2 j p hj
  have e3 : ((inner.take (m * 3)).drop (j * k55.sz)).take k55.sz = (inner.drop (j * k55.sz)).take k55.sz := by
   show ((inner.take (m * 3)).drop (j * 3)).take 3 = (inner.drop (j * 3)).take 3
   rw [List.drop_take, List.take_take, Nat.min_eq_left (by omega)]
  rw [e3]
  exact k55.M_move (fun _ _ => by trivial) (by obtain h := k55_openM this; rw [h]; exact k55_mkM _ _ _ _)
set_option maxHeartbeats 4000000 in
set_option maxRecDepth 100000 in
theorem compact_edges (l : List S55) (g cap : Nat) (base : Nat) (w0 W : World) (hB : Below base w0 W) (ho : Kd.R k55 55 W base (fun _ => True) (.slice (some ⟨g, 0, none⟩) l.length cap) l) (hlt : l.length < 5864062014805) (hWb : base ≤ W.heap.size) :
  Calls Try.prog 127 #[.slice (some ⟨g, 0, none⟩) l.length cap] W fun e W2 => ∃ v, e = .returned v ∧ Kd.R k55 55 W2 base (fun _ => True) v (compactE l) ∧ Below base w0 W2 := by
 have hu55 := Try.underlying55
 have hu23 := Try.underlying23
 obtain ⟨n, hnl⟩ : ∃ n, n = l.length := ⟨_, rfl⟩
 have hno := (Kd.R_reads' ho).2.1
 rw [← hnl] at ho hlt hno ⊢
 have HN := Aside0.mk hnl
 have HO0 := Aside0.mk ho
 have HB0 := Aside0.mk hB
 have HW := Aside0.mk hWb
 have HCAP : Aside0 (cap ≤ 9223372036854775807) := ⟨by
  obtain ⟨_, inner, ho2, _⟩ := ho
  rcases ho2.2 with ⟨h1, _⟩ | ⟨g', cap', cur, h1, _, hh, _, hcm, _⟩
  ·cases h1
  ·injection h1 with _ _ h1
   subst h1
   simpa [maxLen] using hcm⟩
 clear hnl ho hB hWb
 have hcap := HCAP.out
 by_cases hn2 : n < 2
 ·have b1 : decide ((n : Int) < 2) = true := decide_eq_true (by omega)
  have b2 : decide (n < 2) = true := decide_eq_true (by omega)
  go_enter Try.func127, Try.ntmps127
  go_wp2
  go_ret
  refine ⟨_, rfl, ?_, HB0.out⟩
  have : compactE l = l := by
   unfold compactE Lib.compact
   rw [upTo_all l l.length (Nat.le_refl _) (fun j h1 h2 => by have := HN.out; omega), List.take_length]
  rw [this]
  exact HO0.out
 have b1 : decide ((n : Int) < 2) = false := decide_eq_false (by omega)
 have b2 : decide (n < 2) = false := decide_eq_false (by omega)
 go_enter Try.func127, Try.ntmps127
 go_wp2
 go_loopw [3] (fun x wr => ∃ k : Nat, x = .int .i64 k ∧ 1 ≤ k ∧ k ≤ n ∧ Aside0 (∀ j, 1 ≤ j → j < k → ¬ rd_T55 l (j : Int) = rd_T55 l ((j - 1 : Nat) : Int)) ∧ Aside0 (Kd.R k55 55 wr base (fun _ => True) (.slice (some ⟨g, 0, none⟩) n cap) l) ∧ Aside0 (Below base w0 wr) ∧ Aside0 (base ≤ wr.heap.size)) (fun x _ => n - (intOf x).toNat)
 case atStart => exact ⟨1, rfl, by omega, by omega, ⟨fun j h1 h2 => absurd h2 (by omega)⟩, HO0, HB0, HW⟩
 case round =>
  clear HO0 HB0 HW
  obtain ⟨k, rfl, hk, hk2, HD, HO, HB, HW⟩ := hrel
  by_cases hlt2 : k < n
  ·have d1 : decide ((k : Int) < (n : Int)) = true := decide_eq_true (by omega)
   have d2 : decide (k < n) = true := decide_eq_true hlt2
   have hwr : wrap64 ((k : Int) - 1) = (k : Int) - 1 := by unfold wrap64; omega
   have hwn : (wrap64 ((k : Int) - 1)).toNat = k - 1 := by rw [hwr]; omega
   have hwc : ((k - 1 : Nat) : Int) = wrap64 ((k : Int) - 1) := by rw [hwr]; omega
   obtain ⟨a0, a1, a2⟩ := cellsE HO.out k hlt2
   obtain ⟨p0, p1, p2⟩ := cellsE HO.out (k - 1) (by omega)
   rw [hwc, ← hwn] at p0 p1 p2
   have c1 : (0 ≤ wrap64 ((k : Int) - 1)) = True := eq_true (by rw [hwr]; omega)
   have c2 : (wrap64 ((k : Int) - 1) < (n : Int)) = True := eq_true (by rw [hwr]; omega)
   have HWN := Aside0.mk hwn
   have HWC := Aside0.mk hwc
   have HWR := Aside0.mk hwr
   clear hwn hwc hwr
   by_cases hq : rd_T55 l (k : Int) = rd_T55 l (wrap64 ((k : Int) - 1))
   ·have e1 := eq_same _ _ hq
    have HQ := Aside0.mk hq
    clear hq
    go_wp2
    refine start_ (n := 10) (S := fun w' => w'.cell? ⟨g, k * 3, none⟩ = some (.int .i64 (rd_T55 l (k : Int)).f0) ∧ w'.cell? ⟨g, k * 3 + 1, none⟩ = some (.int .i64 (rd_T55 l (k : Int)).f1) ∧ w'.cell? ⟨g, k * 3 + 2, none⟩ = some (.int .i64 (rd_T55 l (k : Int)).f2) ∧ w'.cell? ⟨g, (wrap64 ((k : Int) - 1)).toNat * 3, none⟩ = some (.int .i64 (rd_T55 l (wrap64 ((k : Int) - 1))).f0) ∧ w'.cell? ⟨g, (wrap64 ((k : Int) - 1)).toNat * 3 + 1, none⟩ = some (.int .i64 (rd_T55 l (wrap64 ((k : Int) - 1))).f1) ∧ w'.cell? ⟨g, (wrap64 ((k : Int) - 1)).toNat * 3 + 2, none⟩ = some (.int .i64 (rd_T55 l (wrap64 ((k : Int) - 1))).f2)) (ds := []) #[false, false, false, false, false, false, false, false, false, false] (by kernel_rfl) rfl rfl ⟨a0, a1, a2, p0, p1, p2⟩ (fun hHeld => ?_)
    refine pure_ (i := 0) (N := some 16) (v := ?_) (a' := ?_) #[true, false, false, false, false, false, false, false, false, false] rfl rfl (by kernel_rfl) (fun _ _ _ h => h) (Or.inl ⟨by rfl, ?_⟩) ?_ ?_
    rotate_left
    ·intro w'
     go_simp
     with_reducible rfl
    rotate_left
    ·simp only [Act.put, List.setIfInBounds_toArray, List.set_cons_zero, List.set_cons_succ, i64_w, i32_w]
     rfl
    refine pure_ (i := 1) (N := some 17) (v := ?_) (a' := ?_) #[true, true, false, false, false, false, false, false, false, false] rfl rfl (by kernel_rfl) (fun _ _ _ h => h) (Or.inl ⟨by rfl, ?_⟩) ?_ ?_
    rotate_left
    ·intro w'
     go_simp
     with_reducible rfl
    rotate_left
    ·simp only [Act.put, List.setIfInBounds_toArray, List.set_cons_zero, List.set_cons_succ, i64_w, i32_w]
     rfl
    refine pure_ (i := 2) (N := some 18) (v := ?_) (a' := ?_) #[true, true, true, false, false, false, false, false, false, false] rfl rfl (by kernel_rfl) (fun _ _ _ h => h) (Or.inl ⟨by rfl, ?_⟩) ?_ ?_
    rotate_left
    ·intro w'
     go_simp
     with_reducible rfl
    rotate_left
    ·simp only [Act.put, List.setIfInBounds_toArray, List.set_cons_zero, List.set_cons_succ, i64_w, i32_w]
     rfl
    refine pure_ (i := 4) (N := some 20) (v := ?_) (a' := ?_) #[true, true, true, false, true, false, false, false, false, false] rfl rfl (by kernel_rfl) (fun _ _ _ h => h) (Or.inl ⟨by rfl, ?_⟩) ?_ ?_
    rotate_left
    ·intro w'
     go_simp
     with_reducible rfl
    rotate_left
    ·simp only [Act.put, List.setIfInBounds_toArray, List.set_cons_zero, List.set_cons_succ, i64_w, i32_w]
     rfl
    refine pure_ (i := 5) (N := some 21) (v := ?_) (a' := ?_) #[true, true, true, false, true, true, false, false, false, false] rfl rfl (by kernel_rfl) (fun _ _ _ h => h) (Or.inl ⟨by rfl, ?_⟩) ?_ ?_
    rotate_left
    ·intro w'
     go_simp
     with_reducible rfl
    rotate_left
    ·simp only [Act.put, List.setIfInBounds_toArray, List.set_cons_zero, List.set_cons_succ, i64_w, i32_w]
     rfl
    refine pure_ (i := 6) (N := some 22) (v := ?_) (a' := ?_) #[true, true, true, false, true, true, true, false, false, false] rfl rfl (by kernel_rfl) (fun _ _ _ h => h) (Or.inl ⟨by rfl, ?_⟩) ?_ ?_
    rotate_left
    ·intro w'
     go_simp
     with_reducible rfl
    rotate_left
    ·simp only [Act.put, List.setIfInBounds_toArray, List.set_cons_zero, List.set_cons_succ, i64_w, i32_w]
     rfl
    refine pure_ (i := 7) (N := some 23) (v := ?_) (a' := ?_) #[true, true, true, false, true, true, true, true, false, false] rfl rfl (by kernel_rfl) (fun _ _ _ h => h) (Or.inl ⟨by rfl, ?_⟩) ?_ ?_
    rotate_left
    ·intro w'
     go_simp
     with_reducible rfl
    rotate_left
    ·simp only [Act.put, List.setIfInBounds_toArray, List.set_cons_zero, List.set_cons_succ, i64_w, i32_w]
     rfl
    refine take_ (i := 3) (N := some 19) (v := ?_) (a' := ?_) #[true, true, true, true, true, true, true, true, false, false] rfl rfl (by kernel_rfl) (fun _ _ _ h => h) (Or.inl ⟨by rfl, ?_⟩) hHeld ?_ ?_
    rotate_left
    ·rintro w' ⟨s0, s1, s2, s3, s4, s5⟩
     go_simp
     with_reducible rfl
    rotate_left
    ·simp only [Act.put, List.setIfInBounds_toArray, List.set_cons_zero, List.set_cons_succ, i64_w, i32_w]
     rfl
    refine take_ (i := 8) (N := some 24) (v := ?_) (a' := ?_) #[true, true, true, true, true, true, true, true, true, false] rfl rfl (by kernel_rfl) (fun _ _ _ h => h) (Or.inl ⟨by rfl, ?_⟩) hHeld ?_ ?_
    rotate_left
    ·rintro w' ⟨s0, s1, s2, s3, s4, s5⟩
     go_simp
     with_reducible rfl
    rotate_left
    ·simp only [Act.put, List.setIfInBounds_toArray, List.set_cons_zero, List.set_cons_succ, i64_w, i32_w]
     rfl
    refine pure_ (i := 9) (N := some 25) (v := ?_) (a' := ?_) #[true, true, true, true, true, true, true, true, true, true] rfl rfl (by kernel_rfl) (fun _ _ _ h => h) (Or.inl ⟨by rfl, ?_⟩) ?_ ?_
    rotate_left
    ·intro w'
     go_simp
     with_reducible rfl
    rotate_left
    ·simp only [Act.put, List.setIfInBounds_toArray, List.set_cons_zero, List.set_cons_succ, i64_w, i32_w]
     rfl
    refine done_ (by kernel_rfl) ?_
    clear a0 a1 a2 p0 p1 p2
    have HO2 : Aside0 (Kd.R k55 55 wr.drew base (fun _ => True) (.slice (some ⟨g, 0, none⟩) n cap) l) := ⟨Kd.R_drew HO.out⟩
    have HB2 := Aside0.mk (below_drew1 HB.out)
    have HW2 : Aside0 (base ≤ wr.drew.heap.size) := HW
    clear HO HB HW c1 c2 d1 d2
    generalize wr.drew = wo at HO2 HB2 HW2 ⊢
    obtain ⟨k0, rfl⟩ : ∃ k0 : Nat, k0 = k := ⟨_, rfl⟩
    have hk0 : k0 ≤ cap := by omega
    have q1 : (0 ≤ (k0 : Int)) = True := eq_true (by omega)
    have q2 : ((k0 : Int) ≤ (n : Int)) = True := eq_true (by omega)
    have q3 : ((n : Int) ≤ (cap : Int)) = True := eq_true (by omega)
    go_wp2
    go_loopw [3, 5] (fun x y wr => ∃ m k2 : Nat, x = .int .i64 m ∧ y = .int .i64 k2 ∧ 1 ≤ k2 ∧ k2 ≤ n - k0 ∧ m ≤ k0 + k2 - 1 ∧ 1 ≤ m ∧ Aside0 (m = (Lib.compactUpTo l.toArray (k0 + k2)).length) ∧ Aside0 (Kd.R k55 55 wr base (fun _ => True) (.slice (some ⟨g, 0, none⟩) n cap) (Lib.compactUpTo l.toArray (k0 + k2) ++ l.drop m)) ∧ Aside0 (Below base w0 wr) ∧ Aside0 (base ≤ wr.heap.size)) (fun _ y _ => n - k0 - (intOf y).toNat)
    case atStart =>
     have hu : Lib.compactUpTo l.toArray (k0 + 1) = l.take k0 := by
      rw [upTo_succ l k0 (by rw [← HN.out]; exact hlt2) hk, if_pos (by rw [HWC.out]; exact HQ.out)]
      exact upTo_all l k0 (by rw [← HN.out]; exact hk2) HD.out
     exact ⟨k0, 1, rfl, rfl, by omega, by omega, by omega, hk, ⟨by rw [hu, List.length_take, ← HN.out]; omega⟩, ⟨by rw [hu, List.take_append_drop]; exact HO2.out⟩, HB2, HW2⟩
    case round =>
     clear HO2 HB2 HW2
     obtain ⟨m, k2, rfl, rfl, hk21, hk22, hm, hm1, HM, HO, HB, HW⟩ := hrel
     have hz1 : wrap64 ((k2 : Int) - 1) = (k2 : Int) - 1 := by unfold wrap64; omega
     by_cases hlt3 : k2 < n - k0
     ·have d1 : decide ((k2 : Int) < ((n - k0 : Nat) : Int)) = true := decide_eq_true (by omega)
      have d2 : decide (k2 < n - k0) = true := decide_eq_true hlt3
      have hwn : (wrap64 ((k2 : Int) - 1)).toNat = k2 - 1 := by rw [hz1]; omega
      obtain ⟨a0, a1, a2⟩ := cellsE HO.out (k0 + k2) (by omega)
      obtain ⟨p0, p1, p2⟩ := cellsE HO.out (k0 + k2 - 1) (by omega)
      rw [rd_behind _ _ _ _ HM.out (by omega)] at a0 a1 a2 p0 p1 p2
      rw [show (k0 + k2) * 3 = k0 * 3 + k2 * 3 by omega] at a0 a1 a2
      rw [show (k0 + k2 - 1) * 3 = k0 * 3 + (wrap64 ((k2 : Int) - 1)).toNat * 3 by rw [hwn]; omega] at p0 p1 p2
      have c1 : (0 ≤ wrap64 ((k2 : Int) - 1)) = True := eq_true (by rw [hz1]; omega)
      have c2 : (wrap64 ((k2 : Int) - 1) < ((n - k0 : Nat) : Int)) = True := eq_true (by rw [hz1]; omega)
      have c3 : ((k2 : Int) < ((n - k0 : Nat) : Int)) = True := eq_true (by omega)
      have hsu := upTo_succ l (k0 + k2) (by rw [← HN.out]; omega) (by omega)
      have HI : Aside0 (∃ i i1 : Nat, i = k0 + k2 ∧ i1 = k0 + k2 - 1) := ⟨⟨_, _, rfl, rfl⟩⟩
      obtain ⟨i, i1, hi, hi1⟩ := HI.out
      rw [← hi] at a0 a1 a2 hsu
      rw [← hi1] at p0 p1 p2
      rw [show i - 1 = i1 by omega] at hsu
      have HSU := Aside0.mk hsu
      have HI1 := Aside0.mk hi
      clear hwn hz1 hsu hi hi1 HI
      by_cases hq2 : (rd_T55 l (i : Int)) = (rd_T55 l (i1 : Int))
      ·have e1 : (!((rd_T55 l (i : Int)).f0 == (rd_T55 l (i1 : Int)).f0) || (!((rd_T55 l (i : Int)).f1 == (rd_T55 l (i1 : Int)).f1) || !((rd_T55 l (i : Int)).f2 == (rd_T55 l (i1 : Int)).f2))) = false := by rw [hq2]; simp
       have HQ2 := Aside0.mk hq2
       clear hq2
       go_wp2
       refine start_ (n := 10) (S := fun w' => w'.cell? ⟨g, k0 * 3 + k2 * 3, none⟩ = some (.int .i64 (rd_T55 l (i : Int)).f0) ∧ w'.cell? ⟨g, k0 * 3 + k2 * 3 + 1, none⟩ = some (.int .i64 (rd_T55 l (i : Int)).f1) ∧ w'.cell? ⟨g, k0 * 3 + k2 * 3 + 2, none⟩ = some (.int .i64 (rd_T55 l (i : Int)).f2) ∧ w'.cell? ⟨g, k0 * 3 + (wrap64 ((k2 : Int) - 1)).toNat * 3, none⟩ = some (.int .i64 (rd_T55 l (i1 : Int)).f0) ∧ w'.cell? ⟨g, k0 * 3 + (wrap64 ((k2 : Int) - 1)).toNat * 3 + 1, none⟩ = some (.int .i64 (rd_T55 l (i1 : Int)).f1) ∧ w'.cell? ⟨g, k0 * 3 + (wrap64 ((k2 : Int) - 1)).toNat * 3 + 2, none⟩ = some (.int .i64 (rd_T55 l (i1 : Int)).f2)) (ds := []) #[false, false, false, false, false, false, false, false, false, false] (by kernel_rfl) rfl rfl ⟨a0, a1, a2, p0, p1, p2⟩ (fun hHeld => ?_)
       refine pure_ (i := 0) (N := some 35) (v := ?_) (a' := ?_) #[true, false, false, false, false, false, false, false, false, false] rfl rfl (by kernel_rfl) (fun _ _ _ h => h) (Or.inl ⟨by rfl, ?_⟩) ?_ ?_
       rotate_left
       ·intro w'
        go_simp
        with_reducible rfl
       rotate_left
       ·simp only [Act.put, List.setIfInBounds_toArray, List.set_cons_zero, List.set_cons_succ, i64_w, i32_w]
        rfl
       refine pure_ (i := 1) (N := some 36) (v := ?_) (a' := ?_) #[true, true, false, false, false, false, false, false, false, false] rfl rfl (by kernel_rfl) (fun _ _ _ h => h) (Or.inl ⟨by rfl, ?_⟩) ?_ ?_
       rotate_left
       ·intro w'
        go_simp
        with_reducible rfl
       rotate_left
       ·simp only [Act.put, List.setIfInBounds_toArray, List.set_cons_zero, List.set_cons_succ, i64_w, i32_w]
        rfl
       refine pure_ (i := 2) (N := some 37) (v := ?_) (a' := ?_) #[true, true, true, false, false, false, false, false, false, false] rfl rfl (by kernel_rfl) (fun _ _ _ h => h) (Or.inl ⟨by rfl, ?_⟩) ?_ ?_
       rotate_left
       ·intro w'
        go_simp
        with_reducible rfl
       rotate_left
       ·simp only [Act.put, List.setIfInBounds_toArray, List.set_cons_zero, List.set_cons_succ, i64_w, i32_w]
        rfl
       refine pure_ (i := 4) (N := some 39) (v := ?_) (a' := ?_) #[true, true, true, false, true, false, false, false, false, false] rfl rfl (by kernel_rfl) (fun _ _ _ h => h) (Or.inl ⟨by rfl, ?_⟩) ?_ ?_
       rotate_left
       ·intro w'
        go_simp
        with_reducible rfl
       rotate_left
       ·simp only [Act.put, List.setIfInBounds_toArray, List.set_cons_zero, List.set_cons_succ, i64_w, i32_w]
        rfl
       refine pure_ (i := 5) (N := some 40) (v := ?_) (a' := ?_) #[true, true, true, false, true, true, false, false, false, false] rfl rfl (by kernel_rfl) (fun _ _ _ h => h) (Or.inl ⟨by rfl, ?_⟩) ?_ ?_
       rotate_left
       ·intro w'
        go_simp
        with_reducible rfl
       rotate_left
       ·simp only [Act.put, List.setIfInBounds_toArray, List.set_cons_zero, List.set_cons_succ, i64_w, i32_w]
        rfl
       refine pure_ (i := 6) (N := some 41) (v := ?_) (a' := ?_) #[true, true, true, false, true, true, true, false, false, false] rfl rfl (by kernel_rfl) (fun _ _ _ h => h) (Or.inl ⟨by rfl, ?_⟩) ?_ ?_
       rotate_left
       ·intro w'
        go_simp
        with_reducible rfl
       rotate_left
       ·simp only [Act.put, List.setIfInBounds_toArray, List.set_cons_zero, List.set_cons_succ, i64_w, i32_w]
        rfl
       refine pure_ (i := 7) (N := some 42) (v := ?_) (a' := ?_) #[true, true, true, false, true, true, true, true, false, false] rfl rfl (by kernel_rfl) (fun _ _ _ h => h) (Or.inl ⟨by rfl, ?_⟩) ?_ ?_
       rotate_left
       ·intro w'
        go_simp
        with_reducible rfl
       rotate_left
       ·simp only [Act.put, List.setIfInBounds_toArray, List.set_cons_zero, List.set_cons_succ, i64_w, i32_w]
        rfl
       refine take_ (i := 3) (N := some 38) (v := ?_) (a' := ?_) #[true, true, true, true, true, true, true, true, false, false] rfl rfl (by kernel_rfl) (fun _ _ _ h => h) (Or.inl ⟨by rfl, ?_⟩) hHeld ?_ ?_
       rotate_left
       ·rintro w' ⟨s0, s1, s2, s3, s4, s5⟩
        go_simp
        with_reducible rfl
       rotate_left
       ·simp only [Act.put, List.setIfInBounds_toArray, List.set_cons_zero, List.set_cons_succ, i64_w, i32_w]
        rfl
       refine take_ (i := 8) (N := some 43) (v := ?_) (a' := ?_) #[true, true, true, true, true, true, true, true, true, false] rfl rfl (by kernel_rfl) (fun _ _ _ h => h) (Or.inl ⟨by rfl, ?_⟩) hHeld ?_ ?_
       rotate_left
       ·rintro w' ⟨s0, s1, s2, s3, s4, s5⟩
        go_simp
        with_reducible rfl
       rotate_left
       ·simp only [Act.put, List.setIfInBounds_toArray, List.set_cons_zero, List.set_cons_succ, i64_w, i32_w]
        rfl
       refine pure_ (i := 9) (N := some 44) (v := ?_) (a' := ?_) #[true, true, true, true, true, true, true, true, true, true] rfl rfl (by kernel_rfl) (fun _ _ _ h => h) (Or.inl ⟨by rfl, ?_⟩) ?_ ?_
       rotate_left
       ·intro w'
        go_simp
        with_reducible rfl
       rotate_left
       ·simp only [Act.put, List.setIfInBounds_toArray, List.set_cons_zero, List.set_cons_succ, i64_w, i32_w]
        rfl
       refine done_ (by kernel_rfl) ?_
       clear a0 a1 a2 p0 p1 p2
       go_wp2
       go_roundw
       case rel =>
        have hs := HSU.out
        rw [if_pos HQ2.out] at hs
        have hI := HI1.out
        have hM := HM.out
        have hO := HO.out
        rw [← hI] at hM hO
        rw [← hs] at hM hO
        exact ⟨m, k2 + 1, rfl, by go_num, by omega, by omega, by omega, hm1, ⟨by rw [hM]; congr 2; omega⟩, ⟨by rw [show k0 + (k2 + 1) = i + 1 by omega]; exact Kd.R_drew hO⟩, ⟨below_drew1 HB.out⟩, HW⟩
       case measure => simp [intOf]; omega
      ·have e1 : (!((rd_T55 l (i : Int)).f0 == (rd_T55 l (i1 : Int)).f0) || (!((rd_T55 l (i : Int)).f1 == (rd_T55 l (i1 : Int)).f1) || !((rd_T55 l (i : Int)).f2 == (rd_T55 l (i1 : Int)).f2))) = true := by
        have h9 := eq_other _ _ hq2
        revert h9
        cases ((rd_T55 l (i : Int)).f0 == (rd_T55 l (i1 : Int)).f0) <;> cases ((rd_T55 l (i : Int)).f1 == (rd_T55 l (i1 : Int)).f1) <;> cases ((rd_T55 l (i : Int)).f2 == (rd_T55 l (i1 : Int)).f2) <;> simp
       have HQ2 := Aside0.mk hq2
       clear hq2
       go_wp2
       refine start_ (n := 10) (S := fun w' => w'.cell? ⟨g, k0 * 3 + k2 * 3, none⟩ = some (.int .i64 (rd_T55 l (i : Int)).f0) ∧ w'.cell? ⟨g, k0 * 3 + k2 * 3 + 1, none⟩ = some (.int .i64 (rd_T55 l (i : Int)).f1) ∧ w'.cell? ⟨g, k0 * 3 + k2 * 3 + 2, none⟩ = some (.int .i64 (rd_T55 l (i : Int)).f2) ∧ w'.cell? ⟨g, k0 * 3 + (wrap64 ((k2 : Int) - 1)).toNat * 3, none⟩ = some (.int .i64 (rd_T55 l (i1 : Int)).f0) ∧ w'.cell? ⟨g, k0 * 3 + (wrap64 ((k2 : Int) - 1)).toNat * 3 + 1, none⟩ = some (.int .i64 (rd_T55 l (i1 : Int)).f1) ∧ w'.cell? ⟨g, k0 * 3 + (wrap64 ((k2 : Int) - 1)).toNat * 3 + 2, none⟩ = some (.int .i64 (rd_T55 l (i1 : Int)).f2)) (ds := []) #[false, false, false, false, false, false, false, false, false, false] (by kernel_rfl) rfl rfl ⟨a0, a1, a2, p0, p1, p2⟩ (fun hHeld => ?_)
       refine pure_ (i := 0) (N := some 35) (v := ?_) (a' := ?_) #[true, false, false, false, false, false, false, false, false, false] rfl rfl (by kernel_rfl) (fun _ _ _ h => h) (Or.inl ⟨by rfl, ?_⟩) ?_ ?_
       rotate_left
       ·intro w'
        go_simp
        with_reducible rfl
       rotate_left
       ·simp only [Act.put, List.setIfInBounds_toArray, List.set_cons_zero, List.set_cons_succ, i64_w, i32_w]
        rfl
       refine pure_ (i := 1) (N := some 36) (v := ?_) (a' := ?_) #[true, true, false, false, false, false, false, false, false, false] rfl rfl (by kernel_rfl) (fun _ _ _ h => h) (Or.inl ⟨by rfl, ?_⟩) ?_ ?_
       rotate_left
       ·intro w'
        go_simp
        with_reducible rfl
       rotate_left
       ·simp only [Act.put, List.setIfInBounds_toArray, List.set_cons_zero, List.set_cons_succ, i64_w, i32_w]
        rfl
       refine pure_ (i := 2) (N := some 37) (v := ?_) (a' := ?_) #[true, true, true, false, false, false, false, false, false, false] rfl rfl (by kernel_rfl) (fun _ _ _ h => h) (Or.inl ⟨by rfl, ?_⟩) ?_ ?_
       rotate_left
       ·intro w'
        go_simp
        with_reducible rfl
       rotate_left
       ·simp only [Act.put, List.setIfInBounds_toArray, List.set_cons_zero, List.set_cons_succ, i64_w, i32_w]
        rfl
       refine pure_ (i := 4) (N := some 39) (v := ?_) (a' := ?_) #[true, true, true, false, true, false, false, false, false, false] rfl rfl (by kernel_rfl) (fun _ _ _ h => h) (Or.inl ⟨by rfl, ?_⟩) ?_ ?_
       rotate_left
       ·intro w'
        go_simp
        with_reducible rfl
       rotate_left
       ·simp only [Act.put, List.setIfInBounds_toArray, List.set_cons_zero, List.set_cons_succ, i64_w, i32_w]
        rfl
       refine pure_ (i := 5) (N := some 40) (v := ?_) (a' := ?_) #[true, true, true, false, true, true, false, false, false, false] rfl rfl (by kernel_rfl) (fun _ _ _ h => h) (Or.inl ⟨by rfl, ?_⟩) ?_ ?_
       rotate_left
       ·intro w'
        go_simp
        with_reducible rfl
       rotate_left
       ·simp only [Act.put, List.setIfInBounds_toArray, List.set_cons_zero, List.set_cons_succ, i64_w, i32_w]
        rfl
       refine pure_ (i := 6) (N := some 41) (v := ?_) (a' := ?_) #[true, true, true, false, true, true, true, false, false, false] rfl rfl (by kernel_rfl) (fun _ _ _ h => h) (Or.inl ⟨by rfl, ?_⟩) ?_ ?_
       rotate_left
       ·intro w'
        go_simp
        with_reducible rfl
       rotate_left
       ·simp only [Act.put, List.setIfInBounds_toArray, List.set_cons_zero, List.set_cons_succ, i64_w, i32_w]
        rfl
       refine pure_ (i := 7) (N := some 42) (v := ?_) (a' := ?_) #[true, true, true, false, true, true, true, true, false, false] rfl rfl (by kernel_rfl) (fun _ _ _ h => h) (Or.inl ⟨by rfl, ?_⟩) ?_ ?_
       rotate_left
       ·intro w'
        go_simp
        with_reducible rfl
       rotate_left
       ·simp only [Act.put, List.setIfInBounds_toArray, List.set_cons_zero, List.set_cons_succ, i64_w, i32_w]
        rfl
       refine take_ (i := 3) (N := some 38) (v := ?_) (a' := ?_) #[true, true, true, true, true, true, true, true, false, false] rfl rfl (by kernel_rfl) (fun _ _ _ h => h) (Or.inl ⟨by rfl, ?_⟩) hHeld ?_ ?_
       rotate_left
       ·rintro w' ⟨s0, s1, s2, s3, s4, s5⟩
        go_simp
        with_reducible rfl
       rotate_left
       ·simp only [Act.put, List.setIfInBounds_toArray, List.set_cons_zero, List.set_cons_succ, i64_w, i32_w]
        rfl
       refine take_ (i := 8) (N := some 43) (v := ?_) (a' := ?_) #[true, true, true, true, true, true, true, true, true, false] rfl rfl (by kernel_rfl) (fun _ _ _ h => h) (Or.inl ⟨by rfl, ?_⟩) hHeld ?_ ?_
       rotate_left
       ·rintro w' ⟨s0, s1, s2, s3, s4, s5⟩
        go_simp
        with_reducible rfl
       rotate_left
       ·simp only [Act.put, List.setIfInBounds_toArray, List.set_cons_zero, List.set_cons_succ, i64_w, i32_w]
        rfl
       refine pure_ (i := 9) (N := some 44) (v := ?_) (a' := ?_) #[true, true, true, true, true, true, true, true, true, true] rfl rfl (by kernel_rfl) (fun _ _ _ h => h) (Or.inl ⟨by rfl, ?_⟩) ?_ ?_
       rotate_left
       ·intro w'
        go_simp
        with_reducible rfl
       rotate_left
       ·simp only [Act.put, List.setIfInBounds_toArray, List.set_cons_zero, List.set_cons_succ, i64_w, i32_w]
        rfl
       refine done_ (by kernel_rfl) ?_
       clear p0 p1 p2
       obtain ⟨m0, m1, m2⟩ := cellsE HO.out m (by omega)
       have HM0 := Aside0.mk m0
       have HM1 := Aside0.mk m1
       have HM2 := Aside0.mk m2
       clear m0 m1 m2
       have q4 : ((m : Int) < (n : Int)) = True := eq_true (by omega)
       go_wp2_with (first | (refine Kd.R_store k55 (w0 := w0) base rfl rfl 55 (.tmp 51) (.tmp 50) rfl 55 (g := g) (n := n) (cap := cap) (o' := m * 3) (m : Int) 0 _ (rd_T55 l (i : Int)) _ [.int .i64 (rd_T55 l (i : Int)).f0, .int .i64 (rd_T55 l (i : Int)).f1, .int .i64 (rd_T55 l (i : Int)).f2] [.int .i64 (rd_T55 (Lib.compactUpTo l.toArray (k0 + k2) ++ l.drop m) (m : Int)).f0, .int .i64 (rd_T55 (Lib.compactUpTo l.toArray (k0 + k2) ++ l.drop m) (m : Int)).f1, .int .i64 (rd_T55 (Lib.compactUpTo l.toArray (k0 + k2) ++ l.drop m) (m : Int)).f2] (fun _ => True) (fun _ => False) rfl rfl rfl rfl (by kernel_rfl) (by simp [Value.oneCell']) (Kd.R_drew HO.out) (by omega) (by omega) rfl ?cc (Nat.le_refl 3) (k55_mkM _ _ _ _) (fun _ h => h.elim) (below_drew1 HB.out) ?_; (case cc => exact three_cells HM0.out HM1.out HM2.out); intro w1 ho1 hb1 hg1; have HO1 := Aside0.mk ho1; have HB1 := Aside0.mk hb1; have HW1 : Aside0 (base ≤ w1.heap.size) := ⟨Nat.le_trans HW.out hg1.size⟩; clear ho1 hb1 hg1))
       clear a0 a1 a2
       go_roundw
       case rel =>
        have hs := HSU.out
        rw [if_neg HQ2.out] at hs
        have hI := HI1.out
        have hM := HM.out
        have hO := HO1.out
        rw [Int.toNat_natCast, set_behind _ _ _ _ hM (by rw [← HN.out]; omega)] at hO
        rw [← hI] at hM hO
        rw [← hs] at hO
        have hL := congrArg List.length hs
        rw [List.length_append, List.length_singleton, ← hM] at hL
        exact ⟨m + 1, k2 + 1, by go_num, by go_num, by omega, by omega, by omega, by omega, ⟨by rw [← hL]; congr 2; omega⟩, ⟨by rw [show k0 + (k2 + 1) = i + 1 by omega]; exact hO⟩, HB1, HW1⟩
       case measure => simp [intOf]; omega
     ·have ek : k2 = n - k0 := by omega
      have d1 : decide ((k2 : Int) < ((n - k0 : Nat) : Int)) = false := decide_eq_false (by omega)
      have d2 : decide (k2 < n - k0) = false := decide_eq_false (by omega)
      have hmn : m < n := by omega
      obtain ⟨W', hcl, ho3, hg3⟩ := clear_edges (c := cap - m) HO.out hmn
      have HO3 := Aside0.mk ho3
      have HG3 := Aside0.mk hg3
      have HX : Aside0 (k0 + k2 = n) := ⟨by omega⟩
      have q5 : ((m : Int) ≤ (n : Int)) = True := eq_true (by omega)
      have q6 : ((m : Int) ≤ (cap : Int)) = True := eq_true (by omega)
      clear ho3 hg3 hz1 ek
      go_wp2
      go_ret
      refine ⟨_, rfl, ?_, ?_⟩
      ·have h := HO3.out
       rw [List.take_append_of_le_length (by rw [← HM.out]; exact Nat.le_refl _), List.take_of_length_le (by rw [← HM.out]; exact Nat.le_refl _), HX.out, HN.out] at h
       exact h
      ·exact HB.out.grown HG3.out HW.out (fun k hk => by cases hk; exact Kd.R_base HO.out g (by simp [Value.ownBlock]))
   ·have e1 := eq_other _ _ hq
    have HQ := Aside0.mk hq
    clear hq
    go_wp2
    refine start_ (n := 10) (S := fun w' => w'.cell? ⟨g, k * 3, none⟩ = some (.int .i64 (rd_T55 l (k : Int)).f0) ∧ w'.cell? ⟨g, k * 3 + 1, none⟩ = some (.int .i64 (rd_T55 l (k : Int)).f1) ∧ w'.cell? ⟨g, k * 3 + 2, none⟩ = some (.int .i64 (rd_T55 l (k : Int)).f2) ∧ w'.cell? ⟨g, (wrap64 ((k : Int) - 1)).toNat * 3, none⟩ = some (.int .i64 (rd_T55 l (wrap64 ((k : Int) - 1))).f0) ∧ w'.cell? ⟨g, (wrap64 ((k : Int) - 1)).toNat * 3 + 1, none⟩ = some (.int .i64 (rd_T55 l (wrap64 ((k : Int) - 1))).f1) ∧ w'.cell? ⟨g, (wrap64 ((k : Int) - 1)).toNat * 3 + 2, none⟩ = some (.int .i64 (rd_T55 l (wrap64 ((k : Int) - 1))).f2)) (ds := []) #[false, false, false, false, false, false, false, false, false, false] (by kernel_rfl) rfl rfl ⟨a0, a1, a2, p0, p1, p2⟩ (fun hHeld => ?_)
    refine pure_ (i := 0) (N := some 16) (v := ?_) (a' := ?_) #[true, false, false, false, false, false, false, false, false, false] rfl rfl (by kernel_rfl) (fun _ _ _ h => h) (Or.inl ⟨by rfl, ?_⟩) ?_ ?_
    rotate_left
    ·intro w'
     go_simp
     with_reducible rfl
    rotate_left
    ·simp only [Act.put, List.setIfInBounds_toArray, List.set_cons_zero, List.set_cons_succ, i64_w, i32_w]
     rfl
    refine pure_ (i := 1) (N := some 17) (v := ?_) (a' := ?_) #[true, true, false, false, false, false, false, false, false, false] rfl rfl (by kernel_rfl) (fun _ _ _ h => h) (Or.inl ⟨by rfl, ?_⟩) ?_ ?_
    rotate_left
    ·intro w'
     go_simp
     with_reducible rfl
    rotate_left
    ·simp only [Act.put, List.setIfInBounds_toArray, List.set_cons_zero, List.set_cons_succ, i64_w, i32_w]
     rfl
    refine pure_ (i := 2) (N := some 18) (v := ?_) (a' := ?_) #[true, true, true, false, false, false, false, false, false, false] rfl rfl (by kernel_rfl) (fun _ _ _ h => h) (Or.inl ⟨by rfl, ?_⟩) ?_ ?_
    rotate_left
    ·intro w'
     go_simp
     with_reducible rfl
    rotate_left
    ·simp only [Act.put, List.setIfInBounds_toArray, List.set_cons_zero, List.set_cons_succ, i64_w, i32_w]
     rfl
    refine pure_ (i := 4) (N := some 20) (v := ?_) (a' := ?_) #[true, true, true, false, true, false, false, false, false, false] rfl rfl (by kernel_rfl) (fun _ _ _ h => h) (Or.inl ⟨by rfl, ?_⟩) ?_ ?_
    rotate_left
    ·intro w'
     go_simp
     with_reducible rfl
    rotate_left
    ·simp only [Act.put, List.setIfInBounds_toArray, List.set_cons_zero, List.set_cons_succ, i64_w, i32_w]
     rfl
    refine pure_ (i := 5) (N := some 21) (v := ?_) (a' := ?_) #[true, true, true, false, true, true, false, false, false, false] rfl rfl (by kernel_rfl) (fun _ _ _ h => h) (Or.inl ⟨by rfl, ?_⟩) ?_ ?_
    rotate_left
    ·intro w'
     go_simp
     with_reducible rfl
    rotate_left
    ·simp only [Act.put, List.setIfInBounds_toArray, List.set_cons_zero, List.set_cons_succ, i64_w, i32_w]
     rfl
    refine pure_ (i := 6) (N := some 22) (v := ?_) (a' := ?_) #[true, true, true, false, true, true, true, false, false, false] rfl rfl (by kernel_rfl) (fun _ _ _ h => h) (Or.inl ⟨by rfl, ?_⟩) ?_ ?_
    rotate_left
    ·intro w'
     go_simp
     with_reducible rfl
    rotate_left
    ·simp only [Act.put, List.setIfInBounds_toArray, List.set_cons_zero, List.set_cons_succ, i64_w, i32_w]
     rfl
    refine pure_ (i := 7) (N := some 23) (v := ?_) (a' := ?_) #[true, true, true, false, true, true, true, true, false, false] rfl rfl (by kernel_rfl) (fun _ _ _ h => h) (Or.inl ⟨by rfl, ?_⟩) ?_ ?_
    rotate_left
    ·intro w'
     go_simp
     with_reducible rfl
    rotate_left
    ·simp only [Act.put, List.setIfInBounds_toArray, List.set_cons_zero, List.set_cons_succ, i64_w, i32_w]
     rfl
    refine take_ (i := 3) (N := some 19) (v := ?_) (a' := ?_) #[true, true, true, true, true, true, true, true, false, false] rfl rfl (by kernel_rfl) (fun _ _ _ h => h) (Or.inl ⟨by rfl, ?_⟩) hHeld ?_ ?_
    rotate_left
    ·rintro w' ⟨s0, s1, s2, s3, s4, s5⟩
     go_simp
     with_reducible rfl
    rotate_left
    ·simp only [Act.put, List.setIfInBounds_toArray, List.set_cons_zero, List.set_cons_succ, i64_w, i32_w]
     rfl
    refine take_ (i := 8) (N := some 24) (v := ?_) (a' := ?_) #[true, true, true, true, true, true, true, true, true, false] rfl rfl (by kernel_rfl) (fun _ _ _ h => h) (Or.inl ⟨by rfl, ?_⟩) hHeld ?_ ?_
    rotate_left
    ·rintro w' ⟨s0, s1, s2, s3, s4, s5⟩
     go_simp
     with_reducible rfl
    rotate_left
    ·simp only [Act.put, List.setIfInBounds_toArray, List.set_cons_zero, List.set_cons_succ, i64_w, i32_w]
     rfl
    refine pure_ (i := 9) (N := some 25) (v := ?_) (a' := ?_) #[true, true, true, true, true, true, true, true, true, true] rfl rfl (by kernel_rfl) (fun _ _ _ h => h) (Or.inl ⟨by rfl, ?_⟩) ?_ ?_
    rotate_left
    ·intro w'
     go_simp
     with_reducible rfl
    rotate_left
    ·simp only [Act.put, List.setIfInBounds_toArray, List.set_cons_zero, List.set_cons_succ, i64_w, i32_w]
     rfl
    refine done_ (by kernel_rfl) ?_
    clear a0 a1 a2 p0 p1 p2
    go_wp2
    go_roundw
    case rel => exact ⟨k + 1, by go_num, by omega, by omega, ⟨fun j h1 h2 => by
      rcases Nat.lt_or_ge j k with hj | hj
      ·exact HD.out j h1 hj
      ·obtain rfl : j = k := by omega
       rw [HWC.out]
       exact HQ.out⟩, ⟨Kd.R_drew HO.out⟩, ⟨below_drew1 HB.out⟩, HW⟩
    case measure => simp [intOf]; omega
  ·have e : k = n := by omega
   subst e
   have d1 : decide ((k : Int) < (k : Int)) = false := decide_eq_false (by omega)
   have d2 : decide (k < k) = false := decide_eq_false (by omega)
   go_wp2
   go_ret
   refine ⟨_, rfl, ?_, HB.out⟩
   have : compactE l = l := by
    unfold compactE Lib.compact
    rw [upTo_all l l.length (Nat.le_refl _) (fun j h1 h2 => HD.out j h1 (by rw [HN.out]; exact h2)), List.take_length]
   rw [this]
   exact HO.out
end Go.Proofs.Ytcjbghmhdefdiaa.S
namespace Go.Proofs.Ytcjbghmhdefdiaa.S
open Go.RowKit Go.Proofs.YtcjbghmhdefdiaaW.PrintWords Go.Proofs.YtcjbghmhdefdiaaW.PrintLast Go.Proofs.YtcjbghmhdefdiaaW.PrintMore
set_option linter.unusedVariables false
def api_Edge_124.f (l : List S55) : Option (List S55) := if l.length < 5864062014805 then some l else none
set_option maxHeartbeats 1000000 in
set_option maxRecDepth 100000 in
theorem api_Edge_124.calls (A0 : Option Addr) (c0 : Nat) (l0 : List S55) (r : List S55) (w : World) (hr0 : Kd.C k55 w A0 l0.length l0) (hc0 : l0.length ≤ c0) (h : api_Edge_124.f l0 = some r) :
  Calls Try.prog 124 #[.slice A0 l0.length c0] w fun e w' => ∃ v0_ : Value, e = .returned (v0_) ∧ Kd.R k55 55 w' w.heap.size (fun _ => True) v0_ r ∧ Below w.heap.size w w' := by
 unfold api_Edge_124.f at h
 by_cases hlt : l0.length < 5864062014805
 ·rw [if_pos hlt] at h
  obtain rfl := Option.some.inj h
  clear h
  have hut := Try.underlying23
  rcases A0 with _ | ad
  ·have hz : l0 = [] := List.eq_nil_of_length_eq_zero (by
    rcases Nat.eq_zero_or_pos l0.length with h0 | h0
    ·exact h0
    ·obtain ⟨ad, e, _⟩ := hr0.2.2 h0
     cases e)
   subst hz
   clear hr0
   have hq := fun (W : World) => Lib.run_eql_slice_nil (P := Try.prog) W 23 55 none 0 c0 0 0 Try.underlying23
   go_enter Try.func124, Try.ntmps124
   go_wp2
   go_ret
   exact ⟨_, rfl, Kd.R_nil _ _ _ _ _, Below.refl _ _⟩
  ·have HR := Aside0.mk hr0
   clear hr0
   have hq := fun (W : World) => Lib.run_eql_slice_nil (P := Try.prog) W 23 55 (some ad) l0.length c0 0 0 Try.underlying23
   go_enter Try.func124, Try.ntmps124
   go_wp2_with (first | ((with_reducible refine gate_dst (N := 5) rfl ?_); refine Kd.R_lit k55 w.heap.size 55 ?hg (N := 5) ?hd (xs := ([] : List S55)) (inner := []) (ok := fun _ => True) (okp := fun _ => True) ?hr ?hp (fun _ hk => hk) trivial (Below.refl _ _) (Nat.le_refl _) (by simp) ?_; (case hd => rfl); (case hg => rfl); (case hr => first | (go_simp; done) | (go_simp; rfl)); (case hp => exact (Reps.none _ _)); intro v5 w5 ho5 hb5 hg_ hnew_; clear hg_ hnew_; have HO := Aside0.mk ho5; have HB := Aside0.mk hb5; clear ho5 hb5) | ((with_reducible refine gate_builtin (b := .append) (xs := #[.tmp 5, .tmp 6]) rfl ?_); at_builtin; refine Kd.R_append_rows k55 (w0 := w) w.heap.size rfl (.tmp 5) (.tmp 6) 23 55 (.agg #[.int .i64 0, .int .i64 0, .int .i64 0]) 24 rfl Try.underlying23 info55 rfl (by decide) (by omega) _ [] l0 _ _ _ (fun _ => True) (fun _ => False) rfl rfl HO.out (Kd.C_below HR.out HB.out) (fun x cs h => (by obtain rfl := k55_open h; exact k55_mkM _ _ _ _)) (fun _ h => h.elim) (fun _ _ => trivial) HB.out (Below.size HB.out) (by simp only [List.length_nil]; omega) ?_; intro v7 w7 ho7 hb7 hg_ hnew_; clear hg_ hnew_; have HO7 := Aside0.mk ho7; have HB7 := Aside0.mk hb7; clear ho7 hb7))
   go_ret
   exact ⟨_, rfl, HO7.out, HB7.out⟩
 ·rw [if_neg hlt] at h
  cases h
end Go.Proofs.Ytcjbghmhdefdiaa.S
namespace Go.Proofs.Ytcjbghmhdefdiaa.S
open Go.RowKit Go.Proofs.YtcjbghmhdefdiaaW.PrintWords Go.Proofs.YtcjbghmhdefdiaaW.PrintLast Go.Proofs.YtcjbghmhdefdiaaW.PrintMore
set_option linter.unusedVariables false
def slices_Clone_string_string.f (l : List ByteArray) : Option (List ByteArray) := if l.length < 8796093022208 then some l else none
set_option maxHeartbeats 1000000 in
set_option maxRecDepth 100000 in
theorem slices_Clone_string_string.calls (A0 : Option Addr) (c0 : Nat) (l0 : List ByteArray) (r : List ByteArray) (w : World) (hr0 : Kd.C Kd.string w A0 l0.length l0) (hc0 : l0.length ≤ c0) (h : slices_Clone_string_string.f l0 = some r) :
  Calls Try.prog 128 #[.slice A0 l0.length c0] w fun e w' => ∃ v0_ : Value, e = .returned (v0_) ∧ Kd.R Kd.string 9 w' w.heap.size (fun _ => True) v0_ r ∧ Below w.heap.size w w' := by
 unfold slices_Clone_string_string.f at h
 by_cases hlt : l0.length < 8796093022208
 ·rw [if_pos hlt] at h
  obtain rfl := Option.some.inj h
  clear h
  have hut := Try.underlying22
  rcases A0 with _ | ad
  ·have hz : l0 = [] := List.eq_nil_of_length_eq_zero (by
    rcases Nat.eq_zero_or_pos l0.length with h0 | h0
    ·exact h0
    ·obtain ⟨ad, e, _⟩ := hr0.2.2 h0
     cases e)
   subst hz
   clear hr0
   have hq := fun (W : World) => Lib.run_eql_slice_nil (P := Try.prog) W 22 9 none 0 c0 0 0 Try.underlying22
   go_enter Try.func128, Try.ntmps128
   go_wp2
   go_ret
   exact ⟨_, rfl, Kd.R_nil _ _ _ _ _, Below.refl _ _⟩
  ·have HR := Aside0.mk hr0
   clear hr0
   have hq := fun (W : World) => Lib.run_eql_slice_nil (P := Try.prog) W 22 9 (some ad) l0.length c0 0 0 Try.underlying22
   go_enter Try.func128, Try.ntmps128
   go_wp2_with (first | ((with_reducible refine gate_dst (N := 5) rfl ?_); refine Kd.R_lit Kd.string w.heap.size 9 ?hg (N := 5) ?hd (xs := ([] : List ByteArray)) (inner := []) (ok := fun _ => True) (okp := fun _ => True) ?hr ?hp (fun _ hk => hk) trivial (Below.refl _ _) (Nat.le_refl _) (by simp) ?_; (case hd => rfl); (case hg => rfl); (case hr => first | (go_simp; done) | (go_simp; rfl)); (case hp => exact (Reps.none _ _)); intro v5 w5 ho5 hb5 hg_ hnew_; clear hg_ hnew_; have HO := Aside0.mk ho5; have HB := Aside0.mk hb5; clear ho5 hb5) | ((with_reducible refine gate_builtin (b := .append) (xs := #[.tmp 5, .tmp 6]) rfl ?_); at_builtin; refine Kd.R_append_rows Kd.string (w0 := w) w.heap.size rfl (.tmp 5) (.tmp 6) 22 9 (.string ⟨#[]⟩) 16 rfl Try.underlying22 info9 rfl (by decide) (by omega) _ [] l0 _ _ _ (fun _ => True) (fun _ => False) rfl rfl HO.out (Kd.C_below HR.out HB.out) (fun _ _ h => h) (fun _ h => h.elim) (fun _ _ => trivial) HB.out (Below.size HB.out) (by simp only [List.length_nil]; omega) ?_; intro v7 w7 ho7 hb7 hg_ hnew_; clear hg_ hnew_; have HO7 := Aside0.mk ho7; have HB7 := Aside0.mk hb7; clear ho7 hb7))
   go_ret
   exact ⟨_, rfl, HO7.out, HB7.out⟩
 ·rw [if_neg hlt] at h
  cases h
end Go.Proofs.Ytcjbghmhdefdiaa.S
namespace Go.Proofs.Ytcjbghmhdefdiaa.S
open Go.RowKit Go.Proofs.YtcjbghmhdefdiaaW.PrintWords Go.Proofs.YtcjbghmhdefdiaaW.PrintLast Go.Proofs.YtcjbghmhdefdiaaW.PrintMore
set_option linter.unusedVariables false
set_option linter.unusedSimpArgs false
def lts_Sort.f (k : Nat) (n : Int) (ls : List ByteArray) (es : List S55) : Option (Int × (List ByteArray) × (List S55) × Int) :=
 if es.length < 5864062014805 then (lts_Check.f k n ls (compactE (sortE es))).bind fun e => if e = 0 then (if ls.length < 8796093022208 then some (n, ls, compactE (sortE es), 0) else none) else some (0, [], [], e) else none
theorem lts_Sort.mono : ∀ a0 a1 a2 k, LeO (lts_Sort.f k a0 a1 a2) (lts_Sort.f (k + 1) a0 a1 a2) := by
 intro a0 a1 a2 k
 unfold lts_Sort.f
 refine LeO.ite (LeO.bind (lts_Check.mono _ _ _ _) fun _ => LeO.refl _) (LeO.refl _)
theorem compactE_length (l : List S55) : (compactE l).length ≤ l.length := upTo_length l l.length
theorem compact_any (l : List S55) (v : Value) (base : Nat) (w0 W : World) (hB : Below base w0 W) (ho : Kd.R k55 55 W base (fun _ => True) v l) (hlt : l.length < 5864062014805) (hWb : base ≤ W.heap.size) :
  Calls Try.prog 127 #[v] W fun e W2 => ∃ v, e = .returned v ∧ Kd.R k55 55 W2 base (fun _ => True) v (compactE l) ∧ Below base w0 W2 := by
 have ho2 := ho
 obtain ⟨_, inner, ho3, _⟩ := ho2
 rcases ho3.2 with ⟨rfl, hn⟩ | ⟨g, cap, cur, rfl, hg, hh, hnc, hcm, hcs, htake⟩
 ·obtain rfl := List.eq_nil_of_length_eq_zero hn
  have HO := Aside0.mk ho
  have HB := Aside0.mk hB
  clear ho ho3 hn hB
  go_enter Try.func127, Try.ntmps127
  go_wp2
  go_ret
  exact ⟨_, rfl, by rw [show compactE [] = [] by simp [compactE, Lib.compact, Lib.compactUpTo]]; exact HO.out, HB.out⟩
 ·exact compact_edges l g cap base w0 W hB ho hlt hWb
theorem far_store {α : Type} {d : Kd α} {e : Nat} {w : World} {base g : Nat} {v : Value} {l : List α} (h : d.R e w base (fun _ => True) v l) (hg : g < base) (j : Nat) (u : Value) : d.R e (w.setCell ⟨g, j, none⟩ u) base (fun _ => True) v l :=
 Kd.R_mono (Kd.R_far (Kd.R_bound h) (fun k hk => by have h1 := hk.2.1; show k ≠ g; omega) u) (fun _ _ => trivial)
theorem blk_base {w w1 : World} {base g : Nat} {o : Obj} (h : w.heap[g]? = some o) (hb : Below base w w1) (hg : g < base) : w1.heap[g]? = some o := (hb.block g hg).trans h
set_option maxHeartbeats 4000000 in
set_option maxRecDepth 100000 in
theorem lts_Sort.calls (k : Nat) (a0_0 : Int) (A0_1 : Option Addr) (c0_1 : Nat) (l0_1 : List ByteArray) (A0_2 : Option Addr) (c0_2 : Nat) (l0_2 : List (S55)) (r1 : Int) (r2 : List ByteArray) (r3 : List (S55)) (r4 : Int) (w : World) (hr0_1 : Kd.C Kd.string w A0_1 l0_1.length l0_1) (hc0_1 : l0_1.length ≤ c0_1) (hr0_2 : Kd.C k55 w A0_2 l0_2.length l0_2) (hc0_2 : l0_2.length ≤ c0_2) (h : lts_Sort.f k a0_0 l0_1 l0_2 = some (r1, r2, r3, r4)) :
  Calls Try.prog 65 #[.agg #[.int .i64 a0_0, .slice A0_1 l0_1.length c0_1, .slice A0_2 l0_2.length c0_2]] w fun e w' => ∃ v1_ v2_ : Value, e = .returned (.tuple #[.agg #[.int .i64 r1, v1_, v2_], .int .i64 r4]) ∧ Kd.R Kd.string 9 w' w.heap.size (fun _ => True) v1_ r2 ∧ Kd.R k55 55 w' w.heap.size (fun _ => True) v2_ r3 ∧ Below w.heap.size w w' := by
 have hu25 := Try.underlying25
 unfold lts_Sort.f at h
 by_cases hlt0 : ¬ l0_2.length < 5864062014805
 ·rw [if_neg hlt0] at h; cases h
 have hlt : l0_2.length < 5864062014805 := by omega
 clear hlt0
 rw [if_pos hlt] at h
 obtain ⟨e, hck, h⟩ := Option.bind_eq_some_iff.1 h
 have HK := Aside0.mk hck
 have HR1 := Aside0.mk hr0_1
 have HR2 := Aside0.mk hr0_2
 have HC1 := Aside0.mk hc0_1
 have HC2 := Aside0.mk hc0_2
 have H := Aside0.mk h
 clear hck hr0_1 hr0_2 hc0_1 hc0_2 h
 have HL : Aside0 ((sortE l0_2).length < 5864062014805) := ⟨by rw [sortE_length]; exact hlt⟩
 go_enter Try.func65, Try.ntmps65
 go_wp2_with fail
 have BK1 := Aside0.mk (blk_alloc (blk_new w (.cells #[.int .i64 a0_0, .slice A0_1 l0_1.length c0_1, .slice A0_2 l0_2.length c0_2] 25)) (.cells #[.int .i64 0, .slice none 0 0, .slice none 0 0] 25))
 have BK2 := Aside0.mk (blk_new (w.alloc (.cells #[.int .i64 a0_0, .slice A0_1 l0_1.length c0_1, .slice A0_2 l0_2.length c0_2] 25)) (.cells #[.int .i64 0, .slice none 0 0, .slice none 0 0] 25))
 have HB := Aside0.mk (below_alloc (below_alloc (Below.refl w.heap.size w) (.cells #[.int .i64 a0_0, .slice A0_1 l0_1.length c0_1, .slice A0_2 l0_2.length c0_2] 25)) (.cells #[.int .i64 0, .slice none 0 0, .slice none 0 0] 25))
 rw [show (w.alloc (.cells #[.int .i64 a0_0, .slice A0_1 l0_1.length c0_1, .slice A0_2 l0_2.length c0_2] 25)).heap.size = w.heap.size + 1 by simp] at BK2
 obtain ⟨g1, hg1⟩ : ∃ g1, g1 = w.heap.size := ⟨_, rfl⟩
 obtain ⟨g2, hg2⟩ : ∃ g2, g2 = w.heap.size + 1 := ⟨_, rfl⟩
 rw [← hg2] at BK2 ⊢
 rw [← hg1] at BK1 ⊢
 have HG1 : Aside0 (w.heap.size ≤ g1) := ⟨by omega⟩
 have HG2 : Aside0 (w.heap.size ≤ g2) := ⟨by omega⟩
 have HNE : Aside0 (g1 ≠ g2) := ⟨by omega⟩
 clear hg1 hg2
 generalize ((w.alloc (.cells #[.int .i64 a0_0, .slice A0_1 l0_1.length c0_1, .slice A0_2 l0_2.length c0_2] 25)).alloc (.cells #[.int .i64 0, .slice none 0 0, .slice none 0 0] 25)) = wA at BK1 BK2 HB ⊢
 (with_reducible refine (api_Edge_124.calls _ _ l0_2 _ _ (Kd.C_below HR2.out HB.out) HC2.out (by unfold api_Edge_124.f; exact if_pos hlt)).mono ?_)
 rintro e1 w1 ⟨v1, rfl, ho1, hb1⟩
 obtain ⟨Av1, cv1, rfl⟩ := Kd.R_slice ho1
 have B1 := Aside0.mk (blk_below BK1.out hb1)
 have B2 := Aside0.mk (blk_below BK2.out hb1)
 have HB1 := Aside0.mk (below_step HB.out hb1)
 have HO1 := Aside0.mk ho1
 have HS1 : Aside0 (wA.heap.size ≤ w1.heap.size) := ⟨hb1.size⟩
 have HL1 : Aside0 (g1 < wA.heap.size) := ⟨blk_lt BK1.out⟩
 have HL2 : Aside0 (g2 < wA.heap.size) := ⟨blk_lt BK2.out⟩
 clear BK1 BK2 HB ho1 hb1
 obtain ⟨base, hbase⟩ : ∃ b, b = wA.heap.size := ⟨_, rfl⟩
 rw [← hbase] at HO1 HS1 HL1 HL2
 clear hbase
 have x0 := (blk_cell B1.out 2).trans rfl
 have f0 := blk_frozen B1.out 2
 have f1 := blk_frozen B1.out 1
 go_wp2_with fail
 have B1b := Aside0.mk (blk_set B1.out 2 (.slice Av1 l0_2.length cv1))
 have B2b := Aside0.mk (blk_far (p := ⟨g1, 2, none⟩) B2.out (fun e => HNE.out e.symm) (.slice Av1 l0_2.length cv1))
 have HB2 := Aside0.mk (below_set HB1.out HG1.out (j := 2) (v := .slice Av1 l0_2.length cv1))
 have HO2 := Aside0.mk (far_store HO1.out HL1.out 2 (.slice Av1 l0_2.length cv1))
 have HS2 : Aside0 (base ≤ (w1.setCell ⟨g1, 2, none⟩ (.slice Av1 l0_2.length cv1)).heap.size) := ⟨by rw [World.size_setCell]; exact HS1.out⟩
 clear B1 B2 HB1 HO1 HS1 x0 f0 f1
 generalize (w1.setCell ⟨g1, 2, none⟩ (.slice Av1 l0_2.length cv1)) = w2 at B1b B2b HB2 HO2 HS2 ⊢
 have x0 := (blk_cell B1b.out 2).trans rfl
 (with_reducible refine (sort_edges l0_2 (.slice Av1 l0_2.length cv1) base w2 w2 (Below.refl _ _) HO2.out (by omega) HS2.out).mono ?_)
 rintro e2 w3 ⟨rfl, ho3, hb3, _⟩
 have B1 := Aside0.mk (blk_base B1b.out hb3 HL1.out)
 have B2 := Aside0.mk (blk_base B2b.out hb3 HL2.out)
 have HB3 : Aside0 (Below w.heap.size w w3) := ⟨HB2.out.trans ⟨hb3.os, hb3.tape, hb3.output, hb3.size, fun k hk => hb3.block k (by have := HG1.out; have := HL1.out; omega)⟩⟩
 have HO3 := Aside0.mk ho3
 have HS3 : Aside0 (base ≤ w3.heap.size) := ⟨Nat.le_trans HS2.out hb3.size⟩
 clear B1b B2b HB2 HO2 HS2 x0 ho3 hb3
 have x0 := (blk_cell B1.out 2).trans rfl
 go_wp2_with fail
 (with_reducible refine (compact_any (sortE l0_2) (.slice Av1 l0_2.length cv1) base w3 w3 (Below.refl _ _) HO3.out HL.out HS3.out).mono ?_)
 rintro e3 w4 ⟨v3, rfl, ho4, hb4⟩
 obtain ⟨Av3, cv3, rfl⟩ := Kd.R_slice ho4
 obtain ⟨L, hL⟩ : ∃ L, L = compactE (sortE l0_2) := ⟨_, rfl⟩
 rw [← hL] at ho4
 have HKL := HK
 rw [← hL] at HKL
 have HH := H
 rw [← hL] at HH
 have HLL : Aside0 (L.length < 5864062014805) := ⟨by rw [hL]; have := compactE_length (sortE l0_2); have := HL.out; omega⟩
 rw [← hL]
 clear hL HK H HL
 have B1b := Aside0.mk (blk_base B1.out hb4 HL1.out)
 have B2b := Aside0.mk (blk_base B2.out hb4 HL2.out)
 have HB4 : Aside0 (Below w.heap.size w w4) := ⟨HB3.out.trans ⟨hb4.os, hb4.tape, hb4.output, hb4.size, fun k hk => hb4.block k (by have := HG1.out; have := HL1.out; omega)⟩⟩
 have HO4 := Aside0.mk ho4
 have HS4 : Aside0 (base ≤ w4.heap.size) := ⟨Nat.le_trans HS3.out hb4.size⟩
 clear B1 B2 HB3 HO3 HS3 x0 ho4 hb4
 have x0 := (blk_cell B1b.out 2).trans rfl
 have y0 := (blk_cell B1b.out 0).trans rfl
 have y1 := (blk_cell B1b.out 1).trans rfl
 have f0 := blk_frozen B1b.out 2
 go_wp2_with fail
 have B1 := Aside0.mk (blk_set B1b.out 2 (.slice Av3 L.length cv3))
 have B2 := Aside0.mk (blk_far (p := ⟨g1, 2, none⟩) B2b.out (fun e => HNE.out e.symm) (.slice Av3 L.length cv3))
 have HB5 := Aside0.mk (below_set HB4.out HG1.out (j := 2) (v := .slice Av3 L.length cv3))
 have HO5 := Aside0.mk (far_store HO4.out HL1.out 2 (.slice Av3 L.length cv3))
 have HS5 : Aside0 (base ≤ (w4.setCell ⟨g1, 2, none⟩ (.slice Av3 L.length cv3)).heap.size) := ⟨by rw [World.size_setCell]; exact HS4.out⟩
 clear B1b B2b HB4 HO4 HS4 x0 y0 y1 f0
 generalize (w4.setCell ⟨g1, 2, none⟩ (.slice Av3 L.length cv3)) = w5 at B1 B2 HB5 HO5 HS5 ⊢
 obtain ⟨_, hlc, hC⟩ := Kd.R_reads' HO5.out
 (with_reducible refine (lts_Check.calls k a0_0 _ _ l0_1 _ _ L _ _ (Kd.C_below HR1.out HB5.out) HC1.out hC hlc HKL.out).mono ?_)
 rintro e4 w6 ⟨rfl, hb6⟩
 have B1b := Aside0.mk (blk_below B1.out hb6)
 have B2b := Aside0.mk (blk_below B2.out hb6)
 have HB6 := Aside0.mk (below_step HB5.out hb6)
 have HO6 := Aside0.mk (Kd.R_below HO5.out hb6)
 have HS6 : Aside0 (base ≤ w6.heap.size) := ⟨Nat.le_trans HS5.out hb6.size⟩
 clear B1 B2 HB5 HO5 HS5 hlc hC hb6
 by_cases he : e = 0
 ·subst he
  have hH := HH.out
  rw [if_pos rfl] at hH
  by_cases hll : ¬ l0_1.length < 8796093022208
  ·rw [if_neg hll] at hH; cases hH
  have hll2 : l0_1.length < 8796093022208 := by omega
  clear hll
  rw [if_pos hll2] at hH
  have hH2 := Option.some.inj hH
  simp only [Prod.mk.injEq] at hH2
  obtain ⟨rfl, rfl, rfl, rfl⟩ := hH2
  clear hH HH
  have x0 := (blk_cell B1b.out 1).trans rfl
  go_wp2_with fail
  (with_reducible refine (slices_Clone_string_string.calls _ _ l0_1 _ _ (Kd.C_below HR1.out HB6.out) HC1.out (by unfold slices_Clone_string_string.f; exact if_pos hll2)).mono ?_)
  rintro e5 w7 ⟨v7, rfl, ho7, hb7⟩
  obtain ⟨Av7, cv7, rfl⟩ := Kd.R_slice ho7
  have B1 := Aside0.mk (blk_below B1b.out hb7)
  have B2 := Aside0.mk (blk_below B2b.out hb7)
  have HB7 := Aside0.mk (below_step HB6.out hb7)
  have HO7 := Aside0.mk (Kd.R_below HO6.out hb7)
  have HP7 := Aside0.mk (Kd.R_lower ho7 HS6.out)
  clear B1b B2b HB6 HO6 ho7 hb7 x0
  have y0 := (blk_cell B1.out 0).trans rfl
  have y1 := (blk_cell B1.out 1).trans rfl
  have y2 := (blk_cell B1.out 2).trans rfl
  have z0 := (blk_cell B2.out 0).trans rfl
  have z1 := (blk_cell B2.out 1).trans rfl
  have z2 := (blk_cell B2.out 2).trans rfl
  have f0 := blk_frozen B1.out 0
  have f1 := blk_frozen B1.out 1
  have f2 := blk_frozen B1.out 2
  have i0 := blk_frozen B2.out 0
  have i1 := blk_frozen B2.out 1
  have i2 := blk_frozen B2.out 2
  have hne := HNE.out
  have hne2 : g2 ≠ g1 := fun e => hne e.symm
  go_wp2
  clear y0 y1 y2 z0 z1 z2 f0 f1 f2 i0 i1 i2 hne hne2
  have B2E := blk_set (blk_set (blk_set (blk_far (p := ⟨g1, 1, none⟩) B2.out (fun e => HNE.out e.symm) (.slice Av7 l0_1.length cv7)) 0 (.int .i64 a0_0)) 1 (.slice Av7 l0_1.length cv7)) 2 (.slice Av3 L.length cv3)
  have hb1 := below_set HB7.out HG1.out (j := 1) (v := .slice Av7 l0_1.length cv7)
  have hb2 := below_set (below_set (below_set hb1 HG2.out (j := 0) (v := .int .i64 a0_0)) HG2.out (j := 1) (v := .slice Av7 l0_1.length cv7)) HG2.out (j := 2) (v := .slice Av3 L.length cv3)
  have ho1 := far_store (far_store (far_store (far_store HO7.out HL1.out 1 (.slice Av7 l0_1.length cv7)) HL2.out 0 (.int .i64 a0_0)) HL2.out 1 (.slice Av7 l0_1.length cv7)) HL2.out 2 (.slice Av3 L.length cv3)
  have hp1 := far_store (far_store (far_store (far_store HP7.out HL1.out 1 (.slice Av7 l0_1.length cv7)) HL2.out 0 (.int .i64 a0_0)) HL2.out 1 (.slice Av7 l0_1.length cv7)) HL2.out 2 (.slice Av3 L.length cv3)
  generalize ((((w7.setCell ⟨g1, 1, none⟩ (.slice Av7 l0_1.length cv7)).setCell ⟨g2, 0, none⟩ (.int .i64 a0_0)).setCell ⟨g2, 1, none⟩ (.slice Av7 l0_1.length cv7)).setCell ⟨g2, 2, none⟩ (.slice Av3 L.length cv3)) = wE at B2E hb2 ho1 hp1 ⊢
  have z0 := (blk_cell B2E 0).trans rfl
  have z1 := (blk_cell B2E 1).trans rfl
  have z2 := (blk_cell B2E 2).trans rfl
  refine bodyPost_ret (v := .tuple #[.agg #[.int .i64 a0_0, .slice Av7 l0_1.length cv7, .slice Av3 L.length cv3], .int .i64 0]) (by simp [results, Try.results65, go_sem, hu25, z0, z1, z2]) rfl ⟨_, _, rfl, Kd.R_lower hp1 ?_, Kd.R_lower ho1 ?_, hb2⟩
  ·have := HG1.out; have := HL1.out; omega
  ·have := HG1.out; have := HL1.out; omega
 ·have hH := HH.out
  rw [if_neg he] at hH
  have hH2 := Option.some.inj hH
  simp only [Prod.mk.injEq] at hH2
  obtain ⟨rfl, rfl, rfl, rfl⟩ := hH2
  clear hH HH
  have d1 : (e != 0) = true := by simpa using he
  have d2 : (e == 0) = false := by simpa using he
  have z0 := (blk_cell B2b.out 0).trans rfl
  have z1 := (blk_cell B2b.out 1).trans rfl
  have z2 := (blk_cell B2b.out 2).trans rfl
  have i0 := blk_frozen B2b.out 0
  have i1 := blk_frozen B2b.out 1
  have i2 := blk_frozen B2b.out 2
  clear he
  go_wp2
  clear z0 z1 z2 i0 i1 i2
  have B2E := blk_set (blk_set (blk_set B2b.out 0 (.int .i64 0)) 1 (.slice none 0 0)) 2 (.slice none 0 0)
  have hb2 := below_set (below_set (below_set HB6.out HG2.out (j := 0) (v := .int .i64 0)) HG2.out (j := 1) (v := .slice none 0 0)) HG2.out (j := 2) (v := .slice none 0 0)
  generalize (((w6.setCell ⟨g2, 0, none⟩ (.int .i64 0)).setCell ⟨g2, 1, none⟩ (.slice none 0 0)).setCell ⟨g2, 2, none⟩ (.slice none 0 0)) = wE at B2E hb2 ⊢
  have z0 := (blk_cell B2E 0).trans rfl
  have z1 := (blk_cell B2E 1).trans rfl
  have z2 := (blk_cell B2E 2).trans rfl
  exact bodyPost_ret (v := .tuple #[.agg #[.int .i64 0, .slice none 0 0, .slice none 0 0], .int .i64 e]) (by simp [results, Try.results65, go_sem, hu25, z0, z1, z2]) rfl ⟨_, _, rfl, Kd.R_nil _ _ _ _ _, Kd.R_nil _ _ _ _ _, hb2⟩
end Go.Proofs.Ytcjbghmhdefdiaa.S
namespace Go.Proofs.Ytcjbghmhdefdiaa.S
open Go.RowKit Go.Proofs.YtcjbghmhdefdiaaW.PrintWords Go.Proofs.YtcjbghmhdefdiaaW.PrintLast Go.Proofs.YtcjbghmhdefdiaaW.PrintMore
attribute [local go_sem] max2_int min2_int max_two min_two max_three min_three max_four min_four   -- for this text's walks alone
set_option linter.unusedVariables false
set_option linter.unusedSimpArgs false
def semblanceref01_Texts.l0 : Nat → List ByteArray → List ByteArray → Int → Option (Bool)
 | 0, _, _, _ => none
 | k + 1, x0, x1, x5 => if x5 < (x0.length : Int) then (if 0 ≤ x5 then (if x5 < (x1.length : Int) then (if (rdOf ByteArray.empty x0 x5).toList = (rdOf ByteArray.empty x1 x5).toList then (semblanceref01_Texts.l0 k x0 x1 (wrap64 (x5 + 1))) else (some false)) else (none)) else (none)) else (some true)
def semblanceref01_Texts.f (k : Nat) (l0 : List ByteArray) (l1 : List ByteArray) : Option (Bool) := if (l0.length : Int) = (l1.length : Int) then (semblanceref01_Texts.l0 k l0 l1 0) else (some false)
theorem semblanceref01_Texts.mono_l : ∀ k, (∀ y0 y1 y2, LeO (semblanceref01_Texts.l0 k y0 y1 y2) (semblanceref01_Texts.l0 (k + 1) y0 y1 y2))
 | 0 => fun _ _ _ r h => by simp [semblanceref01_Texts.l0] at h
 | k + 1 => by
  have ih0 := semblanceref01_Texts.mono_l k
  ·intro y0 y1 y2
   unfold semblanceref01_Texts.l0
   repeat' first
   | (with_reducible exact ih0 _ _ _)
   | (with_reducible exact LeO.refl _)
   | (with_reducible exact LeO.none _)
   | (with_reducible refine LeO.ite ?_ ?_)
   | (with_reducible refine LeO.bind ?_ (fun _ => ?_))
   | exact ih0 _ _ _
   | exact LeO.none _
   | refine LeO.ite ?_ ?_
   | refine LeO.bind ?_ (fun _ => ?_)
theorem semblanceref01_Texts.mono : ∀ a0 a1 k, LeO (semblanceref01_Texts.f k a0 a1) (semblanceref01_Texts.f (k + 1) a0 a1) := by
 intro a0 a1 k
 have ih0 := semblanceref01_Texts.mono_l k
 unfold semblanceref01_Texts.f
 repeat' first
   | (with_reducible exact ih0 _ _ _)
   | (with_reducible exact LeO.refl _)
   | (with_reducible exact LeO.none _)
   | (with_reducible refine LeO.ite ?_ ?_)
   | (with_reducible refine LeO.bind ?_ (fun _ => ?_))
   | exact ih0 _ _ _
   | exact LeO.none _
   | refine LeO.ite ?_ ?_
   | refine LeO.bind ?_ (fun _ => ?_)
set_option maxHeartbeats 8000000 in
set_option maxRecDepth 100000 in
theorem semblanceref01_Texts.calls (k : Nat) (A0 : Option Addr) (c0 : Nat) (l0 : List ByteArray) (A1 : Option Addr) (c1 : Nat) (l1 : List ByteArray) (r : Bool) (w : World) (hr0 : Kd.C Kd.string w A0 l0.length l0) (hc0 : l0.length ≤ c0) (hr1 : Kd.C Kd.string w A1 l1.length l1) (hc1 : l1.length ≤ c1) (h : semblanceref01_Texts.f k l0 l1 = some r) :
  Calls Try.prog 31 #[.slice A0 l0.length c0, .slice A1 l1.length c1] w fun e w' => e = .returned (.bool r) ∧ Drawn0 w w' := by
 have HR0 := Aside0.mk hr0
 have HC0 := Aside0.mk hc0
 clear hr0 hc0
 have HR1 := Aside0.mk hr1
 have HC1 := Aside0.mk hc1
 clear hr1 hc1
 have H : (if (l0.length : Int) = (l1.length : Int) then (semblanceref01_Texts.l0 k l0 l1 0) else (some false)) = some r := h
 clear h
 by_cases c3 : (l0.length : Int) = (l1.length : Int)
 ·rw [if_pos c3] at H
  have c3b0 : ((l0.length : Int) == (l1.length : Int)) = true := beq_iff_eq.mpr c3
  have c3b1 : ((l0.length : Int) != (l1.length : Int)) = false := bne_eq_false_iff_eq.mpr c3
  have c3b2 : (l0.length == l1.length) = true := by first | simpa using c3 | (simp at c3 ⊢; omega)
  clear c3
  have H' := Aside0.mk H
  clear H
  go_enter Try.func31, Try.ntmps31
  go_wp2
  repeat (go_quiet (fail); try go_wp2)
  go_loopg [5] k (fun kq v5 w' => ∃ (x5_1 : Int), v5 = .int .i64 x5_1 ∧ Aside0 (semblanceref01_Texts.l0 kq l0 l1 x5_1 = some r) ∧ Aside0 (kq ≤ k) ∧ Drawn0 w w')
  case atStart => exact ⟨(0), (by first | rfl | (simp; done) | (simp [*]; done)), H', ⟨Nat.le_refl _⟩, by repeat (first | exact Drawn0.refl _ | apply Drawn0.step)⟩
  case round =>
   clear H'
   try clear c1
   try clear p2
   try clear c3
   try clear c3b0
   try clear c3b1
   try clear c3b2
   obtain ⟨x5_1, rfl, HA, HK1, ⟨m1, rfl⟩⟩ := hrel
   cases gk with
   | zero => exact absurd HA.out (by simp [semblanceref01_Texts.l0])
   | succ k1 =>
    have H := HA.out
    clear HA
    simp only [semblanceref01_Texts.l0] at H
    by_cases c4 : x5_1 < (l0.length : Int)
    ·rw [if_pos c4] at H
     have c4b0 : decide (x5_1 < (l0.length : Int)) = true := decide_eq_true c4
     clear c4
     by_cases c5 : 0 ≤ x5_1
     ·rw [if_pos c5] at H
      have c5b0 : decide (0 ≤ x5_1) = true := decide_eq_true c5
      clear c5
      by_cases c6 : x5_1 < (l1.length : Int)
      ·rw [if_pos c6] at H
       have c6b0 : decide (x5_1 < (l1.length : Int)) = true := decide_eq_true c6
       clear c6
       by_cases c7 : (rdOf ByteArray.empty l0 x5_1).toList = (rdOf ByteArray.empty l1 x5_1).toList
       ·rw [if_pos c7] at H
        have c7b0 : ((rdOf ByteArray.empty l0 x5_1).toList == (rdOf ByteArray.empty l1 x5_1).toList) = true := beq_iff_eq.mpr c7
        have c7b1 : ((rdOf ByteArray.empty l0 x5_1).toList != (rdOf ByteArray.empty l1 x5_1).toList) = false := bne_eq_false_iff_eq.mpr c7
        clear c7
        have H' := Aside0.mk H
        clear H
        have p345 : 0 ≤ (x5_1 : Int) := of_decide_eq_true (by first | (with_reducible assumption) | assumption)
        have q345 : x5_1 < (l0.length : Int) := of_decide_eq_true (by first | (with_reducible assumption) | assumption)
        obtain ⟨ad345, e345, hx345_0⟩ := Kd.at_string HR0.out x5_1 p345 q345
        cases e345
        replace p345 := eq_true p345
        replace q345 := eq_true q345
        have p346 : 0 ≤ (x5_1 : Int) := of_decide_eq_true (by first | (with_reducible assumption) | assumption)
        have q346 : x5_1 < (l1.length : Int) := of_decide_eq_true (by first | (with_reducible assumption) | assumption)
        obtain ⟨ad346, e346, hx346_0⟩ := Kd.at_string HR1.out x5_1 p346 q346
        cases e346
        replace p346 := eq_true p346
        replace q346 := eq_true q346
        go_wp2
        repeat (go_quiet (fail); try go_wp2)
        go_roundg k1
        case measure => have := HK1.out; omega
        case rel => exact ⟨(wrap64 (x5_1 + 1)), (by first | rfl | (simp; done) | (simp [*]; done)), H', ⟨by have := HK1.out; omega⟩, by repeat (first | exact Drawn0.refl _ | apply Drawn0.step)⟩
       ·rw [if_neg c7] at H
        have c7b0 : ((rdOf ByteArray.empty l0 x5_1).toList == (rdOf ByteArray.empty l1 x5_1).toList) = false := beq_eq_false_iff_ne.mpr c7
        have c7b1 : ((rdOf ByteArray.empty l0 x5_1).toList != (rdOf ByteArray.empty l1 x5_1).toList) = true := bne_iff_ne.mpr c7
        obtain rfl := Option.some.inj H
        have p345 : 0 ≤ (x5_1 : Int) := of_decide_eq_true (by first | (with_reducible assumption) | assumption)
        have q345 : x5_1 < (l0.length : Int) := of_decide_eq_true (by first | (with_reducible assumption) | assumption)
        obtain ⟨ad345, e345, hx345_0⟩ := Kd.at_string HR0.out x5_1 p345 q345
        cases e345
        replace p345 := eq_true p345
        replace q345 := eq_true q345
        have p346 : 0 ≤ (x5_1 : Int) := of_decide_eq_true (by first | (with_reducible assumption) | assumption)
        have q346 : x5_1 < (l1.length : Int) := of_decide_eq_true (by first | (with_reducible assumption) | assumption)
        obtain ⟨ad346, e346, hx346_0⟩ := Kd.at_string HR1.out x5_1 p346 q346
        cases e346
        replace p346 := eq_true p346
        replace q346 := eq_true q346
        go_wp2
        repeat (go_quiet (fail); try go_wp2)
        go_ret
        exact ⟨by first | rfl | (simp; done) | (simp [*]; done), by repeat (first | exact Drawn0.refl _ | apply Drawn0.step)⟩
      ·rw [if_neg c6] at H
       exact absurd H (by simp)
     ·rw [if_neg c5] at H
      exact absurd H (by simp)
    ·rw [if_neg c4] at H
     have c4b0 : decide (x5_1 < (l0.length : Int)) = false := decide_eq_false c4
     clear c4
     obtain rfl := Option.some.inj H
     go_wp2
     repeat (go_quiet (fail); try go_wp2)
     go_ret
     exact ⟨by first | rfl | (simp; done) | (simp [*]; done), by repeat (first | exact Drawn0.refl _ | apply Drawn0.step)⟩
 ·rw [if_neg c3] at H
  have c3b0 : ((l0.length : Int) == (l1.length : Int)) = false := beq_eq_false_iff_ne.mpr c3
  have c3b1 : ((l0.length : Int) != (l1.length : Int)) = true := bne_iff_ne.mpr c3
  have c3b2 : (l0.length == l1.length) = false := by first | simpa using c3 | (simp at c3 ⊢; omega)
  obtain rfl := Option.some.inj H
  go_enter Try.func31, Try.ntmps31
  go_wp2
  repeat (go_quiet (fail); try go_wp2)
  go_ret
  exact ⟨by first | rfl | (simp; done) | (simp [*]; done), by repeat (first | exact Drawn0.refl _ | apply Drawn0.step)⟩
end Go.Proofs.Ytcjbghmhdefdiaa.S
namespace Go.Proofs.Ytcjbghmhdefdiaa.S
open Go.RowKit Go.Proofs.YtcjbghmhdefdiaaW.PrintWords Go.Proofs.YtcjbghmhdefdiaaW.PrintLast Go.Proofs.YtcjbghmhdefdiaaW.PrintMore
attribute [local go_sem] max2_int min2_int max_two min_two max_three min_three max_four min_four   -- for this text's walks alone
set_option linter.unusedVariables false
set_option linter.unusedSimpArgs false
attribute [local go_sem high] eqA55
mutual
def semblanceref26_Same.j0 : Nat → Bool → Int → List ByteArray → List (S55) → Int → List ByteArray → List (S55) → Option (Bool)
 | 0, _, _, _, _, _, _, _ => none
 | k + 1, x27, x672000, x672001, x672002, x673000, x673001, x673002 => if x27 = true then (some false) else (semblanceref26_Same.l0 k 0 x672000 x672001 x672002 x673000 x673001 x673002)
def semblanceref26_Same.l0 : Nat → Int → Int → List ByteArray → List (S55) → Int → List ByteArray → List (S55) → Option (Bool)
 | 0, _, _, _, _, _, _, _ => none
 | k + 1, x5, x672000, x672001, x672002, x673000, x673001, x673002 => if x5 < (x672002.length : Int) then (if 0 ≤ x5 then (if x5 < (x673002.length : Int) then (if (!(((rd_T55 x672002 x5).f0) == ((rd_T55 x673002 x5).f0)) || (!(((rd_T55 x672002 x5).f1) == ((rd_T55 x673002 x5).f1)) || (!(((rd_T55 x672002 x5).f2) == ((rd_T55 x673002 x5).f2))))) = true then (some false) else (semblanceref26_Same.l0 k (wrap64 (x5 + 1)) x672000 x672001 x672002 x673000 x673001 x673002)) else (none)) else (none)) else (some true)
end
def semblanceref26_Same.f (k : Nat) (a0_0 : Int) (l0_1 : List ByteArray) (l0_2 : List (S55)) (a1_0 : Int) (l1_1 : List ByteArray) (l1_2 : List (S55)) : Option (Bool) := if a0_0 = a1_0 then ((semblanceref01_Texts.f k l0_1 l1_1).bind fun t673 => (if t673 = true then (semblanceref26_Same.j0 k ((l0_2.length : Int) != (l1_2.length : Int)) a0_0 l0_1 l0_2 a1_0 l1_1 l1_2) else (semblanceref26_Same.j0 k true a0_0 l0_1 l0_2 a1_0 l1_1 l1_2))) else (semblanceref26_Same.j0 k true a0_0 l0_1 l0_2 a1_0 l1_1 l1_2)
theorem semblanceref26_Same.mono_l : ∀ k, (∀ y0 y1 y2 y3 y4 y5 y6, LeO (semblanceref26_Same.j0 k y0 y1 y2 y3 y4 y5 y6) (semblanceref26_Same.j0 (k + 1) y0 y1 y2 y3 y4 y5 y6)) ∧ (∀ y0 y1 y2 y3 y4 y5 y6, LeO (semblanceref26_Same.l0 k y0 y1 y2 y3 y4 y5 y6) (semblanceref26_Same.l0 (k + 1) y0 y1 y2 y3 y4 y5 y6))
 | 0 => ⟨fun _ _ _ _ _ _ _ r h => by simp [semblanceref26_Same.j0] at h, fun _ _ _ _ _ _ _ r h => by simp [semblanceref26_Same.l0] at h⟩
 | k + 1 => by
  obtain ⟨ih0, ih1⟩ := semblanceref26_Same.mono_l k
  refine ⟨?_, ?_⟩
  ·intro y0 y1 y2 y3 y4 y5 y6
   unfold semblanceref26_Same.j0
   repeat' first
   | (with_reducible exact ih0 _ _ _ _ _ _ _)
   | (with_reducible exact ih1 _ _ _ _ _ _ _)
   | (with_reducible exact semblanceref01_Texts.mono _ _ _)
   | (with_reducible exact LeO.refl _)
   | (with_reducible exact LeO.none _)
   | (with_reducible refine LeO.ite ?_ ?_)
   | (with_reducible refine LeO.bind ?_ (fun _ => ?_))
   | exact ih0 _ _ _ _ _ _ _
   | exact ih1 _ _ _ _ _ _ _
   | exact semblanceref01_Texts.mono _ _ _
   | exact LeO.none _
   | refine LeO.ite ?_ ?_
   | refine LeO.bind ?_ (fun _ => ?_)
  ·intro y0 y1 y2 y3 y4 y5 y6
   unfold semblanceref26_Same.l0
   repeat' first
   | (with_reducible exact ih0 _ _ _ _ _ _ _)
   | (with_reducible exact ih1 _ _ _ _ _ _ _)
   | (with_reducible exact semblanceref01_Texts.mono _ _ _)
   | (with_reducible exact LeO.refl _)
   | (with_reducible exact LeO.none _)
   | (with_reducible refine LeO.ite ?_ ?_)
   | (with_reducible refine LeO.bind ?_ (fun _ => ?_))
   | exact ih0 _ _ _ _ _ _ _
   | exact ih1 _ _ _ _ _ _ _
   | exact semblanceref01_Texts.mono _ _ _
   | exact LeO.none _
   | refine LeO.ite ?_ ?_
   | refine LeO.bind ?_ (fun _ => ?_)
theorem semblanceref26_Same.mono : ∀ a0 a1 a2 a3 a4 a5 k, LeO (semblanceref26_Same.f k a0 a1 a2 a3 a4 a5) (semblanceref26_Same.f (k + 1) a0 a1 a2 a3 a4 a5) := by
 intro a0 a1 a2 a3 a4 a5 k
 obtain ⟨ih0, ih1⟩ := semblanceref26_Same.mono_l k
 unfold semblanceref26_Same.f
 repeat' first
   | (with_reducible exact ih0 _ _ _ _ _ _ _)
   | (with_reducible exact ih1 _ _ _ _ _ _ _)
   | (with_reducible exact semblanceref01_Texts.mono _ _ _)
   | (with_reducible exact LeO.refl _)
   | (with_reducible exact LeO.none _)
   | (with_reducible refine LeO.ite ?_ ?_)
   | (with_reducible refine LeO.bind ?_ (fun _ => ?_))
   | exact ih0 _ _ _ _ _ _ _
   | exact ih1 _ _ _ _ _ _ _
   | exact semblanceref01_Texts.mono _ _ _
   | exact LeO.none _
   | refine LeO.ite ?_ ?_
   | refine LeO.bind ?_ (fun _ => ?_)
set_option maxHeartbeats 8000000 in
set_option maxRecDepth 100000 in
theorem semblanceref26_Same.calls (k : Nat) (a0_0 : Int) (A0_1 : Option Addr) (c0_1 : Nat) (l0_1 : List ByteArray) (A0_2 : Option Addr) (c0_2 : Nat) (l0_2 : List (S55)) (a1_0 : Int) (A1_1 : Option Addr) (c1_1 : Nat) (l1_1 : List ByteArray) (A1_2 : Option Addr) (c1_2 : Nat) (l1_2 : List (S55)) (r : Bool) (w : World) (hr0_1 : Kd.C Kd.string w A0_1 l0_1.length l0_1) (hc0_1 : l0_1.length ≤ c0_1) (hr0_2 : Kd.C k55 w A0_2 l0_2.length l0_2) (hc0_2 : l0_2.length ≤ c0_2) (hr1_1 : Kd.C Kd.string w A1_1 l1_1.length l1_1) (hc1_1 : l1_1.length ≤ c1_1) (hr1_2 : Kd.C k55 w A1_2 l1_2.length l1_2) (hc1_2 : l1_2.length ≤ c1_2) (h : semblanceref26_Same.f k a0_0 l0_1 l0_2 a1_0 l1_1 l1_2 = some r) :
  Calls Try.prog 56 #[.agg #[.int .i64 a0_0, .slice A0_1 l0_1.length c0_1, .slice A0_2 l0_2.length c0_2], .agg #[.int .i64 a1_0, .slice A1_1 l1_1.length c1_1, .slice A1_2 l1_2.length c1_2]] w fun e w' => e = .returned (.bool r) ∧ Below w.heap.size w w' := by
 have hu25 := Try.underlying25
 have hu55 := Try.underlying55
 have HR0_1 := Aside0.mk hr0_1
 have HC0_1 := Aside0.mk hc0_1
 clear hr0_1 hc0_1
 have HR0_2 := Aside0.mk hr0_2
 have HC0_2 := Aside0.mk hc0_2
 clear hr0_2 hc0_2
 have HR1_1 := Aside0.mk hr1_1
 have HC1_1 := Aside0.mk hc1_1
 clear hr1_1 hc1_1
 have HR1_2 := Aside0.mk hr1_2
 have HC1_2 := Aside0.mk hc1_2
 clear hr1_2 hc1_2
 have HB := Aside0.mk (Below.refl w.heap.size w)
 have H : (if a0_0 = a1_0 then ((semblanceref01_Texts.f k l0_1 l1_1).bind fun t673 => (if t673 = true then (semblanceref26_Same.j0 k ((l0_2.length : Int) != (l1_2.length : Int)) a0_0 l0_1 l0_2 a1_0 l1_1 l1_2) else (semblanceref26_Same.j0 k true a0_0 l0_1 l0_2 a1_0 l1_1 l1_2))) else (semblanceref26_Same.j0 k true a0_0 l0_1 l0_2 a1_0 l1_1 l1_2)) = some r := h
 clear h
 have HC3 := Aside0.mk H
 clear H
 go_enter Try.func56, Try.ntmps56
 go_upto_region 1 with (first | ((with_reducible refine gate_dst (N := 2) rfl ?_); (try (refine gate_guard (by rfl) ?_; dsimp only)); refine box_event ?hg (N := 2) ?hd (cs := #[.int .i64 a0_0, .slice A0_1 l0_1.length c0_1, .slice A0_2 l0_2.length c0_2]) (t := 25) ?hr ?_; (case hd => rfl); (case hg => rfl); (case hr => first | (go_simp; done) | (go_simp; rfl)); intro gb671 hg w4 hbox hb; have n0_ := Aside0.mk (below_step (by repeat (first | (with_reducible first | exact HB.out | apply below_alloc | apply pw_below_drewN | apply below_drew1) | exact HB.out)) hb); have n1_ := Aside0.mk (hbox); have n2_ := Aside0.mk ((by rw [hg]; exact (below_size (by repeat (first | (with_reducible first | exact HB.out | apply below_alloc | apply pw_below_drewN | apply below_drew1) | exact HB.out))) : w.heap.size ≤ gb671)); have n3_ := Aside0.mk ((by rw [hg]; exact (below_size (by repeat (first | (with_reducible first | exact HB.out | apply below_alloc | apply pw_below_drewN | apply below_drew1) | exact HB.out))) : w.heap.size ≤ gb671)); clear HB; have HB := n0_; have BK671 := n1_; have GW671 := n2_; have GE671 := n3_; clear n0_ n1_ n2_ n3_; clear hb hbox hg) | ((with_reducible refine gate_dst (N := 3) rfl ?_); (try (refine gate_guard (by rfl) ?_; dsimp only)); refine box_event ?hg (N := 3) ?hd (cs := #[.int .i64 a1_0, .slice A1_1 l1_1.length c1_1, .slice A1_2 l1_2.length c1_2]) (t := 25) ?hr ?_; (case hd => rfl); (case hg => rfl); (case hr => first | (go_simp; done) | (go_simp; rfl)); intro gb672 hg w5 hbox hb; have n0_ := Aside0.mk (blk_below (g := gb671) (o := .cells #[.int .i64 a0_0, .slice A0_1 l0_1.length c0_1, .slice A0_2 l0_2.length c0_2] 25 (0, 0)) (by (with_reducible repeat (first | refine blk_drewN ?_ _ | refine blk_drew ?_ | refine blk_alloc ?_ _)); exact BK671.out) hb); have n1_ := Aside0.mk (below_step (by repeat (first | (with_reducible first | exact HB.out | apply below_alloc | apply pw_below_drewN | apply below_drew1 | refine below_set ?_ GE671.out) | exact HB.out)) hb); have n2_ := Aside0.mk (hbox); have n3_ := Aside0.mk ((by rw [hg]; exact (below_size (by repeat (first | (with_reducible first | exact HB.out | apply below_alloc | apply pw_below_drewN | apply below_drew1 | refine below_set ?_ GE671.out) | exact HB.out))) : w.heap.size ≤ gb672)); have n4_ := Aside0.mk ((by rw [hg]; exact (below_size (by repeat (first | (with_reducible first | exact HB.out | apply below_alloc | apply pw_below_drewN | apply below_drew1 | refine below_set ?_ GE671.out) | exact HB.out))) : w.heap.size ≤ gb672)); have n5_ := Aside0.mk ((by rw [hg]; exact Nat.ne_of_lt (blk_lt (g := gb671) (o := .cells #[.int .i64 a0_0, .slice A0_1 l0_1.length c0_1, .slice A0_2 l0_2.length c0_2] 25 (0, 0)) (by (with_reducible repeat (first | refine blk_drewN ?_ _ | refine blk_drew ?_ | refine blk_alloc ?_ _)); exact BK671.out)) : gb671 ≠ gb672)); have n6_ := Aside0.mk ((by rw [hg]; exact Nat.ne_of_gt (blk_lt (g := gb671) (o := .cells #[.int .i64 a0_0, .slice A0_1 l0_1.length c0_1, .slice A0_2 l0_2.length c0_2] 25 (0, 0)) (by (with_reducible repeat (first | refine blk_drewN ?_ _ | refine blk_drew ?_ | refine blk_alloc ?_ _)); exact BK671.out)) : gb672 ≠ gb671)); clear BK671; clear HB; have BK671 := n0_; have HB := n1_; have BK672 := n2_; have GW672 := n3_; have GE672 := n4_; have NB671_672 := n5_; have NB672_671 := n6_; clear n0_ n1_ n2_ n3_ n4_ n5_ n6_; clear hb hbox hg))
 repeat (go_quiet (first | ((with_reducible refine gate_dst (N := 2) rfl ?_); (try (refine gate_guard (by rfl) ?_; dsimp only)); refine box_event ?hg (N := 2) ?hd (cs := #[.int .i64 a0_0, .slice A0_1 l0_1.length c0_1, .slice A0_2 l0_2.length c0_2]) (t := 25) ?hr ?_; (case hd => rfl); (case hg => rfl); (case hr => first | (go_simp; done) | (go_simp; rfl)); intro gb671 hg w4 hbox hb; have n0_ := Aside0.mk (below_step (by repeat (first | (with_reducible first | exact HB.out | apply below_alloc | apply pw_below_drewN | apply below_drew1) | exact HB.out)) hb); have n1_ := Aside0.mk (hbox); have n2_ := Aside0.mk ((by rw [hg]; exact (below_size (by repeat (first | (with_reducible first | exact HB.out | apply below_alloc | apply pw_below_drewN | apply below_drew1) | exact HB.out))) : w.heap.size ≤ gb671)); have n3_ := Aside0.mk ((by rw [hg]; exact (below_size (by repeat (first | (with_reducible first | exact HB.out | apply below_alloc | apply pw_below_drewN | apply below_drew1) | exact HB.out))) : w.heap.size ≤ gb671)); clear HB; have HB := n0_; have BK671 := n1_; have GW671 := n2_; have GE671 := n3_; clear n0_ n1_ n2_ n3_; clear hb hbox hg) | ((with_reducible refine gate_dst (N := 3) rfl ?_); (try (refine gate_guard (by rfl) ?_; dsimp only)); refine box_event ?hg (N := 3) ?hd (cs := #[.int .i64 a1_0, .slice A1_1 l1_1.length c1_1, .slice A1_2 l1_2.length c1_2]) (t := 25) ?hr ?_; (case hd => rfl); (case hg => rfl); (case hr => first | (go_simp; done) | (go_simp; rfl)); intro gb672 hg w5 hbox hb; have n0_ := Aside0.mk (blk_below (g := gb671) (o := .cells #[.int .i64 a0_0, .slice A0_1 l0_1.length c0_1, .slice A0_2 l0_2.length c0_2] 25 (0, 0)) (by (with_reducible repeat (first | refine blk_drewN ?_ _ | refine blk_drew ?_ | refine blk_alloc ?_ _)); exact BK671.out) hb); have n1_ := Aside0.mk (below_step (by repeat (first | (with_reducible first | exact HB.out | apply below_alloc | apply pw_below_drewN | apply below_drew1 | refine below_set ?_ GE671.out) | exact HB.out)) hb); have n2_ := Aside0.mk (hbox); have n3_ := Aside0.mk ((by rw [hg]; exact (below_size (by repeat (first | (with_reducible first | exact HB.out | apply below_alloc | apply pw_below_drewN | apply below_drew1 | refine below_set ?_ GE671.out) | exact HB.out))) : w.heap.size ≤ gb672)); have n4_ := Aside0.mk ((by rw [hg]; exact (below_size (by repeat (first | (with_reducible first | exact HB.out | apply below_alloc | apply pw_below_drewN | apply below_drew1 | refine below_set ?_ GE671.out) | exact HB.out))) : w.heap.size ≤ gb672)); have n5_ := Aside0.mk ((by rw [hg]; exact Nat.ne_of_lt (blk_lt (g := gb671) (o := .cells #[.int .i64 a0_0, .slice A0_1 l0_1.length c0_1, .slice A0_2 l0_2.length c0_2] 25 (0, 0)) (by (with_reducible repeat (first | refine blk_drewN ?_ _ | refine blk_drew ?_ | refine blk_alloc ?_ _)); exact BK671.out)) : gb671 ≠ gb672)); have n6_ := Aside0.mk ((by rw [hg]; exact Nat.ne_of_gt (blk_lt (g := gb671) (o := .cells #[.int .i64 a0_0, .slice A0_1 l0_1.length c0_1, .slice A0_2 l0_2.length c0_2] 25 (0, 0)) (by (with_reducible repeat (first | refine blk_drewN ?_ _ | refine blk_drew ?_ | refine blk_alloc ?_ _)); exact BK671.out)) : gb672 ≠ gb671)); clear BK671; clear HB; have BK671 := n0_; have HB := n1_; have BK672 := n2_; have GW672 := n3_; have GE672 := n4_; have NB671_672 := n5_; have NB672_671 := n6_; clear n0_ n1_ n2_ n3_ n4_ n5_ n6_; clear hb hbox hg)); go_upto_region 1 with (first | ((with_reducible refine gate_dst (N := 2) rfl ?_); (try (refine gate_guard (by rfl) ?_; dsimp only)); refine box_event ?hg (N := 2) ?hd (cs := #[.int .i64 a0_0, .slice A0_1 l0_1.length c0_1, .slice A0_2 l0_2.length c0_2]) (t := 25) ?hr ?_; (case hd => rfl); (case hg => rfl); (case hr => first | (go_simp; done) | (go_simp; rfl)); intro gb671 hg w4 hbox hb; have n0_ := Aside0.mk (below_step (by repeat (first | (with_reducible first | exact HB.out | apply below_alloc | apply pw_below_drewN | apply below_drew1) | exact HB.out)) hb); have n1_ := Aside0.mk (hbox); have n2_ := Aside0.mk ((by rw [hg]; exact (below_size (by repeat (first | (with_reducible first | exact HB.out | apply below_alloc | apply pw_below_drewN | apply below_drew1) | exact HB.out))) : w.heap.size ≤ gb671)); have n3_ := Aside0.mk ((by rw [hg]; exact (below_size (by repeat (first | (with_reducible first | exact HB.out | apply below_alloc | apply pw_below_drewN | apply below_drew1) | exact HB.out))) : w.heap.size ≤ gb671)); clear HB; have HB := n0_; have BK671 := n1_; have GW671 := n2_; have GE671 := n3_; clear n0_ n1_ n2_ n3_; clear hb hbox hg) | ((with_reducible refine gate_dst (N := 3) rfl ?_); (try (refine gate_guard (by rfl) ?_; dsimp only)); refine box_event ?hg (N := 3) ?hd (cs := #[.int .i64 a1_0, .slice A1_1 l1_1.length c1_1, .slice A1_2 l1_2.length c1_2]) (t := 25) ?hr ?_; (case hd => rfl); (case hg => rfl); (case hr => first | (go_simp; done) | (go_simp; rfl)); intro gb672 hg w5 hbox hb; have n0_ := Aside0.mk (blk_below (g := gb671) (o := .cells #[.int .i64 a0_0, .slice A0_1 l0_1.length c0_1, .slice A0_2 l0_2.length c0_2] 25 (0, 0)) (by (with_reducible repeat (first | refine blk_drewN ?_ _ | refine blk_drew ?_ | refine blk_alloc ?_ _)); exact BK671.out) hb); have n1_ := Aside0.mk (below_step (by repeat (first | (with_reducible first | exact HB.out | apply below_alloc | apply pw_below_drewN | apply below_drew1 | refine below_set ?_ GE671.out) | exact HB.out)) hb); have n2_ := Aside0.mk (hbox); have n3_ := Aside0.mk ((by rw [hg]; exact (below_size (by repeat (first | (with_reducible first | exact HB.out | apply below_alloc | apply pw_below_drewN | apply below_drew1 | refine below_set ?_ GE671.out) | exact HB.out))) : w.heap.size ≤ gb672)); have n4_ := Aside0.mk ((by rw [hg]; exact (below_size (by repeat (first | (with_reducible first | exact HB.out | apply below_alloc | apply pw_below_drewN | apply below_drew1 | refine below_set ?_ GE671.out) | exact HB.out))) : w.heap.size ≤ gb672)); have n5_ := Aside0.mk ((by rw [hg]; exact Nat.ne_of_lt (blk_lt (g := gb671) (o := .cells #[.int .i64 a0_0, .slice A0_1 l0_1.length c0_1, .slice A0_2 l0_2.length c0_2] 25 (0, 0)) (by (with_reducible repeat (first | refine blk_drewN ?_ _ | refine blk_drew ?_ | refine blk_alloc ?_ _)); exact BK671.out)) : gb671 ≠ gb672)); have n6_ := Aside0.mk ((by rw [hg]; exact Nat.ne_of_gt (blk_lt (g := gb671) (o := .cells #[.int .i64 a0_0, .slice A0_1 l0_1.length c0_1, .slice A0_2 l0_2.length c0_2] 25 (0, 0)) (by (with_reducible repeat (first | refine blk_drewN ?_ _ | refine blk_drew ?_ | refine blk_alloc ?_ _)); exact BK671.out)) : gb672 ≠ gb671)); clear BK671; clear HB; have BK671 := n0_; have HB := n1_; have BK672 := n2_; have GW672 := n3_; have GE672 := n4_; have NB671_672 := n5_; have NB672_671 := n6_; clear n0_ n1_ n2_ n3_ n4_ n5_ n6_; clear hb hbox hg)))
 (try simp only [Act.put, List.setIfInBounds_toArray, List.set_cons_zero, List.set_cons_succ])
 go_cut [27] (fun v27 wc => ∃ (kq : Nat) (x27_2 : Bool), v27 = .bool x27_2 ∧ Aside0 (semblanceref26_Same.j0 kq x27_2 a0_0 l0_1 l0_2 a1_0 l1_1 l1_2 = some r) ∧ Aside0 (kq ≤ k) ∧ Aside0 (wc.heap[gb671]? = some (.cells #[.int .i64 a0_0, (.slice A0_1 l0_1.length c0_1), (.slice A0_2 l0_2.length c0_2)] 25 (0, 0))) ∧ Aside0 (wc.heap[gb672]? = some (.cells #[.int .i64 a1_0, (.slice A1_1 l1_1.length c1_1), (.slice A1_2 l1_2.length c1_2)] 25 (0, 0))) ∧ Aside0 (Below w.heap.size w wc))
 case first =>
  have H := HC3.out
  clear HC3
  by_cases c6 : a0_0 = a1_0
  ·rw [if_pos c6] at H
   have c6b0 : (a0_0 == a1_0) = true := beq_iff_eq.mpr c6
   have c6b1 : (a0_0 != a1_0) = false := bne_eq_false_iff_eq.mpr c6
   clear c6
   (first | rw [c6b0] | (simp only [i64_w, i32_w]; rw [c6b0]) | skip)
   replace H := Option.bind_eq_some_iff.mp H
   obtain ⟨t673, A70, H⟩ := H
   replace H : (if t673 = true then (semblanceref26_Same.j0 k ((l0_2.length : Int) != (l1_2.length : Int)) a0_0 l0_1 l0_2 a1_0 l1_1 l1_2) else (semblanceref26_Same.j0 k true a0_0 l0_1 l0_2 a1_0 l1_1 l1_2)) = some r := H
   have A7 := Aside0.mk A70
   clear A70
   by_cases c8 : t673 = true
   ·subst c8
    have H1 : (semblanceref26_Same.j0 k ((l0_2.length : Int) != (l1_2.length : Int)) a0_0 l0_1 l0_2 a1_0 l1_1 l1_2) = some r := by rw [if_pos rfl] at H; exact H
    clear H
    have H := H1
    clear H1
    have H' := Aside0.mk H
    clear H
    have hnb9 := NB671_672.out
    have hnc9 := NB672_671.out
    have hcz10_0 : w5.cell? ⟨gb671, 0, none⟩ = some (.int .i64 a0_0) := (blk_cell BK671.out 0).trans rfl
    have hcz10_1 : w5.cell? ⟨gb671, 1, none⟩ = some (.slice A0_1 l0_1.length c0_1) := (blk_cell BK671.out 1).trans rfl
    have hcz10_2 : w5.cell? ⟨gb671, 2, none⟩ = some (.slice A0_2 l0_2.length c0_2) := (blk_cell BK671.out 2).trans rfl
    have hfz10_0 := blk_frozen BK671.out 0
    have hfz10_1 := blk_frozen BK671.out 1
    have hfz10_2 := blk_frozen BK671.out 2
    have hcz11_0 : w5.cell? ⟨gb672, 0, none⟩ = some (.int .i64 a1_0) := (blk_cell BK672.out 0).trans rfl
    have hcz11_1 : w5.cell? ⟨gb672, 1, none⟩ = some (.slice A1_1 l1_1.length c1_1) := (blk_cell BK672.out 1).trans rfl
    have hcz11_2 : w5.cell? ⟨gb672, 2, none⟩ = some (.slice A1_2 l1_2.length c1_2) := (blk_cell BK672.out 2).trans rfl
    have hfz11_0 := blk_frozen BK672.out 0
    have hfz11_1 := blk_frozen BK672.out 1
    have hfz11_2 := blk_frozen BK672.out 2
    go_wp2_with (first | (go_at_call 31; (with_reducible refine (semblanceref01_Texts.calls k _ _ l0_1 _ _ l1_1 true _ ?side1 ?side2 ?side3 ?side4 A7.out).mono ?_); (case side1 => repeat (first | exact (Kd.C_below HR0_1.out HB.out) | (with_reducible refine Kd.C_alloc ?_ _) | (with_reducible refine Kd.C_drewN ?_ _) | (with_reducible refine Kd.C_drew ?_))); (case side2 => exact HC0_1.out); (case side3 => repeat (first | exact (Kd.C_below HR1_1.out HB.out) | (with_reducible refine Kd.C_alloc ?_ _) | (with_reducible refine Kd.C_drewN ?_ _) | (with_reducible refine Kd.C_drew ?_))); (case side4 => exact HC1_1.out); rintro e w' ⟨rfl, ⟨nd, rfl⟩⟩; (try first | exact ⟨rfl, _, World.drewN_drewN _ _ _⟩ | exact ⟨rfl, _, Eq.trans (World.drewN_drewN _ _ _) (congrArg (World.drewN _) (Nat.add_assoc _ _ _))⟩)))
    repeat (go_quiet (first | (go_at_call 31; (with_reducible refine (semblanceref01_Texts.calls k _ _ l0_1 _ _ l1_1 true _ ?side1 ?side2 ?side3 ?side4 A7.out).mono ?_); (case side1 => repeat (first | exact (Kd.C_below HR0_1.out HB.out) | (with_reducible refine Kd.C_alloc ?_ _) | (with_reducible refine Kd.C_drewN ?_ _) | (with_reducible refine Kd.C_drew ?_))); (case side2 => exact HC0_1.out); (case side3 => repeat (first | exact (Kd.C_below HR1_1.out HB.out) | (with_reducible refine Kd.C_alloc ?_ _) | (with_reducible refine Kd.C_drewN ?_ _) | (with_reducible refine Kd.C_drew ?_))); (case side4 => exact HC1_1.out); rintro e w' ⟨rfl, ⟨nd, rfl⟩⟩; (try first | exact ⟨rfl, _, World.drewN_drewN _ _ _⟩ | exact ⟨rfl, _, Eq.trans (World.drewN_drewN _ _ _) (congrArg (World.drewN _) (Nat.add_assoc _ _ _))⟩))); try go_wp2_with (first | (go_at_call 31; (with_reducible refine (semblanceref01_Texts.calls k _ _ l0_1 _ _ l1_1 true _ ?side1 ?side2 ?side3 ?side4 A7.out).mono ?_); (case side1 => repeat (first | exact (Kd.C_below HR0_1.out HB.out) | (with_reducible refine Kd.C_alloc ?_ _) | (with_reducible refine Kd.C_drewN ?_ _) | (with_reducible refine Kd.C_drew ?_))); (case side2 => exact HC0_1.out); (case side3 => repeat (first | exact (Kd.C_below HR1_1.out HB.out) | (with_reducible refine Kd.C_alloc ?_ _) | (with_reducible refine Kd.C_drewN ?_ _) | (with_reducible refine Kd.C_drew ?_))); (case side4 => exact HC1_1.out); rintro e w' ⟨rfl, ⟨nd, rfl⟩⟩; (try first | exact ⟨rfl, _, World.drewN_drewN _ _ _⟩ | exact ⟨rfl, _, Eq.trans (World.drewN_drewN _ _ _) (congrArg (World.drewN _) (Nat.add_assoc _ _ _))⟩))))
    go_meet
    case rel => exact ⟨_, (((l0_2.length : Int) != (l1_2.length : Int))), (by first | rfl | (simp; done) | (simp [*]; done)), H', ⟨by first | omega | exact Nat.le_refl _⟩, ⟨by (with_reducible repeat (first | refine blk_drewN ?_ _ | refine blk_drew ?_ | refine blk_alloc ?_ _)); exact BK671.out⟩, ⟨by (with_reducible repeat (first | refine blk_drewN ?_ _ | refine blk_drew ?_ | refine blk_alloc ?_ _)); exact BK672.out⟩, ⟨by repeat (first | (with_reducible first | exact HB.out | apply below_alloc | apply pw_below_drewN | apply below_drew1 | refine below_set ?_ GE671.out | refine below_set ?_ GE672.out) | exact HB.out)⟩⟩
   ·replace c8 := Bool.eq_false_iff.mpr c8
    subst c8
    have H1 : (semblanceref26_Same.j0 k true a0_0 l0_1 l0_2 a1_0 l1_1 l1_2) = some r := by rw [if_neg (show ¬ (false = true) by decide)] at H; exact H
    clear H
    have H := H1
    clear H1
    have H' := Aside0.mk H
    clear H
    have hnb12 := NB671_672.out
    have hnc12 := NB672_671.out
    have hcz13_0 : w5.cell? ⟨gb671, 0, none⟩ = some (.int .i64 a0_0) := (blk_cell BK671.out 0).trans rfl
    have hcz13_1 : w5.cell? ⟨gb671, 1, none⟩ = some (.slice A0_1 l0_1.length c0_1) := (blk_cell BK671.out 1).trans rfl
    have hcz13_2 : w5.cell? ⟨gb671, 2, none⟩ = some (.slice A0_2 l0_2.length c0_2) := (blk_cell BK671.out 2).trans rfl
    have hfz13_0 := blk_frozen BK671.out 0
    have hfz13_1 := blk_frozen BK671.out 1
    have hfz13_2 := blk_frozen BK671.out 2
    have hcz14_0 : w5.cell? ⟨gb672, 0, none⟩ = some (.int .i64 a1_0) := (blk_cell BK672.out 0).trans rfl
    have hcz14_1 : w5.cell? ⟨gb672, 1, none⟩ = some (.slice A1_1 l1_1.length c1_1) := (blk_cell BK672.out 1).trans rfl
    have hcz14_2 : w5.cell? ⟨gb672, 2, none⟩ = some (.slice A1_2 l1_2.length c1_2) := (blk_cell BK672.out 2).trans rfl
    have hfz14_0 := blk_frozen BK672.out 0
    have hfz14_1 := blk_frozen BK672.out 1
    have hfz14_2 := blk_frozen BK672.out 2
    go_wp2_with (first | (go_at_call 31; (with_reducible refine (semblanceref01_Texts.calls k _ _ l0_1 _ _ l1_1 false _ ?side1 ?side2 ?side3 ?side4 A7.out).mono ?_); (case side1 => repeat (first | exact (Kd.C_below HR0_1.out HB.out) | (with_reducible refine Kd.C_alloc ?_ _) | (with_reducible refine Kd.C_drewN ?_ _) | (with_reducible refine Kd.C_drew ?_))); (case side2 => exact HC0_1.out); (case side3 => repeat (first | exact (Kd.C_below HR1_1.out HB.out) | (with_reducible refine Kd.C_alloc ?_ _) | (with_reducible refine Kd.C_drewN ?_ _) | (with_reducible refine Kd.C_drew ?_))); (case side4 => exact HC1_1.out); rintro e w' ⟨rfl, ⟨nd, rfl⟩⟩; (try first | exact ⟨rfl, _, World.drewN_drewN _ _ _⟩ | exact ⟨rfl, _, Eq.trans (World.drewN_drewN _ _ _) (congrArg (World.drewN _) (Nat.add_assoc _ _ _))⟩)))
    repeat (go_quiet (first | (go_at_call 31; (with_reducible refine (semblanceref01_Texts.calls k _ _ l0_1 _ _ l1_1 false _ ?side1 ?side2 ?side3 ?side4 A7.out).mono ?_); (case side1 => repeat (first | exact (Kd.C_below HR0_1.out HB.out) | (with_reducible refine Kd.C_alloc ?_ _) | (with_reducible refine Kd.C_drewN ?_ _) | (with_reducible refine Kd.C_drew ?_))); (case side2 => exact HC0_1.out); (case side3 => repeat (first | exact (Kd.C_below HR1_1.out HB.out) | (with_reducible refine Kd.C_alloc ?_ _) | (with_reducible refine Kd.C_drewN ?_ _) | (with_reducible refine Kd.C_drew ?_))); (case side4 => exact HC1_1.out); rintro e w' ⟨rfl, ⟨nd, rfl⟩⟩; (try first | exact ⟨rfl, _, World.drewN_drewN _ _ _⟩ | exact ⟨rfl, _, Eq.trans (World.drewN_drewN _ _ _) (congrArg (World.drewN _) (Nat.add_assoc _ _ _))⟩))); try go_wp2_with (first | (go_at_call 31; (with_reducible refine (semblanceref01_Texts.calls k _ _ l0_1 _ _ l1_1 false _ ?side1 ?side2 ?side3 ?side4 A7.out).mono ?_); (case side1 => repeat (first | exact (Kd.C_below HR0_1.out HB.out) | (with_reducible refine Kd.C_alloc ?_ _) | (with_reducible refine Kd.C_drewN ?_ _) | (with_reducible refine Kd.C_drew ?_))); (case side2 => exact HC0_1.out); (case side3 => repeat (first | exact (Kd.C_below HR1_1.out HB.out) | (with_reducible refine Kd.C_alloc ?_ _) | (with_reducible refine Kd.C_drewN ?_ _) | (with_reducible refine Kd.C_drew ?_))); (case side4 => exact HC1_1.out); rintro e w' ⟨rfl, ⟨nd, rfl⟩⟩; (try first | exact ⟨rfl, _, World.drewN_drewN _ _ _⟩ | exact ⟨rfl, _, Eq.trans (World.drewN_drewN _ _ _) (congrArg (World.drewN _) (Nat.add_assoc _ _ _))⟩))))
    go_meet
    case rel => exact ⟨_, (true), (by first | rfl | (simp; done) | (simp [*]; done)), H', ⟨by first | omega | exact Nat.le_refl _⟩, ⟨by (with_reducible repeat (first | refine blk_drewN ?_ _ | refine blk_drew ?_ | refine blk_alloc ?_ _)); exact BK671.out⟩, ⟨by (with_reducible repeat (first | refine blk_drewN ?_ _ | refine blk_drew ?_ | refine blk_alloc ?_ _)); exact BK672.out⟩, ⟨by repeat (first | (with_reducible first | exact HB.out | apply below_alloc | apply pw_below_drewN | apply below_drew1 | refine below_set ?_ GE671.out | refine below_set ?_ GE672.out) | exact HB.out)⟩⟩
  ·rw [if_neg c6] at H
   have c6b0 : (a0_0 == a1_0) = false := beq_eq_false_iff_ne.mpr c6
   have c6b1 : (a0_0 != a1_0) = true := bne_iff_ne.mpr c6
   (first | rw [c6b0] | (simp only [i64_w, i32_w]; rw [c6b0]) | skip)
   have H' := Aside0.mk H
   clear H
   have hnb15 := NB671_672.out
   have hnc15 := NB672_671.out
   have hcz16_0 : w5.cell? ⟨gb671, 0, none⟩ = some (.int .i64 a0_0) := (blk_cell BK671.out 0).trans rfl
   have hcz16_1 : w5.cell? ⟨gb671, 1, none⟩ = some (.slice A0_1 l0_1.length c0_1) := (blk_cell BK671.out 1).trans rfl
   have hcz16_2 : w5.cell? ⟨gb671, 2, none⟩ = some (.slice A0_2 l0_2.length c0_2) := (blk_cell BK671.out 2).trans rfl
   have hfz16_0 := blk_frozen BK671.out 0
   have hfz16_1 := blk_frozen BK671.out 1
   have hfz16_2 := blk_frozen BK671.out 2
   have hcz17_0 : w5.cell? ⟨gb672, 0, none⟩ = some (.int .i64 a1_0) := (blk_cell BK672.out 0).trans rfl
   have hcz17_1 : w5.cell? ⟨gb672, 1, none⟩ = some (.slice A1_1 l1_1.length c1_1) := (blk_cell BK672.out 1).trans rfl
   have hcz17_2 : w5.cell? ⟨gb672, 2, none⟩ = some (.slice A1_2 l1_2.length c1_2) := (blk_cell BK672.out 2).trans rfl
   have hfz17_0 := blk_frozen BK672.out 0
   have hfz17_1 := blk_frozen BK672.out 1
   have hfz17_2 := blk_frozen BK672.out 2
   go_wp2
   repeat (go_quiet (fail); try go_wp2)
   go_meet
   case rel => exact ⟨_, (true), (by first | rfl | (simp; done) | (simp [*]; done)), H', ⟨by first | omega | exact Nat.le_refl _⟩, ⟨by (with_reducible repeat (first | refine blk_drewN ?_ _ | refine blk_drew ?_ | refine blk_alloc ?_ _)); exact BK671.out⟩, ⟨by (with_reducible repeat (first | refine blk_drewN ?_ _ | refine blk_drew ?_ | refine blk_alloc ?_ _)); exact BK672.out⟩, ⟨by repeat (first | (with_reducible first | exact HB.out | apply below_alloc | apply pw_below_drewN | apply below_drew1 | refine below_set ?_ GE671.out | refine below_set ?_ GE672.out) | exact HB.out)⟩⟩
 case rest =>
  clear HC3
  try clear c1
  try clear p2
  try clear c5
  try clear c6
  try clear c6b0
  try clear c6b1
  try clear c8
  try clear c9
  try clear c12
  try clear c15
  try clear hcz10_0
  try clear hcz10_1
  try clear hcz10_2
  try clear hcz11_0
  try clear hcz11_1
  try clear hcz11_2
  try clear hcz13_0
  try clear hcz13_1
  try clear hcz13_2
  try clear hcz14_0
  try clear hcz14_1
  try clear hcz14_2
  try clear hcz16_0
  try clear hcz16_1
  try clear hcz16_2
  try clear hcz17_0
  try clear hcz17_1
  try clear hcz17_2
  try clear hfz10_0
  try clear hfz10_1
  try clear hfz10_2
  try clear hfz11_0
  try clear hfz11_1
  try clear hfz11_2
  try clear hfz13_0
  try clear hfz13_1
  try clear hfz13_2
  try clear hfz14_0
  try clear hfz14_1
  try clear hfz14_2
  try clear hfz16_0
  try clear hfz16_1
  try clear hfz16_2
  try clear hfz17_0
  try clear hfz17_1
  try clear hfz17_2
  obtain ⟨kq, x27_2, rfl, HA, HJ2, BK671, BK672, HB⟩ := hcut
  cases kq with
  | zero => exact absurd HA.out (by simp [semblanceref26_Same.j0])
  | succ kj2 =>
   have H := HA.out
   clear HA
   simp only [semblanceref26_Same.j0] at H
   by_cases c18 : x27_2 = true
   ·subst c18
    have H1 : (some false) = some r := by rw [if_pos rfl] at H; exact H
    clear H
    have H := H1
    clear H1
    obtain rfl := Option.some.inj H
    go_wp2
    repeat (go_quiet (fail); try go_wp2)
    go_ret
    exact ⟨by first | rfl | (simp [errW_none, errW_some] <;> rfl) | (simp [*, errW_none, errW_some] <;> rfl), by repeat (first | (with_reducible first | exact HB.out | apply below_alloc | apply pw_below_drewN | apply below_drew1 | refine below_set ?_ GE671.out | refine below_set ?_ GE672.out) | exact HB.out)⟩
   ·replace c18 := Bool.eq_false_iff.mpr c18
    subst c18
    have H1 : (semblanceref26_Same.l0 kj2 0 a0_0 l0_1 l0_2 a1_0 l1_1 l1_2) = some r := by rw [if_neg (show ¬ (false = true) by decide)] at H; exact H
    clear H
    have H := H1
    clear H1
    have H' := Aside0.mk H
    clear H
    go_wp2
    repeat (go_quiet (fail); try go_wp2)
    go_loopg [5] kj2 (fun kq v5 w' => ∃ (x5_2 : Int), v5 = .int .i64 x5_2 ∧ Aside0 (semblanceref26_Same.l0 kq x5_2 a0_0 l0_1 l0_2 a1_0 l1_1 l1_2 = some r) ∧ Aside0 (kq ≤ kj2) ∧ Aside0 (w'.heap[gb671]? = some (.cells #[.int .i64 a0_0, (.slice A0_1 l0_1.length c0_1), (.slice A0_2 l0_2.length c0_2)] 25 (0, 0))) ∧ Aside0 (w'.heap[gb672]? = some (.cells #[.int .i64 a1_0, (.slice A1_1 l1_1.length c1_1), (.slice A1_2 l1_2.length c1_2)] 25 (0, 0))) ∧ Aside0 (Below w.heap.size w w'))
    case atStart => exact ⟨(0), (by first | rfl | (simp; done) | (simp [*]; done)), H', ⟨Nat.le_refl _⟩, ⟨by (with_reducible repeat (first | refine blk_drewN ?_ _ | refine blk_drew ?_ | refine blk_alloc ?_ _)); exact BK671.out⟩, ⟨by (with_reducible repeat (first | refine blk_drewN ?_ _ | refine blk_drew ?_ | refine blk_alloc ?_ _)); exact BK672.out⟩, ⟨by repeat (first | (with_reducible first | exact HB.out | apply below_alloc | apply pw_below_drewN | apply below_drew1 | refine below_set ?_ GE671.out | refine below_set ?_ GE672.out) | exact HB.out)⟩⟩
    case round =>
     clear H'
     try clear c1
     try clear p2
     try clear c5
     try clear c6
     try clear c6b0
     try clear c6b1
     try clear c8
     try clear c9
     try clear c12
     try clear c15
     try clear c18
     try clear hcz10_0
     try clear hcz10_1
     try clear hcz10_2
     try clear hcz11_0
     try clear hcz11_1
     try clear hcz11_2
     try clear hcz13_0
     try clear hcz13_1
     try clear hcz13_2
     try clear hcz14_0
     try clear hcz14_1
     try clear hcz14_2
     try clear hcz16_0
     try clear hcz16_1
     try clear hcz16_2
     try clear hcz17_0
     try clear hcz17_1
     try clear hcz17_2
     try clear hfz10_0
     try clear hfz10_1
     try clear hfz10_2
     try clear hfz11_0
     try clear hfz11_1
     try clear hfz11_2
     try clear hfz13_0
     try clear hfz13_1
     try clear hfz13_2
     try clear hfz14_0
     try clear hfz14_1
     try clear hfz14_2
     try clear hfz16_0
     try clear hfz16_1
     try clear hfz16_2
     try clear hfz17_0
     try clear hfz17_1
     try clear hfz17_2
     try clear p2
     obtain ⟨x5_2, rfl, HA, HK2, BK671, BK672, HB⟩ := hrel
     cases gk with
     | zero => exact absurd HA.out (by simp [semblanceref26_Same.l0])
     | succ k2 =>
      have H := HA.out
      clear HA
      simp only [semblanceref26_Same.l0] at H
      by_cases c19 : x5_2 < (l0_2.length : Int)
      ·rw [if_pos c19] at H
       have c19b0 : decide (x5_2 < (l0_2.length : Int)) = true := decide_eq_true c19
       clear c19
       by_cases c20 : 0 ≤ x5_2
       ·rw [if_pos c20] at H
        have c20b0 : decide (0 ≤ x5_2) = true := decide_eq_true c20
        clear c20
        by_cases c21 : x5_2 < (l1_2.length : Int)
        ·rw [if_pos c21] at H
         have c21b0 : decide (x5_2 < (l1_2.length : Int)) = true := decide_eq_true c21
         clear c21
         by_cases c22 : (!(((rd_T55 l0_2 x5_2).f0) == ((rd_T55 l1_2 x5_2).f0)) || (!(((rd_T55 l0_2 x5_2).f1) == ((rd_T55 l1_2 x5_2).f1)) || (!(((rd_T55 l0_2 x5_2).f2) == ((rd_T55 l1_2 x5_2).f2))))) = true
         ·rw [if_pos c22] at H
          have c22b0 : (!(((rd_T55 l0_2 x5_2).f0) == ((rd_T55 l1_2 x5_2).f0)) || (!(((rd_T55 l0_2 x5_2).f1) == ((rd_T55 l1_2 x5_2).f1)) || (!(((rd_T55 l0_2 x5_2).f2) == ((rd_T55 l1_2 x5_2).f2))))) = true := c22
          clear c22
          obtain rfl := Option.some.inj H
          have hnb23 := NB671_672.out
          have hnc23 := NB672_671.out
          have hcz24_0 : wr.cell? ⟨gb671, 0, none⟩ = some (.int .i64 a0_0) := (blk_cell BK671.out 0).trans rfl
          have hcz24_1 : wr.cell? ⟨gb671, 1, none⟩ = some (.slice A0_1 l0_1.length c0_1) := (blk_cell BK671.out 1).trans rfl
          have hcz24_2 : wr.cell? ⟨gb671, 2, none⟩ = some (.slice A0_2 l0_2.length c0_2) := (blk_cell BK671.out 2).trans rfl
          have hfz24_0 := blk_frozen BK671.out 0
          have hfz24_1 := blk_frozen BK671.out 1
          have hfz24_2 := blk_frozen BK671.out 2
          have p674 : 0 ≤ (x5_2 : Int) := of_decide_eq_true (by first | (with_reducible assumption) | assumption)
          have q674 : x5_2 < (l0_2.length : Int) := of_decide_eq_true (by first | (with_reducible assumption) | assumption)
          obtain ⟨ad674, e674, hx674_0, hx674_1, hx674_2⟩ := at_T55 HR0_2.out x5_2 p674 q674
          cases e674
          replace hx674_0 := (HB.out.cell (World.block_lt_of_cell? w _ hx674_0)).trans hx674_0
          replace hx674_1 := (HB.out.cell (World.block_lt_of_cell? w _ hx674_1)).trans hx674_1
          replace hx674_2 := (HB.out.cell (World.block_lt_of_cell? w _ hx674_2)).trans hx674_2
          replace p674 := eq_true p674
          replace q674 := eq_true q674
          have hcz25_0 : wr.cell? ⟨gb672, 0, none⟩ = some (.int .i64 a1_0) := (blk_cell BK672.out 0).trans rfl
          have hcz25_1 : wr.cell? ⟨gb672, 1, none⟩ = some (.slice A1_1 l1_1.length c1_1) := (blk_cell BK672.out 1).trans rfl
          have hcz25_2 : wr.cell? ⟨gb672, 2, none⟩ = some (.slice A1_2 l1_2.length c1_2) := (blk_cell BK672.out 2).trans rfl
          have hfz25_0 := blk_frozen BK672.out 0
          have hfz25_1 := blk_frozen BK672.out 1
          have hfz25_2 := blk_frozen BK672.out 2
          have p675 : 0 ≤ (x5_2 : Int) := of_decide_eq_true (by first | (with_reducible assumption) | assumption)
          have q675 : x5_2 < (l1_2.length : Int) := of_decide_eq_true (by first | (with_reducible assumption) | assumption)
          obtain ⟨ad675, e675, hx675_0, hx675_1, hx675_2⟩ := at_T55 HR1_2.out x5_2 p675 q675
          cases e675
          replace hx675_0 := (HB.out.cell (World.block_lt_of_cell? w _ hx675_0)).trans hx675_0
          replace hx675_1 := (HB.out.cell (World.block_lt_of_cell? w _ hx675_1)).trans hx675_1
          replace hx675_2 := (HB.out.cell (World.block_lt_of_cell? w _ hx675_2)).trans hx675_2
          replace p675 := eq_true p675
          replace q675 := eq_true q675
          go_wp2
          repeat (go_quiet (fail); try go_wp2)
          go_ret
          exact ⟨by first | rfl | (simp [errW_none, errW_some] <;> rfl) | (simp [*, errW_none, errW_some] <;> rfl), by repeat (first | (with_reducible first | exact HB.out | apply below_alloc | apply pw_below_drewN | apply below_drew1 | refine below_set ?_ GE671.out | refine below_set ?_ GE672.out) | exact HB.out)⟩
         ·rw [if_neg c22] at H
          have c22b0 : (!(((rd_T55 l0_2 x5_2).f0) == ((rd_T55 l1_2 x5_2).f0)) || (!(((rd_T55 l0_2 x5_2).f1) == ((rd_T55 l1_2 x5_2).f1)) || (!(((rd_T55 l0_2 x5_2).f2) == ((rd_T55 l1_2 x5_2).f2))))) = false := by simpa using c22
          clear c22
          have H' := Aside0.mk H
          clear H
          have hnb26 := NB671_672.out
          have hnc26 := NB672_671.out
          have hcz27_0 : wr.cell? ⟨gb671, 0, none⟩ = some (.int .i64 a0_0) := (blk_cell BK671.out 0).trans rfl
          have hcz27_1 : wr.cell? ⟨gb671, 1, none⟩ = some (.slice A0_1 l0_1.length c0_1) := (blk_cell BK671.out 1).trans rfl
          have hcz27_2 : wr.cell? ⟨gb671, 2, none⟩ = some (.slice A0_2 l0_2.length c0_2) := (blk_cell BK671.out 2).trans rfl
          have hfz27_0 := blk_frozen BK671.out 0
          have hfz27_1 := blk_frozen BK671.out 1
          have hfz27_2 := blk_frozen BK671.out 2
          have p674 : 0 ≤ (x5_2 : Int) := of_decide_eq_true (by first | (with_reducible assumption) | assumption)
          have q674 : x5_2 < (l0_2.length : Int) := of_decide_eq_true (by first | (with_reducible assumption) | assumption)
          obtain ⟨ad674, e674, hx674_0, hx674_1, hx674_2⟩ := at_T55 HR0_2.out x5_2 p674 q674
          cases e674
          replace hx674_0 := (HB.out.cell (World.block_lt_of_cell? w _ hx674_0)).trans hx674_0
          replace hx674_1 := (HB.out.cell (World.block_lt_of_cell? w _ hx674_1)).trans hx674_1
          replace hx674_2 := (HB.out.cell (World.block_lt_of_cell? w _ hx674_2)).trans hx674_2
          replace p674 := eq_true p674
          replace q674 := eq_true q674
          have hcz28_0 : wr.cell? ⟨gb672, 0, none⟩ = some (.int .i64 a1_0) := (blk_cell BK672.out 0).trans rfl
          have hcz28_1 : wr.cell? ⟨gb672, 1, none⟩ = some (.slice A1_1 l1_1.length c1_1) := (blk_cell BK672.out 1).trans rfl
          have hcz28_2 : wr.cell? ⟨gb672, 2, none⟩ = some (.slice A1_2 l1_2.length c1_2) := (blk_cell BK672.out 2).trans rfl
          have hfz28_0 := blk_frozen BK672.out 0
          have hfz28_1 := blk_frozen BK672.out 1
          have hfz28_2 := blk_frozen BK672.out 2
          have p675 : 0 ≤ (x5_2 : Int) := of_decide_eq_true (by first | (with_reducible assumption) | assumption)
          have q675 : x5_2 < (l1_2.length : Int) := of_decide_eq_true (by first | (with_reducible assumption) | assumption)
          obtain ⟨ad675, e675, hx675_0, hx675_1, hx675_2⟩ := at_T55 HR1_2.out x5_2 p675 q675
          cases e675
          replace hx675_0 := (HB.out.cell (World.block_lt_of_cell? w _ hx675_0)).trans hx675_0
          replace hx675_1 := (HB.out.cell (World.block_lt_of_cell? w _ hx675_1)).trans hx675_1
          replace hx675_2 := (HB.out.cell (World.block_lt_of_cell? w _ hx675_2)).trans hx675_2
          replace p675 := eq_true p675
          replace q675 := eq_true q675
          go_wp2
          repeat (go_quiet (fail); try go_wp2)
          go_roundg k2
          case measure => have := HJ2.out; have := HK2.out; omega
          case rel => exact ⟨(wrap64 (x5_2 + 1)), (by first | rfl | (simp; done) | (simp [*]; done)), H', ⟨by have := HJ2.out; have := HK2.out; omega⟩, ⟨by (with_reducible repeat (first | refine blk_drewN ?_ _ | refine blk_drew ?_ | refine blk_alloc ?_ _)); exact BK671.out⟩, ⟨by (with_reducible repeat (first | refine blk_drewN ?_ _ | refine blk_drew ?_ | refine blk_alloc ?_ _)); exact BK672.out⟩, ⟨by repeat (first | (with_reducible first | exact HB.out | apply below_alloc | apply pw_below_drewN | apply below_drew1 | refine below_set ?_ GE671.out | refine below_set ?_ GE672.out) | exact HB.out)⟩⟩
        ·rw [if_neg c21] at H
         exact absurd H (by simp)
       ·rw [if_neg c20] at H
        exact absurd H (by simp)
      ·rw [if_neg c19] at H
       have c19b0 : decide (x5_2 < (l0_2.length : Int)) = false := decide_eq_false c19
       clear c19
       obtain rfl := Option.some.inj H
       have hnb29 := NB671_672.out
       have hnc29 := NB672_671.out
       have hcz30_0 : wr.cell? ⟨gb671, 0, none⟩ = some (.int .i64 a0_0) := (blk_cell BK671.out 0).trans rfl
       have hcz30_1 : wr.cell? ⟨gb671, 1, none⟩ = some (.slice A0_1 l0_1.length c0_1) := (blk_cell BK671.out 1).trans rfl
       have hcz30_2 : wr.cell? ⟨gb671, 2, none⟩ = some (.slice A0_2 l0_2.length c0_2) := (blk_cell BK671.out 2).trans rfl
       have hfz30_0 := blk_frozen BK671.out 0
       have hfz30_1 := blk_frozen BK671.out 1
       have hfz30_2 := blk_frozen BK671.out 2
       go_wp2
       repeat (go_quiet (fail); try go_wp2)
       go_ret
       exact ⟨by first | rfl | (simp [errW_none, errW_some] <;> rfl) | (simp [*, errW_none, errW_some] <;> rfl), by repeat (first | (with_reducible first | exact HB.out | apply below_alloc | apply pw_below_drewN | apply below_drew1 | refine below_set ?_ GE671.out | refine below_set ?_ GE672.out) | exact HB.out)⟩
end Go.Proofs.Ytcjbghmhdefdiaa.S
namespace Go.Proofs.Ytcjbghmhdefdiaa.S
open Go.RowKit Go.Proofs.YtcjbghmhdefdiaaW.PrintWords Go.Proofs.YtcjbghmhdefdiaaW.PrintLast Go.Proofs.YtcjbghmhdefdiaaW.PrintMore
attribute [local go_sem] max2_int min2_int max_two min_two max_three min_three max_four min_four   -- for this text's walks alone
set_option linter.unusedVariables false
set_option linter.unusedSimpArgs false
def slices_Index_string_string.l0 : Nat → List ByteArray → ByteArray → Int → Int → Option (Int)
 | 0, _, _, _, _ => none
 | k + 1, x0, x1, x7, x8 => if x8 < x7 then (if 0 ≤ x8 then (if x8 < (x0.length : Int) then (if x1.toList = (rdOf ByteArray.empty x0 x8).toList then (some x8) else (slices_Index_string_string.l0 k x0 x1 x7 (wrap64 (x8 + 1)))) else (none)) else (none)) else (some (-1))
def slices_Index_string_string.f (k : Nat) (l0 : List ByteArray) (a1 : ByteArray) : Option (Int) := slices_Index_string_string.l0 k l0 a1 (l0.length : Int) 0
theorem slices_Index_string_string.mono_l : ∀ k, (∀ y0 y1 y2 y3, LeO (slices_Index_string_string.l0 k y0 y1 y2 y3) (slices_Index_string_string.l0 (k + 1) y0 y1 y2 y3))
 | 0 => fun _ _ _ _ r h => by simp [slices_Index_string_string.l0] at h
 | k + 1 => by
  have ih0 := slices_Index_string_string.mono_l k
  ·intro y0 y1 y2 y3
   unfold slices_Index_string_string.l0
   repeat' first
   | (with_reducible exact ih0 _ _ _ _)
   | (with_reducible exact LeO.refl _)
   | (with_reducible exact LeO.none _)
   | (with_reducible refine LeO.ite ?_ ?_)
   | (with_reducible refine LeO.bind ?_ (fun _ => ?_))
   | exact ih0 _ _ _ _
   | exact LeO.none _
   | refine LeO.ite ?_ ?_
   | refine LeO.bind ?_ (fun _ => ?_)
theorem slices_Index_string_string.mono : ∀ a0 a1 k, LeO (slices_Index_string_string.f k a0 a1) (slices_Index_string_string.f (k + 1) a0 a1) := by
 intro a0 a1 k
 have ih0 := slices_Index_string_string.mono_l k
 unfold slices_Index_string_string.f
 repeat' first
   | (with_reducible exact ih0 _ _ _ _)
   | (with_reducible exact LeO.refl _)
   | (with_reducible exact LeO.none _)
   | (with_reducible refine LeO.ite ?_ ?_)
   | (with_reducible refine LeO.bind ?_ (fun _ => ?_))
   | exact ih0 _ _ _ _
   | exact LeO.none _
   | refine LeO.ite ?_ ?_
   | refine LeO.bind ?_ (fun _ => ?_)
set_option maxHeartbeats 8000000 in
set_option maxRecDepth 100000 in
theorem slices_Index_string_string.calls (k : Nat) (A0 : Option Addr) (c0 : Nat) (l0 : List ByteArray) (a1 : ByteArray) (r : Int) (w : World) (hr0 : Kd.C Kd.string w A0 l0.length l0) (hc0 : l0.length ≤ c0) (h : slices_Index_string_string.f k l0 a1 = some r) :
  Calls Try.prog 147 #[.slice A0 l0.length c0, .string a1] w fun e w' => e = .returned (.int .i64 r) ∧ Drawn0 w w' := by
 have HR0 := Aside0.mk hr0
 have HC0 := Aside0.mk hc0
 clear hr0 hc0
 have H : (slices_Index_string_string.l0 k l0 a1 (l0.length : Int) 0) = some r := h
 clear h
 have H' := Aside0.mk H
 clear H
 go_enter Try.func147, Try.ntmps147
 go_wp2
 go_loopg [8] k (fun kq v8 w' => ∃ (x8_1 : Int), v8 = .int .i64 x8_1 ∧ Aside0 (slices_Index_string_string.l0 kq l0 a1 (l0.length : Int) x8_1 = some r) ∧ Aside0 (kq ≤ k) ∧ Drawn0 w w')
 case atStart => exact ⟨(0), (by first | rfl | (simp; done) | (simp [*]; done)), H', ⟨Nat.le_refl _⟩, by repeat (first | exact Drawn0.refl _ | apply Drawn0.step)⟩
 case round =>
  clear H'
  try clear c1
  try clear p2
  obtain ⟨x8_1, rfl, HA, HK1, ⟨m1, rfl⟩⟩ := hrel
  cases gk with
  | zero => exact absurd HA.out (by simp [slices_Index_string_string.l0])
  | succ k1 =>
   have H := HA.out
   clear HA
   simp only [slices_Index_string_string.l0] at H
   by_cases c3 : x8_1 < (l0.length : Int)
   ·rw [if_pos c3] at H
    have c3b0 : decide (x8_1 < (l0.length : Int)) = true := decide_eq_true c3
    clear c3
    by_cases c4 : 0 ≤ x8_1
    ·rw [if_pos c4] at H
     have c4b0 : decide (0 ≤ x8_1) = true := decide_eq_true c4
     clear c4
     by_cases c5 : x8_1 < (l0.length : Int)
     ·rw [if_pos c5] at H
      have c5b0 : decide (x8_1 < (l0.length : Int)) = true := decide_eq_true c5
      clear c5
      by_cases c6 : a1.toList = (rdOf ByteArray.empty l0 x8_1).toList
      ·rw [if_pos c6] at H
       have c6b0 : (a1.toList == (rdOf ByteArray.empty l0 x8_1).toList) = true := beq_iff_eq.mpr c6
       have c6b1 : (a1.toList != (rdOf ByteArray.empty l0 x8_1).toList) = false := bne_eq_false_iff_eq.mpr c6
       clear c6
       obtain rfl := Option.some.inj H
       have p424 : 0 ≤ (x8_1 : Int) := of_decide_eq_true (by first | (with_reducible assumption) | assumption)
       have q424 : x8_1 < (l0.length : Int) := of_decide_eq_true (by first | (with_reducible assumption) | assumption)
       obtain ⟨ad424, e424, hx424_0⟩ := Kd.at_string HR0.out x8_1 p424 q424
       cases e424
       replace p424 := eq_true p424
       replace q424 := eq_true q424
       go_wp2
       go_ret
       exact ⟨by first | rfl | (simp; done) | (simp [*]; done), by repeat (first | exact Drawn0.refl _ | apply Drawn0.step)⟩
      ·rw [if_neg c6] at H
       have c6b0 : (a1.toList == (rdOf ByteArray.empty l0 x8_1).toList) = false := beq_eq_false_iff_ne.mpr c6
       have c6b1 : (a1.toList != (rdOf ByteArray.empty l0 x8_1).toList) = true := bne_iff_ne.mpr c6
       have H' := Aside0.mk H
       clear H
       have p424 : 0 ≤ (x8_1 : Int) := of_decide_eq_true (by first | (with_reducible assumption) | assumption)
       have q424 : x8_1 < (l0.length : Int) := of_decide_eq_true (by first | (with_reducible assumption) | assumption)
       obtain ⟨ad424, e424, hx424_0⟩ := Kd.at_string HR0.out x8_1 p424 q424
       cases e424
       replace p424 := eq_true p424
       replace q424 := eq_true q424
       go_wp2
       go_roundg k1
       case measure => have := HK1.out; omega
       case rel => exact ⟨(wrap64 (x8_1 + 1)), (by first | rfl | (simp; done) | (simp [*]; done)), H', ⟨by have := HK1.out; omega⟩, by repeat (first | exact Drawn0.refl _ | apply Drawn0.step)⟩
     ·rw [if_neg c5] at H
      exact absurd H (by simp)
    ·rw [if_neg c4] at H
     exact absurd H (by simp)
   ·rw [if_neg c3] at H
    have c3b0 : decide (x8_1 < (l0.length : Int)) = false := decide_eq_false c3
    clear c3
    obtain rfl := Option.some.inj H
    go_wp2
    go_ret
    exact ⟨by first | rfl | (simp; done) | (simp [*]; done), by repeat (first | exact Drawn0.refl _ | apply Drawn0.step)⟩
end Go.Proofs.Ytcjbghmhdefdiaa.S
namespace Go.Proofs.Ytcjbghmhdefdiaa.S
open Go.RowKit Go.Proofs.YtcjbghmhdefdiaaW.PrintWords Go.Proofs.YtcjbghmhdefdiaaW.PrintLast Go.Proofs.YtcjbghmhdefdiaaW.PrintMore
attribute [local go_sem] max2_int min2_int max_two min_two max_three min_three max_four min_four   -- for this text's walks alone
set_option linter.unusedVariables false
set_option linter.unusedSimpArgs false
def names_Place.f (k : Nat) (l0 : List ByteArray) (a1 : ByteArray) : Option (Int) := (slices_Index_string_string.f k l0 a1).bind fun t425 => (some t425)
theorem names_Place.mono : ∀ a0 a1 k, LeO (names_Place.f k a0 a1) (names_Place.f (k + 1) a0 a1) := by
 intro a0 a1 k
 unfold names_Place.f
 repeat' first
   | (with_reducible exact slices_Index_string_string.mono _ _ _)
   | (with_reducible exact LeO.refl _)
   | (with_reducible exact LeO.none _)
   | (with_reducible refine LeO.ite ?_ ?_)
   | (with_reducible refine LeO.bind ?_ (fun _ => ?_))
   | exact slices_Index_string_string.mono _ _ _
   | exact LeO.none _
   | refine LeO.ite ?_ ?_
   | refine LeO.bind ?_ (fun _ => ?_)
set_option maxHeartbeats 8000000 in
set_option maxRecDepth 100000 in
theorem names_Place.calls (k : Nat) (A0 : Option Addr) (c0 : Nat) (l0 : List ByteArray) (a1 : ByteArray) (r : Int) (w : World) (hr0 : Kd.C Kd.string w A0 l0.length l0) (hc0 : l0.length ≤ c0) (h : names_Place.f k l0 a1 = some r) :
  Calls Try.prog 100 #[.slice A0 l0.length c0, .string a1] w fun e w' => e = .returned (.int .i64 r) ∧ Drawn0 w w' := by
 have HR0 := Aside0.mk hr0
 have HC0 := Aside0.mk hc0
 clear hr0 hc0
 have H : ((slices_Index_string_string.f k l0 a1).bind fun t425 => (some t425)) = some r := h
 clear h
 replace H := Option.bind_eq_some_iff.mp H
 obtain ⟨t425, A30, H⟩ := H
 replace H : (some t425) = some r := H
 have A3 := Aside0.mk A30
 clear A30
 obtain rfl := Option.some.inj H
 go_enter Try.func100, Try.ntmps100
 go_wp2_with (first | ((with_reducible refine gate_callee (f := 147) rfl ?_); refine goesL_ (some 7) rfl rfl Try.func147 (by kernel_rfl) rfl #[.slice A0 l0.length c0, .string a1] rfl (by (try simp only [List.map_toArray, List.map_cons, List.map_nil]); first | done | rfl | (simp only [List.length_drop, List.length_take]; rfl)) ?_; (with_reducible refine (slices_Index_string_string.calls k _ _ l0 a1 t425 _ ?side1 ?side2 A3.out).mono ?_); (case side1 => repeat (first | exact HR0.out | (with_reducible refine Kd.C_alloc ?_ _) | (with_reducible refine Kd.C_drewN ?_ _) | (with_reducible refine Kd.C_drew ?_))); (case side2 => exact HC0.out); rintro e w' ⟨rfl, ⟨nd, rfl⟩⟩; refine ⟨_, rfl, ?_⟩))
 go_ret
 exact ⟨by first | rfl | (simp; done) | (simp [*]; done), by repeat (first | exact Drawn0.refl _ | apply Drawn0.step)⟩
end Go.Proofs.Ytcjbghmhdefdiaa.S
namespace Go.Proofs.Ytcjbghmhdefdiaa.S
open Go.RowKit Go.Proofs.YtcjbghmhdefdiaaW.PrintWords Go.Proofs.YtcjbghmhdefdiaaW.PrintLast Go.Proofs.YtcjbghmhdefdiaaW.PrintMore
attribute [local go_sem] max2_int min2_int max_two min_two max_three min_three max_four min_four   -- for this text's walks alone
set_option linter.unusedVariables false
set_option linter.unusedSimpArgs false
def product_by.l0 : Nat → Int → List (S55) → List (S55) → Int → Int → Option ((List (S55)) × Bool)
 | 0, _, _, _, _, _ => none
 | k + 1, x6, x7, x15, x16, x17 => if x17 < x16 then (if 0 ≤ x17 then (if x17 < (x15.length : Int) then (if ((rd_T55 x15 x17).f1) = x6 then (if x7.length < 5864062014805 then (product_by.l0 k x6 (x7 ++ [(⟨(rd_T55 x15 x17).f0, (rd_T55 x15 x17).f1, (rd_T55 x15 x17).f2⟩ : S55)]) x15 x16 (wrap64 (x17 + 1))) else (none)) else (product_by.l0 k x6 x7 x15 x16 (wrap64 (x17 + 1)))) else (none)) else (none)) else (some (x7, decide (x6 ≥ 0)))
def product_by.f (k : Nat) (a0_0 : Int) (l0_1 : List ByteArray) (l0_2 : List (S55)) (a1 : ByteArray) : Option ((List (S55)) × Bool) := (names_Place.f k l0_1 a1).bind fun t816 => (product_by.l0 k t816 ([] : List (S55)) l0_2 (l0_2.length : Int) 0)
theorem product_by.mono_l : ∀ k, (∀ y0 y1 y2 y3 y4, LeO (product_by.l0 k y0 y1 y2 y3 y4) (product_by.l0 (k + 1) y0 y1 y2 y3 y4))
 | 0 => fun _ _ _ _ _ r h => by simp [product_by.l0] at h
 | k + 1 => by
  have ih0 := product_by.mono_l k
  ·intro y0 y1 y2 y3 y4
   unfold product_by.l0
   repeat' first
   | (with_reducible exact ih0 _ _ _ _ _)
   | (with_reducible exact names_Place.mono _ _ _)
   | (with_reducible exact LeO.refl _)
   | (with_reducible exact LeO.none _)
   | (with_reducible refine LeO.ite ?_ ?_)
   | (with_reducible refine LeO.bind ?_ (fun _ => ?_))
   | exact ih0 _ _ _ _ _
   | exact names_Place.mono _ _ _
   | exact LeO.none _
   | refine LeO.ite ?_ ?_
   | refine LeO.bind ?_ (fun _ => ?_)
theorem product_by.mono : ∀ a0 a1 a2 a3 k, LeO (product_by.f k a0 a1 a2 a3) (product_by.f (k + 1) a0 a1 a2 a3) := by
 intro a0 a1 a2 a3 k
 have ih0 := product_by.mono_l k
 unfold product_by.f
 repeat' first
   | (with_reducible exact ih0 _ _ _ _ _)
   | (with_reducible exact names_Place.mono _ _ _)
   | (with_reducible exact LeO.refl _)
   | (with_reducible exact LeO.none _)
   | (with_reducible refine LeO.ite ?_ ?_)
   | (with_reducible refine LeO.bind ?_ (fun _ => ?_))
   | exact ih0 _ _ _ _ _
   | exact names_Place.mono _ _ _
   | exact LeO.none _
   | refine LeO.ite ?_ ?_
   | refine LeO.bind ?_ (fun _ => ?_)
set_option maxHeartbeats 8000000 in
set_option maxRecDepth 100000 in
theorem product_by.calls (k : Nat) (a0_0 : Int) (A0_1 : Option Addr) (c0_1 : Nat) (l0_1 : List ByteArray) (A0_2 : Option Addr) (c0_2 : Nat) (l0_2 : List (S55)) (a1 : ByteArray) (r1 : List (S55)) (r2 : Bool) (w : World) (hr0_1 : Kd.C Kd.string w A0_1 l0_1.length l0_1) (hc0_1 : l0_1.length ≤ c0_1) (hr0_2 : Kd.C k55 w A0_2 l0_2.length l0_2) (hc0_2 : l0_2.length ≤ c0_2) (h : product_by.f k a0_0 l0_1 l0_2 a1 = some (r1, r2)) :
  Calls Try.prog 158 #[.agg #[.int .i64 a0_0, .slice A0_1 l0_1.length c0_1, .slice A0_2 l0_2.length c0_2], .string a1] w fun e w' => ∃ v0_ : Value, e = .returned (.tuple #[v0_, .bool r2]) ∧ Kd.R k55 55 w' w.heap.size (fun _ => True) v0_ r1 ∧ Below w.heap.size w w' := by
 have hu25 := Try.underlying25
 have hu55 := Try.underlying55
 have HR0_1 := Aside0.mk hr0_1
 have HC0_1 := Aside0.mk hc0_1
 clear hr0_1 hc0_1
 have HR0_2 := Aside0.mk hr0_2
 have HC0_2 := Aside0.mk hc0_2
 clear hr0_2 hc0_2
 have HB := Aside0.mk (Below.refl w.heap.size w)
 have H : ((names_Place.f k l0_1 a1).bind fun t816 => (product_by.l0 k t816 ([] : List (S55)) l0_2 (l0_2.length : Int) 0)) = some (r1, r2) := h
 clear h
 replace H := Option.bind_eq_some_iff.mp H
 obtain ⟨t816, A30, H⟩ := H
 replace H : (product_by.l0 k t816 ([] : List (S55)) l0_2 (l0_2.length : Int) 0) = some (r1, r2) := H
 have A3 := Aside0.mk A30
 clear A30
 have H' := Aside0.mk H
 clear H
 go_enter Try.func158, Try.ntmps158
 go_wp2_with (first | ((with_reducible refine gate_dst (N := 2) rfl ?_); refine box_event ?hg (N := 2) ?hd (cs := #[.int .i64 a0_0, .slice A0_1 l0_1.length c0_1, .slice A0_2 l0_2.length c0_2]) (t := 25) ?hr ?_; (case hd => rfl); (case hg => rfl); (case hr => first | (go_simp; done) | (go_simp; rfl)); intro gb815 hg w4 hbox hb; have n0_ := Aside0.mk (below_step (by repeat (first | (with_reducible first | exact HB.out | apply below_alloc | apply pw_below_drewN | apply below_drew1) | exact HB.out)) hb); have n1_ := Aside0.mk (hbox); have n2_ := Aside0.mk ((by rw [hg]; exact (below_size (by repeat (first | (with_reducible first | exact HB.out | apply below_alloc | apply pw_below_drewN | apply below_drew1) | exact HB.out))) : w.heap.size ≤ gb815)); have n3_ := Aside0.mk ((by rw [hg]; exact (below_size (by repeat (first | (with_reducible first | exact HB.out | apply below_alloc | apply pw_below_drewN | apply below_drew1) | exact HB.out))) : w.heap.size ≤ gb815)); clear HB; have HB := n0_; have BK815 := n1_; have GW815 := n2_; have GE815 := n3_; clear n0_ n1_ n2_ n3_; clear hb hbox hg; have hcz5_0 : w4.cell? ⟨gb815, 0, none⟩ = some (.int .i64 a0_0) := (blk_cell BK815.out 0).trans rfl; have hcz5_1 : w4.cell? ⟨gb815, 1, none⟩ = some (.slice A0_1 l0_1.length c0_1) := (blk_cell BK815.out 1).trans rfl; have hcz5_2 : w4.cell? ⟨gb815, 2, none⟩ = some (.slice A0_2 l0_2.length c0_2) := (blk_cell BK815.out 2).trans rfl; have hfz5_0 := blk_frozen BK815.out 0; have hfz5_1 := blk_frozen BK815.out 1; have hfz5_2 := blk_frozen BK815.out 2) | ((with_reducible refine gate_callee (f := 100) rfl ?_); refine goesL_ (some 13) rfl rfl Try.func100 (by kernel_rfl) rfl #[.slice A0_1 l0_1.length c0_1, .string a1] rfl (by (try simp only [List.map_toArray, List.map_cons, List.map_nil]); first | done | rfl | (simp only [List.length_drop, List.length_take]; rfl)) ?_; (with_reducible refine (names_Place.calls k _ _ l0_1 a1 t816 _ ?side1 ?side2 A3.out).mono ?_); (case side1 => repeat (first | exact (Kd.C_below HR0_1.out HB.out) | (with_reducible refine Kd.C_alloc ?_ _) | (with_reducible refine Kd.C_drewN ?_ _) | (with_reducible refine Kd.C_drew ?_))); (case side2 => exact HC0_1.out); rintro e w' ⟨rfl, ⟨nd, rfl⟩⟩; refine ⟨_, rfl, ?_⟩))
 go_loopg [7, 17] k (fun kq v7 v17 w' => ∃ (x7_1 : List (S55)) (x17_1 : Int), v17 = .int .i64 x17_1 ∧ Aside0 (product_by.l0 kq t816 x7_1 l0_2 (l0_2.length : Int) x17_1 = some (r1, r2)) ∧ Aside0 (kq ≤ k) ∧ Aside0 (Kd.R k55 55 w' w.heap.size (fun _ => True) v7 x7_1) ∧ Aside0 (w'.heap[gb815]? = some (.cells #[.int .i64 a0_0, (.slice A0_1 l0_1.length c0_1), (.slice A0_2 l0_2.length c0_2)] 25 (0, 0))) ∧ Aside0 (Below w.heap.size w w'))
 case atStart => exact ⟨(([] : List (S55))), (0), (by first | rfl | (simp; done) | (simp [*]; done)), H', ⟨Nat.le_refl _⟩, ⟨by first | exact Kd.R_nil _ _ _ _ _ | exact Kd.N_nil _ _ _ _ _ | exact Kd.V_nil _ _ _ _ _ | exact Kd.Q_nil _ _ _ _ _ | exact Kd.S_nil _ _ _ _ _⟩, ⟨by (with_reducible repeat (first | refine blk_drewN ?_ _ | refine blk_drew ?_ | refine blk_alloc ?_ _)); exact BK815.out⟩, ⟨by repeat (first | (with_reducible first | exact HB.out | apply below_alloc | apply pw_below_drewN | apply below_drew1 | refine below_set ?_ GE815.out) | exact HB.out)⟩⟩
 case round =>
  clear H'
  try clear c1
  try clear p2
  try clear hcz5_0
  try clear hcz5_1
  try clear hcz5_2
  try clear hfz5_0
  try clear hfz5_1
  try clear hfz5_2
  obtain ⟨x7_1, x17_1, rfl, HA, HK1, HO_7, BK815, HB⟩ := hrel
  cases gk with
  | zero => exact absurd HA.out (by simp [product_by.l0])
  | succ k1 =>
   have H := HA.out
   clear HA
   simp only [product_by.l0] at H
   by_cases c6 : x17_1 < (l0_2.length : Int)
   ·rw [if_pos c6] at H
    have c6b0 : decide (x17_1 < (l0_2.length : Int)) = true := decide_eq_true c6
    clear c6
    by_cases c7 : 0 ≤ x17_1
    ·rw [if_pos c7] at H
     have c7b0 : decide (0 ≤ x17_1) = true := decide_eq_true c7
     clear c7
     by_cases c8 : x17_1 < (l0_2.length : Int)
     ·rw [if_pos c8] at H
      have c8b0 : decide (x17_1 < (l0_2.length : Int)) = true := decide_eq_true c8
      clear c8
      by_cases c9 : ((rd_T55 l0_2 x17_1).f1) = t816
      ·rw [if_pos c9] at H
       have c9b0 : (((rd_T55 l0_2 x17_1).f1) == t816) = true := beq_iff_eq.mpr c9
       have c9b1 : (((rd_T55 l0_2 x17_1).f1) != t816) = false := bne_eq_false_iff_eq.mpr c9
       clear c9
       by_cases c10 : x7_1.length < 5864062014805
       ·rw [if_pos c10] at H
        have LMc10 := Aside0.mk c10
        clear c10
        obtain ⟨y819, hy819⟩ : ∃ y_ : List (S55), y_ = (x7_1 ++ [(⟨(rd_T55 l0_2 x17_1).f0, (rd_T55 l0_2 x17_1).f1, (rd_T55 l0_2 x17_1).f2⟩ : S55)]) := ⟨_, rfl⟩
        replace H : (product_by.l0 k1 t816 y819 l0_2 (l0_2.length : Int) (wrap64 (x17_1 + 1))) = some (r1, r2) := by first | (rw [hy819]; with_reducible exact H) | (have H2_ := (Option.bind_some _ _).symm.trans H; rw [hy819]; with_reducible exact H2_) | (have H2_ := (Option.bind_some _ _).symm.trans H; with_reducible exact H2_) | with_reducible exact H | (rw [hy819]; exact H) | exact H
        have Ny819 := Aside0.mk hy819
        clear hy819
        have H' := Aside0.mk H
        clear H
        have p817 : 0 ≤ (x17_1 : Int) := of_decide_eq_true (by first | (with_reducible assumption) | assumption)
        have q817 : x17_1 < (l0_2.length : Int) := of_decide_eq_true (by first | (with_reducible assumption) | assumption)
        obtain ⟨ad817, e817, hx817_0, hx817_1, hx817_2⟩ := at_T55 HR0_2.out x17_1 p817 q817
        cases e817
        replace hx817_0 := (HB.out.cell (World.block_lt_of_cell? w _ hx817_0)).trans hx817_0
        replace hx817_1 := (HB.out.cell (World.block_lt_of_cell? w _ hx817_1)).trans hx817_1
        replace hx817_2 := (HB.out.cell (World.block_lt_of_cell? w _ hx817_2)).trans hx817_2
        replace p817 := eq_true p817
        replace q817 := eq_true q817
        go_wp2_with (first | ((with_reducible refine gate_dst (N := 9) rfl ?_); refine box_event ?hg (N := 9) ?hd (cs := #[.int .i64 0, .int .i64 0, .int .i64 0]) (t := 55) ?hr ?_; (case hd => rfl); (case hg => rfl); (case hr => first | (go_simp; done) | (go_simp; rfl)); intro gb818 hg w11 hbox hb; have n0_ := Aside0.mk (Kd.R_below (Kd.R_elderB (by (with_reducible repeat (first | apply Kd.R_alloc | apply Kd.R_drewN | apply Kd.R_drew)); exact HO_7.out) gb818 (Nat.le_of_eq hg.symm)) hb); have n1_ := Aside0.mk (blk_below (g := gb815) (o := .cells #[.int .i64 a0_0, .slice A0_1 l0_1.length c0_1, .slice (some ad817) l0_2.length c0_2] 25 (0, 0)) (by (with_reducible repeat (first | refine blk_drewN ?_ _ | refine blk_drew ?_ | refine blk_alloc ?_ _)); exact BK815.out) hb); have n2_ := Aside0.mk (below_step (by repeat (first | (with_reducible first | exact HB.out | apply below_alloc | apply pw_below_drewN | apply below_drew1 | refine below_set ?_ GE815.out) | exact HB.out)) hb); have n3_ := Aside0.mk (hbox); have n4_ := Aside0.mk ((by rw [hg]; exact (below_size (by repeat (first | (with_reducible first | exact HB.out | apply below_alloc | apply pw_below_drewN | apply below_drew1 | refine below_set ?_ GE815.out) | exact HB.out))) : w.heap.size ≤ gb818)); have n5_ := Aside0.mk ((by rw [hg]; exact (below_size (by repeat (first | (with_reducible first | exact HB.out | apply below_alloc | apply pw_below_drewN | apply below_drew1 | refine below_set ?_ GE815.out) | exact HB.out))) : w.heap.size ≤ gb818)); have n6_ := Aside0.mk ((by rw [hg]; exact Nat.ne_of_lt (blk_lt (g := gb815) (o := .cells #[.int .i64 a0_0, .slice A0_1 l0_1.length c0_1, .slice (some ad817) l0_2.length c0_2] 25 (0, 0)) (by (with_reducible repeat (first | refine blk_drewN ?_ _ | refine blk_drew ?_ | refine blk_alloc ?_ _)); exact BK815.out)) : gb815 ≠ gb818)); have n7_ := Aside0.mk ((by rw [hg]; exact Nat.ne_of_gt (blk_lt (g := gb815) (o := .cells #[.int .i64 a0_0, .slice A0_1 l0_1.length c0_1, .slice (some ad817) l0_2.length c0_2] 25 (0, 0)) (by (with_reducible repeat (first | refine blk_drewN ?_ _ | refine blk_drew ?_ | refine blk_alloc ?_ _)); exact BK815.out)) : gb818 ≠ gb815)); clear HO_7; clear BK815; clear HB; have HO_7 := n0_; have BK815 := n1_; have HB := n2_; have BK818 := n3_; have GW818 := n4_; have GE818 := n5_; have NB815_818 := n6_; have NB818_815 := n7_; clear n0_ n1_ n2_ n3_ n4_ n5_ n6_ n7_; clear hb hbox hg; have hnb12 := NB818_815.out; have hnc12 := NB815_818.out; have hcz13_0 : w11.cell? ⟨gb818, 0, none⟩ = some (.int .i64 0) := (blk_cell BK818.out 0).trans rfl; have hcz13_1 : w11.cell? ⟨gb818, 1, none⟩ = some (.int .i64 0) := (blk_cell BK818.out 1).trans rfl; have hcz13_2 : w11.cell? ⟨gb818, 2, none⟩ = some (.int .i64 0) := (blk_cell BK818.out 2).trans rfl; have hfz13_0 := blk_frozen BK818.out 0; have hfz13_1 := blk_frozen BK818.out 1; have hfz13_2 := blk_frozen BK818.out 2) | ((with_reducible refine gate_builtin (b := .append) (xs := #[.tmp 25, .tmp 27]) rfl ?_); at_builtin; refine Kd.R_append k55 (w0 := w) w.heap.size rfl (.tmp 25) (.tmp 27) 23 55 (.agg #[(.int .i64 0), (.int .i64 0), (.int .i64 0)]) 24 rfl Try.underlying23 info55 rfl (by decide) (by omega) u7 x7_1 (⟨(rd_T55 l0_2 x17_1).f0, (rd_T55 l0_2 x17_1).f1, (rd_T55 l0_2 x17_1).f2⟩ : S55) [.int .i64 ((rd_T55 l0_2 x17_1).f0), .int .i64 ((rd_T55 l0_2 x17_1).f1), .int .i64 ((rd_T55 l0_2 x17_1).f2)] (fun k_ => k_ ≠ gb818) (fun _ => False) rfl (by first | (go_simp; done) | (go_simp; rfl)) ?aP (fun _ hk => hk.elim) ?aF ?aO ?aB ?aS ?aL ?_; (case aP => exact k55_mkM _ _ _ (⟨(rd_T55 l0_2 x17_1).f0, (rd_T55 l0_2 x17_1).f1, (rd_T55 l0_2 x17_1).f2⟩ : S55)); (case aB => exact (by repeat (first | (with_reducible first | exact HB.out | apply below_alloc | apply pw_below_drewN | apply below_drew1 | refine below_set ?_ GE815.out | refine below_set ?_ GE818.out) | exact HB.out))); (case aF => exact (fun k_ hk => Kd.freshB (g := gb818) (o := .cells #[.int .i64 ((rd_T55 l0_2 x17_1).f0), .int .i64 ((rd_T55 l0_2 x17_1).f1), .int .i64 ((rd_T55 l0_2 x17_1).f2)] 55 (0, 0)) (by (with_reducible repeat (first | refine blk_drewN ?_ _ | refine blk_drew ?_ | refine blk_alloc ?_ _)); refine blk_put (cs := #[.int .i64 ((rd_T55 l0_2 x17_1).f0), .int .i64 ((rd_T55 l0_2 x17_1).f1), .int .i64 0]) ?_ 2 _ rfl; (with_reducible repeat (first | refine blk_drewN ?_ _ | refine blk_drew ?_ | refine blk_alloc ?_ _)); refine blk_put (cs := #[.int .i64 ((rd_T55 l0_2 x17_1).f0), .int .i64 0, .int .i64 0]) ?_ 1 _ rfl; (with_reducible repeat (first | refine blk_drewN ?_ _ | refine blk_drew ?_ | refine blk_alloc ?_ _)); refine blk_put (cs := #[.int .i64 0, .int .i64 0, .int .i64 0]) ?_ 0 _ rfl; (with_reducible repeat (first | refine blk_drewN ?_ _ | refine blk_drew ?_ | refine blk_alloc ?_ _)); exact BK818.out) k_ hk)); (case aO => exact (by (with_reducible repeat (first | apply Kd.R_alloc | apply Kd.R_drewN | apply Kd.R_drew)); exact Kd.R_mono (Kd.R_far (p := ⟨gb818, 2, none⟩) (Kd.R_far (p := ⟨gb818, 1, none⟩) (Kd.R_far (p := ⟨gb818, 0, none⟩) (Kd.R_mono HO_7.out (fun k_ hk => (⟨hk, hk.2⟩ : _ ∧ k_ ≠ gb818))) (fun _ hk => hk.2) (.int .i64 ((rd_T55 l0_2 x17_1).f0))) (fun _ hk => hk.2) (.int .i64 ((rd_T55 l0_2 x17_1).f1))) (fun _ hk => hk.2) (.int .i64 ((rd_T55 l0_2 x17_1).f2))) (fun _ hk => hk.1.2))); (case aS => exact (below_size (by repeat (first | (with_reducible first | exact HB.out | apply below_alloc | apply pw_below_drewN | apply below_drew1 | refine below_set ?_ GE815.out | refine below_set ?_ GE818.out) | exact HB.out)))); (case aL => have := LMc10.out; omega); intro v820 w14 ho hb hg hat; rw [← Ny819.out] at ho; have n0_ := Aside0.mk (blk_grown (g := gb815) (o := .cells #[.int .i64 a0_0, .slice A0_1 l0_1.length c0_1, .slice (some ad817) l0_2.length c0_2] 25 (0, 0)) (by (with_reducible repeat (first | refine blk_drewN ?_ _ | refine blk_drew ?_ | refine blk_alloc ?_ _)); refine blk_far ?_ NB815_818.out _; (with_reducible repeat (first | refine blk_drewN ?_ _ | refine blk_drew ?_ | refine blk_alloc ?_ _)); refine blk_far ?_ NB815_818.out _; (with_reducible repeat (first | refine blk_drewN ?_ _ | refine blk_drew ?_ | refine blk_alloc ?_ _)); refine blk_far ?_ NB815_818.out _; (with_reducible repeat (first | refine blk_drewN ?_ _ | refine blk_drew ?_ | refine blk_alloc ?_ _)); exact BK815.out) hg (Kd.R_ne HO_7.out BK815.out (by decide))); have n1_ := Aside0.mk (blk_grown (g := gb818) (o := .cells #[.int .i64 ((rd_T55 l0_2 x17_1).f0), .int .i64 ((rd_T55 l0_2 x17_1).f1), .int .i64 ((rd_T55 l0_2 x17_1).f2)] 55 (0, 0)) (by (with_reducible repeat (first | refine blk_drewN ?_ _ | refine blk_drew ?_ | refine blk_alloc ?_ _)); refine blk_put (cs := #[.int .i64 ((rd_T55 l0_2 x17_1).f0), .int .i64 ((rd_T55 l0_2 x17_1).f1), .int .i64 0]) ?_ 2 _ rfl; (with_reducible repeat (first | refine blk_drewN ?_ _ | refine blk_drew ?_ | refine blk_alloc ?_ _)); refine blk_put (cs := #[.int .i64 ((rd_T55 l0_2 x17_1).f0), .int .i64 0, .int .i64 0]) ?_ 1 _ rfl; (with_reducible repeat (first | refine blk_drewN ?_ _ | refine blk_drew ?_ | refine blk_alloc ?_ _)); refine blk_put (cs := #[.int .i64 0, .int .i64 0, .int .i64 0]) ?_ 0 _ rfl; (with_reducible repeat (first | refine blk_drewN ?_ _ | refine blk_drew ?_ | refine blk_alloc ?_ _)); exact BK818.out) hg (Kd.R_away HO_7.out (fun _ hk => hk.2))); have n2_ := Aside0.mk (hb); have n3_ := Aside0.mk (ho); clear BK815; clear BK818; clear HB; clear HO_7; have BK815 := n0_; have BK818 := n1_; have HB := n2_; have HO821 := n3_; clear n0_ n1_ n2_ n3_; clear ho hb hg hat))
        go_roundg k1
        case measure => have := HK1.out; omega
        case rel => exact ⟨(y819), (wrap64 (x17_1 + 1)), (by first | rfl | (simp; done) | (simp [*]; done)), H', ⟨by have := HK1.out; omega⟩, ⟨by (with_reducible repeat (first | apply Kd.R_alloc | apply Kd.R_drewN | apply Kd.R_drew)); exact Kd.R_mono HO821.out (fun _ hk => trivial)⟩, ⟨by (with_reducible repeat (first | refine blk_drewN ?_ _ | refine blk_drew ?_ | refine blk_alloc ?_ _)); exact BK815.out⟩, ⟨by repeat (first | (with_reducible first | exact HB.out | apply below_alloc | apply pw_below_drewN | apply below_drew1 | refine below_set ?_ GE815.out | refine below_set ?_ GE818.out) | exact HB.out)⟩⟩
       ·rw [if_neg c10] at H
        exact absurd H (by simp)
      ·rw [if_neg c9] at H
       have c9b0 : (((rd_T55 l0_2 x17_1).f1) == t816) = false := beq_eq_false_iff_ne.mpr c9
       have c9b1 : (((rd_T55 l0_2 x17_1).f1) != t816) = true := bne_iff_ne.mpr c9
       have H' := Aside0.mk H
       clear H
       have p817 : 0 ≤ (x17_1 : Int) := of_decide_eq_true (by first | (with_reducible assumption) | assumption)
       have q817 : x17_1 < (l0_2.length : Int) := of_decide_eq_true (by first | (with_reducible assumption) | assumption)
       obtain ⟨ad817, e817, hx817_0, hx817_1, hx817_2⟩ := at_T55 HR0_2.out x17_1 p817 q817
       cases e817
       replace hx817_0 := (HB.out.cell (World.block_lt_of_cell? w _ hx817_0)).trans hx817_0
       replace hx817_1 := (HB.out.cell (World.block_lt_of_cell? w _ hx817_1)).trans hx817_1
       replace hx817_2 := (HB.out.cell (World.block_lt_of_cell? w _ hx817_2)).trans hx817_2
       replace p817 := eq_true p817
       replace q817 := eq_true q817
       go_wp2_with (first | ((with_reducible refine gate_dst (N := 9) rfl ?_); refine box_event ?hg (N := 9) ?hd (cs := #[.int .i64 0, .int .i64 0, .int .i64 0]) (t := 55) ?hr ?_; (case hd => rfl); (case hg => rfl); (case hr => first | (go_simp; done) | (go_simp; rfl)); intro gb818 hg w15 hbox hb; have n0_ := Aside0.mk (Kd.R_below (Kd.R_elderB (by (with_reducible repeat (first | apply Kd.R_alloc | apply Kd.R_drewN | apply Kd.R_drew)); exact HO_7.out) gb818 (Nat.le_of_eq hg.symm)) hb); have n1_ := Aside0.mk (blk_below (g := gb815) (o := .cells #[.int .i64 a0_0, .slice A0_1 l0_1.length c0_1, .slice (some ad817) l0_2.length c0_2] 25 (0, 0)) (by (with_reducible repeat (first | refine blk_drewN ?_ _ | refine blk_drew ?_ | refine blk_alloc ?_ _)); exact BK815.out) hb); have n2_ := Aside0.mk (below_step (by repeat (first | (with_reducible first | exact HB.out | apply below_alloc | apply pw_below_drewN | apply below_drew1 | refine below_set ?_ GE815.out) | exact HB.out)) hb); have n3_ := Aside0.mk (hbox); have n4_ := Aside0.mk ((by rw [hg]; exact (below_size (by repeat (first | (with_reducible first | exact HB.out | apply below_alloc | apply pw_below_drewN | apply below_drew1 | refine below_set ?_ GE815.out) | exact HB.out))) : w.heap.size ≤ gb818)); have n5_ := Aside0.mk ((by rw [hg]; exact (below_size (by repeat (first | (with_reducible first | exact HB.out | apply below_alloc | apply pw_below_drewN | apply below_drew1 | refine below_set ?_ GE815.out) | exact HB.out))) : w.heap.size ≤ gb818)); have n6_ := Aside0.mk ((by rw [hg]; exact Nat.ne_of_lt (blk_lt (g := gb815) (o := .cells #[.int .i64 a0_0, .slice A0_1 l0_1.length c0_1, .slice (some ad817) l0_2.length c0_2] 25 (0, 0)) (by (with_reducible repeat (first | refine blk_drewN ?_ _ | refine blk_drew ?_ | refine blk_alloc ?_ _)); exact BK815.out)) : gb815 ≠ gb818)); have n7_ := Aside0.mk ((by rw [hg]; exact Nat.ne_of_gt (blk_lt (g := gb815) (o := .cells #[.int .i64 a0_0, .slice A0_1 l0_1.length c0_1, .slice (some ad817) l0_2.length c0_2] 25 (0, 0)) (by (with_reducible repeat (first | refine blk_drewN ?_ _ | refine blk_drew ?_ | refine blk_alloc ?_ _)); exact BK815.out)) : gb818 ≠ gb815)); clear HO_7; clear BK815; clear HB; have HO_7 := n0_; have BK815 := n1_; have HB := n2_; have BK818 := n3_; have GW818 := n4_; have GE818 := n5_; have NB815_818 := n6_; have NB818_815 := n7_; clear n0_ n1_ n2_ n3_ n4_ n5_ n6_ n7_; clear hb hbox hg; have hnb16 := NB818_815.out; have hnc16 := NB815_818.out; have hcz17_0 : w15.cell? ⟨gb818, 0, none⟩ = some (.int .i64 0) := (blk_cell BK818.out 0).trans rfl; have hcz17_1 : w15.cell? ⟨gb818, 1, none⟩ = some (.int .i64 0) := (blk_cell BK818.out 1).trans rfl; have hcz17_2 : w15.cell? ⟨gb818, 2, none⟩ = some (.int .i64 0) := (blk_cell BK818.out 2).trans rfl; have hfz17_0 := blk_frozen BK818.out 0; have hfz17_1 := blk_frozen BK818.out 1; have hfz17_2 := blk_frozen BK818.out 2))
       go_roundg k1
       case measure => have := HK1.out; omega
       case rel => exact ⟨(x7_1), (wrap64 (x17_1 + 1)), (by first | rfl | (simp; done) | (simp [*]; done)), H', ⟨by have := HK1.out; omega⟩, ⟨by (with_reducible repeat (first | apply Kd.R_alloc | apply Kd.R_drewN | apply Kd.R_drew)); exact Kd.R_mono (Kd.R_far (p := ⟨gb818, 2, none⟩) (Kd.R_far (p := ⟨gb818, 1, none⟩) (Kd.R_far (p := ⟨gb818, 0, none⟩) (Kd.R_mono HO_7.out (fun k_ hk => (⟨hk, hk.2⟩ : _ ∧ k_ ≠ gb818))) (fun _ hk => hk.2) (.int .i64 ((rd_T55 l0_2 x17_1).f0))) (fun _ hk => hk.2) (.int .i64 ((rd_T55 l0_2 x17_1).f1))) (fun _ hk => hk.2) (.int .i64 ((rd_T55 l0_2 x17_1).f2))) (fun _ hk => trivial)⟩, ⟨by (with_reducible repeat (first | refine blk_drewN ?_ _ | refine blk_drew ?_ | refine blk_alloc ?_ _)); refine blk_far ?_ NB815_818.out _; (with_reducible repeat (first | refine blk_drewN ?_ _ | refine blk_drew ?_ | refine blk_alloc ?_ _)); refine blk_far ?_ NB815_818.out _; (with_reducible repeat (first | refine blk_drewN ?_ _ | refine blk_drew ?_ | refine blk_alloc ?_ _)); refine blk_far ?_ NB815_818.out _; (with_reducible repeat (first | refine blk_drewN ?_ _ | refine blk_drew ?_ | refine blk_alloc ?_ _)); exact BK815.out⟩, ⟨by repeat (first | (with_reducible first | exact HB.out | apply below_alloc | apply pw_below_drewN | apply below_drew1 | refine below_set ?_ GE815.out | refine below_set ?_ GE818.out) | exact HB.out)⟩⟩
     ·rw [if_neg c8] at H
      exact absurd H (by simp)
    ·rw [if_neg c7] at H
     exact absurd H (by simp)
   ·rw [if_neg c6] at H
    have c6b0 : decide (x17_1 < (l0_2.length : Int)) = false := decide_eq_false c6
    clear c6
    simp only [Option.some.injEq, Prod.mk.injEq] at H
    obtain ⟨rfl, rfl⟩ := H
    go_wp2
    go_ret2
    exact ⟨_, by first | rfl | (simp [errW_none, errW_some] <;> rfl) | (simp [*, errW_none, errW_some] <;> rfl), by (with_reducible repeat (first | apply Kd.R_alloc | apply Kd.R_drewN | apply Kd.R_drew)); exact HO_7.out, by repeat (first | (with_reducible first | exact HB.out | apply below_alloc | apply pw_below_drewN | apply below_drew1 | refine below_set ?_ GE815.out) | exact HB.out)⟩
end Go.Proofs.Ytcjbghmhdefdiaa.S
namespace Go.Proofs.Ytcjbghmhdefdiaa.S
open Go.RowKit Go.Proofs.YtcjbghmhdefdiaaW.PrintWords Go.Proofs.YtcjbghmhdefdiaaW.PrintLast Go.Proofs.YtcjbghmhdefdiaaW.PrintMore
attribute [local go_sem] max2_int min2_int max_two min_two max_three min_three max_four min_four   -- for this text's walks alone
set_option linter.unusedVariables false
set_option linter.unusedSimpArgs false
def product_still.l0 : Nat → List (S55) → Int → Int → Option ((List (S55)))
 | 0, _, _, _ => none
 | k + 1, x3, x5, x6 => if x6 < x5 then (if x3.length < 5864062014805 then (product_still.l0 k (x3 ++ [(⟨x6, 0, x6⟩ : S55)]) x5 (wrap64 (x6 + 1))) else (none)) else (some x3)
def product_still.f (k : Nat) (a0 : Int) : Option ((List (S55))) := product_still.l0 k ([] : List (S55)) a0 0
theorem product_still.mono_l : ∀ k, (∀ y0 y1 y2, LeO (product_still.l0 k y0 y1 y2) (product_still.l0 (k + 1) y0 y1 y2))
 | 0 => fun _ _ _ r h => by simp [product_still.l0] at h
 | k + 1 => by
  have ih0 := product_still.mono_l k
  ·intro y0 y1 y2
   unfold product_still.l0
   repeat' first
   | (with_reducible exact ih0 _ _ _)
   | (with_reducible exact LeO.refl _)
   | (with_reducible exact LeO.none _)
   | (with_reducible refine LeO.ite ?_ ?_)
   | (with_reducible refine LeO.bind ?_ (fun _ => ?_))
   | exact ih0 _ _ _
   | exact LeO.none _
   | refine LeO.ite ?_ ?_
   | refine LeO.bind ?_ (fun _ => ?_)
theorem product_still.mono : ∀ a0 k, LeO (product_still.f k a0) (product_still.f (k + 1) a0) := by
 intro a0 k
 have ih0 := product_still.mono_l k
 unfold product_still.f
 repeat' first
   | (with_reducible exact ih0 _ _ _)
   | (with_reducible exact LeO.refl _)
   | (with_reducible exact LeO.none _)
   | (with_reducible refine LeO.ite ?_ ?_)
   | (with_reducible refine LeO.bind ?_ (fun _ => ?_))
   | exact ih0 _ _ _
   | exact LeO.none _
   | refine LeO.ite ?_ ?_
   | refine LeO.bind ?_ (fun _ => ?_)
set_option maxHeartbeats 8000000 in
set_option maxRecDepth 100000 in
theorem product_still.calls (k : Nat) (a0 : Int) (r : List (S55)) (w : World) (h : product_still.f k a0 = some r) :
  Calls Try.prog 159 #[.int .i64 a0] w fun e w' => ∃ v0_ : Value, e = .returned (v0_) ∧ Kd.R k55 55 w' w.heap.size (fun _ => True) v0_ r ∧ Below w.heap.size w w' := by
 have hu55 := Try.underlying55
 have HB := Aside0.mk (Below.refl w.heap.size w)
 have H : (product_still.l0 k ([] : List (S55)) a0 0) = some r := h
 clear h
 have H' := Aside0.mk H
 clear H
 go_enter Try.func159, Try.ntmps159
 go_wp2
 go_loopg [3, 6] k (fun kq v3 v6 w' => ∃ (x3_1 : List (S55)) (x6_1 : Int), v6 = .int .i64 x6_1 ∧ Aside0 (product_still.l0 kq x3_1 a0 x6_1 = some r) ∧ Aside0 (kq ≤ k) ∧ Aside0 (Kd.R k55 55 w' w.heap.size (fun _ => True) v3 x3_1) ∧ Aside0 (Below w.heap.size w w'))
 case atStart => exact ⟨(([] : List (S55))), (0), (by first | rfl | (simp; done) | (simp [*]; done)), H', ⟨Nat.le_refl _⟩, ⟨by first | exact Kd.R_nil _ _ _ _ _ | exact Kd.N_nil _ _ _ _ _ | exact Kd.V_nil _ _ _ _ _ | exact Kd.Q_nil _ _ _ _ _ | exact Kd.S_nil _ _ _ _ _⟩, ⟨by repeat (first | (with_reducible first | exact HB.out | apply below_alloc | apply pw_below_drewN | apply below_drew1) | exact HB.out)⟩⟩
 case round =>
  clear H'
  try clear c1
  obtain ⟨x3_1, x6_1, rfl, HA, HK1, HO_3, HB⟩ := hrel
  cases gk with
  | zero => exact absurd HA.out (by simp [product_still.l0])
  | succ k1 =>
   have H := HA.out
   clear HA
   simp only [product_still.l0] at H
   by_cases c2 : x6_1 < a0
   ·rw [if_pos c2] at H
    have c2b0 : decide (x6_1 < a0) = true := decide_eq_true c2
    clear c2
    by_cases c3 : x3_1.length < 5864062014805
    ·rw [if_pos c3] at H
     have LMc3 := Aside0.mk c3
     clear c3
     obtain ⟨y822, hy822⟩ : ∃ y_ : List (S55), y_ = (x3_1 ++ [(⟨x6_1, 0, x6_1⟩ : S55)]) := ⟨_, rfl⟩
     replace H : (product_still.l0 k1 y822 a0 (wrap64 (x6_1 + 1))) = some r := by first | (rw [hy822]; with_reducible exact H) | (have H2_ := (Option.bind_some _ _).symm.trans H; rw [hy822]; with_reducible exact H2_) | (have H2_ := (Option.bind_some _ _).symm.trans H; with_reducible exact H2_) | with_reducible exact H | (rw [hy822]; exact H) | exact H
     have Ny822 := Aside0.mk hy822
     clear hy822
     have H' := Aside0.mk H
     clear H
     go_wp2_with (first | ((with_reducible refine gate_builtin (b := .append) (xs := #[.tmp 9, .tmp 13]) rfl ?_); at_builtin; refine Kd.R_append k55 (w0 := w) w.heap.size rfl (.tmp 9) (.tmp 13) 23 55 (.agg #[(.int .i64 0), (.int .i64 0), (.int .i64 0)]) 24 rfl Try.underlying23 info55 rfl (by decide) (by omega) u3 x3_1 (⟨x6_1, 0, x6_1⟩ : S55) [.int .i64 x6_1, .int .i64 0, .int .i64 x6_1] (fun _ => True) (fun _ => False) rfl rfl ?aP (fun _ hk => hk.elim) ?aF ?aO ?aB ?aS ?aL ?_; (case aP => exact k55_mkM _ _ _ (⟨x6_1, 0, x6_1⟩ : S55)); (case aB => exact (by repeat (first | (with_reducible first | exact HB.out | apply below_alloc | apply pw_below_drewN | apply below_drew1) | exact HB.out))); (case aF => exact (fun _ _ => trivial)); (case aO => exact (by (with_reducible repeat (first | apply Kd.R_alloc | apply Kd.R_drewN | apply Kd.R_drew)); exact HO_3.out)); (case aS => exact (below_size (by repeat (first | (with_reducible first | exact HB.out | apply below_alloc | apply pw_below_drewN | apply below_drew1) | exact HB.out)))); (case aL => have := LMc3.out; omega); intro v823 w4 ho hb hg hat; rw [← Ny822.out] at ho; have n0_ := Aside0.mk (hb); have n1_ := Aside0.mk (ho); clear HB; clear HO_3; have HB := n0_; have HO824 := n1_; clear n0_ n1_; clear ho hb hg hat))
     go_roundg k1
     case measure => have := HK1.out; omega
     case rel => exact ⟨(y822), (wrap64 (x6_1 + 1)), (by first | rfl | (simp; done) | (simp [*]; done)), H', ⟨by have := HK1.out; omega⟩, ⟨by (with_reducible repeat (first | apply Kd.R_alloc | apply Kd.R_drewN | apply Kd.R_drew)); exact HO824.out⟩, ⟨by repeat (first | (with_reducible first | exact HB.out | apply below_alloc | apply pw_below_drewN | apply below_drew1) | exact HB.out)⟩⟩
    ·rw [if_neg c3] at H
     exact absurd H (by simp)
   ·rw [if_neg c2] at H
    have c2b0 : decide (x6_1 < a0) = false := decide_eq_false c2
    clear c2
    obtain rfl := Option.some.inj H
    go_wp2
    go_ret
    exact ⟨_, by first | rfl | (simp [errW_none, errW_some] <;> rfl) | (simp [*, errW_none, errW_some] <;> rfl), by (with_reducible repeat (first | apply Kd.R_alloc | apply Kd.R_drewN | apply Kd.R_drew)); exact HO_3.out, by repeat (first | (with_reducible first | exact HB.out | apply below_alloc | apply pw_below_drewN | apply below_drew1) | exact HB.out)⟩
end Go.Proofs.Ytcjbghmhdefdiaa.S
namespace Go.Proofs.Ytcjbghmhdefdiaa.S
open Go.RowKit Go.Proofs.YtcjbghmhdefdiaaW.PrintWords Go.Proofs.YtcjbghmhdefdiaaW.PrintLast Go.Proofs.YtcjbghmhdefdiaaW.PrintMore
attribute [local go_sem] max2_int min2_int max_two min_two max_three min_three max_four min_four   -- for this text's walks alone
set_option linter.unusedVariables false
set_option linter.unusedSimpArgs false
def product_both.f (k : Nat) (a0_0 : Int) (l0_1 : List ByteArray) (l0_2 : List (S55)) (a1_0 : Int) (l1_1 : List ByteArray) (l1_2 : List (S55)) (a2 : ByteArray) : Option ((List (S55)) × (List (S55))) := (product_by.f k a0_0 l0_1 l0_2 a2).bind fun bt827 => ((product_by.f k a1_0 l1_1 l1_2 a2).bind fun bt831 => (if bt827.2 = true then (if bt831.2 = true then (some (bt827.1, bt831.1)) else ((product_still.f k a1_0).bind fun t835 => (some (bt827.1, t835)))) else ((product_still.f k a0_0).bind fun t838 => (if bt831.2 = true then (some (t838, bt831.1)) else ((product_still.f k a1_0).bind fun t841 => (some (t838, t841)))))))
theorem product_both.mono : ∀ a0 a1 a2 a3 a4 a5 a6 k, LeO (product_both.f k a0 a1 a2 a3 a4 a5 a6) (product_both.f (k + 1) a0 a1 a2 a3 a4 a5 a6) := by
 intro a0 a1 a2 a3 a4 a5 a6 k
 unfold product_both.f
 repeat' first
   | (with_reducible exact product_by.mono _ _ _ _ _)
   | (with_reducible exact product_still.mono _ _)
   | (with_reducible exact LeO.refl _)
   | (with_reducible exact LeO.none _)
   | (with_reducible refine LeO.ite ?_ ?_)
   | (with_reducible refine LeO.bind ?_ (fun _ => ?_))
   | exact product_by.mono _ _ _ _ _
   | exact product_still.mono _ _
   | exact LeO.none _
   | refine LeO.ite ?_ ?_
   | refine LeO.bind ?_ (fun _ => ?_)
set_option maxHeartbeats 8000000 in
set_option maxRecDepth 100000 in
theorem product_both.calls (k : Nat) (a0_0 : Int) (A0_1 : Option Addr) (c0_1 : Nat) (l0_1 : List ByteArray) (A0_2 : Option Addr) (c0_2 : Nat) (l0_2 : List (S55)) (a1_0 : Int) (A1_1 : Option Addr) (c1_1 : Nat) (l1_1 : List ByteArray) (A1_2 : Option Addr) (c1_2 : Nat) (l1_2 : List (S55)) (a2 : ByteArray) (r1 : List (S55)) (r2 : List (S55)) (w : World) (hr0_1 : Kd.C Kd.string w A0_1 l0_1.length l0_1) (hc0_1 : l0_1.length ≤ c0_1) (hr0_2 : Kd.C k55 w A0_2 l0_2.length l0_2) (hc0_2 : l0_2.length ≤ c0_2) (hr1_1 : Kd.C Kd.string w A1_1 l1_1.length l1_1) (hc1_1 : l1_1.length ≤ c1_1) (hr1_2 : Kd.C k55 w A1_2 l1_2.length l1_2) (hc1_2 : l1_2.length ≤ c1_2) (h : product_both.f k a0_0 l0_1 l0_2 a1_0 l1_1 l1_2 a2 = some (r1, r2)) :
  Calls Try.prog 122 #[.agg #[.int .i64 a0_0, .slice A0_1 l0_1.length c0_1, .slice A0_2 l0_2.length c0_2], .agg #[.int .i64 a1_0, .slice A1_1 l1_1.length c1_1, .slice A1_2 l1_2.length c1_2], .string a2] w fun e w' => ∃ v0_ v1_ : Value, e = .returned (.tuple #[v0_, v1_]) ∧ Kd.R k55 55 w' w.heap.size (fun k_ => some k_ ≠ (v1_ : Value).ownBlock) v0_ r1 ∧ Kd.R k55 55 w' w.heap.size (fun k_ => some k_ ≠ (v0_ : Value).ownBlock) v1_ r2 ∧ Below w.heap.size w w' := by
 have hu25 := Try.underlying25
 have HR0_1 := Aside0.mk hr0_1
 have HC0_1 := Aside0.mk hc0_1
 clear hr0_1 hc0_1
 have HR0_2 := Aside0.mk hr0_2
 have HC0_2 := Aside0.mk hc0_2
 clear hr0_2 hc0_2
 have HR1_1 := Aside0.mk hr1_1
 have HC1_1 := Aside0.mk hc1_1
 clear hr1_1 hc1_1
 have HR1_2 := Aside0.mk hr1_2
 have HC1_2 := Aside0.mk hc1_2
 clear hr1_2 hc1_2
 have HB := Aside0.mk (Below.refl w.heap.size w)
 have H : ((product_by.f k a0_0 l0_1 l0_2 a2).bind fun bt827 => ((product_by.f k a1_0 l1_1 l1_2 a2).bind fun bt831 => (if bt827.2 = true then (if bt831.2 = true then (some (bt827.1, bt831.1)) else ((product_still.f k a1_0).bind fun t835 => (some (bt827.1, t835)))) else ((product_still.f k a0_0).bind fun t838 => (if bt831.2 = true then (some (t838, bt831.1)) else ((product_still.f k a1_0).bind fun t841 => (some (t838, t841)))))))) = some (r1, r2) := h
 clear h
 replace H := Option.bind_eq_some_iff.mp H
 obtain ⟨⟨t827, t830⟩, A40, H⟩ := H
 replace H : ((product_by.f k a1_0 l1_1 l1_2 a2).bind fun bt831 => (if t830 = true then (if bt831.2 = true then (some (t827, bt831.1)) else ((product_still.f k a1_0).bind fun t835 => (some (t827, t835)))) else ((product_still.f k a0_0).bind fun t838 => (if bt831.2 = true then (some (t838, bt831.1)) else ((product_still.f k a1_0).bind fun t841 => (some (t838, t841))))))) = some (r1, r2) := H
 have A4 := Aside0.mk A40
 clear A40
 replace H := Option.bind_eq_some_iff.mp H
 obtain ⟨⟨t831, t834⟩, A50, H⟩ := H
 replace H : (if t830 = true then (if t834 = true then (some (t827, t831)) else ((product_still.f k a1_0).bind fun t835 => (some (t827, t835)))) else ((product_still.f k a0_0).bind fun t838 => (if t834 = true then (some (t838, t831)) else ((product_still.f k a1_0).bind fun t841 => (some (t838, t841)))))) = some (r1, r2) := H
 have A5 := Aside0.mk A50
 clear A50
 by_cases c6 : t830 = true
 ·subst c6
  have H1 : (if t834 = true then (some (t827, t831)) else ((product_still.f k a1_0).bind fun t835 => (some (t827, t835)))) = some (r1, r2) := by rw [if_pos rfl] at H; exact H
  clear H
  have H := H1
  clear H1
  by_cases c7 : t834 = true
  ·subst c7
   have H1 : (some (t827, t831)) = some (r1, r2) := by rw [if_pos rfl] at H; exact H
   clear H
   have H := H1
   clear H1
   simp only [Option.some.injEq, Prod.mk.injEq] at H
   obtain ⟨rfl, rfl⟩ := H
   go_enter Try.func122, Try.ntmps122
   go_wp2_with (first | ((with_reducible refine gate_dst (N := 3) rfl ?_); refine box_event ?hg (N := 3) ?hd (cs := #[.int .i64 a0_0, .slice A0_1 l0_1.length c0_1, .slice A0_2 l0_2.length c0_2]) (t := 25) ?hr ?_; (case hd => rfl); (case hg => rfl); (case hr => first | (go_simp; done) | (go_simp; rfl)); intro gb825 hg w8 hbox hb; have n0_ := Aside0.mk (below_step (by repeat (first | (with_reducible first | exact HB.out | apply below_alloc | apply pw_below_drewN | apply below_drew1) | exact HB.out)) hb); have n1_ := Aside0.mk (hbox); have n2_ := Aside0.mk ((by rw [hg]; exact (below_size (by repeat (first | (with_reducible first | exact HB.out | apply below_alloc | apply pw_below_drewN | apply below_drew1) | exact HB.out))) : w.heap.size ≤ gb825)); have n3_ := Aside0.mk ((by rw [hg]; exact (below_size (by repeat (first | (with_reducible first | exact HB.out | apply below_alloc | apply pw_below_drewN | apply below_drew1) | exact HB.out))) : w.heap.size ≤ gb825)); clear HB; have HB := n0_; have BK825 := n1_; have GW825 := n2_; have GE825 := n3_; clear n0_ n1_ n2_ n3_; clear hb hbox hg) | ((with_reducible refine gate_dst (N := 4) rfl ?_); refine box_event ?hg (N := 4) ?hd (cs := #[.int .i64 a1_0, .slice A1_1 l1_1.length c1_1, .slice A1_2 l1_2.length c1_2]) (t := 25) ?hr ?_; (case hd => rfl); (case hg => rfl); (case hr => first | (go_simp; done) | (go_simp; rfl)); intro gb826 hg w9 hbox hb; have n0_ := Aside0.mk (blk_below (g := gb825) (o := .cells #[.int .i64 a0_0, .slice A0_1 l0_1.length c0_1, .slice A0_2 l0_2.length c0_2] 25 (0, 0)) (by (with_reducible repeat (first | refine blk_drewN ?_ _ | refine blk_drew ?_ | refine blk_alloc ?_ _)); exact BK825.out) hb); have n1_ := Aside0.mk (below_step (by repeat (first | (with_reducible first | exact HB.out | apply below_alloc | apply pw_below_drewN | apply below_drew1 | refine below_set ?_ GE825.out) | exact HB.out)) hb); have n2_ := Aside0.mk (hbox); have n3_ := Aside0.mk ((by rw [hg]; exact (below_size (by repeat (first | (with_reducible first | exact HB.out | apply below_alloc | apply pw_below_drewN | apply below_drew1 | refine below_set ?_ GE825.out) | exact HB.out))) : w.heap.size ≤ gb826)); have n4_ := Aside0.mk ((by rw [hg]; exact (below_size (by repeat (first | (with_reducible first | exact HB.out | apply below_alloc | apply pw_below_drewN | apply below_drew1 | refine below_set ?_ GE825.out) | exact HB.out))) : w.heap.size ≤ gb826)); have n5_ := Aside0.mk ((by rw [hg]; exact Nat.ne_of_lt (blk_lt (g := gb825) (o := .cells #[.int .i64 a0_0, .slice A0_1 l0_1.length c0_1, .slice A0_2 l0_2.length c0_2] 25 (0, 0)) (by (with_reducible repeat (first | refine blk_drewN ?_ _ | refine blk_drew ?_ | refine blk_alloc ?_ _)); exact BK825.out)) : gb825 ≠ gb826)); have n6_ := Aside0.mk ((by rw [hg]; exact Nat.ne_of_gt (blk_lt (g := gb825) (o := .cells #[.int .i64 a0_0, .slice A0_1 l0_1.length c0_1, .slice A0_2 l0_2.length c0_2] 25 (0, 0)) (by (with_reducible repeat (first | refine blk_drewN ?_ _ | refine blk_drew ?_ | refine blk_alloc ?_ _)); exact BK825.out)) : gb826 ≠ gb825)); clear BK825; clear HB; have BK825 := n0_; have HB := n1_; have BK826 := n2_; have GW826 := n3_; have GE826 := n4_; have NB825_826 := n5_; have NB826_825 := n6_; clear n0_ n1_ n2_ n3_ n4_ n5_ n6_; clear hb hbox hg; have hnb10 := NB825_826.out; have hnc10 := NB826_825.out; have hcz11_0 : w9.cell? ⟨gb825, 0, none⟩ = some (.int .i64 a0_0) := (blk_cell BK825.out 0).trans rfl; have hcz11_1 : w9.cell? ⟨gb825, 1, none⟩ = some (.slice A0_1 l0_1.length c0_1) := (blk_cell BK825.out 1).trans rfl; have hcz11_2 : w9.cell? ⟨gb825, 2, none⟩ = some (.slice A0_2 l0_2.length c0_2) := (blk_cell BK825.out 2).trans rfl; have hfz11_0 := blk_frozen BK825.out 0; have hfz11_1 := blk_frozen BK825.out 1; have hfz11_2 := blk_frozen BK825.out 2) | ((with_reducible refine gate_callee (f := 158) rfl ?_); refine goesL_ (some 15) rfl rfl Try.func158 (by kernel_rfl) rfl #[.agg #[.int .i64 a0_0, .slice A0_1 l0_1.length c0_1, .slice A0_2 l0_2.length c0_2], .string a2] rfl (by (try simp only [List.map_toArray, List.map_cons, List.map_nil]); first | done | rfl | (simp only [List.length_drop, List.length_take]; rfl)) ?_; (with_reducible refine (product_by.calls k a0_0 _ _ l0_1 _ _ l0_2 a2 t827 true _ ?side1 ?side2 ?side3 ?side4 A4.out).mono ?_); (case side1 => repeat (first | exact (Kd.C_below HR0_1.out HB.out) | (with_reducible refine Kd.C_alloc ?_ _) | (with_reducible refine Kd.C_drewN ?_ _) | (with_reducible refine Kd.C_drew ?_))); (case side2 => exact HC0_1.out); (case side3 => repeat (first | exact (Kd.C_below HR0_2.out HB.out) | (with_reducible refine Kd.C_alloc ?_ _) | (with_reducible refine Kd.C_drewN ?_ _) | (with_reducible refine Kd.C_drew ?_))); (case side4 => exact HC0_2.out); rintro e w12 ⟨v828, rfl, ho0, hb⟩; refine ⟨_, rfl, ?_⟩; have n0_ := Aside0.mk (Kd.R_lower ho0 (below_size (by repeat (first | (with_reducible first | exact HB.out | apply below_alloc | apply pw_below_drewN | apply below_drew1 | refine below_set ?_ GE825.out | refine below_set ?_ GE826.out) | exact HB.out)))); have n1_ := Aside0.mk (blk_below (g := gb825) (o := .cells #[.int .i64 a0_0, .slice A0_1 l0_1.length c0_1, .slice A0_2 l0_2.length c0_2] 25 (0, 0)) (by (with_reducible repeat (first | refine blk_drewN ?_ _ | refine blk_drew ?_ | refine blk_alloc ?_ _)); exact BK825.out) hb); have n2_ := Aside0.mk (blk_below (g := gb826) (o := .cells #[.int .i64 a1_0, .slice A1_1 l1_1.length c1_1, .slice A1_2 l1_2.length c1_2] 25 (0, 0)) (by (with_reducible repeat (first | refine blk_drewN ?_ _ | refine blk_drew ?_ | refine blk_alloc ?_ _)); exact BK826.out) hb); have n3_ := Aside0.mk (below_step (by repeat (first | (with_reducible first | exact HB.out | apply below_alloc | apply pw_below_drewN | apply below_drew1 | refine below_set ?_ GE825.out | refine below_set ?_ GE826.out) | exact HB.out)) hb); clear BK825; clear BK826; clear HB; have HO829 := n0_; have BK825 := n1_; have BK826 := n2_; have HB := n3_; clear n0_ n1_ n2_ n3_; (try clear hb); (try clear hb2); (try clear hk); (try clear hi); (try clear ho0); have hcz13_0 : w12.cell? ⟨gb826, 0, none⟩ = some (.int .i64 a1_0) := (blk_cell BK826.out 0).trans rfl; have hcz13_1 : w12.cell? ⟨gb826, 1, none⟩ = some (.slice A1_1 l1_1.length c1_1) := (blk_cell BK826.out 1).trans rfl; have hcz13_2 : w12.cell? ⟨gb826, 2, none⟩ = some (.slice A1_2 l1_2.length c1_2) := (blk_cell BK826.out 2).trans rfl; have hfz13_0 := blk_frozen BK826.out 0; have hfz13_1 := blk_frozen BK826.out 1; have hfz13_2 := blk_frozen BK826.out 2) | ((with_reducible refine gate_callee (f := 158) rfl ?_); refine goesL_ (some 21) rfl rfl Try.func158 (by kernel_rfl) rfl #[.agg #[.int .i64 a1_0, .slice A1_1 l1_1.length c1_1, .slice A1_2 l1_2.length c1_2], .string a2] rfl (by (try simp only [List.map_toArray, List.map_cons, List.map_nil]); first | done | rfl | (simp only [List.length_drop, List.length_take]; rfl)) ?_; (with_reducible refine (product_by.calls k a1_0 _ _ l1_1 _ _ l1_2 a2 t831 true _ ?side1 ?side2 ?side3 ?side4 A5.out).mono ?_); (case side1 => repeat (first | exact (Kd.C_below HR1_1.out HB.out) | (with_reducible refine Kd.C_alloc ?_ _) | (with_reducible refine Kd.C_drewN ?_ _) | (with_reducible refine Kd.C_drew ?_))); (case side2 => exact HC1_1.out); (case side3 => repeat (first | exact (Kd.C_below HR1_2.out HB.out) | (with_reducible refine Kd.C_alloc ?_ _) | (with_reducible refine Kd.C_drewN ?_ _) | (with_reducible refine Kd.C_drew ?_))); (case side4 => exact HC1_2.out); rintro e w14 ⟨v832, rfl, ho0, hb⟩; refine ⟨_, rfl, ?_⟩; have n0_ := Aside0.mk (Kd.R_elder' (by (with_reducible repeat (first | apply Kd.R_alloc | apply Kd.R_drewN | apply Kd.R_drew)); exact HO829.out) (Kd.R_base ho0) hb); have n1_ := Aside0.mk (Kd.R_lower (Kd.R_new' ho0 (Kd.R_lt (by (with_reducible repeat (first | apply Kd.R_alloc | apply Kd.R_drewN | apply Kd.R_drew)); exact HO829.out))) (below_size (by repeat (first | (with_reducible first | exact HB.out | apply below_alloc | apply pw_below_drewN | apply below_drew1 | refine below_set ?_ GE825.out | refine below_set ?_ GE826.out) | exact HB.out)))); have n2_ := Aside0.mk (blk_below (g := gb825) (o := .cells #[.int .i64 a0_0, .slice A0_1 l0_1.length c0_1, .slice A0_2 l0_2.length c0_2] 25 (0, 0)) (by (with_reducible repeat (first | refine blk_drewN ?_ _ | refine blk_drew ?_ | refine blk_alloc ?_ _)); exact BK825.out) hb); have n3_ := Aside0.mk (blk_below (g := gb826) (o := .cells #[.int .i64 a1_0, .slice A1_1 l1_1.length c1_1, .slice A1_2 l1_2.length c1_2] 25 (0, 0)) (by (with_reducible repeat (first | refine blk_drewN ?_ _ | refine blk_drew ?_ | refine blk_alloc ?_ _)); exact BK826.out) hb); have n4_ := Aside0.mk (below_step (by repeat (first | (with_reducible first | exact HB.out | apply below_alloc | apply pw_below_drewN | apply below_drew1 | refine below_set ?_ GE825.out | refine below_set ?_ GE826.out) | exact HB.out)) hb); clear HO829; clear BK825; clear BK826; clear HB; have HO829 := n0_; have HO833 := n1_; have BK825 := n2_; have BK826 := n3_; have HB := n4_; clear n0_ n1_ n2_ n3_ n4_; (try clear hb); (try clear hb2); (try clear hk); (try clear hi); (try clear ho0)))
   go_ret2
   exact ⟨_, _, by first | rfl | (simp [errW_none, errW_some] <;> rfl) | (simp [*, errW_none, errW_some] <;> rfl), by (with_reducible repeat (first | apply Kd.R_alloc | apply Kd.R_drewN | apply Kd.R_drew)); exact Kd.R_mono HO829.out (fun _ hk => hk.2), by (with_reducible repeat (first | apply Kd.R_alloc | apply Kd.R_drewN | apply Kd.R_drew)); exact Kd.R_mono HO833.out (fun _ hk => hk.2), by repeat (first | (with_reducible first | exact HB.out | apply below_alloc | apply pw_below_drewN | apply below_drew1 | refine below_set ?_ GE825.out | refine below_set ?_ GE826.out) | exact HB.out)⟩
  ·replace c7 := Bool.eq_false_iff.mpr c7
   subst c7
   have H1 : ((product_still.f k a1_0).bind fun t835 => (some (t827, t835))) = some (r1, r2) := by rw [if_neg (show ¬ (false = true) by decide)] at H; exact H
   clear H
   have H := H1
   clear H1
   replace H := Option.bind_eq_some_iff.mp H
   obtain ⟨t835, A150, H⟩ := H
   replace H : (some (t827, t835)) = some (r1, r2) := H
   have A15 := Aside0.mk A150
   clear A150
   simp only [Option.some.injEq, Prod.mk.injEq] at H
   obtain ⟨rfl, rfl⟩ := H
   go_enter Try.func122, Try.ntmps122
   go_wp2_with (first | ((with_reducible refine gate_dst (N := 3) rfl ?_); refine box_event ?hg (N := 3) ?hd (cs := #[.int .i64 a0_0, .slice A0_1 l0_1.length c0_1, .slice A0_2 l0_2.length c0_2]) (t := 25) ?hr ?_; (case hd => rfl); (case hg => rfl); (case hr => first | (go_simp; done) | (go_simp; rfl)); intro gb825 hg w16 hbox hb; have n0_ := Aside0.mk (below_step (by repeat (first | (with_reducible first | exact HB.out | apply below_alloc | apply pw_below_drewN | apply below_drew1) | exact HB.out)) hb); have n1_ := Aside0.mk (hbox); have n2_ := Aside0.mk ((by rw [hg]; exact (below_size (by repeat (first | (with_reducible first | exact HB.out | apply below_alloc | apply pw_below_drewN | apply below_drew1) | exact HB.out))) : w.heap.size ≤ gb825)); have n3_ := Aside0.mk ((by rw [hg]; exact (below_size (by repeat (first | (with_reducible first | exact HB.out | apply below_alloc | apply pw_below_drewN | apply below_drew1) | exact HB.out))) : w.heap.size ≤ gb825)); clear HB; have HB := n0_; have BK825 := n1_; have GW825 := n2_; have GE825 := n3_; clear n0_ n1_ n2_ n3_; clear hb hbox hg) | ((with_reducible refine gate_dst (N := 4) rfl ?_); refine box_event ?hg (N := 4) ?hd (cs := #[.int .i64 a1_0, .slice A1_1 l1_1.length c1_1, .slice A1_2 l1_2.length c1_2]) (t := 25) ?hr ?_; (case hd => rfl); (case hg => rfl); (case hr => first | (go_simp; done) | (go_simp; rfl)); intro gb826 hg w17 hbox hb; have n0_ := Aside0.mk (blk_below (g := gb825) (o := .cells #[.int .i64 a0_0, .slice A0_1 l0_1.length c0_1, .slice A0_2 l0_2.length c0_2] 25 (0, 0)) (by (with_reducible repeat (first | refine blk_drewN ?_ _ | refine blk_drew ?_ | refine blk_alloc ?_ _)); exact BK825.out) hb); have n1_ := Aside0.mk (below_step (by repeat (first | (with_reducible first | exact HB.out | apply below_alloc | apply pw_below_drewN | apply below_drew1 | refine below_set ?_ GE825.out) | exact HB.out)) hb); have n2_ := Aside0.mk (hbox); have n3_ := Aside0.mk ((by rw [hg]; exact (below_size (by repeat (first | (with_reducible first | exact HB.out | apply below_alloc | apply pw_below_drewN | apply below_drew1 | refine below_set ?_ GE825.out) | exact HB.out))) : w.heap.size ≤ gb826)); have n4_ := Aside0.mk ((by rw [hg]; exact (below_size (by repeat (first | (with_reducible first | exact HB.out | apply below_alloc | apply pw_below_drewN | apply below_drew1 | refine below_set ?_ GE825.out) | exact HB.out))) : w.heap.size ≤ gb826)); have n5_ := Aside0.mk ((by rw [hg]; exact Nat.ne_of_lt (blk_lt (g := gb825) (o := .cells #[.int .i64 a0_0, .slice A0_1 l0_1.length c0_1, .slice A0_2 l0_2.length c0_2] 25 (0, 0)) (by (with_reducible repeat (first | refine blk_drewN ?_ _ | refine blk_drew ?_ | refine blk_alloc ?_ _)); exact BK825.out)) : gb825 ≠ gb826)); have n6_ := Aside0.mk ((by rw [hg]; exact Nat.ne_of_gt (blk_lt (g := gb825) (o := .cells #[.int .i64 a0_0, .slice A0_1 l0_1.length c0_1, .slice A0_2 l0_2.length c0_2] 25 (0, 0)) (by (with_reducible repeat (first | refine blk_drewN ?_ _ | refine blk_drew ?_ | refine blk_alloc ?_ _)); exact BK825.out)) : gb826 ≠ gb825)); clear BK825; clear HB; have BK825 := n0_; have HB := n1_; have BK826 := n2_; have GW826 := n3_; have GE826 := n4_; have NB825_826 := n5_; have NB826_825 := n6_; clear n0_ n1_ n2_ n3_ n4_ n5_ n6_; clear hb hbox hg; have hnb18 := NB825_826.out; have hnc18 := NB826_825.out; have hcz19_0 : w17.cell? ⟨gb825, 0, none⟩ = some (.int .i64 a0_0) := (blk_cell BK825.out 0).trans rfl; have hcz19_1 : w17.cell? ⟨gb825, 1, none⟩ = some (.slice A0_1 l0_1.length c0_1) := (blk_cell BK825.out 1).trans rfl; have hcz19_2 : w17.cell? ⟨gb825, 2, none⟩ = some (.slice A0_2 l0_2.length c0_2) := (blk_cell BK825.out 2).trans rfl; have hfz19_0 := blk_frozen BK825.out 0; have hfz19_1 := blk_frozen BK825.out 1; have hfz19_2 := blk_frozen BK825.out 2) | ((with_reducible refine gate_callee (f := 158) rfl ?_); refine goesL_ (some 15) rfl rfl Try.func158 (by kernel_rfl) rfl #[.agg #[.int .i64 a0_0, .slice A0_1 l0_1.length c0_1, .slice A0_2 l0_2.length c0_2], .string a2] rfl (by (try simp only [List.map_toArray, List.map_cons, List.map_nil]); first | done | rfl | (simp only [List.length_drop, List.length_take]; rfl)) ?_; (with_reducible refine (product_by.calls k a0_0 _ _ l0_1 _ _ l0_2 a2 t827 true _ ?side1 ?side2 ?side3 ?side4 A4.out).mono ?_); (case side1 => repeat (first | exact (Kd.C_below HR0_1.out HB.out) | (with_reducible refine Kd.C_alloc ?_ _) | (with_reducible refine Kd.C_drewN ?_ _) | (with_reducible refine Kd.C_drew ?_))); (case side2 => exact HC0_1.out); (case side3 => repeat (first | exact (Kd.C_below HR0_2.out HB.out) | (with_reducible refine Kd.C_alloc ?_ _) | (with_reducible refine Kd.C_drewN ?_ _) | (with_reducible refine Kd.C_drew ?_))); (case side4 => exact HC0_2.out); rintro e w20 ⟨v828, rfl, ho0, hb⟩; refine ⟨_, rfl, ?_⟩; have n0_ := Aside0.mk (Kd.R_lower ho0 (below_size (by repeat (first | (with_reducible first | exact HB.out | apply below_alloc | apply pw_below_drewN | apply below_drew1 | refine below_set ?_ GE825.out | refine below_set ?_ GE826.out) | exact HB.out)))); have n1_ := Aside0.mk (blk_below (g := gb825) (o := .cells #[.int .i64 a0_0, .slice A0_1 l0_1.length c0_1, .slice A0_2 l0_2.length c0_2] 25 (0, 0)) (by (with_reducible repeat (first | refine blk_drewN ?_ _ | refine blk_drew ?_ | refine blk_alloc ?_ _)); exact BK825.out) hb); have n2_ := Aside0.mk (blk_below (g := gb826) (o := .cells #[.int .i64 a1_0, .slice A1_1 l1_1.length c1_1, .slice A1_2 l1_2.length c1_2] 25 (0, 0)) (by (with_reducible repeat (first | refine blk_drewN ?_ _ | refine blk_drew ?_ | refine blk_alloc ?_ _)); exact BK826.out) hb); have n3_ := Aside0.mk (below_step (by repeat (first | (with_reducible first | exact HB.out | apply below_alloc | apply pw_below_drewN | apply below_drew1 | refine below_set ?_ GE825.out | refine below_set ?_ GE826.out) | exact HB.out)) hb); clear BK825; clear BK826; clear HB; have HO829 := n0_; have BK825 := n1_; have BK826 := n2_; have HB := n3_; clear n0_ n1_ n2_ n3_; (try clear hb); (try clear hb2); (try clear hk); (try clear hi); (try clear ho0); have hcz21_0 : w20.cell? ⟨gb826, 0, none⟩ = some (.int .i64 a1_0) := (blk_cell BK826.out 0).trans rfl; have hcz21_1 : w20.cell? ⟨gb826, 1, none⟩ = some (.slice A1_1 l1_1.length c1_1) := (blk_cell BK826.out 1).trans rfl; have hcz21_2 : w20.cell? ⟨gb826, 2, none⟩ = some (.slice A1_2 l1_2.length c1_2) := (blk_cell BK826.out 2).trans rfl; have hfz21_0 := blk_frozen BK826.out 0; have hfz21_1 := blk_frozen BK826.out 1; have hfz21_2 := blk_frozen BK826.out 2) | ((with_reducible refine gate_callee (f := 158) rfl ?_); refine goesL_ (some 21) rfl rfl Try.func158 (by kernel_rfl) rfl #[.agg #[.int .i64 a1_0, .slice A1_1 l1_1.length c1_1, .slice A1_2 l1_2.length c1_2], .string a2] rfl (by (try simp only [List.map_toArray, List.map_cons, List.map_nil]); first | done | rfl | (simp only [List.length_drop, List.length_take]; rfl)) ?_; (with_reducible refine (product_by.calls k a1_0 _ _ l1_1 _ _ l1_2 a2 t831 false _ ?side1 ?side2 ?side3 ?side4 A5.out).mono ?_); (case side1 => repeat (first | exact (Kd.C_below HR1_1.out HB.out) | (with_reducible refine Kd.C_alloc ?_ _) | (with_reducible refine Kd.C_drewN ?_ _) | (with_reducible refine Kd.C_drew ?_))); (case side2 => exact HC1_1.out); (case side3 => repeat (first | exact (Kd.C_below HR1_2.out HB.out) | (with_reducible refine Kd.C_alloc ?_ _) | (with_reducible refine Kd.C_drewN ?_ _) | (with_reducible refine Kd.C_drew ?_))); (case side4 => exact HC1_2.out); rintro e w22 ⟨v832, rfl, ho0, hb⟩; refine ⟨_, rfl, ?_⟩; have n0_ := Aside0.mk (Kd.R_elder' (by (with_reducible repeat (first | apply Kd.R_alloc | apply Kd.R_drewN | apply Kd.R_drew)); exact HO829.out) (Kd.R_base ho0) hb); have n1_ := Aside0.mk (Kd.R_lower (Kd.R_new' ho0 (Kd.R_lt (by (with_reducible repeat (first | apply Kd.R_alloc | apply Kd.R_drewN | apply Kd.R_drew)); exact HO829.out))) (below_size (by repeat (first | (with_reducible first | exact HB.out | apply below_alloc | apply pw_below_drewN | apply below_drew1 | refine below_set ?_ GE825.out | refine below_set ?_ GE826.out) | exact HB.out)))); have n2_ := Aside0.mk (blk_below (g := gb825) (o := .cells #[.int .i64 a0_0, .slice A0_1 l0_1.length c0_1, .slice A0_2 l0_2.length c0_2] 25 (0, 0)) (by (with_reducible repeat (first | refine blk_drewN ?_ _ | refine blk_drew ?_ | refine blk_alloc ?_ _)); exact BK825.out) hb); have n3_ := Aside0.mk (blk_below (g := gb826) (o := .cells #[.int .i64 a1_0, .slice A1_1 l1_1.length c1_1, .slice A1_2 l1_2.length c1_2] 25 (0, 0)) (by (with_reducible repeat (first | refine blk_drewN ?_ _ | refine blk_drew ?_ | refine blk_alloc ?_ _)); exact BK826.out) hb); have n4_ := Aside0.mk (below_step (by repeat (first | (with_reducible first | exact HB.out | apply below_alloc | apply pw_below_drewN | apply below_drew1 | refine below_set ?_ GE825.out | refine below_set ?_ GE826.out) | exact HB.out)) hb); clear HO829; clear BK825; clear BK826; clear HB; have HO829 := n0_; have HO833 := n1_; have BK825 := n2_; have BK826 := n3_; have HB := n4_; clear n0_ n1_ n2_ n3_ n4_; (try clear hb); (try clear hb2); (try clear hk); (try clear hi); (try clear ho0); have hcz23_0 : w22.cell? ⟨gb826, 0, none⟩ = some (.int .i64 a1_0) := (blk_cell BK826.out 0).trans rfl; have hcz23_1 : w22.cell? ⟨gb826, 1, none⟩ = some (.slice A1_1 l1_1.length c1_1) := (blk_cell BK826.out 1).trans rfl; have hcz23_2 : w22.cell? ⟨gb826, 2, none⟩ = some (.slice A1_2 l1_2.length c1_2) := (blk_cell BK826.out 2).trans rfl; have hfz23_0 := blk_frozen BK826.out 0; have hfz23_1 := blk_frozen BK826.out 1; have hfz23_2 := blk_frozen BK826.out 2) | ((with_reducible refine gate_callee (f := 159) rfl ?_); refine goesL_ (some 33) rfl rfl Try.func159 (by kernel_rfl) rfl #[.int .i64 a1_0] rfl (by (try simp only [List.map_toArray, List.map_cons, List.map_nil]); first | done | rfl | (simp only [List.length_drop, List.length_take]; rfl)) ?_; (with_reducible refine (product_still.calls k a1_0 t835 _ A15.out).mono ?_); rintro e w24 ⟨v836, rfl, ho0, hb⟩; refine ⟨_, rfl, ?_⟩; have n0_ := Aside0.mk (Kd.R_elder' (by (with_reducible repeat (first | apply Kd.R_alloc | apply Kd.R_drewN | apply Kd.R_drew)); exact HO829.out) (Kd.R_base ho0) hb); have n1_ := Aside0.mk (Kd.R_elder' (by (with_reducible repeat (first | apply Kd.R_alloc | apply Kd.R_drewN | apply Kd.R_drew)); exact HO833.out) (Kd.R_base ho0) hb); have n2_ := Aside0.mk (Kd.R_lower (Kd.R_new' (Kd.R_new' ho0 (Kd.R_lt (by (with_reducible repeat (first | apply Kd.R_alloc | apply Kd.R_drewN | apply Kd.R_drew)); exact HO829.out))) (Kd.R_lt (by (with_reducible repeat (first | apply Kd.R_alloc | apply Kd.R_drewN | apply Kd.R_drew)); exact HO833.out))) (below_size (by repeat (first | (with_reducible first | exact HB.out | apply below_alloc | apply pw_below_drewN | apply below_drew1 | refine below_set ?_ GE825.out | refine below_set ?_ GE826.out) | exact HB.out)))); have n3_ := Aside0.mk (blk_below (g := gb825) (o := .cells #[.int .i64 a0_0, .slice A0_1 l0_1.length c0_1, .slice A0_2 l0_2.length c0_2] 25 (0, 0)) (by (with_reducible repeat (first | refine blk_drewN ?_ _ | refine blk_drew ?_ | refine blk_alloc ?_ _)); exact BK825.out) hb); have n4_ := Aside0.mk (blk_below (g := gb826) (o := .cells #[.int .i64 a1_0, .slice A1_1 l1_1.length c1_1, .slice A1_2 l1_2.length c1_2] 25 (0, 0)) (by (with_reducible repeat (first | refine blk_drewN ?_ _ | refine blk_drew ?_ | refine blk_alloc ?_ _)); exact BK826.out) hb); have n5_ := Aside0.mk (below_step (by repeat (first | (with_reducible first | exact HB.out | apply below_alloc | apply pw_below_drewN | apply below_drew1 | refine below_set ?_ GE825.out | refine below_set ?_ GE826.out) | exact HB.out)) hb); clear HO829; clear HO833; clear BK825; clear BK826; clear HB; have HO829 := n0_; have HO833 := n1_; have HO837 := n2_; have BK825 := n3_; have BK826 := n4_; have HB := n5_; clear n0_ n1_ n2_ n3_ n4_ n5_; (try clear hb); (try clear hb2); (try clear hk); (try clear hi); (try clear ho0)))
   go_ret2
   exact ⟨_, _, by first | rfl | (simp [errW_none, errW_some] <;> rfl) | (simp [*, errW_none, errW_some] <;> rfl), by (with_reducible repeat (first | apply Kd.R_alloc | apply Kd.R_drewN | apply Kd.R_drew)); exact Kd.R_mono HO829.out (fun _ hk => hk.2), by (with_reducible repeat (first | apply Kd.R_alloc | apply Kd.R_drewN | apply Kd.R_drew)); exact Kd.R_mono HO837.out (fun _ hk => hk.1.2), by repeat (first | (with_reducible first | exact HB.out | apply below_alloc | apply pw_below_drewN | apply below_drew1 | refine below_set ?_ GE825.out | refine below_set ?_ GE826.out) | exact HB.out)⟩
 ·replace c6 := Bool.eq_false_iff.mpr c6
  subst c6
  have H1 : ((product_still.f k a0_0).bind fun t838 => (if t834 = true then (some (t838, t831)) else ((product_still.f k a1_0).bind fun t841 => (some (t838, t841))))) = some (r1, r2) := by rw [if_neg (show ¬ (false = true) by decide)] at H; exact H
  clear H
  have H := H1
  clear H1
  replace H := Option.bind_eq_some_iff.mp H
  obtain ⟨t838, A250, H⟩ := H
  replace H : (if t834 = true then (some (t838, t831)) else ((product_still.f k a1_0).bind fun t841 => (some (t838, t841)))) = some (r1, r2) := H
  have A25 := Aside0.mk A250
  clear A250
  by_cases c26 : t834 = true
  ·subst c26
   have H1 : (some (t838, t831)) = some (r1, r2) := by rw [if_pos rfl] at H; exact H
   clear H
   have H := H1
   clear H1
   simp only [Option.some.injEq, Prod.mk.injEq] at H
   obtain ⟨rfl, rfl⟩ := H
   go_enter Try.func122, Try.ntmps122
   go_wp2_with (first | ((with_reducible refine gate_dst (N := 3) rfl ?_); refine box_event ?hg (N := 3) ?hd (cs := #[.int .i64 a0_0, .slice A0_1 l0_1.length c0_1, .slice A0_2 l0_2.length c0_2]) (t := 25) ?hr ?_; (case hd => rfl); (case hg => rfl); (case hr => first | (go_simp; done) | (go_simp; rfl)); intro gb825 hg w27 hbox hb; have n0_ := Aside0.mk (below_step (by repeat (first | (with_reducible first | exact HB.out | apply below_alloc | apply pw_below_drewN | apply below_drew1) | exact HB.out)) hb); have n1_ := Aside0.mk (hbox); have n2_ := Aside0.mk ((by rw [hg]; exact (below_size (by repeat (first | (with_reducible first | exact HB.out | apply below_alloc | apply pw_below_drewN | apply below_drew1) | exact HB.out))) : w.heap.size ≤ gb825)); have n3_ := Aside0.mk ((by rw [hg]; exact (below_size (by repeat (first | (with_reducible first | exact HB.out | apply below_alloc | apply pw_below_drewN | apply below_drew1) | exact HB.out))) : w.heap.size ≤ gb825)); clear HB; have HB := n0_; have BK825 := n1_; have GW825 := n2_; have GE825 := n3_; clear n0_ n1_ n2_ n3_; clear hb hbox hg) | ((with_reducible refine gate_dst (N := 4) rfl ?_); refine box_event ?hg (N := 4) ?hd (cs := #[.int .i64 a1_0, .slice A1_1 l1_1.length c1_1, .slice A1_2 l1_2.length c1_2]) (t := 25) ?hr ?_; (case hd => rfl); (case hg => rfl); (case hr => first | (go_simp; done) | (go_simp; rfl)); intro gb826 hg w28 hbox hb; have n0_ := Aside0.mk (blk_below (g := gb825) (o := .cells #[.int .i64 a0_0, .slice A0_1 l0_1.length c0_1, .slice A0_2 l0_2.length c0_2] 25 (0, 0)) (by (with_reducible repeat (first | refine blk_drewN ?_ _ | refine blk_drew ?_ | refine blk_alloc ?_ _)); exact BK825.out) hb); have n1_ := Aside0.mk (below_step (by repeat (first | (with_reducible first | exact HB.out | apply below_alloc | apply pw_below_drewN | apply below_drew1 | refine below_set ?_ GE825.out) | exact HB.out)) hb); have n2_ := Aside0.mk (hbox); have n3_ := Aside0.mk ((by rw [hg]; exact (below_size (by repeat (first | (with_reducible first | exact HB.out | apply below_alloc | apply pw_below_drewN | apply below_drew1 | refine below_set ?_ GE825.out) | exact HB.out))) : w.heap.size ≤ gb826)); have n4_ := Aside0.mk ((by rw [hg]; exact (below_size (by repeat (first | (with_reducible first | exact HB.out | apply below_alloc | apply pw_below_drewN | apply below_drew1 | refine below_set ?_ GE825.out) | exact HB.out))) : w.heap.size ≤ gb826)); have n5_ := Aside0.mk ((by rw [hg]; exact Nat.ne_of_lt (blk_lt (g := gb825) (o := .cells #[.int .i64 a0_0, .slice A0_1 l0_1.length c0_1, .slice A0_2 l0_2.length c0_2] 25 (0, 0)) (by (with_reducible repeat (first | refine blk_drewN ?_ _ | refine blk_drew ?_ | refine blk_alloc ?_ _)); exact BK825.out)) : gb825 ≠ gb826)); have n6_ := Aside0.mk ((by rw [hg]; exact Nat.ne_of_gt (blk_lt (g := gb825) (o := .cells #[.int .i64 a0_0, .slice A0_1 l0_1.length c0_1, .slice A0_2 l0_2.length c0_2] 25 (0, 0)) (by (with_reducible repeat (first | refine blk_drewN ?_ _ | refine blk_drew ?_ | refine blk_alloc ?_ _)); exact BK825.out)) : gb826 ≠ gb825)); clear BK825; clear HB; have BK825 := n0_; have HB := n1_; have BK826 := n2_; have GW826 := n3_; have GE826 := n4_; have NB825_826 := n5_; have NB826_825 := n6_; clear n0_ n1_ n2_ n3_ n4_ n5_ n6_; clear hb hbox hg; have hnb29 := NB825_826.out; have hnc29 := NB826_825.out; have hcz30_0 : w28.cell? ⟨gb825, 0, none⟩ = some (.int .i64 a0_0) := (blk_cell BK825.out 0).trans rfl; have hcz30_1 : w28.cell? ⟨gb825, 1, none⟩ = some (.slice A0_1 l0_1.length c0_1) := (blk_cell BK825.out 1).trans rfl; have hcz30_2 : w28.cell? ⟨gb825, 2, none⟩ = some (.slice A0_2 l0_2.length c0_2) := (blk_cell BK825.out 2).trans rfl; have hfz30_0 := blk_frozen BK825.out 0; have hfz30_1 := blk_frozen BK825.out 1; have hfz30_2 := blk_frozen BK825.out 2) | ((with_reducible refine gate_callee (f := 158) rfl ?_); refine goesL_ (some 15) rfl rfl Try.func158 (by kernel_rfl) rfl #[.agg #[.int .i64 a0_0, .slice A0_1 l0_1.length c0_1, .slice A0_2 l0_2.length c0_2], .string a2] rfl (by (try simp only [List.map_toArray, List.map_cons, List.map_nil]); first | done | rfl | (simp only [List.length_drop, List.length_take]; rfl)) ?_; (with_reducible refine (product_by.calls k a0_0 _ _ l0_1 _ _ l0_2 a2 t827 false _ ?side1 ?side2 ?side3 ?side4 A4.out).mono ?_); (case side1 => repeat (first | exact (Kd.C_below HR0_1.out HB.out) | (with_reducible refine Kd.C_alloc ?_ _) | (with_reducible refine Kd.C_drewN ?_ _) | (with_reducible refine Kd.C_drew ?_))); (case side2 => exact HC0_1.out); (case side3 => repeat (first | exact (Kd.C_below HR0_2.out HB.out) | (with_reducible refine Kd.C_alloc ?_ _) | (with_reducible refine Kd.C_drewN ?_ _) | (with_reducible refine Kd.C_drew ?_))); (case side4 => exact HC0_2.out); rintro e w31 ⟨v828, rfl, ho0, hb⟩; refine ⟨_, rfl, ?_⟩; have n0_ := Aside0.mk (Kd.R_lower ho0 (below_size (by repeat (first | (with_reducible first | exact HB.out | apply below_alloc | apply pw_below_drewN | apply below_drew1 | refine below_set ?_ GE825.out | refine below_set ?_ GE826.out) | exact HB.out)))); have n1_ := Aside0.mk (blk_below (g := gb825) (o := .cells #[.int .i64 a0_0, .slice A0_1 l0_1.length c0_1, .slice A0_2 l0_2.length c0_2] 25 (0, 0)) (by (with_reducible repeat (first | refine blk_drewN ?_ _ | refine blk_drew ?_ | refine blk_alloc ?_ _)); exact BK825.out) hb); have n2_ := Aside0.mk (blk_below (g := gb826) (o := .cells #[.int .i64 a1_0, .slice A1_1 l1_1.length c1_1, .slice A1_2 l1_2.length c1_2] 25 (0, 0)) (by (with_reducible repeat (first | refine blk_drewN ?_ _ | refine blk_drew ?_ | refine blk_alloc ?_ _)); exact BK826.out) hb); have n3_ := Aside0.mk (below_step (by repeat (first | (with_reducible first | exact HB.out | apply below_alloc | apply pw_below_drewN | apply below_drew1 | refine below_set ?_ GE825.out | refine below_set ?_ GE826.out) | exact HB.out)) hb); clear BK825; clear BK826; clear HB; have HO829 := n0_; have BK825 := n1_; have BK826 := n2_; have HB := n3_; clear n0_ n1_ n2_ n3_; (try clear hb); (try clear hb2); (try clear hk); (try clear hi); (try clear ho0); have hcz32_0 : w31.cell? ⟨gb826, 0, none⟩ = some (.int .i64 a1_0) := (blk_cell BK826.out 0).trans rfl; have hcz32_1 : w31.cell? ⟨gb826, 1, none⟩ = some (.slice A1_1 l1_1.length c1_1) := (blk_cell BK826.out 1).trans rfl; have hcz32_2 : w31.cell? ⟨gb826, 2, none⟩ = some (.slice A1_2 l1_2.length c1_2) := (blk_cell BK826.out 2).trans rfl; have hfz32_0 := blk_frozen BK826.out 0; have hfz32_1 := blk_frozen BK826.out 1; have hfz32_2 := blk_frozen BK826.out 2) | ((with_reducible refine gate_callee (f := 158) rfl ?_); refine goesL_ (some 21) rfl rfl Try.func158 (by kernel_rfl) rfl #[.agg #[.int .i64 a1_0, .slice A1_1 l1_1.length c1_1, .slice A1_2 l1_2.length c1_2], .string a2] rfl (by (try simp only [List.map_toArray, List.map_cons, List.map_nil]); first | done | rfl | (simp only [List.length_drop, List.length_take]; rfl)) ?_; (with_reducible refine (product_by.calls k a1_0 _ _ l1_1 _ _ l1_2 a2 t831 true _ ?side1 ?side2 ?side3 ?side4 A5.out).mono ?_); (case side1 => repeat (first | exact (Kd.C_below HR1_1.out HB.out) | (with_reducible refine Kd.C_alloc ?_ _) | (with_reducible refine Kd.C_drewN ?_ _) | (with_reducible refine Kd.C_drew ?_))); (case side2 => exact HC1_1.out); (case side3 => repeat (first | exact (Kd.C_below HR1_2.out HB.out) | (with_reducible refine Kd.C_alloc ?_ _) | (with_reducible refine Kd.C_drewN ?_ _) | (with_reducible refine Kd.C_drew ?_))); (case side4 => exact HC1_2.out); rintro e w33 ⟨v832, rfl, ho0, hb⟩; refine ⟨_, rfl, ?_⟩; have n0_ := Aside0.mk (Kd.R_elder' (by (with_reducible repeat (first | apply Kd.R_alloc | apply Kd.R_drewN | apply Kd.R_drew)); exact HO829.out) (Kd.R_base ho0) hb); have n1_ := Aside0.mk (Kd.R_lower (Kd.R_new' ho0 (Kd.R_lt (by (with_reducible repeat (first | apply Kd.R_alloc | apply Kd.R_drewN | apply Kd.R_drew)); exact HO829.out))) (below_size (by repeat (first | (with_reducible first | exact HB.out | apply below_alloc | apply pw_below_drewN | apply below_drew1 | refine below_set ?_ GE825.out | refine below_set ?_ GE826.out) | exact HB.out)))); have n2_ := Aside0.mk (blk_below (g := gb825) (o := .cells #[.int .i64 a0_0, .slice A0_1 l0_1.length c0_1, .slice A0_2 l0_2.length c0_2] 25 (0, 0)) (by (with_reducible repeat (first | refine blk_drewN ?_ _ | refine blk_drew ?_ | refine blk_alloc ?_ _)); exact BK825.out) hb); have n3_ := Aside0.mk (blk_below (g := gb826) (o := .cells #[.int .i64 a1_0, .slice A1_1 l1_1.length c1_1, .slice A1_2 l1_2.length c1_2] 25 (0, 0)) (by (with_reducible repeat (first | refine blk_drewN ?_ _ | refine blk_drew ?_ | refine blk_alloc ?_ _)); exact BK826.out) hb); have n4_ := Aside0.mk (below_step (by repeat (first | (with_reducible first | exact HB.out | apply below_alloc | apply pw_below_drewN | apply below_drew1 | refine below_set ?_ GE825.out | refine below_set ?_ GE826.out) | exact HB.out)) hb); clear HO829; clear BK825; clear BK826; clear HB; have HO829 := n0_; have HO833 := n1_; have BK825 := n2_; have BK826 := n3_; have HB := n4_; clear n0_ n1_ n2_ n3_ n4_; (try clear hb); (try clear hb2); (try clear hk); (try clear hi); (try clear ho0); have hcz34_0 : w33.cell? ⟨gb825, 0, none⟩ = some (.int .i64 a0_0) := (blk_cell BK825.out 0).trans rfl; have hcz34_1 : w33.cell? ⟨gb825, 1, none⟩ = some (.slice A0_1 l0_1.length c0_1) := (blk_cell BK825.out 1).trans rfl; have hcz34_2 : w33.cell? ⟨gb825, 2, none⟩ = some (.slice A0_2 l0_2.length c0_2) := (blk_cell BK825.out 2).trans rfl; have hfz34_0 := blk_frozen BK825.out 0; have hfz34_1 := blk_frozen BK825.out 1; have hfz34_2 := blk_frozen BK825.out 2) | ((with_reducible refine gate_callee (f := 159) rfl ?_); refine goesL_ (some 28) rfl rfl Try.func159 (by kernel_rfl) rfl #[.int .i64 a0_0] rfl (by (try simp only [List.map_toArray, List.map_cons, List.map_nil]); first | done | rfl | (simp only [List.length_drop, List.length_take]; rfl)) ?_; (with_reducible refine (product_still.calls k a0_0 t838 _ A25.out).mono ?_); rintro e w35 ⟨v839, rfl, ho0, hb⟩; refine ⟨_, rfl, ?_⟩; have n0_ := Aside0.mk (Kd.R_elder' (by (with_reducible repeat (first | apply Kd.R_alloc | apply Kd.R_drewN | apply Kd.R_drew)); exact HO829.out) (Kd.R_base ho0) hb); have n1_ := Aside0.mk (Kd.R_elder' (by (with_reducible repeat (first | apply Kd.R_alloc | apply Kd.R_drewN | apply Kd.R_drew)); exact HO833.out) (Kd.R_base ho0) hb); have n2_ := Aside0.mk (Kd.R_lower (Kd.R_new' (Kd.R_new' ho0 (Kd.R_lt (by (with_reducible repeat (first | apply Kd.R_alloc | apply Kd.R_drewN | apply Kd.R_drew)); exact HO829.out))) (Kd.R_lt (by (with_reducible repeat (first | apply Kd.R_alloc | apply Kd.R_drewN | apply Kd.R_drew)); exact HO833.out))) (below_size (by repeat (first | (with_reducible first | exact HB.out | apply below_alloc | apply pw_below_drewN | apply below_drew1 | refine below_set ?_ GE825.out | refine below_set ?_ GE826.out) | exact HB.out)))); have n3_ := Aside0.mk (blk_below (g := gb825) (o := .cells #[.int .i64 a0_0, .slice A0_1 l0_1.length c0_1, .slice A0_2 l0_2.length c0_2] 25 (0, 0)) (by (with_reducible repeat (first | refine blk_drewN ?_ _ | refine blk_drew ?_ | refine blk_alloc ?_ _)); exact BK825.out) hb); have n4_ := Aside0.mk (blk_below (g := gb826) (o := .cells #[.int .i64 a1_0, .slice A1_1 l1_1.length c1_1, .slice A1_2 l1_2.length c1_2] 25 (0, 0)) (by (with_reducible repeat (first | refine blk_drewN ?_ _ | refine blk_drew ?_ | refine blk_alloc ?_ _)); exact BK826.out) hb); have n5_ := Aside0.mk (below_step (by repeat (first | (with_reducible first | exact HB.out | apply below_alloc | apply pw_below_drewN | apply below_drew1 | refine below_set ?_ GE825.out | refine below_set ?_ GE826.out) | exact HB.out)) hb); clear HO829; clear HO833; clear BK825; clear BK826; clear HB; have HO829 := n0_; have HO833 := n1_; have HO840 := n2_; have BK825 := n3_; have BK826 := n4_; have HB := n5_; clear n0_ n1_ n2_ n3_ n4_ n5_; (try clear hb); (try clear hb2); (try clear hk); (try clear hi); (try clear ho0)))
   go_ret2
   exact ⟨_, _, by first | rfl | (simp [errW_none, errW_some] <;> rfl) | (simp [*, errW_none, errW_some] <;> rfl), by (with_reducible repeat (first | apply Kd.R_alloc | apply Kd.R_drewN | apply Kd.R_drew)); exact Kd.R_mono HO840.out (fun _ hk => hk.2), by (with_reducible repeat (first | apply Kd.R_alloc | apply Kd.R_drewN | apply Kd.R_drew)); exact Kd.R_mono HO833.out (fun _ hk => hk.2), by repeat (first | (with_reducible first | exact HB.out | apply below_alloc | apply pw_below_drewN | apply below_drew1 | refine below_set ?_ GE825.out | refine below_set ?_ GE826.out) | exact HB.out)⟩
  ·replace c26 := Bool.eq_false_iff.mpr c26
   subst c26
   have H1 : ((product_still.f k a1_0).bind fun t841 => (some (t838, t841))) = some (r1, r2) := by rw [if_neg (show ¬ (false = true) by decide)] at H; exact H
   clear H
   have H := H1
   clear H1
   replace H := Option.bind_eq_some_iff.mp H
   obtain ⟨t841, A360, H⟩ := H
   replace H : (some (t838, t841)) = some (r1, r2) := H
   have A36 := Aside0.mk A360
   clear A360
   simp only [Option.some.injEq, Prod.mk.injEq] at H
   obtain ⟨rfl, rfl⟩ := H
   go_enter Try.func122, Try.ntmps122
   go_wp2_with (first | ((with_reducible refine gate_dst (N := 3) rfl ?_); refine box_event ?hg (N := 3) ?hd (cs := #[.int .i64 a0_0, .slice A0_1 l0_1.length c0_1, .slice A0_2 l0_2.length c0_2]) (t := 25) ?hr ?_; (case hd => rfl); (case hg => rfl); (case hr => first | (go_simp; done) | (go_simp; rfl)); intro gb825 hg w37 hbox hb; have n0_ := Aside0.mk (below_step (by repeat (first | (with_reducible first | exact HB.out | apply below_alloc | apply pw_below_drewN | apply below_drew1) | exact HB.out)) hb); have n1_ := Aside0.mk (hbox); have n2_ := Aside0.mk ((by rw [hg]; exact (below_size (by repeat (first | (with_reducible first | exact HB.out | apply below_alloc | apply pw_below_drewN | apply below_drew1) | exact HB.out))) : w.heap.size ≤ gb825)); have n3_ := Aside0.mk ((by rw [hg]; exact (below_size (by repeat (first | (with_reducible first | exact HB.out | apply below_alloc | apply pw_below_drewN | apply below_drew1) | exact HB.out))) : w.heap.size ≤ gb825)); clear HB; have HB := n0_; have BK825 := n1_; have GW825 := n2_; have GE825 := n3_; clear n0_ n1_ n2_ n3_; clear hb hbox hg) | ((with_reducible refine gate_dst (N := 4) rfl ?_); refine box_event ?hg (N := 4) ?hd (cs := #[.int .i64 a1_0, .slice A1_1 l1_1.length c1_1, .slice A1_2 l1_2.length c1_2]) (t := 25) ?hr ?_; (case hd => rfl); (case hg => rfl); (case hr => first | (go_simp; done) | (go_simp; rfl)); intro gb826 hg w38 hbox hb; have n0_ := Aside0.mk (blk_below (g := gb825) (o := .cells #[.int .i64 a0_0, .slice A0_1 l0_1.length c0_1, .slice A0_2 l0_2.length c0_2] 25 (0, 0)) (by (with_reducible repeat (first | refine blk_drewN ?_ _ | refine blk_drew ?_ | refine blk_alloc ?_ _)); exact BK825.out) hb); have n1_ := Aside0.mk (below_step (by repeat (first | (with_reducible first | exact HB.out | apply below_alloc | apply pw_below_drewN | apply below_drew1 | refine below_set ?_ GE825.out) | exact HB.out)) hb); have n2_ := Aside0.mk (hbox); have n3_ := Aside0.mk ((by rw [hg]; exact (below_size (by repeat (first | (with_reducible first | exact HB.out | apply below_alloc | apply pw_below_drewN | apply below_drew1 | refine below_set ?_ GE825.out) | exact HB.out))) : w.heap.size ≤ gb826)); have n4_ := Aside0.mk ((by rw [hg]; exact (below_size (by repeat (first | (with_reducible first | exact HB.out | apply below_alloc | apply pw_below_drewN | apply below_drew1 | refine below_set ?_ GE825.out) | exact HB.out))) : w.heap.size ≤ gb826)); have n5_ := Aside0.mk ((by rw [hg]; exact Nat.ne_of_lt (blk_lt (g := gb825) (o := .cells #[.int .i64 a0_0, .slice A0_1 l0_1.length c0_1, .slice A0_2 l0_2.length c0_2] 25 (0, 0)) (by (with_reducible repeat (first | refine blk_drewN ?_ _ | refine blk_drew ?_ | refine blk_alloc ?_ _)); exact BK825.out)) : gb825 ≠ gb826)); have n6_ := Aside0.mk ((by rw [hg]; exact Nat.ne_of_gt (blk_lt (g := gb825) (o := .cells #[.int .i64 a0_0, .slice A0_1 l0_1.length c0_1, .slice A0_2 l0_2.length c0_2] 25 (0, 0)) (by (with_reducible repeat (first | refine blk_drewN ?_ _ | refine blk_drew ?_ | refine blk_alloc ?_ _)); exact BK825.out)) : gb826 ≠ gb825)); clear BK825; clear HB; have BK825 := n0_; have HB := n1_; have BK826 := n2_; have GW826 := n3_; have GE826 := n4_; have NB825_826 := n5_; have NB826_825 := n6_; clear n0_ n1_ n2_ n3_ n4_ n5_ n6_; clear hb hbox hg; have hnb39 := NB825_826.out; have hnc39 := NB826_825.out; have hcz40_0 : w38.cell? ⟨gb825, 0, none⟩ = some (.int .i64 a0_0) := (blk_cell BK825.out 0).trans rfl; have hcz40_1 : w38.cell? ⟨gb825, 1, none⟩ = some (.slice A0_1 l0_1.length c0_1) := (blk_cell BK825.out 1).trans rfl; have hcz40_2 : w38.cell? ⟨gb825, 2, none⟩ = some (.slice A0_2 l0_2.length c0_2) := (blk_cell BK825.out 2).trans rfl; have hfz40_0 := blk_frozen BK825.out 0; have hfz40_1 := blk_frozen BK825.out 1; have hfz40_2 := blk_frozen BK825.out 2) | ((with_reducible refine gate_callee (f := 158) rfl ?_); refine goesL_ (some 15) rfl rfl Try.func158 (by kernel_rfl) rfl #[.agg #[.int .i64 a0_0, .slice A0_1 l0_1.length c0_1, .slice A0_2 l0_2.length c0_2], .string a2] rfl (by (try simp only [List.map_toArray, List.map_cons, List.map_nil]); first | done | rfl | (simp only [List.length_drop, List.length_take]; rfl)) ?_; (with_reducible refine (product_by.calls k a0_0 _ _ l0_1 _ _ l0_2 a2 t827 false _ ?side1 ?side2 ?side3 ?side4 A4.out).mono ?_); (case side1 => repeat (first | exact (Kd.C_below HR0_1.out HB.out) | (with_reducible refine Kd.C_alloc ?_ _) | (with_reducible refine Kd.C_drewN ?_ _) | (with_reducible refine Kd.C_drew ?_))); (case side2 => exact HC0_1.out); (case side3 => repeat (first | exact (Kd.C_below HR0_2.out HB.out) | (with_reducible refine Kd.C_alloc ?_ _) | (with_reducible refine Kd.C_drewN ?_ _) | (with_reducible refine Kd.C_drew ?_))); (case side4 => exact HC0_2.out); rintro e w41 ⟨v828, rfl, ho0, hb⟩; refine ⟨_, rfl, ?_⟩; have n0_ := Aside0.mk (Kd.R_lower ho0 (below_size (by repeat (first | (with_reducible first | exact HB.out | apply below_alloc | apply pw_below_drewN | apply below_drew1 | refine below_set ?_ GE825.out | refine below_set ?_ GE826.out) | exact HB.out)))); have n1_ := Aside0.mk (blk_below (g := gb825) (o := .cells #[.int .i64 a0_0, .slice A0_1 l0_1.length c0_1, .slice A0_2 l0_2.length c0_2] 25 (0, 0)) (by (with_reducible repeat (first | refine blk_drewN ?_ _ | refine blk_drew ?_ | refine blk_alloc ?_ _)); exact BK825.out) hb); have n2_ := Aside0.mk (blk_below (g := gb826) (o := .cells #[.int .i64 a1_0, .slice A1_1 l1_1.length c1_1, .slice A1_2 l1_2.length c1_2] 25 (0, 0)) (by (with_reducible repeat (first | refine blk_drewN ?_ _ | refine blk_drew ?_ | refine blk_alloc ?_ _)); exact BK826.out) hb); have n3_ := Aside0.mk (below_step (by repeat (first | (with_reducible first | exact HB.out | apply below_alloc | apply pw_below_drewN | apply below_drew1 | refine below_set ?_ GE825.out | refine below_set ?_ GE826.out) | exact HB.out)) hb); clear BK825; clear BK826; clear HB; have HO829 := n0_; have BK825 := n1_; have BK826 := n2_; have HB := n3_; clear n0_ n1_ n2_ n3_; (try clear hb); (try clear hb2); (try clear hk); (try clear hi); (try clear ho0); have hcz42_0 : w41.cell? ⟨gb826, 0, none⟩ = some (.int .i64 a1_0) := (blk_cell BK826.out 0).trans rfl; have hcz42_1 : w41.cell? ⟨gb826, 1, none⟩ = some (.slice A1_1 l1_1.length c1_1) := (blk_cell BK826.out 1).trans rfl; have hcz42_2 : w41.cell? ⟨gb826, 2, none⟩ = some (.slice A1_2 l1_2.length c1_2) := (blk_cell BK826.out 2).trans rfl; have hfz42_0 := blk_frozen BK826.out 0; have hfz42_1 := blk_frozen BK826.out 1; have hfz42_2 := blk_frozen BK826.out 2) | ((with_reducible refine gate_callee (f := 158) rfl ?_); refine goesL_ (some 21) rfl rfl Try.func158 (by kernel_rfl) rfl #[.agg #[.int .i64 a1_0, .slice A1_1 l1_1.length c1_1, .slice A1_2 l1_2.length c1_2], .string a2] rfl (by (try simp only [List.map_toArray, List.map_cons, List.map_nil]); first | done | rfl | (simp only [List.length_drop, List.length_take]; rfl)) ?_; (with_reducible refine (product_by.calls k a1_0 _ _ l1_1 _ _ l1_2 a2 t831 false _ ?side1 ?side2 ?side3 ?side4 A5.out).mono ?_); (case side1 => repeat (first | exact (Kd.C_below HR1_1.out HB.out) | (with_reducible refine Kd.C_alloc ?_ _) | (with_reducible refine Kd.C_drewN ?_ _) | (with_reducible refine Kd.C_drew ?_))); (case side2 => exact HC1_1.out); (case side3 => repeat (first | exact (Kd.C_below HR1_2.out HB.out) | (with_reducible refine Kd.C_alloc ?_ _) | (with_reducible refine Kd.C_drewN ?_ _) | (with_reducible refine Kd.C_drew ?_))); (case side4 => exact HC1_2.out); rintro e w43 ⟨v832, rfl, ho0, hb⟩; refine ⟨_, rfl, ?_⟩; have n0_ := Aside0.mk (Kd.R_elder' (by (with_reducible repeat (first | apply Kd.R_alloc | apply Kd.R_drewN | apply Kd.R_drew)); exact HO829.out) (Kd.R_base ho0) hb); have n1_ := Aside0.mk (Kd.R_lower (Kd.R_new' ho0 (Kd.R_lt (by (with_reducible repeat (first | apply Kd.R_alloc | apply Kd.R_drewN | apply Kd.R_drew)); exact HO829.out))) (below_size (by repeat (first | (with_reducible first | exact HB.out | apply below_alloc | apply pw_below_drewN | apply below_drew1 | refine below_set ?_ GE825.out | refine below_set ?_ GE826.out) | exact HB.out)))); have n2_ := Aside0.mk (blk_below (g := gb825) (o := .cells #[.int .i64 a0_0, .slice A0_1 l0_1.length c0_1, .slice A0_2 l0_2.length c0_2] 25 (0, 0)) (by (with_reducible repeat (first | refine blk_drewN ?_ _ | refine blk_drew ?_ | refine blk_alloc ?_ _)); exact BK825.out) hb); have n3_ := Aside0.mk (blk_below (g := gb826) (o := .cells #[.int .i64 a1_0, .slice A1_1 l1_1.length c1_1, .slice A1_2 l1_2.length c1_2] 25 (0, 0)) (by (with_reducible repeat (first | refine blk_drewN ?_ _ | refine blk_drew ?_ | refine blk_alloc ?_ _)); exact BK826.out) hb); have n4_ := Aside0.mk (below_step (by repeat (first | (with_reducible first | exact HB.out | apply below_alloc | apply pw_below_drewN | apply below_drew1 | refine below_set ?_ GE825.out | refine below_set ?_ GE826.out) | exact HB.out)) hb); clear HO829; clear BK825; clear BK826; clear HB; have HO829 := n0_; have HO833 := n1_; have BK825 := n2_; have BK826 := n3_; have HB := n4_; clear n0_ n1_ n2_ n3_ n4_; (try clear hb); (try clear hb2); (try clear hk); (try clear hi); (try clear ho0); have hcz44_0 : w43.cell? ⟨gb825, 0, none⟩ = some (.int .i64 a0_0) := (blk_cell BK825.out 0).trans rfl; have hcz44_1 : w43.cell? ⟨gb825, 1, none⟩ = some (.slice A0_1 l0_1.length c0_1) := (blk_cell BK825.out 1).trans rfl; have hcz44_2 : w43.cell? ⟨gb825, 2, none⟩ = some (.slice A0_2 l0_2.length c0_2) := (blk_cell BK825.out 2).trans rfl; have hfz44_0 := blk_frozen BK825.out 0; have hfz44_1 := blk_frozen BK825.out 1; have hfz44_2 := blk_frozen BK825.out 2) | ((with_reducible refine gate_callee (f := 159) rfl ?_); refine goesL_ (some 28) rfl rfl Try.func159 (by kernel_rfl) rfl #[.int .i64 a0_0] rfl (by (try simp only [List.map_toArray, List.map_cons, List.map_nil]); first | done | rfl | (simp only [List.length_drop, List.length_take]; rfl)) ?_; (with_reducible refine (product_still.calls k a0_0 t838 _ A25.out).mono ?_); rintro e w45 ⟨v839, rfl, ho0, hb⟩; refine ⟨_, rfl, ?_⟩; have n0_ := Aside0.mk (Kd.R_elder' (by (with_reducible repeat (first | apply Kd.R_alloc | apply Kd.R_drewN | apply Kd.R_drew)); exact HO829.out) (Kd.R_base ho0) hb); have n1_ := Aside0.mk (Kd.R_elder' (by (with_reducible repeat (first | apply Kd.R_alloc | apply Kd.R_drewN | apply Kd.R_drew)); exact HO833.out) (Kd.R_base ho0) hb); have n2_ := Aside0.mk (Kd.R_lower (Kd.R_new' (Kd.R_new' ho0 (Kd.R_lt (by (with_reducible repeat (first | apply Kd.R_alloc | apply Kd.R_drewN | apply Kd.R_drew)); exact HO829.out))) (Kd.R_lt (by (with_reducible repeat (first | apply Kd.R_alloc | apply Kd.R_drewN | apply Kd.R_drew)); exact HO833.out))) (below_size (by repeat (first | (with_reducible first | exact HB.out | apply below_alloc | apply pw_below_drewN | apply below_drew1 | refine below_set ?_ GE825.out | refine below_set ?_ GE826.out) | exact HB.out)))); have n3_ := Aside0.mk (blk_below (g := gb825) (o := .cells #[.int .i64 a0_0, .slice A0_1 l0_1.length c0_1, .slice A0_2 l0_2.length c0_2] 25 (0, 0)) (by (with_reducible repeat (first | refine blk_drewN ?_ _ | refine blk_drew ?_ | refine blk_alloc ?_ _)); exact BK825.out) hb); have n4_ := Aside0.mk (blk_below (g := gb826) (o := .cells #[.int .i64 a1_0, .slice A1_1 l1_1.length c1_1, .slice A1_2 l1_2.length c1_2] 25 (0, 0)) (by (with_reducible repeat (first | refine blk_drewN ?_ _ | refine blk_drew ?_ | refine blk_alloc ?_ _)); exact BK826.out) hb); have n5_ := Aside0.mk (below_step (by repeat (first | (with_reducible first | exact HB.out | apply below_alloc | apply pw_below_drewN | apply below_drew1 | refine below_set ?_ GE825.out | refine below_set ?_ GE826.out) | exact HB.out)) hb); clear HO829; clear HO833; clear BK825; clear BK826; clear HB; have HO829 := n0_; have HO833 := n1_; have HO840 := n2_; have BK825 := n3_; have BK826 := n4_; have HB := n5_; clear n0_ n1_ n2_ n3_ n4_ n5_; (try clear hb); (try clear hb2); (try clear hk); (try clear hi); (try clear ho0); have hcz46_0 : w45.cell? ⟨gb826, 0, none⟩ = some (.int .i64 a1_0) := (blk_cell BK826.out 0).trans rfl; have hcz46_1 : w45.cell? ⟨gb826, 1, none⟩ = some (.slice A1_1 l1_1.length c1_1) := (blk_cell BK826.out 1).trans rfl; have hcz46_2 : w45.cell? ⟨gb826, 2, none⟩ = some (.slice A1_2 l1_2.length c1_2) := (blk_cell BK826.out 2).trans rfl; have hfz46_0 := blk_frozen BK826.out 0; have hfz46_1 := blk_frozen BK826.out 1; have hfz46_2 := blk_frozen BK826.out 2) | ((with_reducible refine gate_callee (f := 159) rfl ?_); refine goesL_ (some 33) rfl rfl Try.func159 (by kernel_rfl) rfl #[.int .i64 a1_0] rfl (by (try simp only [List.map_toArray, List.map_cons, List.map_nil]); first | done | rfl | (simp only [List.length_drop, List.length_take]; rfl)) ?_; (with_reducible refine (product_still.calls k a1_0 t841 _ A36.out).mono ?_); rintro e w47 ⟨v842, rfl, ho0, hb⟩; refine ⟨_, rfl, ?_⟩; have n0_ := Aside0.mk (Kd.R_elder' (by (with_reducible repeat (first | apply Kd.R_alloc | apply Kd.R_drewN | apply Kd.R_drew)); exact HO829.out) (Kd.R_base ho0) hb); have n1_ := Aside0.mk (Kd.R_elder' (by (with_reducible repeat (first | apply Kd.R_alloc | apply Kd.R_drewN | apply Kd.R_drew)); exact HO833.out) (Kd.R_base ho0) hb); have n2_ := Aside0.mk (Kd.R_elder' (by (with_reducible repeat (first | apply Kd.R_alloc | apply Kd.R_drewN | apply Kd.R_drew)); exact HO840.out) (Kd.R_base ho0) hb); have n3_ := Aside0.mk (Kd.R_lower (Kd.R_new' (Kd.R_new' (Kd.R_new' ho0 (Kd.R_lt (by (with_reducible repeat (first | apply Kd.R_alloc | apply Kd.R_drewN | apply Kd.R_drew)); exact HO829.out))) (Kd.R_lt (by (with_reducible repeat (first | apply Kd.R_alloc | apply Kd.R_drewN | apply Kd.R_drew)); exact HO833.out))) (Kd.R_lt (by (with_reducible repeat (first | apply Kd.R_alloc | apply Kd.R_drewN | apply Kd.R_drew)); exact HO840.out))) (below_size (by repeat (first | (with_reducible first | exact HB.out | apply below_alloc | apply pw_below_drewN | apply below_drew1 | refine below_set ?_ GE825.out | refine below_set ?_ GE826.out) | exact HB.out)))); have n4_ := Aside0.mk (blk_below (g := gb825) (o := .cells #[.int .i64 a0_0, .slice A0_1 l0_1.length c0_1, .slice A0_2 l0_2.length c0_2] 25 (0, 0)) (by (with_reducible repeat (first | refine blk_drewN ?_ _ | refine blk_drew ?_ | refine blk_alloc ?_ _)); exact BK825.out) hb); have n5_ := Aside0.mk (blk_below (g := gb826) (o := .cells #[.int .i64 a1_0, .slice A1_1 l1_1.length c1_1, .slice A1_2 l1_2.length c1_2] 25 (0, 0)) (by (with_reducible repeat (first | refine blk_drewN ?_ _ | refine blk_drew ?_ | refine blk_alloc ?_ _)); exact BK826.out) hb); have n6_ := Aside0.mk (below_step (by repeat (first | (with_reducible first | exact HB.out | apply below_alloc | apply pw_below_drewN | apply below_drew1 | refine below_set ?_ GE825.out | refine below_set ?_ GE826.out) | exact HB.out)) hb); clear HO829; clear HO833; clear HO840; clear BK825; clear BK826; clear HB; have HO829 := n0_; have HO833 := n1_; have HO840 := n2_; have HO843 := n3_; have BK825 := n4_; have BK826 := n5_; have HB := n6_; clear n0_ n1_ n2_ n3_ n4_ n5_ n6_; (try clear hb); (try clear hb2); (try clear hk); (try clear hi); (try clear ho0)))
   go_ret2
   exact ⟨_, _, by first | rfl | (simp [errW_none, errW_some] <;> rfl) | (simp [*, errW_none, errW_some] <;> rfl), by (with_reducible repeat (first | apply Kd.R_alloc | apply Kd.R_drewN | apply Kd.R_drew)); exact Kd.R_mono HO840.out (fun _ hk => hk.2), by (with_reducible repeat (first | apply Kd.R_alloc | apply Kd.R_drewN | apply Kd.R_drew)); exact Kd.R_mono HO843.out (fun _ hk => hk.2), by repeat (first | (with_reducible first | exact HB.out | apply below_alloc | apply pw_below_drewN | apply below_drew1 | refine below_set ?_ GE825.out | refine below_set ?_ GE826.out) | exact HB.out)⟩
end Go.Proofs.Ytcjbghmhdefdiaa.S
