/- Contracts of the reference's functions for sun and battery; the conditions are those typed. -/
import Derived.Test.YtoccmkmnkoldmaaGreatBatB
set_option linter.unusedSectionVars false
set_option linter.unusedVariables false
set_option linter.unusedSimpArgs false
namespace Go.Proofs
open Go Go.AI
set_option maxRecDepth 10000
set_option linter.unusedSimpArgs false

theorem Tryz.z65 (n a b : Int) : ACalls Tryz.prog 65 [.int .i64 n, .int .i64 a, .int .i64 b] (.bool (inS n a b)) := by
  refine ACalls.ofB Tryz.TT_ok Tryz.func65 rfl (by kernel_rfl) Tryz.mixed (Nat.le_of_ble_eq_true rfl) ?_
  intro F n' w0 m0 hG hro h1
  repeat' first
    | refine SPB.seq ?_
    | refine SPB.block ?_
    | refine SPB.draw hG Tryz.TT_ok Tryz.keep65 (by kernel_rfl) ?_
    | refine SPB.reg hG Tryz.TT_ok Tryz.keep65 (by kernel_rfl) ?_
    | refine SPB.skip hG Tryz.TT_ok ?_
    | refine SPB.label hG Tryz.TT_ok ?_
    | refine SPB.ret hG Tryz.TT_ok ?_
    | refine SPB.exit hG Tryz.TT_ok ?_
    | refine SPB.condT rfl ?_
    | refine SPB.condF rfl ?_
    | refine SPB.cond rfl (And.intro (fun h => ?_) (fun h => ?_))
    | (conv => whnf
       first
         | refine And.intro (fun h => Bool.noConfusion (h : false = true)) (fun _ => ?_)
         | refine And.intro (fun _ => ?_) (fun h => Bool.noConfusion (h : true = false))
         | refine And.intro (by kernel_rfl) ?_
         | refine And.intro (fun h => ?_) (fun h => ?_)
         | refine Or.inl ?_
         | fail)
  all_goals refine Ends.mk (Or.inl rfl) (AV.weak.of_eq (congrArg AV.bool ?_))
  all_goals (simp_all [inS] <;> omega)
theorem Tryz.z117 (n a b : Int) : ACalls Tryz.prog 117 [.int .i64 n, .int .i64 a, .int .i64 b] (.bool (inS n a b)) := by
  refine ACalls.ofB Tryz.TT_ok Tryz.func117 rfl (by kernel_rfl) Tryz.mixed (Nat.le_of_ble_eq_true rfl) ?_
  intro F n' w0 m0 hG hro h1
  repeat' first
    | refine SPB.seq ?_
    | refine SPB.block ?_
    | refine SPB.draw hG Tryz.TT_ok Tryz.keep117 (by kernel_rfl) ?_
    | refine SPB.reg hG Tryz.TT_ok Tryz.keep117 (by kernel_rfl) ?_
    | refine SPB.skip hG Tryz.TT_ok ?_
    | refine SPB.label hG Tryz.TT_ok ?_
    | refine SPB.ret hG Tryz.TT_ok ?_
    | refine SPB.exit hG Tryz.TT_ok ?_
    | refine SPB.condT rfl ?_
    | refine SPB.condF rfl ?_
    | refine SPB.cond rfl (And.intro (fun h => ?_) (fun h => ?_))
    | (conv => whnf
       first
         | refine And.intro (fun h => Bool.noConfusion (h : false = true)) (fun _ => ?_)
         | refine And.intro (fun _ => ?_) (fun h => Bool.noConfusion (h : true = false))
         | refine And.intro (by kernel_rfl) ?_
         | refine And.intro (fun h => ?_) (fun h => ?_)
         | refine Or.inl ?_
         | fail)
  all_goals refine Ends.mk (Or.inl rfl) (AV.weak.of_eq (congrArg AV.bool ?_))
  all_goals (simp_all [inS] <;> omega)
theorem Tryz.z232 (t : Int) : ACalls Tryz.prog 232 [.int .i64 t] (.bool (inS t 0 1000000)) := by
  refine ACalls.ofB Tryz.TT_ok Tryz.func232 rfl (by kernel_rfl) Tryz.mixed (Nat.le_of_ble_eq_true rfl) ?_
  intro F n' w0 m0 hG hro h1
  repeat' first
    | refine SPB.seq ?_
    | refine SPB.block ?_
    | refine SPB.draw hG Tryz.TT_ok Tryz.keep232 (by kernel_rfl) ?_
    | refine SPB.reg hG Tryz.TT_ok Tryz.keep232 (by kernel_rfl) ?_
    | refine SPB.skip hG Tryz.TT_ok ?_
    | refine SPB.label hG Tryz.TT_ok ?_
    | refine SPB.ret hG Tryz.TT_ok ?_
    | refine SPB.exit hG Tryz.TT_ok ?_
    | refine SPB.condT rfl ?_
    | refine SPB.condF rfl ?_
    | refine SPB.cond rfl (And.intro (fun h => ?_) (fun h => ?_))
    | (conv => whnf
       first
         | refine And.intro (fun h => Bool.noConfusion (h : false = true)) (fun _ => ?_)
         | refine And.intro (fun _ => ?_) (fun h => Bool.noConfusion (h : true = false))
         | refine And.intro (by kernel_rfl) ?_
         | refine And.intro (fun h => ?_) (fun h => ?_)
         | refine Or.inl ?_
         | fail)
  all_goals refine Ends.mk (Or.inl rfl) (AV.weak.of_eq (congrArg AV.bool ?_))
  all_goals (simp_all [inS] <;> omega)
theorem td3 (n : Int) : (0 ≤ n → n.tdiv 3 = n / 3) ∧ (n < 0 → n.tdiv 3 = -((-n) / 3)) := by
  refine ⟨fun h => Int.tdiv_eq_ediv_of_nonneg h, fun h => ?_⟩
  have e : n.tdiv 3 = -((-n).tdiv 3) := by rw [Int.neg_tdiv, Int.neg_neg]
  rw [e, Int.tdiv_eq_ediv_of_nonneg (by omega)]
def small (n : Int) : Prop := -1000000000 ≤ n ∧ n ≤ 1000000000
theorem third_eq {n : Int} (h : small n) : thirdS n = n / 3 := by
  obtain ⟨h1, h2⟩ := h
  obtain ⟨g1, g2⟩ := td3 n
  have e : w64 (n.tdiv 3) = n.tdiv 3 := w64_in (by omega) (by omega)
  unfold thirdS
  rw [e, w64_in (n := 3 * n.tdiv 3) (by omega) (by omega)]
  split
  · rw [w64_in (by omega) (by omega)]; omega
  · omega
theorem Tryz.z233 (n : Int) (h : small n) : ACalls Tryz.prog 233 [.int .i64 n] (.int .i64 (thirdS n)) := by
  obtain ⟨h1, h2⟩ := h
  obtain ⟨g1, g2⟩ := td3 n
  obtain ⟨g3, g4⟩ := td3 (2 - n)
  have e1 : IntKind.i64.wrap (2 - n) = 2 - n := w64_in (by omega) (by omega)
  have e2 : IntKind.i64.wrap ((2 - n).tdiv 3) = (2 - n).tdiv 3 := w64_in (by omega) (by omega)
  have e3 : IntKind.i64.wrap (0 - (2 - n).tdiv 3) = 0 - (2 - n).tdiv 3 := w64_in (by omega) (by omega)
  have e4 : IntKind.i64.wrap (n.tdiv 3) = n.tdiv 3 := w64_in (by omega) (by omega)
  have e5 := third_eq (n := n) ⟨h1, h2⟩
  refine ACalls.ofB Tryz.TT_ok Tryz.func233 rfl (by kernel_rfl) Tryz.mixed (Nat.le_of_ble_eq_true rfl) ?_
  intro F n' w0 m0 hG hro h1
  repeat' first
    | refine SPB.seq ?_
    | refine SPB.block ?_
    | refine SPB.draw hG Tryz.TT_ok Tryz.keep233 (by kernel_rfl) ?_
    | refine SPB.reg hG Tryz.TT_ok Tryz.keep233 (by kernel_rfl) ?_
    | refine SPB.skip hG Tryz.TT_ok ?_
    | refine SPB.label hG Tryz.TT_ok ?_
    | refine SPB.ret hG Tryz.TT_ok ?_
    | refine SPB.exit hG Tryz.TT_ok ?_
    | refine SPB.condT rfl ?_
    | refine SPB.condF rfl ?_
    | refine SPB.cond rfl (And.intro (fun h => ?_) (fun h => ?_))
    | (conv => whnf
       first
         | refine And.intro (fun h => Bool.noConfusion (h : false = true)) (fun _ => ?_)
         | refine And.intro (fun _ => ?_) (fun h => Bool.noConfusion (h : true = false))
         | refine And.intro (by kernel_rfl) ?_
         | refine And.intro (by decide) ?_
         | refine And.intro (fun h => ?_) (fun h => ?_)
         | refine Or.inl ?_
         | fail)
  · have := of_decide_eq_true (by assumption : decide (n ≥ 0) = true)
    exact Ends.mk (Or.inl rfl) (AV.weak.of_eq (congrArg (AV.int .i64) (by rw [e4, e5]; omega)))
  · have := of_decide_eq_false (by assumption : decide (n ≥ 0) = false)
    exact Ends.mk (Or.inl rfl) (AV.weak.of_eq (congrArg (AV.int .i64) (by rw [e1, e2, e3, e5]; omega)))
theorem Tryz.z205 (a b : Int) (ha : small a) (hb : small b) : ACalls Tryz.prog 205 [.int .i64 a, .int .i64 b] (.int .i64 (awayS a b)) := by
  obtain ⟨a1, a2⟩ := ha
  obtain ⟨b1, b2⟩ := hb
  have e1 : w64 (a - b) = a - b := w64_in (by omega) (by omega)
  have e2 : w64 (b - a) = b - a := w64_in (by omega) (by omega)
  have f1 : IntKind.i64.wrap (a - b) = a - b := e1
  have f2 : IntKind.i64.wrap (b - a) = b - a := e2
  refine ACalls.ofB Tryz.TT_ok Tryz.func205 rfl (by kernel_rfl) Tryz.mixed (Nat.le_of_ble_eq_true rfl) ?_
  intro F n' w0 m0 hG hro h1
  repeat' first
    | refine SPB.seq ?_
    | refine SPB.block ?_
    | refine SPB.draw hG Tryz.TT_ok Tryz.keep205 (by kernel_rfl) ?_
    | refine SPB.reg hG Tryz.TT_ok Tryz.keep205 (by kernel_rfl) ?_
    | refine SPB.skip hG Tryz.TT_ok ?_
    | refine SPB.label hG Tryz.TT_ok ?_
    | refine SPB.ret hG Tryz.TT_ok ?_
    | refine SPB.exit hG Tryz.TT_ok ?_
    | refine SPB.condT rfl ?_
    | refine SPB.condF rfl ?_
    | refine SPB.cond rfl (And.intro (fun h => ?_) (fun h => ?_))
    | (conv => whnf
       first
         | refine And.intro (fun h => Bool.noConfusion (h : false = true)) (fun _ => ?_)
         | refine And.intro (fun _ => ?_) (fun h => Bool.noConfusion (h : true = false))
         | refine And.intro (by kernel_rfl) ?_
         | refine And.intro (fun h => ?_) (fun h => ?_)
         | refine Or.inl ?_
         | fail)
  · have := of_decide_eq_true (by assumption : decide (a < b) = true)
    exact Ends.mk (Or.inl rfl) (AV.weak.of_eq (congrArg (AV.int .i64) (by unfold awayS; rw [f2, e1, e2]; omega)))
  · have := of_decide_eq_false (by assumption : decide (a < b) = false)
    exact Ends.mk (Or.inl rfl) (AV.weak.of_eq (congrArg (AV.int .i64) (by unfold awayS; rw [f1, e1, e2]; omega)))
theorem min_rng {t : Int} (h : inS t 0 1000000 = true) : 0 ≤ t ∧ t ≤ 1000000 := by simpa only [inS, Bool.and_eq_true, decide_eq_true_eq] using h
theorem day_rng {t : Int} (h : inS t 0 1000000 = true) : 0 ≤ dayS t ∧ dayS t < 360 := by
  have := min_rng h
  unfold dayS
  rw [w64_in (by rw [Int.tdiv_eq_ediv_of_nonneg this.1]; omega) (by rw [Int.tdiv_eq_ediv_of_nonneg this.1]; omega), Int.tdiv_eq_ediv_of_nonneg this.1]
  exact ⟨Int.tmod_nonneg _ (by omega), Int.tmod_lt_of_pos _ (by omega)⟩
theorem noon_arg {t : Int} (h : inS t 0 1000000 = true) : small (w64 (w64 (1440 - t.tmod 1440) * 100)) := by
  have := min_rng h
  have h1 : 0 ≤ t.tmod 1440 := Int.tmod_nonneg _ this.1
  have h2 : t.tmod 1440 < 1440 := Int.tmod_lt_of_pos _ (by omega)
  unfold small
  rw [w64_in (n := 1440 - t.tmod 1440) (by omega) (by omega), w64_in (by omega) (by omega)]
  omega
theorem noon_rng (t : Int) : small (noonS t) := by
  unfold noonS small
  generalize thirdS _ = q
  rcases Int.lt_or_le q 0 with h | h
  · have e : q.tmod 48000 = -((-q).tmod 48000) := by rw [Int.neg_tmod, Int.neg_neg]
    have h1 : 0 ≤ (-q).tmod 48000 := Int.tmod_nonneg _ (by omega)
    have h2 : (-q).tmod 48000 < 48000 := Int.tmod_lt_of_pos _ (by omega)
    omega
  · have h1 : 0 ≤ q.tmod 48000 := Int.tmod_nonneg _ h
    have h2 : q.tmod 48000 < 48000 := Int.tmod_lt_of_pos _ (by omega)
    omega
theorem Tryz.z202 (t : Int) (h : inS t 0 1000000 = true) : ACalls Tryz.prog 202 [.int .i64 t] (.tup [.int .i64 (noonS t), .int .i64 0]) := by
  have k := Tryz.z232 t
  rw [h] at k
  refine ACalls.ofB Tryz.TT_ok Tryz.func202 rfl (by kernel_rfl) Tryz.mixed (Nat.le_of_ble_eq_true rfl) ?_
  intro F n' w0 m0 hG hro h1
  repeat' first
    | refine SPB.seq ?_
    | refine SPB.block ?_
    | refine SPB.draw hG Tryz.TT_ok Tryz.keep202 (by kernel_rfl) ?_
    | refine SPB.reg hG Tryz.TT_ok Tryz.keep202 (by kernel_rfl) ?_
    | refine SPB.skip hG Tryz.TT_ok ?_
    | refine SPB.label hG Tryz.TT_ok ?_
    | refine SPB.ret hG Tryz.TT_ok ?_
    | refine SPB.exit hG Tryz.TT_ok ?_
    | refine SPB.condT rfl ?_
    | refine SPB.condF rfl ?_
    | refine SPB.cond rfl (And.intro (fun h => ?_) (fun h => ?_))
    | (conv => whnf
       first
         | refine And.intro (fun h => Bool.noConfusion (h : false = true)) (fun _ => ?_)
         | refine And.intro (fun _ => ?_) (fun h => Bool.noConfusion (h : true = false))
         | refine And.intro (by kernel_rfl) ?_
         | refine Exists.intro _ (And.intro (k) ?_)
         | refine Exists.intro _ (And.intro (Tryz.z233 _ (noon_arg h)) ?_)
         | refine And.intro (by decide) ?_
         | refine And.intro (fun h => ?_) (fun h => ?_)
         | refine Or.inl ?_
         | fail)
  all_goals exact Ends.mk (Or.inl rfl) (AV.weak.of_eq rfl)
theorem sm_arg {t : Int} (h : inS t 0 1000000 = true) : small (w64 (dayS t * 100)) ∧ small (w64 (w64 (180 - dayS t) * 100)) ∧ small (w64 (w64 (dayS t - 360) * 100)) := by
  have := day_rng h
  unfold small
  rw [w64_in (n := dayS t * 100) (by omega) (by omega), w64_in (n := 180 - dayS t) (by omega) (by omega), w64_in (n := (180 - dayS t) * 100) (by omega) (by omega), w64_in (n := dayS t - 360) (by omega) (by omega), w64_in (n := (dayS t - 360) * 100) (by omega) (by omega)]
  omega
theorem season_rng {t : Int} (h : inS t 0 1000000 = true) : small (seasonS t) := by
  have hd := day_rng h
  obtain ⟨h1, h2, h3⟩ := sm_arg h
  have e1 := third_eq h1
  have e2 := third_eq h2
  have e3 := third_eq h3
  rw [Int.mul_comm] at e1 e2 e3 h1 h2 h3
  unfold seasonS small at *
  split
  · rw [e1, w64_in (by omega) (by omega)]; omega
  · split
    · rw [e2, w64_in (by omega) (by omega)]; omega
    · rw [e3, w64_in (by omega) (by omega)]; omega
theorem Tryz.z203 (t : Int) (h : inS t 0 1000000 = true) : ACalls Tryz.prog 203 [.int .i64 t] (.tup [.int .i64 (seasonS t), .int .i64 0]) := by
  have k := Tryz.z232 t
  rw [h] at k
  obtain ⟨h1, h2, h3⟩ := sm_arg h
  have k1 := Tryz.z233 _ h1
  have k2 := Tryz.z233 _ h2
  have k3 := Tryz.z233 _ h3
  have m1 : w64 (100 * dayS t) = w64 (dayS t * 100) := by rw [Int.mul_comm]
  have m2 : w64 (100 * w64 (180 - dayS t)) = w64 (w64 (180 - dayS t) * 100) := by rw [Int.mul_comm]
  have m3 : w64 (100 * w64 (dayS t - 360)) = w64 (w64 (dayS t - 360) * 100) := by rw [Int.mul_comm]
  refine ACalls.ofB Tryz.TT_ok Tryz.func203 rfl (by kernel_rfl) Tryz.mixed (Nat.le_of_ble_eq_true rfl) ?_
  intro F n' w0 m0 hG hro h1
  repeat' first
    | refine SPB.seq ?_
    | refine SPB.block ?_
    | refine SPB.draw hG Tryz.TT_ok Tryz.keep203 (by kernel_rfl) ?_
    | refine SPB.reg hG Tryz.TT_ok Tryz.keep203 (by kernel_rfl) ?_
    | refine SPB.skip hG Tryz.TT_ok ?_
    | refine SPB.label hG Tryz.TT_ok ?_
    | refine SPB.ret hG Tryz.TT_ok ?_
    | refine SPB.exit hG Tryz.TT_ok ?_
    | refine SPB.condT rfl ?_
    | refine SPB.condF rfl ?_
    | refine SPB.cond rfl (And.intro (fun h => ?_) (fun h => ?_))
    | (conv => whnf
       first
         | refine And.intro (fun h => Bool.noConfusion (h : false = true)) (fun _ => ?_)
         | refine And.intro (fun _ => ?_) (fun h => Bool.noConfusion (h : true = false))
         | refine And.intro (by kernel_rfl) ?_
         | refine Exists.intro _ (And.intro (k) ?_)
         | refine Exists.intro _ (And.intro (k1) ?_)
         | refine Exists.intro _ (And.intro (k2) ?_)
         | refine Exists.intro _ (And.intro (k3) ?_)
         | refine And.intro (by decide) ?_
         | refine And.intro (fun h => ?_) (fun h => ?_)
         | refine Or.inl ?_
         | fail)
  · have hd : dayS t ≤ 90 := of_decide_eq_true (by assumption)
    exact Ends.mk (Or.inl rfl) (AV.weak.of_eq (congrArg (fun z => AV.tup [.int .i64 z, .int .i64 0]) (by rw [seasonS, if_pos hd, m1]; rfl)))
  · have hd : ¬ dayS t ≤ 90 := of_decide_eq_false (by assumption)
    have hd2 : dayS t ≤ 270 := of_decide_eq_true (by assumption)
    exact Ends.mk (Or.inl rfl) (AV.weak.of_eq (congrArg (fun z => AV.tup [.int .i64 z, .int .i64 0]) (by rw [seasonS, if_neg hd, if_pos hd2, m2]; rfl)))
  · have hd : ¬ dayS t ≤ 90 := of_decide_eq_false (by assumption)
    have hd2 : ¬ dayS t ≤ 270 := of_decide_eq_false (by assumption)
    exact Ends.mk (Or.inl rfl) (AV.weak.of_eq (congrArg (fun z => AV.tup [.int .i64 z, .int .i64 0]) (by rw [seasonS, if_neg hd, if_neg hd2, m3]; rfl)))
theorem Tryz.z204 (c : Int × Int) : ACalls Tryz.prog 204 [.agg (cellA c)] (.bool (cellS c)) := by
  refine ACalls.ofB Tryz.TT_ok Tryz.func204 rfl (by kernel_rfl) Tryz.mixed (Nat.le_of_ble_eq_true rfl) ?_
  intro F n' w0 m0 hG hro h1
  repeat' first
    | refine SPB.seq ?_
    | refine SPB.block ?_
    | refine SPB.draw hG Tryz.TT_ok Tryz.keep204 (by kernel_rfl) ?_
    | refine SPB.reg hG Tryz.TT_ok Tryz.keep204 (by kernel_rfl) ?_
    | refine SPB.skip hG Tryz.TT_ok ?_
    | refine SPB.label hG Tryz.TT_ok ?_
    | refine SPB.ret hG Tryz.TT_ok ?_
    | refine SPB.exit hG Tryz.TT_ok ?_
    | refine SPB.condT rfl ?_
    | refine SPB.condF rfl ?_
    | refine SPB.cond rfl (And.intro (fun h => ?_) (fun h => ?_))
    | (conv => whnf
       first
         | refine And.intro (fun h => Bool.noConfusion (h : false = true)) (fun _ => ?_)
         | refine And.intro (fun _ => ?_) (fun h => Bool.noConfusion (h : true = false))
         | refine And.intro (by kernel_rfl) ?_
         | refine And.intro (fun h => ?_) (fun h => ?_)
         | refine Or.inl ?_
         | fail)
  all_goals refine Ends.mk (Or.inl rfl) (AV.weak.of_eq (congrArg AV.bool ?_))
  all_goals (simp_all [cellS, inS] <;> omega)
theorem cell_rng {c : Int × Int} (h : cellS c = true) : 0 ≤ c.1 ∧ c.1 ≤ 47 ∧ 0 ≤ c.2 ∧ c.2 ≤ 23 := by
  simp only [cellS, inS, Bool.and_eq_true, decide_eq_true_eq] at h; omega
theorem Tryz.z171 (c : Int × Int) (t : Int) (h : inS t 0 1000000 = true) (hc : cellS c = true) : ACalls Tryz.prog 171 [.agg (cellA c), .int .i64 t] (.tup [.int .i64 (heightS c t), .int .i64 0]) := by
  have k204 := Tryz.z204 c
  rw [hc] at k204
  have hr := cell_rng hc
  have s1 : small (w64 (w64 (1000 * c.1) + 500)) := by unfold small; rw [w64_in (n := 1000 * c.1) (by omega) (by omega), w64_in (by omega) (by omega)]; omega
  have s2 : small (w64 (w64 (1000 * c.2) + 500)) := by unfold small; rw [w64_in (n := 1000 * c.2) (by omega) (by omega), w64_in (by omega) (by omega)]; omega
  have k1 := Tryz.z205 _ _ s1 (noon_rng t)
  have k2 := Tryz.z205 _ _ s2 (season_rng h)
  refine ACalls.ofB Tryz.TT_ok Tryz.func171 rfl (by kernel_rfl) Tryz.mixed (Nat.le_of_ble_eq_true rfl) ?_
  intro F n' w0 m0 hG hro h1
  repeat' first
    | refine SPB.seq ?_
    | refine SPB.block ?_
    | refine SPB.draw hG Tryz.TT_ok Tryz.keep171 (by kernel_rfl) ?_
    | refine SPB.reg hG Tryz.TT_ok Tryz.keep171 (by kernel_rfl) ?_
    | refine SPB.skip hG Tryz.TT_ok ?_
    | refine SPB.label hG Tryz.TT_ok ?_
    | refine SPB.ret hG Tryz.TT_ok ?_
    | refine SPB.exit hG Tryz.TT_ok ?_
    | refine SPB.condT rfl ?_
    | refine SPB.condF rfl ?_
    | refine SPB.cond rfl (And.intro (fun h => ?_) (fun h => ?_))
    | (conv => whnf
       first
         | refine And.intro (fun h => Bool.noConfusion (h : false = true)) (fun _ => ?_)
         | refine And.intro (fun _ => ?_) (fun h => Bool.noConfusion (h : true = false))
         | refine And.intro (by kernel_rfl) ?_
         | refine Exists.intro _ (And.intro (Tryz.z202 t h) ?_)
         | refine Exists.intro _ (And.intro (Tryz.z203 t h) ?_)
         | refine Exists.intro _ (And.intro (k204) ?_)
         | refine Exists.intro _ (And.intro (k1) ?_)
         | refine Exists.intro _ (And.intro (k2) ?_)
         | refine And.intro (by decide) ?_
         | refine And.intro (fun h => ?_) (fun h => ?_)
         | refine Or.inl ?_
         | fail)
  all_goals exact Ends.mk (Or.inl rfl) (AV.weak.of_eq (congrArg (fun z => AV.tup [.int .i64 z, .int .i64 0]) (by unfold heightS; simp only []; rw [Int.mul_comm 75]; rfl)))
theorem Tryz.z122 (c : Int × Int) (t : Int) (h : inS t 0 1000000 = true) (hc : cellS c = true) : ACalls Tryz.prog 122 [.agg (cellA c), .int .i64 t] (.bool (darkS c t)) := by
  refine ACalls.ofB Tryz.TT_ok Tryz.func122 rfl (by kernel_rfl) Tryz.mixed (Nat.le_of_ble_eq_true rfl) ?_
  intro F n' w0 m0 hG hro h1
  repeat' first
    | refine SPB.seq ?_
    | refine SPB.block ?_
    | refine SPB.draw hG Tryz.TT_ok Tryz.keep122 (by kernel_rfl) ?_
    | refine SPB.reg hG Tryz.TT_ok Tryz.keep122 (by kernel_rfl) ?_
    | refine SPB.skip hG Tryz.TT_ok ?_
    | refine SPB.label hG Tryz.TT_ok ?_
    | refine SPB.ret hG Tryz.TT_ok ?_
    | refine SPB.exit hG Tryz.TT_ok ?_
    | refine SPB.condT rfl ?_
    | refine SPB.condF rfl ?_
    | refine SPB.cond rfl (And.intro (fun h => ?_) (fun h => ?_))
    | (conv => whnf
       first
         | refine And.intro (fun h => Bool.noConfusion (h : false = true)) (fun _ => ?_)
         | refine And.intro (fun _ => ?_) (fun h => Bool.noConfusion (h : true = false))
         | refine And.intro (by kernel_rfl) ?_
         | refine Exists.intro _ (And.intro (Tryz.z171 c t h hc) ?_)
         | refine And.intro (fun h => ?_) (fun h => ?_)
         | refine Or.inl ?_
         | fail)
  all_goals exact Ends.mk (Or.inl rfl) (AV.weak.of_eq rfl)

set_option maxHeartbeats 4000000 in
theorem Tryz.z61 (s : Nat → Int) : ACalls Tryz.prog 61 [.agg (satA s)] (.bool (satS s)) := by
  refine ACalls.ofB Tryz.TT_ok Tryz.func61 rfl (by kernel_rfl) Tryz.mixed (Nat.le_of_ble_eq_true rfl) ?_
  intro F n' w0 m0 hG hro h1
  repeat' first
    | refine SPB.seq ?_
    | refine SPB.block ?_
    | refine SPB.draw hG Tryz.TT_ok Tryz.keep61 (by kernel_rfl) ?_
    | refine SPB.reg hG Tryz.TT_ok Tryz.keep61 (by kernel_rfl) ?_
    | refine SPB.skip hG Tryz.TT_ok ?_
    | refine SPB.label hG Tryz.TT_ok ?_
    | refine SPB.ret hG Tryz.TT_ok ?_
    | refine SPB.exit hG Tryz.TT_ok ?_
    | refine SPB.condT rfl ?_
    | refine SPB.condF rfl ?_
    | refine SPB.cond rfl (And.intro (fun h => ?_) (fun h => ?_))
    | (conv => whnf
       first
         | refine And.intro (fun h => Bool.noConfusion (h : false = true)) (fun _ => ?_)
         | refine And.intro (fun _ => ?_) (fun h => Bool.noConfusion (h : true = false))
         | refine And.intro (by kernel_rfl) ?_
         | refine Exists.intro _ (And.intro (Tryz.z117 _ _ _) ?_)
         | refine Exists.intro _ (And.intro (Tryz.c18 (fun i => s (i + 2))) ?_)
         | refine And.intro (fun h => ?_) (fun h => ?_)
         | refine Or.inl ?_
         | fail)
  all_goals refine Ends.mk (Or.inl rfl) (AV.weak.of_eq (congrArg AV.bool ?_))
  all_goals (simp only [Bool.not_eq_true', Bool.not_eq_false'] at *)
  all_goals (simp only [satS, *, Bool.true_and, Bool.and_true, Bool.false_and, Bool.and_false])
theorem Tryz.z63 (a b : Int) : ACalls Tryz.prog 63 [.agg (spellA a b)] (.bool (rightS a b)) := by
  have e : rightS a b = (inS a 0 1000000 && (inS b 0 1000000 && decide (a < b))) := by
    unfold rightS inS
    by_cases h : -9223372036854775807 ≤ b ∧ b ≤ 9223372036854775807
    · rw [w64_in (by omega) (by omega), Bool.eq_iff_iff]; simp only [Bool.and_eq_true, decide_eq_true_eq]; omega
    · rw [Bool.eq_iff_iff]; simp only [Bool.and_eq_true, decide_eq_true_eq]; omega
  refine ACalls.ofB Tryz.TT_ok Tryz.func63 rfl (by kernel_rfl) Tryz.mixed (Nat.le_of_ble_eq_true rfl) ?_
  intro F n' w0 m0 hG hro h1
  repeat' first
    | refine SPB.seq ?_
    | refine SPB.block ?_
    | refine SPB.draw hG Tryz.TT_ok Tryz.keep63 (by kernel_rfl) ?_
    | refine SPB.reg hG Tryz.TT_ok Tryz.keep63 (by kernel_rfl) ?_
    | refine SPB.skip hG Tryz.TT_ok ?_
    | refine SPB.label hG Tryz.TT_ok ?_
    | refine SPB.ret hG Tryz.TT_ok ?_
    | refine SPB.exit hG Tryz.TT_ok ?_
    | refine SPB.condT rfl ?_
    | refine SPB.condF rfl ?_
    | refine SPB.cond rfl (And.intro (fun h => ?_) (fun h => ?_))
    | (conv => whnf
       first
         | refine And.intro (fun h => Bool.noConfusion (h : false = true)) (fun _ => ?_)
         | refine And.intro (fun _ => ?_) (fun h => Bool.noConfusion (h : true = false))
         | refine And.intro (by kernel_rfl) ?_
         | refine Exists.intro _ (And.intro (Tryz.z65 _ _ _) ?_)
         | refine And.intro (fun h => ?_) (fun h => ?_)
         | refine Or.inl ?_
         | fail)
  all_goals refine Ends.mk (Or.inl rfl) (AV.weak.of_eq (congrArg AV.bool ?_))
  all_goals (rw [e]; simp only [*, Bool.true_and, Bool.and_true, Bool.false_and, Bool.and_false])
end Go.Proofs


namespace Go.Proofs
open Go Go.AI
set_option maxRecDepth 10000
set_option linter.unusedSimpArgs false

theorem load_at {l : List Load3} {i : Nat} (h : i < l.length) : (l.map loadA)[(i : Int).toNat]? = some [.int .i64 (l.getD i ⟨0, 0, 0⟩).k, .int .i64 (l.getD i ⟨0, 0, 0⟩).a, .int .i64 (l.getD i ⟨0, 0, 0⟩).b] := by simp [List.getElem?_eq_getElem h]; rfl
set_option maxHeartbeats 4000000 in
theorem Tryz.z62 (l : List Load3) (hl : l.length ≤ 1000000) : ACalls Tryz.prog 62 [loadsA l] (.bool (properS l)) := by
  refine ACalls.ofB Tryz.TT_ok Tryz.func62 rfl (by kernel_rfl) Tryz.mixed (Nat.le_of_ble_eq_true rfl) ?_
  intro F n' w0 m0 hG hro h1
  repeat' first
    | refine SPB.seq ?_
    | refine SPB.block ?_
    | refine SPB.draw hG Tryz.TT_ok Tryz.keep62 (by kernel_rfl) ?_
    | refine SPB.reg hG Tryz.TT_ok Tryz.keep62 (by kernel_rfl) ?_
    | refine SPB.skip hG Tryz.TT_ok ?_
    | refine SPB.label hG Tryz.TT_ok ?_
    | refine SPB.ret hG Tryz.TT_ok ?_
    | refine SPB.exit hG Tryz.TT_ok ?_
    | refine SPB.condT rfl ?_
    | refine SPB.condF rfl ?_
    | refine SPB.cond rfl (And.intro (fun h => ?_) (fun h => ?_))
    | (conv => whnf
       first
         | refine And.intro (fun h => Bool.noConfusion (h : false = true)) (fun _ => ?_)
         | refine And.intro (fun _ => ?_) (fun h => Bool.noConfusion (h : true = false))
         | refine And.intro (by kernel_rfl) ?_
         | refine And.intro (fun h => ?_) (fun h => ?_)
         | refine Or.inl ?_
         | fail)
  · have h64 : ¬ l.length ≤ 64 := by have := of_decide_eq_true (by assumption : decide (((l.map loadA).length : Int) > 64) = true); simp at this; omega
    exact Ends.mk (Or.inl rfl) (AV.weak.of_eq (congrArg AV.bool (by rw [properS, decide_eq_false h64]; rfl)))
  · have h64 : l.length ≤ 64 := by have := of_decide_eq_false (by assumption : decide (((l.map loadA).length : Int) > 64) = false); simp at this; omega
    refine SPB.loop (X := Nat) (fun i => ⟨[(3, .int .i64 i), (0, loadsA l)], []⟩)
      (fun i => i ≤ l.length ∧ okL (l.take i) (l.drop i) = okL [] l) (fun i => l.length - i) 0 ⟨Nat.zero_le _, rfl⟩ (St.le.of ?_ ?_) (fun i hi => ?_)
    · repeat' (first | exact trivial | refine And.intro rfl ?_)
    · repeat' (first | exact trivial | refine And.intro rfl ?_)
    · obtain ⟨hi, hok⟩ := hi
      by_cases hlt : i < l.length
      · have bbk : decide ((i : Int) < ((l.map loadA).length : Int)) = false → False := fun h => by have := of_decide_eq_false h; rw [List.length_map] at this; omega
        have hx := load_at hlt
        have hst := okL_step hlt
        generalize l.getD i ⟨0, 0, 0⟩ = x at hx hst
        have bad : loadOK (l.take i) x = false → false = properS l := fun h => by rw [hst, h, Bool.false_and] at hok; rw [properS, ← hok, Bool.and_false]
        repeat' first
          | exact (bbk (by assumption)).elim
          | refine SPB.seq ?_
          | refine SPB.block ?_
          | refine SPB.draw hG Tryz.TT_ok Tryz.keep62 (by kernel_rfl) ?_
          | refine SPB.reg hG Tryz.TT_ok Tryz.keep62 (by kernel_rfl) ?_
          | refine SPB.skip hG Tryz.TT_ok ?_
          | refine SPB.label hG Tryz.TT_ok ?_
          | refine SPB.ret hG Tryz.TT_ok ?_
          | refine SPB.exit hG Tryz.TT_ok ?_
          | refine SPB.condT rfl ?_
          | refine SPB.condF rfl ?_
          | refine SPB.cond rfl (And.intro (fun h => ?_) (fun h => ?_))
          | (conv => whnf
             first
               | refine And.intro (fun h => Bool.noConfusion (h : false = true)) (fun _ => ?_)
               | refine And.intro (fun _ => ?_) (fun h => Bool.noConfusion (h : true = false))
               | refine And.intro (by kernel_rfl) ?_
               | refine And.intro (Int.natCast_nonneg i) (Exists.intro _ (And.intro hx ?_))
               | refine Exists.intro _ (And.intro (Tryz.z65 _ _ _) ?_)
               | refine Exists.intro _ (And.intro (Tryz.z63 _ _) ?_)
               | refine And.intro (fun h => ?_) (fun h => ?_)
               | refine Or.inl ?_
               | fail)
        · exact Ends.mk (Or.inl rfl) (AV.weak.of_eq (congrArg AV.bool (bad (by simp_all [loadOK]))))
        · exact Ends.mk (Or.inl rfl) (AV.weak.of_eq (congrArg AV.bool (bad (by simp_all [loadOK]))))
        · have g1 : inS x.k 1 2 = true := notF (by assumption)
          have g2 : rightS x.a x.b = true := notF (by assumption)
          refine SPB.loop (X := Nat) (fun k => ⟨[(4, .int .i64 k), (3, .int .i64 i), (0, loadsA l)], []⟩)
            (fun k => k ≤ i ∧ (l.take k).any (overS x) = false) (fun k => i - k) 0 ⟨Nat.zero_le _, rfl⟩ (St.le.of ?_ ?_) (fun k hk => ?_)
          · repeat' (first | exact trivial | refine And.intro rfl ?_)
          · repeat' (first | exact trivial | refine And.intro rfl ?_)
          · obtain ⟨hk, hany⟩ := hk
            by_cases hki : k < i
            · have bbi : decide ((k : Int) < (i : Int)) = false → False := fun h => by have := of_decide_eq_false h; omega
              have hy := load_at (l := l) (i := k) (by omega)
              have hsk : l.take (k + 1) = l.take k ++ [l.getD k ⟨0, 0, 0⟩] := by rw [List.take_add_one, List.getD_eq_getElem?_getD, List.getElem?_eq_getElem (show k < l.length by omega)]; rfl
              have hin : l.getD k ⟨0, 0, 0⟩ ∈ l.take i := by
                rw [List.getD_eq_getElem?_getD, List.getElem?_eq_getElem (show k < l.length by omega)]
                exact List.mem_iff_getElem?.2 ⟨k, by rw [List.getElem?_take, if_pos hki, List.getElem?_eq_getElem (show k < l.length by omega)]; rfl⟩
              generalize l.getD k ⟨0, 0, 0⟩ = y at hy hsk hin
              have nxt : overS x y = false → (l.take (k + 1)).any (overS x) = false := fun h => by rw [hsk, List.any_append, hany]; simp [h]
              have hbad : overS x y = true → loadOK (l.take i) x = false := fun h => by
                have : (l.take i).any (overS x) = true := List.any_eq_true.2 ⟨y, hin, h⟩
                simp [loadOK, this]
              repeat' first
                | exact (bbi (by assumption)).elim
                | refine SPB.seq ?_
                | refine SPB.block ?_
                | refine SPB.draw hG Tryz.TT_ok Tryz.keep62 (by kernel_rfl) ?_
                | refine SPB.reg hG Tryz.TT_ok Tryz.keep62 (by kernel_rfl) ?_
                | refine SPB.skip hG Tryz.TT_ok ?_
                | refine SPB.label hG Tryz.TT_ok ?_
                | refine SPB.ret hG Tryz.TT_ok ?_
                | refine SPB.exit hG Tryz.TT_ok ?_
                | refine SPB.condT rfl ?_
                | refine SPB.condF rfl ?_
                | refine SPB.cond rfl (And.intro (fun h => ?_) (fun h => ?_))
                | (conv => whnf
                   first
                     | refine And.intro (fun h => Bool.noConfusion (h : false = true)) (fun _ => ?_)
                     | refine And.intro (fun _ => ?_) (fun h => Bool.noConfusion (h : true = false))
                     | refine And.intro (by kernel_rfl) ?_
                     | refine And.intro (Int.natCast_nonneg i) (Exists.intro _ (And.intro hx ?_))
                     | refine And.intro (Int.natCast_nonneg k) (Exists.intro _ (And.intro hy ?_))
                     | refine And.intro (fun h => ?_) (fun h => ?_)
                     | refine Or.inl ?_
                     | fail)
              all_goals first
                | exact Ends.mk (Or.inl rfl) (AV.weak.of_eq (congrArg AV.bool (bad (hbad (by simp_all [overS])))))
                | (refine Exists.intro (k + 1) (And.intro ⟨hki, nxt (by simp_all [overS] <;> omega)⟩ (And.intro (by omega) (St.le.of ?_ ?_)))
                   · refine And.intro (congrArg some (le_next (by omega))) ?_
                     repeat' (first | exact trivial | refine And.intro rfl ?_)
                   · repeat' (first | exact trivial | refine And.intro rfl ?_))
            · have hke : k = i := by omega
              subst hke
              have bbi : decide ((k : Int) < (k : Int)) = true → False := fun h => by have := of_decide_eq_true h; omega
              have hgood : loadOK (l.take k) x = true := by simp [loadOK, g1, g2, hany]
              repeat' first
                | exact (bbi (by assumption)).elim
                | refine SPB.seq ?_
                | refine SPB.block ?_
                | refine SPB.draw hG Tryz.TT_ok Tryz.keep62 (by kernel_rfl) ?_
                | refine SPB.reg hG Tryz.TT_ok Tryz.keep62 (by kernel_rfl) ?_
                | refine SPB.skip hG Tryz.TT_ok ?_
                | refine SPB.label hG Tryz.TT_ok ?_
                | refine SPB.ret hG Tryz.TT_ok ?_
                | refine SPB.exit hG Tryz.TT_ok ?_
                | refine SPB.condT rfl ?_
                | refine SPB.condF rfl ?_
                | refine SPB.cond rfl (And.intro (fun h => ?_) (fun h => ?_))
                | (conv => whnf
                   first
                     | refine And.intro (fun h => Bool.noConfusion (h : false = true)) (fun _ => ?_)
                     | refine And.intro (fun _ => ?_) (fun h => Bool.noConfusion (h : true = false))
                     | refine And.intro (by kernel_rfl) ?_
                     | refine And.intro (fun h => ?_) (fun h => ?_)
                     | refine Or.inl ?_
                     | fail)
              all_goals
                refine Exists.intro (k + 1) (And.intro ⟨hlt, by rw [← hok, hst, hgood, Bool.true_and]⟩ (And.intro (by omega) (St.le.of ?_ ?_)))
                · refine And.intro (congrArg some (le_next (by omega))) ?_
                  repeat' (first | exact trivial | refine And.intro rfl ?_)
                · repeat' (first | exact trivial | refine And.intro rfl ?_)
      · have hge : i = l.length := by omega
        have bbk : decide ((i : Int) < ((l.map loadA).length : Int)) = true → False := fun h => by have := of_decide_eq_true h; rw [List.length_map] at this; omega
        repeat' first
          | exact (bbk (by assumption)).elim
          | refine SPB.seq ?_
          | refine SPB.block ?_
          | refine SPB.draw hG Tryz.TT_ok Tryz.keep62 (by kernel_rfl) ?_
          | refine SPB.reg hG Tryz.TT_ok Tryz.keep62 (by kernel_rfl) ?_
          | refine SPB.skip hG Tryz.TT_ok ?_
          | refine SPB.label hG Tryz.TT_ok ?_
          | refine SPB.ret hG Tryz.TT_ok ?_
          | refine SPB.exit hG Tryz.TT_ok ?_
          | refine SPB.condT rfl ?_
          | refine SPB.condF rfl ?_
          | refine SPB.cond rfl (And.intro (fun h => ?_) (fun h => ?_))
          | (conv => whnf
             first
               | refine And.intro (fun h => Bool.noConfusion (h : false = true)) (fun _ => ?_)
               | refine And.intro (fun _ => ?_) (fun h => Bool.noConfusion (h : true = false))
               | refine And.intro (by kernel_rfl) ?_
               | refine And.intro (fun h => ?_) (fun h => ?_)
               | refine Or.inl ?_
               | fail)
        all_goals
          rw [List.drop_of_length_le (by omega)] at hok
          refine Ends.mk (Or.inl rfl) (AV.weak.of_eq (congrArg AV.bool ?_))
          rw [properS, decide_eq_true h64, ← hok]; rfl
theorem Tryz.z23 (s : Nat → Int) (l : List Load3) (a b : Int) (hl : l.length ≤ 1000000) : ACalls Tryz.prog 23 [.agg (satA s), loadsA l, .agg (spellA a b)] (.bool (validS s l a b)) := by
  refine ACalls.ofB Tryz.TT_ok Tryz.func23 rfl (by kernel_rfl) Tryz.mixed (Nat.le_of_ble_eq_true rfl) ?_
  intro F n' w0 m0 hG hro h1
  repeat' first
    | refine SPB.seq ?_
    | refine SPB.block ?_
    | refine SPB.draw hG Tryz.TT_ok Tryz.keep23 (by kernel_rfl) ?_
    | refine SPB.reg hG Tryz.TT_ok Tryz.keep23 (by kernel_rfl) ?_
    | refine SPB.skip hG Tryz.TT_ok ?_
    | refine SPB.label hG Tryz.TT_ok ?_
    | refine SPB.ret hG Tryz.TT_ok ?_
    | refine SPB.exit hG Tryz.TT_ok ?_
    | refine SPB.condT rfl ?_
    | refine SPB.condF rfl ?_
    | refine SPB.cond rfl (And.intro (fun h => ?_) (fun h => ?_))
    | (conv => whnf
       first
         | refine And.intro (fun h => Bool.noConfusion (h : false = true)) (fun _ => ?_)
         | refine And.intro (fun _ => ?_) (fun h => Bool.noConfusion (h : true = false))
         | refine And.intro (by kernel_rfl) ?_
         | refine Exists.intro _ (And.intro (Tryz.z61 s) ?_)
         | refine Exists.intro _ (And.intro (Tryz.z62 l hl) ?_)
         | refine Exists.intro _ (And.intro (Tryz.z63 _ _) ?_)
         | refine And.intro (fun h => ?_) (fun h => ?_)
         | refine Or.inl ?_
         | fail)
  all_goals refine Ends.mk (Or.inl rfl) (AV.weak.of_eq (congrArg AV.bool ?_))
  all_goals (have hw : w64 (b - a) = IntKind.i64.wrap (b - a) := rfl)
  all_goals (simp only [validS, *, hw, Bool.true_and, Bool.and_true, Bool.false_and, Bool.and_false])
theorem Tryz.z68 (s : Nat → Int) (l : List Load3) (t : Int) (hl : l.length ≤ 1000) : ACalls Tryz.prog 68 [.agg (satA s), loadsA l, .int .i64 t] (.int .i64 (drainS s l t)) := by
  refine ACalls.ofB Tryz.TT_ok Tryz.func68 rfl (by kernel_rfl) Tryz.mixed (Nat.le_of_ble_eq_true rfl) ?_
  intro F n' w0 m0 hG hro h1
  repeat' first
    | refine SPB.seq ?_
    | refine SPB.block ?_
    | refine SPB.draw hG Tryz.TT_ok Tryz.keep68 (by kernel_rfl) ?_
    | refine SPB.reg hG Tryz.TT_ok Tryz.keep68 (by kernel_rfl) ?_
    | refine SPB.skip hG Tryz.TT_ok ?_
    | refine SPB.label hG Tryz.TT_ok ?_
    | refine SPB.ret hG Tryz.TT_ok ?_
    | refine SPB.exit hG Tryz.TT_ok ?_
    | refine SPB.condT rfl ?_
    | refine SPB.condF rfl ?_
    | refine SPB.cond rfl (And.intro (fun h => ?_) (fun h => ?_))
    | (conv => whnf
       first
         | refine And.intro (fun h => Bool.noConfusion (h : false = true)) (fun _ => ?_)
         | refine And.intro (fun _ => ?_) (fun h => Bool.noConfusion (h : true = false))
         | refine And.intro (by kernel_rfl) ?_
         | refine And.intro (fun h => ?_) (fun h => ?_)
         | refine Or.inl ?_
         | fail)
  refine SPB.loop (X := Nat) (fun i => ⟨[(8, .int .i64 i), (7, .int .i64 (drainS s (l.take i) t)), (3, .loc 3 0), (2, .int .i64 t), (1, loadsA l)], [(3, satA s)]⟩)
    (fun i => i ≤ l.length) (fun i => l.length - i) 0 (Nat.zero_le _) (St.le.of ?_ ?_) (fun i hi => ?_)
  · repeat' (first | exact trivial | refine And.intro rfl ?_)
  · repeat' (first | exact trivial | refine And.intro rfl ?_)
  · by_cases hlt : i < l.length
    · have bbk : decide ((i : Int) < ((l.map loadA).length : Int)) = false → False := fun h => by have := of_decide_eq_false h; rw [List.length_map] at this; omega
      have hx := load_at hlt
      have hs : l.take (i + 1) = l.take i ++ [l.getD i ⟨0, 0, 0⟩] := by rw [List.take_add_one, List.getD_eq_getElem?_getD, List.getElem?_eq_getElem hlt]; rfl
      generalize l.getD i ⟨0, 0, 0⟩ = x at hx hs
      repeat' first
        | exact (bbk (by assumption)).elim
        | refine SPB.seq ?_
        | refine SPB.block ?_
        | refine SPB.draw hG Tryz.TT_ok Tryz.keep68 (by kernel_rfl) ?_
        | refine SPB.reg hG Tryz.TT_ok Tryz.keep68 (by kernel_rfl) ?_
        | refine SPB.skip hG Tryz.TT_ok ?_
        | refine SPB.label hG Tryz.TT_ok ?_
        | refine SPB.ret hG Tryz.TT_ok ?_
        | refine SPB.exit hG Tryz.TT_ok ?_
        | refine SPB.condT rfl ?_
        | refine SPB.condF rfl ?_
        | refine SPB.cond rfl (And.intro (fun h => ?_) (fun h => ?_))
        | (conv => whnf
           first
             | refine And.intro (fun h => Bool.noConfusion (h : false = true)) (fun _ => ?_)
             | refine And.intro (fun _ => ?_) (fun h => Bool.noConfusion (h : true = false))
             | refine And.intro (by kernel_rfl) ?_
             | refine And.intro (Int.natCast_nonneg i) (Exists.intro _ (And.intro hx ?_))
             | refine And.intro (fun h => ?_) (fun h => ?_)
             | refine Or.inl ?_
             | fail)
      all_goals
        refine Exists.intro (i + 1) (And.intro hlt (And.intro (by omega) (St.le.of ?_ ?_)))
        · refine And.intro (congrArg some (le_next (by omega))) (And.intro (congrArg (fun z => some (AV.int .i64 z)) ?_) ?_)
          · rw [hs, drainS_snoc]
            unfold drStep holdS costS
            have hks : ∀ v : Int, (x.k == v) = decide (x.k = v) := fun v => by rw [Bool.eq_iff_iff]; simp
            first
              | (rw [if_pos (by simp_all), if_pos (by simp_all)]; rfl)
              | (rw [if_pos (by simp_all), if_neg (by simp_all)]; rfl)
              | (rw [if_neg (by simp_all <;> (intros; omega))])
          · repeat' (first | exact trivial | refine And.intro rfl ?_)
        · repeat' (first | exact trivial | refine And.intro rfl ?_)
    · have hge : i = l.length := by omega
      subst hge
      have bbk : decide (((l.length : Nat) : Int) < ((l.map loadA).length : Int)) = true → False := fun h => by have := of_decide_eq_true h; rw [List.length_map] at this; omega
      repeat' first
        | exact (bbk (by assumption)).elim
        | refine SPB.seq ?_
        | refine SPB.block ?_
        | refine SPB.draw hG Tryz.TT_ok Tryz.keep68 (by kernel_rfl) ?_
        | refine SPB.reg hG Tryz.TT_ok Tryz.keep68 (by kernel_rfl) ?_
        | refine SPB.skip hG Tryz.TT_ok ?_
        | refine SPB.label hG Tryz.TT_ok ?_
        | refine SPB.ret hG Tryz.TT_ok ?_
        | refine SPB.exit hG Tryz.TT_ok ?_
        | refine SPB.condT rfl ?_
        | refine SPB.condF rfl ?_
        | refine SPB.cond rfl (And.intro (fun h => ?_) (fun h => ?_))
        | (conv => whnf
           first
             | refine And.intro (fun h => Bool.noConfusion (h : false = true)) (fun _ => ?_)
             | refine And.intro (fun _ => ?_) (fun h => Bool.noConfusion (h : true = false))
             | refine And.intro (by kernel_rfl) ?_
             | refine And.intro (fun h => ?_) (fun h => ?_)
             | refine Or.inl ?_
             | fail)
      all_goals (rw [List.take_length]; exact Ends.mk (Or.inl rfl) (AV.weak.of_eq rfl))
theorem Tryz.z28 (s : Nat → Int) (l : List Load3) (t : Int) (hl : l.length ≤ 1000000) : ACalls Tryz.prog 28 [.agg (satA s), loadsA l, .int .i64 t] (.int .i64 (drainV s l t)) := by
  by_cases h : (properS l && satS s) = true
  · have h1 : properS l = true := by simp only [Bool.and_eq_true] at h; exact h.1
    have h2 : satS s = true := by simp only [Bool.and_eq_true] at h; exact h.2
    have k62 := Tryz.z62 l hl
    have k61 := Tryz.z61 s
    rw [h1] at k62
    rw [h2] at k61
    have k68 := Tryz.z68 s l t (by have := proper_len h1; omega)
    refine ACalls.ofB Tryz.TT_ok Tryz.func28 rfl (by kernel_rfl) Tryz.mixed (Nat.le_of_ble_eq_true rfl) ?_
    intro F n' w0 m0 hG hro h1
    repeat' first
      | refine SPB.seq ?_
      | refine SPB.block ?_
      | refine SPB.draw hG Tryz.TT_ok Tryz.keep28 (by kernel_rfl) ?_
      | refine SPB.reg hG Tryz.TT_ok Tryz.keep28 (by kernel_rfl) ?_
      | refine SPB.skip hG Tryz.TT_ok ?_
      | refine SPB.label hG Tryz.TT_ok ?_
      | refine SPB.ret hG Tryz.TT_ok ?_
      | refine SPB.exit hG Tryz.TT_ok ?_
      | refine SPB.condT rfl ?_
      | refine SPB.condF rfl ?_
      | refine SPB.cond rfl (And.intro (fun h => ?_) (fun h => ?_))
      | (conv => whnf
         first
           | refine And.intro (fun h => Bool.noConfusion (h : false = true)) (fun _ => ?_)
           | refine And.intro (fun _ => ?_) (fun h => Bool.noConfusion (h : true = false))
           | refine And.intro (by kernel_rfl) ?_
           | refine Exists.intro _ (And.intro (k62) ?_)
           | refine Exists.intro _ (And.intro (k61) ?_)
           | refine Exists.intro _ (And.intro (k68) ?_)
           | refine And.intro (fun h => ?_) (fun h => ?_)
           | refine Or.inl ?_
           | fail)
    all_goals exact Ends.mk (Or.inl rfl) (AV.weak.of_eq (congrArg (AV.int .i64) (by rw [drainV, if_pos h])))
  · have k62 := Tryz.z62 l hl
    have k61 := Tryz.z61 s
    have hz : drainV s l t = 0 := by rw [drainV, if_neg h]
    rw [hz]
    cases h1 : satS s
    · rw [h1] at k61
      refine ACalls.ofB Tryz.TT_ok Tryz.func28 rfl (by kernel_rfl) Tryz.mixed (Nat.le_of_ble_eq_true rfl) ?_
      intro F n' w0 m0 hG hro h1
      repeat' first
        | refine SPB.seq ?_
        | refine SPB.block ?_
        | refine SPB.draw hG Tryz.TT_ok Tryz.keep28 (by kernel_rfl) ?_
        | refine SPB.reg hG Tryz.TT_ok Tryz.keep28 (by kernel_rfl) ?_
        | refine SPB.skip hG Tryz.TT_ok ?_
        | refine SPB.label hG Tryz.TT_ok ?_
        | refine SPB.ret hG Tryz.TT_ok ?_
        | refine SPB.exit hG Tryz.TT_ok ?_
        | refine SPB.condT rfl ?_
        | refine SPB.condF rfl ?_
        | refine SPB.cond rfl (And.intro (fun h => ?_) (fun h => ?_))
        | (conv => whnf
           first
             | refine And.intro (fun h => Bool.noConfusion (h : false = true)) (fun _ => ?_)
             | refine And.intro (fun _ => ?_) (fun h => Bool.noConfusion (h : true = false))
             | refine And.intro (by kernel_rfl) ?_
             | refine Exists.intro _ (And.intro (k61) ?_)
             | refine Exists.intro _ (And.intro (k62) ?_)
             | refine And.intro (fun h => ?_) (fun h => ?_)
             | refine Or.inl ?_
             | fail)
      all_goals exact Ends.mk (Or.inl rfl) (AV.weak.of_eq rfl)
    · have h2 : properS l = false := by rw [h1] at h; simpa using h
      rw [h1] at k61
      rw [h2] at k62
      refine ACalls.ofB Tryz.TT_ok Tryz.func28 rfl (by kernel_rfl) Tryz.mixed (Nat.le_of_ble_eq_true rfl) ?_
      intro F n' w0 m0 hG hro h1
      repeat' first
        | refine SPB.seq ?_
        | refine SPB.block ?_
        | refine SPB.draw hG Tryz.TT_ok Tryz.keep28 (by kernel_rfl) ?_
        | refine SPB.reg hG Tryz.TT_ok Tryz.keep28 (by kernel_rfl) ?_
        | refine SPB.skip hG Tryz.TT_ok ?_
        | refine SPB.label hG Tryz.TT_ok ?_
        | refine SPB.ret hG Tryz.TT_ok ?_
        | refine SPB.exit hG Tryz.TT_ok ?_
        | refine SPB.condT rfl ?_
        | refine SPB.condF rfl ?_
        | refine SPB.cond rfl (And.intro (fun h => ?_) (fun h => ?_))
        | (conv => whnf
           first
             | refine And.intro (fun h => Bool.noConfusion (h : false = true)) (fun _ => ?_)
             | refine And.intro (fun _ => ?_) (fun h => Bool.noConfusion (h : true = false))
             | refine And.intro (by kernel_rfl) ?_
             | refine Exists.intro _ (And.intro (k61) ?_)
             | refine Exists.intro _ (And.intro (k62) ?_)
             | refine And.intro (fun h => ?_) (fun h => ?_)
             | refine Or.inl ?_
             | fail)
      all_goals exact Ends.mk (Or.inl rfl) (AV.weak.of_eq rfl)
theorem lit_all {o : Nat → Int} (h : PV o) {t : Int} (h1 : 0 ≤ t) (h2 : t ≤ 1000000) : (litS o t = true ↔ ∀ d, -(o 6) ≤ d → d ≤ o 6 → darkS (celW o (t - d)) t = false) := by
  have s1 := h.s1
  have s2 := h.s2
  constructor
  · intro hl d g1 g2
    simp only [litS, Bool.and_eq_true, Bool.not_eq_true', List.any_eq_false] at hl
    have hm := (could_mem' (o := o) (t := t) ⟨h1, by omega⟩ ⟨s1, s2⟩ (celW o (t - d))).2 ⟨t - d, by omega, by omega, rfl⟩
    simpa using hl.2 _ hm
  · intro hd
    simp only [litS, Bool.and_eq_true, Bool.not_eq_true', List.any_eq_false]
    refine ⟨atS_ok h h1 h2 (by omega) (by omega), fun y hy => ?_⟩
    obtain ⟨d, d1, d2, rfl⟩ := (could_mem' (o := o) (t := t) ⟨h1, by omega⟩ ⟨s1, s2⟩ y).1 hy
    have := hd (t - d) (by omega) (by omega)
    rw [show t - (t - d) = d by omega] at this
    simpa using this
theorem Tryz.z66 (s : Nat → Int) (t : Int) (hv : PV (orbO s)) (hta : 0 ≤ t) (htb : t ≤ 1000000) : ACalls Tryz.prog 66 [.agg (satA s), .int .i64 t] (.bool (litS (orbO s) t)) := by
  have s1 : 0 ≤ s 8 := hv.s1
  have s2 : s 8 ≤ 10 := hv.s2
  have hall := lit_all hv hta htb
  have hlk : ∀ j : Nat, (j : Int) ≤ 2 * s 8 → ACalls Tryz.prog 121 [.agg (orbA (orbO s)), .int .i64 t, .int .i64 ((j : Int) - s 8)] (.tup [.agg (cellA (celW (orbO s) (t - ((j : Int) - s 8)))), .int .i64 0]) := fun j hj => by
    have h := Tryz.c25 (orbO s) t ((j : Int) - s 8)
    have ha := atS_ok hv hta htb (show -10 ≤ (j : Int) - s 8 by omega) (show (j : Int) - s 8 ≤ 10 by omega)
    rw [ha, show celV (orbO s) t ((j : Int) - s 8) = celW (orbO s) (t - ((j : Int) - s 8)) from by rw [celV, if_pos ha, w64_in (by omega) (by omega)]] at h
    exact h
  refine ACalls.ofB Tryz.TT_ok Tryz.func66 rfl (by kernel_rfl) Tryz.mixed (Nat.le_of_ble_eq_true rfl) ?_
  intro F n' w0 m0 hG hro h1
  repeat' first
    | refine SPB.seq ?_
    | refine SPB.block ?_
    | refine SPB.draw hG Tryz.TT_ok Tryz.keep66 (by kernel_rfl) ?_
    | refine SPB.reg hG Tryz.TT_ok Tryz.keep66 (by kernel_rfl) ?_
    | refine SPB.skip hG Tryz.TT_ok ?_
    | refine SPB.label hG Tryz.TT_ok ?_
    | refine SPB.ret hG Tryz.TT_ok ?_
    | refine SPB.exit hG Tryz.TT_ok ?_
    | refine SPB.condT rfl ?_
    | refine SPB.condF rfl ?_
    | refine SPB.cond rfl (And.intro (fun h => ?_) (fun h => ?_))
    | (conv => whnf
       first
         | refine And.intro (fun h => Bool.noConfusion (h : false = true)) (fun _ => ?_)
         | refine And.intro (fun _ => ?_) (fun h => Bool.noConfusion (h : true = false))
         | refine And.intro (by kernel_rfl) ?_
         | refine And.intro (fun h => ?_) (fun h => ?_)
         | refine Or.inl ?_
         | fail)
  refine SPB.loop (X := Nat) (fun j => ⟨[(5, .int .i64 ((j : Int) - s 8)), (2, .loc 2 0), (1, .int .i64 t)], [(2, satA s)]⟩)
    (fun j => (j : Int) ≤ 2 * s 8 + 1 ∧ ∀ m : Nat, m < j → darkS (celW (orbO s) (t - ((m : Int) - s 8))) t = false) (fun j => (2 * s 8 + 1).toNat - j) 0 ⟨by omega, fun m hm => absurd hm (by omega)⟩ (St.le.of ?_ ?_) (fun j hj => ?_)
  · refine And.intro (congrArg (fun z => some (AV.int .i64 z)) ((w64_in (by omega) (by omega)).trans (by omega))) ?_
    repeat' (first | exact trivial | refine And.intro rfl ?_)
  · repeat' (first | exact trivial | refine And.intro rfl ?_)
  · obtain ⟨hj, hm⟩ := hj
    by_cases hlt : (j : Int) ≤ 2 * s 8
    · have bbk : decide ((j : Int) - s 8 ≤ s 8) = false → False := fun h => by have := of_decide_eq_false h; omega
      have k121 := hlk j hlt
      have k122 := Tryz.z122 (celW (orbO s) (t - ((j : Int) - s 8))) t (inS_ok ⟨hta, htb⟩) (cel_ok hv (by omega) (by omega))
      repeat' first
        | exact (bbk (by assumption)).elim
        | refine SPB.seq ?_
        | refine SPB.block ?_
        | refine SPB.draw hG Tryz.TT_ok Tryz.keep66 (by kernel_rfl) ?_
        | refine SPB.reg hG Tryz.TT_ok Tryz.keep66 (by kernel_rfl) ?_
        | refine SPB.skip hG Tryz.TT_ok ?_
        | refine SPB.label hG Tryz.TT_ok ?_
        | refine SPB.ret hG Tryz.TT_ok ?_
        | refine SPB.exit hG Tryz.TT_ok ?_
        | refine SPB.condT rfl ?_
        | refine SPB.condF rfl ?_
        | refine SPB.cond rfl (And.intro (fun h => ?_) (fun h => ?_))
        | (conv => whnf
           first
             | refine And.intro (fun h => Bool.noConfusion (h : false = true)) (fun _ => ?_)
             | refine And.intro (fun _ => ?_) (fun h => Bool.noConfusion (h : true = false))
             | refine And.intro (by kernel_rfl) ?_
             | refine Exists.intro _ (And.intro (k121) ?_)
             | refine Exists.intro _ (And.intro (k122) ?_)
             | refine And.intro (fun h => ?_) (fun h => ?_)
             | refine Or.inl ?_
             | fail)
      · have hd : darkS (celW (orbO s) (t - ((j : Int) - s 8))) t = true := by assumption
        refine Ends.mk (Or.inl rfl) (AV.weak.of_eq (congrArg AV.bool ?_))
        cases hl : litS (orbO s) t with
        | false => rfl
        | true =>
          have := hall.1 hl ((j : Int) - s 8) (by show -(s 8) ≤ _; omega) (by show _ ≤ s 8; omega)
          rw [hd] at this; cases this
      · have hd : darkS (celW (orbO s) (t - ((j : Int) - s 8))) t = false := by assumption
        refine Exists.intro (j + 1) (And.intro ⟨by omega, fun m hmj => ?_⟩ (And.intro (by omega) (St.le.of ?_ ?_)))
        · rcases Nat.lt_succ_iff_lt_or_eq.1 hmj with h | rfl
          · exact hm m h
          · exact hd
        · refine And.intro (congrArg (fun z => some (AV.int .i64 z)) ((w64_in (by omega) (by omega)).trans (by omega))) ?_
          repeat' (first | exact trivial | refine And.intro rfl ?_)
        · repeat' (first | exact trivial | refine And.intro rfl ?_)
    · have bbk : decide ((j : Int) - s 8 ≤ s 8) = true → False := fun h => by have := of_decide_eq_true h; omega
      repeat' first
        | exact (bbk (by assumption)).elim
        | refine SPB.seq ?_
        | refine SPB.block ?_
        | refine SPB.draw hG Tryz.TT_ok Tryz.keep66 (by kernel_rfl) ?_
        | refine SPB.reg hG Tryz.TT_ok Tryz.keep66 (by kernel_rfl) ?_
        | refine SPB.skip hG Tryz.TT_ok ?_
        | refine SPB.label hG Tryz.TT_ok ?_
        | refine SPB.ret hG Tryz.TT_ok ?_
        | refine SPB.exit hG Tryz.TT_ok ?_
        | refine SPB.condT rfl ?_
        | refine SPB.condF rfl ?_
        | refine SPB.cond rfl (And.intro (fun h => ?_) (fun h => ?_))
        | (conv => whnf
           first
             | refine And.intro (fun h => Bool.noConfusion (h : false = true)) (fun _ => ?_)
             | refine And.intro (fun _ => ?_) (fun h => Bool.noConfusion (h : true = false))
             | refine And.intro (by kernel_rfl) ?_
             | refine And.intro (fun h => ?_) (fun h => ?_)
             | refine Or.inl ?_
             | fail)
      all_goals
        refine Ends.mk (Or.inl rfl) (AV.weak.of_eq (congrArg AV.bool ?_))
        refine (hall.2 fun d d1 d2 => ?_).symm
        have d1 : -(s 8) ≤ d := d1
        have d2 : d ≤ s 8 := d2
        have := hm (d + s 8).toNat (by omega)
        rwa [show (((d + s 8).toNat : Nat) : Int) - s 8 = d by omega] at this
theorem sat_pv {s : Nat → Int} (h : satS s = true) : PV (orbO s) := by
  simp only [satS, Bool.and_eq_true] at h
  exact (orbS_iff _).1 h.2
theorem Tryz.z26 (s : Nat → Int) (t : Int) : ACalls Tryz.prog 26 [.agg (satA s), .int .i64 t] (.bool (satS s && litS (orbO s) t)) := by
  have k61 := Tryz.z61 s
  cases hs : satS s
  · rw [hs] at k61
    refine ACalls.ofB Tryz.TT_ok Tryz.func26 rfl (by kernel_rfl) Tryz.mixed (Nat.le_of_ble_eq_true rfl) ?_
    intro F n' w0 m0 hG hro h1
    repeat' first
      | refine SPB.seq ?_
      | refine SPB.block ?_
      | refine SPB.draw hG Tryz.TT_ok Tryz.keep26 (by kernel_rfl) ?_
      | refine SPB.reg hG Tryz.TT_ok Tryz.keep26 (by kernel_rfl) ?_
      | refine SPB.skip hG Tryz.TT_ok ?_
      | refine SPB.label hG Tryz.TT_ok ?_
      | refine SPB.ret hG Tryz.TT_ok ?_
      | refine SPB.exit hG Tryz.TT_ok ?_
      | refine SPB.condT rfl ?_
      | refine SPB.condF rfl ?_
      | refine SPB.cond rfl (And.intro (fun h => ?_) (fun h => ?_))
      | (conv => whnf
         first
           | refine And.intro (fun h => Bool.noConfusion (h : false = true)) (fun _ => ?_)
           | refine And.intro (fun _ => ?_) (fun h => Bool.noConfusion (h : true = false))
           | refine And.intro (by kernel_rfl) ?_
           | refine Exists.intro _ (And.intro (k61) ?_)
           | refine And.intro (fun h => ?_) (fun h => ?_)
           | refine Or.inl ?_
           | fail)
    all_goals exact Ends.mk (Or.inl rfl) (AV.weak.of_eq rfl)
  · rw [hs] at k61
    have k65 := Tryz.z65 t 0 1000000
    cases ht : inS t 0 1000000
    · rw [ht] at k65
      have hz : litS (orbO s) t = false := by simp [litS, atS, ht]
      rw [hz]
      refine ACalls.ofB Tryz.TT_ok Tryz.func26 rfl (by kernel_rfl) Tryz.mixed (Nat.le_of_ble_eq_true rfl) ?_
      intro F n' w0 m0 hG hro h1
      repeat' first
        | refine SPB.seq ?_
        | refine SPB.block ?_
        | refine SPB.draw hG Tryz.TT_ok Tryz.keep26 (by kernel_rfl) ?_
        | refine SPB.reg hG Tryz.TT_ok Tryz.keep26 (by kernel_rfl) ?_
        | refine SPB.skip hG Tryz.TT_ok ?_
        | refine SPB.label hG Tryz.TT_ok ?_
        | refine SPB.ret hG Tryz.TT_ok ?_
        | refine SPB.exit hG Tryz.TT_ok ?_
        | refine SPB.condT rfl ?_
        | refine SPB.condF rfl ?_
        | refine SPB.cond rfl (And.intro (fun h => ?_) (fun h => ?_))
        | (conv => whnf
           first
             | refine And.intro (fun h => Bool.noConfusion (h : false = true)) (fun _ => ?_)
             | refine And.intro (fun _ => ?_) (fun h => Bool.noConfusion (h : true = false))
             | refine And.intro (by kernel_rfl) ?_
             | refine Exists.intro _ (And.intro (k61) ?_)
             | refine Exists.intro _ (And.intro (k65) ?_)
             | refine And.intro (fun h => ?_) (fun h => ?_)
             | refine Or.inl ?_
             | fail)
      all_goals exact Ends.mk (Or.inl rfl) (AV.weak.of_eq rfl)
    · rw [ht] at k65
      have hr := min_rng ht
      have k66 := Tryz.z66 s t (sat_pv hs) hr.1 hr.2
      refine ACalls.ofB Tryz.TT_ok Tryz.func26 rfl (by kernel_rfl) Tryz.mixed (Nat.le_of_ble_eq_true rfl) ?_
      intro F n' w0 m0 hG hro h1
      repeat' first
        | refine SPB.seq ?_
        | refine SPB.block ?_
        | refine SPB.draw hG Tryz.TT_ok Tryz.keep26 (by kernel_rfl) ?_
        | refine SPB.reg hG Tryz.TT_ok Tryz.keep26 (by kernel_rfl) ?_
        | refine SPB.skip hG Tryz.TT_ok ?_
        | refine SPB.label hG Tryz.TT_ok ?_
        | refine SPB.ret hG Tryz.TT_ok ?_
        | refine SPB.exit hG Tryz.TT_ok ?_
        | refine SPB.condT rfl ?_
        | refine SPB.condF rfl ?_
        | refine SPB.cond rfl (And.intro (fun h => ?_) (fun h => ?_))
        | (conv => whnf
           first
             | refine And.intro (fun h => Bool.noConfusion (h : false = true)) (fun _ => ?_)
             | refine And.intro (fun _ => ?_) (fun h => Bool.noConfusion (h : true = false))
             | refine And.intro (by kernel_rfl) ?_
             | refine Exists.intro _ (And.intro (k61) ?_)
             | refine Exists.intro _ (And.intro (k65) ?_)
             | refine Exists.intro _ (And.intro (k66) ?_)
             | refine And.intro (fun h => ?_) (fun h => ?_)
             | refine Or.inl ?_
             | fail)
      all_goals exact Ends.mk (Or.inl rfl) (AV.weak.of_eq rfl)
end Go.Proofs


namespace Go.Proofs
open Go Go.AI
set_option maxRecDepth 10000
set_option linter.unusedSimpArgs false

/-- The nets of the minutes from one on. -/
def netsV (s : Nat → Int) (l : List Load3) (a : Int) (n : Nat) : List Int := (List.range n).map fun (i : Nat) => netS s l (a + (i : Int))
theorem netsV_snoc (s : Nat → Int) (l : List Load3) (a : Int) (n : Nat) : netsV s l a (n + 1) = netsV s l a n ++ [netS s l (a + (n : Int))] := by simp [netsV, List.range_succ]
theorem netsV_len (s : Nat → Int) (l : List Load3) (a : Int) (n : Nat) : (netsV s l a n).length = n := by simp [netsV]
theorem netsV_get (s : Nat → Int) (l : List Load3) (a : Int) {n i : Nat} (h : i < n) : (netsV s l a n).getD i 0 = netS s l (a + (i : Int)) := by
  unfold netsV
  rw [List.getD_eq_getElem?_getD, List.getElem?_map, List.getElem?_range h]; rfl
theorem Tryz.z55 (s : Nat → Int) (l : List Load3) (a b : Int) (hl : l.length ≤ 1000000) (hv : validS s l a b = true) : ACalls Tryz.prog 55 [.agg (satA s), loadsA l, .agg (spellA a b)] (intsA (netsV s l a (b - a).toNat)) := by
  obtain ⟨hab, h43, hp, hs⟩ := valid_b hv
  have k23 := Tryz.z23 s l a b hl
  rw [hv] at k23
  have hpv := sat_pv hs
  have hl64 := proper_len hp
  refine ACalls.ofB Tryz.TT_ok Tryz.func55 rfl (by kernel_rfl) Tryz.mixed (Nat.le_of_ble_eq_true rfl) ?_
  intro F n' w0 m0 hG hro h1
  repeat' first
    | refine SPB.seq ?_
    | refine SPB.block ?_
    | refine SPB.draw hG Tryz.TT_ok Tryz.keep55 (by kernel_rfl) ?_
    | refine SPB.reg hG Tryz.TT_ok Tryz.keep55 (by kernel_rfl) ?_
    | refine SPB.skip hG Tryz.TT_ok ?_
    | refine SPB.label hG Tryz.TT_ok ?_
    | refine SPB.ret hG Tryz.TT_ok ?_
    | refine SPB.exit hG Tryz.TT_ok ?_
    | refine SPB.condT rfl ?_
    | refine SPB.condF rfl ?_
    | refine SPB.cond rfl (And.intro (fun h => ?_) (fun h => ?_))
    | (conv => whnf
       first
         | refine And.intro (fun h => Bool.noConfusion (h : false = true)) (fun _ => ?_)
         | refine And.intro (fun _ => ?_) (fun h => Bool.noConfusion (h : true = false))
         | refine And.intro (by kernel_rfl) ?_
         | refine And.intro (fun h => ?_) (fun h => ?_)
         | refine Or.inl ?_
         | fail)
  refine SPB.loop (X := Nat) (fun i => ⟨[(8, .int .i64 (a + (i : Int))), (7, .sl (.id 7) 1 ((netsV s l a i).map fun h => [.int .i64 h])), (5, .loc 5 0), (3, .loc 3 0), (1, loadsA l)], [(5, spellA a b), (3, satA s)]⟩)
    (fun i => i ≤ (b - a).toNat) (fun i => (b - a).toNat - i) 0 (Nat.zero_le _) (St.le.of ?_ ?_) (fun i hi => ?_)
  · refine And.intro (congrArg (fun z => some (AV.int .i64 z)) (show a = a + ((0 : Nat) : Int) by omega)) ?_
    repeat' (first | exact trivial | refine And.intro rfl ?_)
  · repeat' (first | exact trivial | refine And.intro rfl ?_)
  · have hrl : ((netsV s l a i).map fun h => [AV.int .i64 h]).length = i := by rw [List.length_map, netsV_len]
    by_cases hlt : i < (b - a).toNat
    · have bbk : decide (a + (i : Int) < b) = false → False := fun h => by have := of_decide_eq_false h; omega
      have k66 := Tryz.z66 s (a + (i : Int)) hpv (by omega) (by omega)
      repeat' first
        | exact (bbk (by assumption)).elim
        | refine SPB.seq ?_
        | refine SPB.block ?_
        | refine SPB.draw hG Tryz.TT_ok Tryz.keep55 (by kernel_rfl) ?_
        | refine SPB.reg hG Tryz.TT_ok Tryz.keep55 (by kernel_rfl) ?_
        | refine SPB.skip hG Tryz.TT_ok ?_
        | refine SPB.label hG Tryz.TT_ok ?_
        | refine SPB.ret hG Tryz.TT_ok ?_
        | refine SPB.exit hG Tryz.TT_ok ?_
        | refine SPB.condT rfl ?_
        | refine SPB.condF rfl ?_
        | refine SPB.cond rfl (And.intro (fun h => ?_) (fun h => ?_))
        | (conv => whnf
           first
             | refine And.intro (fun h => Bool.noConfusion (h : false = true)) (fun _ => ?_)
             | refine And.intro (fun _ => ?_) (fun h => Bool.noConfusion (h : true = false))
             | refine And.intro (by kernel_rfl) ?_
             | refine Exists.intro _ (And.intro (Tryz.z68 s l _ (by omega)) ?_)
             | refine Exists.intro _ (And.intro (k66) ?_)
             | refine And.intro (show (List.length ((netsV s l a i).map fun h => [AV.int .i64 h]) + 1) * 8 ≤ 70368744177664 by rw [hrl]; omega) ?_
             | refine And.intro (show List.length ((netsV s l a i).map fun h => [AV.int .i64 h]) + 1 ≤ 4611686018427387904 by rw [hrl]; omega) ?_
             | refine And.intro (fun h => ?_) (fun h => ?_)
             | refine Or.inl ?_
             | fail)
      · have hd : litS (orbO s) (a + (i : Int)) = true := by assumption
        refine Exists.intro (i + 1) (And.intro hlt (And.intro (by omega) (St.le.of ?_ ?_)))
        · refine And.intro (congrArg (fun z => some (AV.int .i64 z)) ((w64_in (by omega) (by omega)).trans (by omega))) (And.intro ?_ ?_)
          · rw [netsV_snoc, List.map_append, netS, netW, if_pos hd]; rfl
          · repeat' (first | exact trivial | refine And.intro rfl ?_)
        · repeat' (first | exact trivial | refine And.intro rfl ?_)
      · have hd : litS (orbO s) (a + (i : Int)) = false := by assumption
        refine Exists.intro (i + 1) (And.intro hlt (And.intro (by omega) (St.le.of ?_ ?_)))
        · refine And.intro (congrArg (fun z => some (AV.int .i64 z)) ((w64_in (by omega) (by omega)).trans (by omega))) (And.intro ?_ ?_)
          · rw [netsV_snoc, List.map_append, netS, netW, if_neg (by rw [hd]; exact Bool.false_ne_true)]; rfl
          · repeat' (first | exact trivial | refine And.intro rfl ?_)
        · repeat' (first | exact trivial | refine And.intro rfl ?_)
    · have hge : i = (b - a).toNat := by omega
      have bbk : decide (a + (i : Int) < b) = true → False := fun h => by have := of_decide_eq_true h; omega
      repeat' first
        | exact (bbk (by assumption)).elim
        | refine SPB.seq ?_
        | refine SPB.block ?_
        | refine SPB.draw hG Tryz.TT_ok Tryz.keep55 (by kernel_rfl) ?_
        | refine SPB.reg hG Tryz.TT_ok Tryz.keep55 (by kernel_rfl) ?_
        | refine SPB.skip hG Tryz.TT_ok ?_
        | refine SPB.label hG Tryz.TT_ok ?_
        | refine SPB.ret hG Tryz.TT_ok ?_
        | refine SPB.exit hG Tryz.TT_ok ?_
        | refine SPB.condT rfl ?_
        | refine SPB.condF rfl ?_
        | refine SPB.cond rfl (And.intro (fun h => ?_) (fun h => ?_))
        | (conv => whnf
           first
             | refine And.intro (fun h => Bool.noConfusion (h : false = true)) (fun _ => ?_)
             | refine And.intro (fun _ => ?_) (fun h => Bool.noConfusion (h : true = false))
             | refine And.intro (by kernel_rfl) ?_
             | refine And.intro (fun h => ?_) (fun h => ?_)
             | refine Or.inl ?_
             | fail)
      all_goals (rw [← hge]; exact Ends.mk (Or.inl rfl) (AV.weak.of_eq rfl))

theorem Tryz.zb15 (s : Nat → Int) (l : List Load3) (a b : Int) (hl : l.length ≤ 1000000) (hv : validS s l a b = false) : ACalls Tryz.prog 15 [.agg (satA s), loadsA l, .agg (spellA a b)] (.tup [.sl .no 1 [], .int .i64 100]) := by
  have k23 := Tryz.z23 s l a b hl
  rw [hv] at k23
  refine ACalls.ofB Tryz.TT_ok Tryz.func15 rfl (by kernel_rfl) Tryz.mixed (Nat.le_of_ble_eq_true rfl) ?_
  intro F n' w0 m0 hG hro h1
  repeat' first
    | refine SPB.seq ?_
    | refine SPB.block ?_
    | refine SPB.draw hG Tryz.TT_ok Tryz.keep15 (by kernel_rfl) ?_
    | refine SPB.reg hG Tryz.TT_ok Tryz.keep15 (by kernel_rfl) ?_
    | refine SPB.skip hG Tryz.TT_ok ?_
    | refine SPB.label hG Tryz.TT_ok ?_
    | refine SPB.ret hG Tryz.TT_ok ?_
    | refine SPB.exit hG Tryz.TT_ok ?_
    | refine SPB.condT rfl ?_
    | refine SPB.condF rfl ?_
    | refine SPB.cond rfl (And.intro (fun h => ?_) (fun h => ?_))
    | (conv => whnf
       first
         | refine And.intro (fun h => Bool.noConfusion (h : false = true)) (fun _ => ?_)
         | refine And.intro (fun _ => ?_) (fun h => Bool.noConfusion (h : true = false))
         | refine And.intro (by kernel_rfl) ?_
         | refine Exists.intro _ (And.intro (k23) ?_)
         | refine And.intro (fun h => ?_) (fun h => ?_)
         | refine Or.inl ?_
         | fail)
  all_goals exact Ends.mk (Or.inl rfl) (AV.weak.of_eq rfl)

theorem Tryz.zb19 (s : Nat → Int) (l : List Load3) (a b : Int) (hl : l.length ≤ 1000000) (hv : validS s l a b = false) : ACalls Tryz.prog 19 [.agg (satA s), loadsA l, .agg (spellA a b)] (.tup [.int .i64 0, .int .i64 100]) := by
  have k23 := Tryz.z23 s l a b hl
  rw [hv] at k23
  refine ACalls.ofB Tryz.TT_ok Tryz.func19 rfl (by kernel_rfl) Tryz.mixed (Nat.le_of_ble_eq_true rfl) ?_
  intro F n' w0 m0 hG hro h1
  repeat' first
    | refine SPB.seq ?_
    | refine SPB.block ?_
    | refine SPB.draw hG Tryz.TT_ok Tryz.keep19 (by kernel_rfl) ?_
    | refine SPB.reg hG Tryz.TT_ok Tryz.keep19 (by kernel_rfl) ?_
    | refine SPB.skip hG Tryz.TT_ok ?_
    | refine SPB.label hG Tryz.TT_ok ?_
    | refine SPB.ret hG Tryz.TT_ok ?_
    | refine SPB.exit hG Tryz.TT_ok ?_
    | refine SPB.condT rfl ?_
    | refine SPB.condF rfl ?_
    | refine SPB.cond rfl (And.intro (fun h => ?_) (fun h => ?_))
    | (conv => whnf
       first
         | refine And.intro (fun h => Bool.noConfusion (h : false = true)) (fun _ => ?_)
         | refine And.intro (fun _ => ?_) (fun h => Bool.noConfusion (h : true = false))
         | refine And.intro (by kernel_rfl) ?_
         | refine Exists.intro _ (And.intro (k23) ?_)
         | refine And.intro (fun h => ?_) (fun h => ?_)
         | refine Or.inl ?_
         | fail)
  all_goals exact Ends.mk (Or.inl rfl) (AV.weak.of_eq rfl)

theorem Tryz.zb21 (s : Nat → Int) (l : List Load3) (a b : Int) (hl : l.length ≤ 1000000) (hv : validS s l a b = false) : ACalls Tryz.prog 21 [.agg (satA s), loadsA l, .agg (spellA a b)] (.tup [.agg (spellA 0 0), .int .i64 0, .int .i64 100]) := by
  have k23 := Tryz.z23 s l a b hl
  rw [hv] at k23
  refine ACalls.ofB Tryz.TT_ok Tryz.func21 rfl (by kernel_rfl) Tryz.mixed (Nat.le_of_ble_eq_true rfl) ?_
  intro F n' w0 m0 hG hro h1
  repeat' first
    | refine SPB.seq ?_
    | refine SPB.block ?_
    | refine SPB.draw hG Tryz.TT_ok Tryz.keep21 (by kernel_rfl) ?_
    | refine SPB.reg hG Tryz.TT_ok Tryz.keep21 (by kernel_rfl) ?_
    | refine SPB.skip hG Tryz.TT_ok ?_
    | refine SPB.label hG Tryz.TT_ok ?_
    | refine SPB.ret hG Tryz.TT_ok ?_
    | refine SPB.exit hG Tryz.TT_ok ?_
    | refine SPB.condT rfl ?_
    | refine SPB.condF rfl ?_
    | refine SPB.cond rfl (And.intro (fun h => ?_) (fun h => ?_))
    | (conv => whnf
       first
         | refine And.intro (fun h => Bool.noConfusion (h : false = true)) (fun _ => ?_)
         | refine And.intro (fun _ => ?_) (fun h => Bool.noConfusion (h : true = false))
         | refine And.intro (by kernel_rfl) ?_
         | refine Exists.intro _ (And.intro (k23) ?_)
         | refine And.intro (fun h => ?_) (fun h => ?_)
         | refine Or.inl ?_
         | fail)
  all_goals exact Ends.mk (Or.inl rfl) (AV.weak.of_eq rfl)

theorem sat_fedZ {s : Nat → Int} (h : satS s = true) : Fed s := by
  simp only [satS, inS, Bool.and_eq_true, decide_eq_true_eq] at h
  exact ⟨by omega, by omega, by omega, by omega, by omega⟩
theorem pf_get {a : Int} {f : Nat → Int} (n i : Nat) (h : i < n) : (pairsF a f n).take (i + 1) = (pairsF a f n).take i ++ [(a + (i : Int), f i)] := by
  unfold pairsF
  rw [List.take_add_one, List.getElem?_map, List.getElem?_range h]; rfl
theorem nets_pf (s : Nat → Int) (l : List Load3) (a b : Int) : netsL s l a b = pairsF a (fun i : Nat => netS s l (a + (i : Int))) (b - a).toNat := rfl
theorem Tryz.z15 (s : Nat → Int) (l : List Load3) (a b : Int) (hl : l.length ≤ 1000000) (hv : validS s l a b = true) : ACalls Tryz.prog 15 [.agg (satA s), loadsA l, .agg (spellA a b)] (.tup [intsA (levRun (s 11) (netsL s l a b)).2, .int .i64 0]) := by
  obtain ⟨hab, h43, hp, hs⟩ := valid_b hv
  have k23 := Tryz.z23 s l a b hl
  rw [hv] at k23
  have k55 := Tryz.z55 s l a b hl hv
  rw [nets_pf]
  obtain ⟨N, hN⟩ : ∃ N, N = (b - a).toNat := ⟨_, rfl⟩
  rw [← hN] at k55 ⊢
  refine ACalls.ofB Tryz.TT_ok Tryz.func15 rfl (by kernel_rfl) Tryz.mixed (Nat.le_of_ble_eq_true rfl) ?_
  intro F n' w0 m0 hG hro h1
  repeat' first
    | refine SPB.seq ?_
    | refine SPB.block ?_
    | refine SPB.draw hG Tryz.TT_ok Tryz.keep15 (by kernel_rfl) ?_
    | refine SPB.reg hG Tryz.TT_ok Tryz.keep15 (by kernel_rfl) ?_
    | refine SPB.skip hG Tryz.TT_ok ?_
    | refine SPB.label hG Tryz.TT_ok ?_
    | refine SPB.ret hG Tryz.TT_ok ?_
    | refine SPB.exit hG Tryz.TT_ok ?_
    | refine SPB.condT rfl ?_
    | refine SPB.condF rfl ?_
    | refine SPB.cond rfl (And.intro (fun h => ?_) (fun h => ?_))
    | (conv => whnf
       first
         | refine And.intro (fun h => Bool.noConfusion (h : false = true)) (fun _ => ?_)
         | refine And.intro (fun _ => ?_) (fun h => Bool.noConfusion (h : true = false))
         | refine And.intro (by kernel_rfl) ?_
         | refine Exists.intro _ (And.intro (k23) ?_)
         | refine Exists.intro _ (And.intro (k55) ?_)
         | refine And.intro (fun h => ?_) (fun h => ?_)
         | refine Or.inl ?_
         | fail)
  refine SPB.loop (X := Nat) (fun i => ⟨[(11, .int .i64 i), (10, .sl (.id 10) 1 ((levRun (s 11) ((pairsF a (fun i : Nat => netS s l (a + (i : Int))) N).take i)).2.map fun h => [.int .i64 h])), (9, .int .i64 (levRun (s 11) ((pairsF a (fun i : Nat => netS s l (a + (i : Int))) N).take i)).1), (8, intsA (netsV s l a N)), (3, .loc 3 0)], [(3, satA s)]⟩)
    (fun i => i ≤ N) (fun i => N - i) 0 (Nat.zero_le _) (St.le.of ?_ ?_) (fun i hi => ?_)
  · repeat' (first | exact trivial | refine And.intro rfl ?_)
  · repeat' (first | exact trivial | refine And.intro rfl ?_)
  · by_cases hlt : i < N
    · have bbk : decide ((i : Int) < (((netsV s l a N).map fun h => [AV.int .i64 h]).length : Int)) = false → False := fun h => by have := of_decide_eq_false h; rw [List.length_map, netsV_len] at this; omega
      have hx := ints_get (netsV s l a N) i (by rw [netsV_len]; exact hlt)
      rw [netsV_get s l a hlt] at hx
      have hst := levRun_snoc (s 11) ((pairsF a (fun i : Nat => netS s l (a + (i : Int))) N).take i) (a + (i : Int), netS s l (a + (i : Int)))
      rw [← pf_get N i hlt] at hst
      have hrl : ((levRun (s 11) ((pairsF a (fun i : Nat => netS s l (a + (i : Int))) N).take i)).2.map fun h => [AV.int .i64 h]).length = i := by rw [List.length_map, levRun_len, List.length_take]; simp [pairsF]; omega
      generalize levRun (s 11) ((pairsF a (fun i : Nat => netS s l (a + (i : Int))) N).take i) = r at hst hrl ⊢
      repeat' first
        | exact (bbk (by assumption)).elim
        | refine SPB.seq ?_
        | refine SPB.block ?_
        | refine SPB.draw hG Tryz.TT_ok Tryz.keep15 (by kernel_rfl) ?_
        | refine SPB.reg hG Tryz.TT_ok Tryz.keep15 (by kernel_rfl) ?_
        | refine SPB.skip hG Tryz.TT_ok ?_
        | refine SPB.label hG Tryz.TT_ok ?_
        | refine SPB.ret hG Tryz.TT_ok ?_
        | refine SPB.exit hG Tryz.TT_ok ?_
        | refine SPB.condT rfl ?_
        | refine SPB.condF rfl ?_
        | refine SPB.cond rfl (And.intro (fun h => ?_) (fun h => ?_))
        | (conv => whnf
           first
             | refine And.intro (fun h => Bool.noConfusion (h : false = true)) (fun _ => ?_)
             | refine And.intro (fun _ => ?_) (fun h => Bool.noConfusion (h : true = false))
             | refine And.intro (by kernel_rfl) ?_
             | refine And.intro (Int.natCast_nonneg i) (Exists.intro _ (And.intro hx ?_))
             | refine And.intro (show (List.length (r.2.map fun h => [AV.int .i64 h]) + 1) * 8 ≤ 70368744177664 by rw [hrl]; omega) ?_
             | refine And.intro (show List.length (r.2.map fun h => [AV.int .i64 h]) + 1 ≤ 4611686018427387904 by rw [hrl]; omega) ?_
             | refine And.intro (fun h => ?_) (fun h => ?_)
             | refine Or.inl ?_
             | fail)
      all_goals
        refine Exists.intro (i + 1) (And.intro hlt (And.intro (by omega) (St.le.of ?_ ?_)))
        · refine And.intro (congrArg some (le_next (by omega))) (And.intro ?_ (And.intro ?_ ?_))
          · rw [hst, levStep, List.map_append]; rfl
          · rw [hst]; rfl
          · repeat' (first | exact trivial | refine And.intro rfl ?_)
        · repeat' (first | exact trivial | refine And.intro rfl ?_)
    · have hge : i = N := by omega
      have bbk : decide ((i : Int) < (((netsV s l a N).map fun h => [AV.int .i64 h]).length : Int)) = true → False := fun h => by have := of_decide_eq_true h; rw [List.length_map, netsV_len] at this; omega
      repeat' first
        | exact (bbk (by assumption)).elim
        | refine SPB.seq ?_
        | refine SPB.block ?_
        | refine SPB.draw hG Tryz.TT_ok Tryz.keep15 (by kernel_rfl) ?_
        | refine SPB.reg hG Tryz.TT_ok Tryz.keep15 (by kernel_rfl) ?_
        | refine SPB.skip hG Tryz.TT_ok ?_
        | refine SPB.label hG Tryz.TT_ok ?_
        | refine SPB.ret hG Tryz.TT_ok ?_
        | refine SPB.exit hG Tryz.TT_ok ?_
        | refine SPB.condT rfl ?_
        | refine SPB.condF rfl ?_
        | refine SPB.cond rfl (And.intro (fun h => ?_) (fun h => ?_))
        | (conv => whnf
           first
             | refine And.intro (fun h => Bool.noConfusion (h : false = true)) (fun _ => ?_)
             | refine And.intro (fun _ => ?_) (fun h => Bool.noConfusion (h : true = false))
             | refine And.intro (by kernel_rfl) ?_
             | refine And.intro (fun h => ?_) (fun h => ?_)
             | refine Or.inl ?_
             | fail)
      all_goals
        rw [List.take_of_length_le (by simp [pairsF]; omega)]
        exact Ends.mk (Or.inl rfl) (AV.weak.of_eq rfl)
theorem Tryz.z19 (s : Nat → Int) (l : List Load3) (a b : Int) (hl : l.length ≤ 1000000) (hv : validS s l a b = true) : ACalls Tryz.prog 19 [.agg (satA s), loadsA l, .agg (spellA a b)] (.tup [.int .i64 (sumRun (netsL s l a b)), .int .i64 0]) := by
  obtain ⟨hab, h43, hp, hs⟩ := valid_b hv
  have k23 := Tryz.z23 s l a b hl
  rw [hv] at k23
  have k55 := Tryz.z55 s l a b hl hv
  rw [nets_pf]
  obtain ⟨N, hN⟩ : ∃ N, N = (b - a).toNat := ⟨_, rfl⟩
  rw [← hN] at k55 ⊢
  refine ACalls.ofB Tryz.TT_ok Tryz.func19 rfl (by kernel_rfl) Tryz.mixed (Nat.le_of_ble_eq_true rfl) ?_
  intro F n' w0 m0 hG hro h1
  repeat' first
    | refine SPB.seq ?_
    | refine SPB.block ?_
    | refine SPB.draw hG Tryz.TT_ok Tryz.keep19 (by kernel_rfl) ?_
    | refine SPB.reg hG Tryz.TT_ok Tryz.keep19 (by kernel_rfl) ?_
    | refine SPB.skip hG Tryz.TT_ok ?_
    | refine SPB.label hG Tryz.TT_ok ?_
    | refine SPB.ret hG Tryz.TT_ok ?_
    | refine SPB.exit hG Tryz.TT_ok ?_
    | refine SPB.condT rfl ?_
    | refine SPB.condF rfl ?_
    | refine SPB.cond rfl (And.intro (fun h => ?_) (fun h => ?_))
    | (conv => whnf
       first
         | refine And.intro (fun h => Bool.noConfusion (h : false = true)) (fun _ => ?_)
         | refine And.intro (fun _ => ?_) (fun h => Bool.noConfusion (h : true = false))
         | refine And.intro (by kernel_rfl) ?_
         | refine Exists.intro _ (And.intro (k23) ?_)
         | refine Exists.intro _ (And.intro (k55) ?_)
         | refine And.intro (fun h => ?_) (fun h => ?_)
         | refine Or.inl ?_
         | fail)
  refine SPB.loop (X := Nat) (fun i => ⟨[(10, .int .i64 i), (9, .int .i64 (sumRun ((pairsF a (fun i : Nat => netS s l (a + (i : Int))) N).take i))), (8, intsA (netsV s l a N))], []⟩)
    (fun i => i ≤ N) (fun i => N - i) 0 (Nat.zero_le _) (St.le.of ?_ ?_) (fun i hi => ?_)
  · repeat' (first | exact trivial | refine And.intro rfl ?_)
  · repeat' (first | exact trivial | refine And.intro rfl ?_)
  · by_cases hlt : i < N
    · have bbk : decide ((i : Int) < (((netsV s l a N).map fun h => [AV.int .i64 h]).length : Int)) = false → False := fun h => by have := of_decide_eq_false h; rw [List.length_map, netsV_len] at this; omega
      have hx := ints_get (netsV s l a N) i (by rw [netsV_len]; exact hlt)
      rw [netsV_get s l a hlt] at hx
      have hst := sumRun_snoc ((pairsF a (fun i : Nat => netS s l (a + (i : Int))) N).take i) (a + (i : Int), netS s l (a + (i : Int)))
      rw [← pf_get N i hlt] at hst
      generalize sumRun ((pairsF a (fun i : Nat => netS s l (a + (i : Int))) N).take i) = r at hst ⊢
      repeat' first
        | exact (bbk (by assumption)).elim
        | refine SPB.seq ?_
        | refine SPB.block ?_
        | refine SPB.draw hG Tryz.TT_ok Tryz.keep19 (by kernel_rfl) ?_
        | refine SPB.reg hG Tryz.TT_ok Tryz.keep19 (by kernel_rfl) ?_
        | refine SPB.skip hG Tryz.TT_ok ?_
        | refine SPB.label hG Tryz.TT_ok ?_
        | refine SPB.ret hG Tryz.TT_ok ?_
        | refine SPB.exit hG Tryz.TT_ok ?_
        | refine SPB.condT rfl ?_
        | refine SPB.condF rfl ?_
        | refine SPB.cond rfl (And.intro (fun h => ?_) (fun h => ?_))
        | (conv => whnf
           first
             | refine And.intro (fun h => Bool.noConfusion (h : false = true)) (fun _ => ?_)
             | refine And.intro (fun _ => ?_) (fun h => Bool.noConfusion (h : true = false))
             | refine And.intro (by kernel_rfl) ?_
             | refine And.intro (Int.natCast_nonneg i) (Exists.intro _ (And.intro hx ?_))
             | refine And.intro (fun h => ?_) (fun h => ?_)
             | refine Or.inl ?_
             | fail)
      all_goals
        refine Exists.intro (i + 1) (And.intro hlt (And.intro (by omega) (St.le.of ?_ ?_)))
        · refine And.intro (congrArg some (le_next (by omega))) (And.intro ?_ ?_)
          · rw [hst]; rfl
          · repeat' (first | exact trivial | refine And.intro rfl ?_)
        · repeat' (first | exact trivial | refine And.intro rfl ?_)
    · have hge : i = N := by omega
      have bbk : decide ((i : Int) < (((netsV s l a N).map fun h => [AV.int .i64 h]).length : Int)) = true → False := fun h => by have := of_decide_eq_true h; rw [List.length_map, netsV_len] at this; omega
      repeat' first
        | exact (bbk (by assumption)).elim
        | refine SPB.seq ?_
        | refine SPB.block ?_
        | refine SPB.draw hG Tryz.TT_ok Tryz.keep19 (by kernel_rfl) ?_
        | refine SPB.reg hG Tryz.TT_ok Tryz.keep19 (by kernel_rfl) ?_
        | refine SPB.skip hG Tryz.TT_ok ?_
        | refine SPB.label hG Tryz.TT_ok ?_
        | refine SPB.ret hG Tryz.TT_ok ?_
        | refine SPB.exit hG Tryz.TT_ok ?_
        | refine SPB.condT rfl ?_
        | refine SPB.condF rfl ?_
        | refine SPB.cond rfl (And.intro (fun h => ?_) (fun h => ?_))
        | (conv => whnf
           first
             | refine And.intro (fun h => Bool.noConfusion (h : false = true)) (fun _ => ?_)
             | refine And.intro (fun _ => ?_) (fun h => Bool.noConfusion (h : true = false))
             | refine And.intro (by kernel_rfl) ?_
             | refine And.intro (fun h => ?_) (fun h => ?_)
             | refine Or.inl ?_
             | fail)
      all_goals
        rw [List.take_of_length_le (by simp [pairsF]; omega)]
        exact Ends.mk (Or.inl rfl) (AV.weak.of_eq rfl)
theorem Tryz.zb17 (s : Nat → Int) (l : List Load3) (a b : Int) (hl : l.length ≤ 1000000) (hv : validS s l a b = false) : ACalls Tryz.prog 17 [.agg (satA s), loadsA l, .agg (spellA a b)] (.tup [.int .i64 0, .int .i64 100]) := by
  have k15 := Tryz.zb15 s l a b hl hv
  refine ACalls.ofB Tryz.TT_ok Tryz.func17 rfl (by kernel_rfl) Tryz.mixed (Nat.le_of_ble_eq_true rfl) ?_
  intro F n' w0 m0 hG hro h1
  repeat' first
    | refine SPB.seq ?_
    | refine SPB.block ?_
    | refine SPB.draw hG Tryz.TT_ok Tryz.keep17 (by kernel_rfl) ?_
    | refine SPB.reg hG Tryz.TT_ok Tryz.keep17 (by kernel_rfl) ?_
    | refine SPB.skip hG Tryz.TT_ok ?_
    | refine SPB.label hG Tryz.TT_ok ?_
    | refine SPB.ret hG Tryz.TT_ok ?_
    | refine SPB.exit hG Tryz.TT_ok ?_
    | refine SPB.condT rfl ?_
    | refine SPB.condF rfl ?_
    | refine SPB.cond rfl (And.intro (fun h => ?_) (fun h => ?_))
    | (conv => whnf
       first
         | refine And.intro (fun h => Bool.noConfusion (h : false = true)) (fun _ => ?_)
         | refine And.intro (fun _ => ?_) (fun h => Bool.noConfusion (h : true = false))
         | refine And.intro (by kernel_rfl) ?_
         | refine Exists.intro _ (And.intro (k15) ?_)
         | refine And.intro (fun h => ?_) (fun h => ?_)
         | refine Or.inl ?_
         | fail)
  all_goals exact Ends.mk (Or.inl rfl) (AV.weak.of_eq rfl)
theorem Tryz.z17 (s : Nat → Int) (l : List Load3) (a b : Int) (hl : l.length ≤ 1000000) (hv : validS s l a b = true) : ACalls Tryz.prog 17 [.agg (satA s), loadsA l, .agg (spellA a b)] (.tup [.int .i64 (emptyS s l a b), .int .i64 0]) := by
  obtain ⟨hab, h43, hp, hs⟩ := valid_b hv
  have k15 := Tryz.z15 s l a b hl hv
  unfold emptyS
  have hln : (levRun (s 11) (netsL s l a b)).2.length ≤ 10000 := by rw [levRun_len, nets_len]; omega
  generalize (levRun (s 11) (netsL s l a b)).2 = L at k15 hln ⊢
  refine ACalls.ofB Tryz.TT_ok Tryz.func17 rfl (by kernel_rfl) Tryz.mixed (Nat.le_of_ble_eq_true rfl) ?_
  intro F n' w0 m0 hG hro h1
  repeat' first
    | refine SPB.seq ?_
    | refine SPB.block ?_
    | refine SPB.draw hG Tryz.TT_ok Tryz.keep17 (by kernel_rfl) ?_
    | refine SPB.reg hG Tryz.TT_ok Tryz.keep17 (by kernel_rfl) ?_
    | refine SPB.skip hG Tryz.TT_ok ?_
    | refine SPB.label hG Tryz.TT_ok ?_
    | refine SPB.ret hG Tryz.TT_ok ?_
    | refine SPB.exit hG Tryz.TT_ok ?_
    | refine SPB.condT rfl ?_
    | refine SPB.condF rfl ?_
    | refine SPB.cond rfl (And.intro (fun h => ?_) (fun h => ?_))
    | (conv => whnf
       first
         | refine And.intro (fun h => Bool.noConfusion (h : false = true)) (fun _ => ?_)
         | refine And.intro (fun _ => ?_) (fun h => Bool.noConfusion (h : true = false))
         | refine And.intro (by kernel_rfl) ?_
         | refine Exists.intro _ (And.intro (k15) ?_)
         | refine And.intro (fun h => ?_) (fun h => ?_)
         | refine Or.inl ?_
         | fail)
  refine SPB.loop (X := Nat) (fun i => ⟨[(10, .int .i64 i), (8, intsA L), (5, .loc 5 0)], [(5, spellA a b)]⟩)
    (fun i => i ≤ L.length ∧ idxF (fun n => decide (n < 0)) (L.drop i) i = idxF (fun n => decide (n < 0)) L 0) (fun i => L.length - i) 0 ⟨Nat.zero_le _, rfl⟩ (St.le.of ?_ ?_) (fun i hi => ?_)
  · repeat' (first | exact trivial | refine And.intro rfl ?_)
  · repeat' (first | exact trivial | refine And.intro rfl ?_)
  · obtain ⟨hi, hix⟩ := hi
    by_cases hlt : i < L.length
    · have bbk : decide ((i : Int) < ((L.map fun h => [AV.int .i64 h]).length : Int)) = false → False := fun h => by have := of_decide_eq_false h; rw [List.length_map] at this; omega
      have hx := ints_get L i hlt
      rw [idxF_step (d := (0 : Int)) hlt] at hix
      generalize L.getD i 0 = x at hx hix
      repeat' first
        | exact (bbk (by assumption)).elim
        | refine SPB.seq ?_
        | refine SPB.block ?_
        | refine SPB.draw hG Tryz.TT_ok Tryz.keep17 (by kernel_rfl) ?_
        | refine SPB.reg hG Tryz.TT_ok Tryz.keep17 (by kernel_rfl) ?_
        | refine SPB.skip hG Tryz.TT_ok ?_
        | refine SPB.label hG Tryz.TT_ok ?_
        | refine SPB.ret hG Tryz.TT_ok ?_
        | refine SPB.exit hG Tryz.TT_ok ?_
        | refine SPB.condT rfl ?_
        | refine SPB.condF rfl ?_
        | refine SPB.cond rfl (And.intro (fun h => ?_) (fun h => ?_))
        | (conv => whnf
           first
             | refine And.intro (fun h => Bool.noConfusion (h : false = true)) (fun _ => ?_)
             | refine And.intro (fun _ => ?_) (fun h => Bool.noConfusion (h : true = false))
             | refine And.intro (by kernel_rfl) ?_
             | refine And.intro (Int.natCast_nonneg i) (Exists.intro _ (And.intro hx ?_))
             | refine And.intro (fun h => ?_) (fun h => ?_)
             | refine Or.inl ?_
             | fail)
      · rw [if_pos (by assumption)] at hix
        refine Ends.mk (Or.inl rfl) (AV.weak.of_eq ?_)
        rw [← hix]
        simp only [if_pos (show (i : Int) ≥ 0 by omega)]
        rfl
      · rw [if_neg (fun h => tf h (by assumption))] at hix
        refine Exists.intro (i + 1) (And.intro ⟨hlt, hix⟩ (And.intro (by omega) (St.le.of ?_ ?_)))
        · refine And.intro (congrArg some (le_next (by omega))) ?_
          repeat' (first | exact trivial | refine And.intro rfl ?_)
        · repeat' (first | exact trivial | refine And.intro rfl ?_)
    · have hge : i = L.length := by omega
      have bbk : decide ((i : Int) < ((L.map fun h => [AV.int .i64 h]).length : Int)) = true → False := fun h => by have := of_decide_eq_true h; rw [List.length_map] at this; omega
      rw [List.drop_of_length_le (by omega)] at hix
      repeat' first
        | exact (bbk (by assumption)).elim
        | refine SPB.seq ?_
        | refine SPB.block ?_
        | refine SPB.draw hG Tryz.TT_ok Tryz.keep17 (by kernel_rfl) ?_
        | refine SPB.reg hG Tryz.TT_ok Tryz.keep17 (by kernel_rfl) ?_
        | refine SPB.skip hG Tryz.TT_ok ?_
        | refine SPB.label hG Tryz.TT_ok ?_
        | refine SPB.ret hG Tryz.TT_ok ?_
        | refine SPB.exit hG Tryz.TT_ok ?_
        | refine SPB.condT rfl ?_
        | refine SPB.condF rfl ?_
        | refine SPB.cond rfl (And.intro (fun h => ?_) (fun h => ?_))
        | (conv => whnf
           first
             | refine And.intro (fun h => Bool.noConfusion (h : false = true)) (fun _ => ?_)
             | refine And.intro (fun _ => ?_) (fun h => Bool.noConfusion (h : true = false))
             | refine And.intro (by kernel_rfl) ?_
             | refine And.intro (fun h => ?_) (fun h => ?_)
             | refine Or.inl ?_
             | fail)
      all_goals
        refine Ends.mk (Or.inl rfl) (AV.weak.of_eq ?_)
        rw [← hix]
        simp only [idxF]
        rfl

end Go.Proofs


