/- Contracts of the reference program: what it reckons of slews, turns, heats and windows. The conditions are those typed. -/
import Derived.Test.YtjeopncbnlfplaaPl
set_option linter.unusedSectionVars false
set_option linter.unusedVariables false
set_option linter.unusedSimpArgs false
namespace Go.Proofs
open Go Go.AI
set_option maxRecDepth 10000
set_option linter.unusedSimpArgs false

theorem cnt_snoc (t : Int) (l : List Aim3) (x : Aim3) : cnt t (l ++ [x]) = cnt t l + if hit t x then 1 else 0 := by
  unfold cnt; rw [List.filter_append, List.length_append]; congr 1
  simp only [List.filter_cons, List.filter_nil]; split <;> rfl
theorem Try.c40 (s : Nat → Int) (x y : Aim3) : ACalls Try.prog 40 [.agg (satA s), .agg (aimA x), .agg (aimA y)] (.int .i64 (trnK s x y)) := by
  refine ACalls.ofB Try.TT_ok Try.func40 rfl (by kernel_rfl) Try.mixed (Nat.le_of_ble_eq_true rfl) ?_
  intro F n' w0 m0 hG hro h1
  repeat' first
    | refine SPB.seq ?_
    | refine SPB.block ?_
    | refine SPB.draw hG Try.TT_ok Try.keep40 (by kernel_rfl) ?_
    | refine SPB.reg hG Try.TT_ok Try.keep40 (by kernel_rfl) ?_
    | refine SPB.skip hG Try.TT_ok ?_
    | refine SPB.label hG Try.TT_ok ?_
    | refine SPB.ret hG Try.TT_ok ?_
    | refine SPB.exit hG Try.TT_ok ?_
    | refine SPB.condT rfl ?_
    | refine SPB.condF rfl ?_
    | refine SPB.cond rfl (And.intro (fun h => ?_) (fun h => ?_))
    | (conv => whnf
       first
         | refine And.intro (fun h => Bool.noConfusion (h : false = true)) (fun _ => ?_)
         | refine And.intro (fun _ => ?_) (fun h => Bool.noConfusion (h : true = false))
         | refine And.intro (by kernel_rfl) ?_
         | refine And.intro (fun h => ?_) (fun h => ?_)
         | refine Or.inl ?_
         | fail)
  exact Ends.mk (Or.inl rfl) (AV.weak.of_eq rfl)
theorem Try.c39 (s : Nat → Int) (x y : Aim3) : ACalls Try.prog 39 [.agg (satA s), .agg (aimA x), .agg (aimA y)] (.bool (fitR s x y)) := by
  refine ACalls.ofB Try.TT_ok Try.func39 rfl (by kernel_rfl) Try.mixed (Nat.le_of_ble_eq_true rfl) ?_
  intro F n' w0 m0 hG hro h1
  repeat' first
    | refine SPB.seq ?_
    | refine SPB.block ?_
    | refine SPB.draw hG Try.TT_ok Try.keep39 (by kernel_rfl) ?_
    | refine SPB.reg hG Try.TT_ok Try.keep39 (by kernel_rfl) ?_
    | refine SPB.skip hG Try.TT_ok ?_
    | refine SPB.label hG Try.TT_ok ?_
    | refine SPB.ret hG Try.TT_ok ?_
    | refine SPB.exit hG Try.TT_ok ?_
    | refine SPB.condT rfl ?_
    | refine SPB.condF rfl ?_
    | refine SPB.cond rfl (And.intro (fun h => ?_) (fun h => ?_))
    | (conv => whnf
       first
         | refine And.intro (fun h => Bool.noConfusion (h : false = true)) (fun _ => ?_)
         | refine And.intro (fun _ => ?_) (fun h => Bool.noConfusion (h : true = false))
         | refine And.intro (by kernel_rfl) ?_
         | refine Exists.intro _ (And.intro (Try.c40 s x y) ?_)
         | refine And.intro (fun h => ?_) (fun h => ?_)
         | refine Or.inl ?_
         | fail)
  all_goals refine Ends.mk (Or.inl rfl) (AV.weak.of_eq (congrArg AV.bool ?_))
  all_goals (clear hG; simp_all [fitR, w64])
  all_goals (try (intros; omega))
theorem Try.c44 (l : List Aim3) (t : Int) (hl : l.length ≤ 1000000) : ACalls Try.prog 44 [aimsA l, .int .i64 t] (.int .i64 (cnt t l)) := by
  have hml : ((l.map aimA).length : Int) = l.length := by rw [List.length_map]
  refine ACalls.ofB Try.TT_ok Try.func44 rfl (by kernel_rfl) Try.mixed (Nat.le_of_ble_eq_true rfl) ?_
  intro F n' w0 m0 hG hro h1
  repeat' first
    | refine SPB.seq ?_
    | refine SPB.block ?_
    | refine SPB.draw hG Try.TT_ok Try.keep44 (by kernel_rfl) ?_
    | refine SPB.reg hG Try.TT_ok Try.keep44 (by kernel_rfl) ?_
    | refine SPB.skip hG Try.TT_ok ?_
    | refine SPB.label hG Try.TT_ok ?_
    | refine SPB.ret hG Try.TT_ok ?_
    | refine SPB.exit hG Try.TT_ok ?_
    | refine SPB.condT rfl ?_
    | refine SPB.condF rfl ?_
    | refine SPB.cond rfl (And.intro (fun h => ?_) (fun h => ?_))
    | (conv => whnf
       first
         | refine And.intro (fun h => Bool.noConfusion (h : false = true)) (fun _ => ?_)
         | refine And.intro (fun _ => ?_) (fun h => Bool.noConfusion (h : true = false))
         | refine And.intro (by kernel_rfl) ?_
         | refine And.intro (fun h => ?_) (fun h => ?_)
         | refine Or.inl ?_
         | fail)
  refine SPB.loop (X := Nat) (fun i => ⟨[(6, .int .i64 i), (5, .int .i64 (cnt t (l.take i))), (0, aimsA l), (1, .int .i64 t)], []⟩) (fun i => i ≤ l.length) (fun i => l.length - i) 0 (Nat.zero_le _) (St.le.of ?_ ?_) (fun i hi => ?_)
  · repeat' (first | exact trivial | refine And.intro rfl ?_)
  · repeat' (first | exact trivial | refine And.intro rfl ?_)
  · have hlt : decide ((i : Int) < ((l.map aimA).length : Int)) = true → i < l.length := fun h => by have := of_decide_eq_true h; omega
    have ci := fun h => hx_at (l := l) (i := i) (hlt h) rfl
    have nx : decide ((i : Int) < ((l.map aimA).length : Int)) = true → ∀ b, hit t (aimAt l i) = b → cnt t (l.take (i + 1)) = cnt t (l.take i) + if b then 1 else 0 := fun h b hb => by
      rw [take_snoc (hlt h), cnt_snoc, ← aimAt_eq (hlt h), hb]
    have hc := cnt_le t (l.take i)
    rw [List.length_take] at hc
    repeat' first
      | refine SPB.seq ?_
      | refine SPB.block ?_
      | refine SPB.draw hG Try.TT_ok Try.keep44 (by kernel_rfl) ?_
      | refine SPB.reg hG Try.TT_ok Try.keep44 (by kernel_rfl) ?_
      | refine SPB.skip hG Try.TT_ok ?_
      | refine SPB.label hG Try.TT_ok ?_
      | refine SPB.ret hG Try.TT_ok ?_
      | refine SPB.exit hG Try.TT_ok ?_
      | refine SPB.condT rfl ?_
      | refine SPB.condF rfl ?_
      | refine SPB.cond rfl (And.intro (fun h => ?_) (fun h => ?_))
      | (conv => whnf
         first
           | refine And.intro (fun h => Bool.noConfusion (h : false = true)) (fun _ => ?_)
           | refine And.intro (fun _ => ?_) (fun h => Bool.noConfusion (h : true = false))
           | refine And.intro (by kernel_rfl) ?_
           | refine And.intro (ci (by assumption)).1 (Exists.intro _ (And.intro (ci (by assumption)).2 ?_))
           | refine And.intro (fun h => ?_) (fun h => ?_)
           | refine Or.inl ?_
           | fail)
    · refine Exists.intro (i + 1) (And.intro (hlt (by assumption)) (And.intro (by have := hlt (by assumption); omega) (St.le.of ?_ ?_)))
      · refine And.intro (congrArg some (le_next (by have := hlt (by assumption); omega))) (And.intro (congrArg (fun z => some (AV.int .i64 z)) ?_) ?_)
        · rw [nx (by assumption) true (by simp only [hit, *, Bool.and_self])]
          exact (w64_in (by omega) (by omega)).trans (by simp)
        · repeat' (first | exact trivial | refine And.intro rfl ?_)
      · repeat' (first | exact trivial | refine And.intro rfl ?_)
    · refine Exists.intro (i + 1) (And.intro (hlt (by assumption)) (And.intro (by have := hlt (by assumption); omega) (St.le.of ?_ ?_)))
      · refine And.intro (congrArg some (le_next (by have := hlt (by assumption); omega))) (And.intro (congrArg (fun z => some (AV.int .i64 z)) ?_) ?_)
        · rw [nx (by assumption) false (by simp only [hit, *, Bool.and_false])]
          simp
        · repeat' (first | exact trivial | refine And.intro rfl ?_)
      · repeat' (first | exact trivial | refine And.intro rfl ?_)
    · refine Exists.intro (i + 1) (And.intro (hlt (by assumption)) (And.intro (by have := hlt (by assumption); omega) (St.le.of ?_ ?_)))
      · refine And.intro (congrArg some (le_next (by have := hlt (by assumption); omega))) (And.intro (congrArg (fun z => some (AV.int .i64 z)) ?_) ?_)
        · rw [nx (by assumption) false (by simp only [hit, *, Bool.false_and])]
          simp
        · repeat' (first | exact trivial | refine And.intro rfl ?_)
      · repeat' (first | exact trivial | refine And.intro rfl ?_)
    · have e : l.take i = l := List.take_of_length_le (by have := of_decide_eq_false (by assumption : decide ((i : Int) < ((l.map aimA).length : Int)) = false); omega)
      refine Ends.mk (Or.inl rfl) (AV.weak.of_eq (congrArg (AV.int .i64) ?_))
      rw [e]
theorem Try.v15 (s : Nat → Int) (l : List Aim3) (hl : l.length ≤ 1000000) : ACalls Try.prog 15 [.agg (satA s), aimsA l] (.bool (valS s l)) := Try.c15 s l hl
theorem Try.v14 (s : Nat → Int) (l : List Aim3) (hl : l.length ≤ 1000000) : ACalls Try.prog 14 [.agg (satA s), aimsA l] (.bool (valS s l)) := Try.c14 s l hl
/-- What both answer. -/
def slewG (s : Nat → Int) (l : List Aim3) : AV := .tup (if valS s l then slewA (slewO s l) else [.int .i64 0, .int .i64 0, .bool false, .int .i64 120])
def turnG (s : Nat → Int) (x y : Aim3) : Int := if valS s [x, y] then slewK s x.k y.k else 0
theorem Try.g19 (s : Nat → Int) (x y : Aim3) : ACalls Try.prog 19 [.agg (satA s), .agg (aimA x), .agg (aimA y)] (.int .i64 (turnG s x y)) := by
  refine ACalls.ofB Try.TT_ok Try.func19 rfl (by kernel_rfl) Try.mixed (Nat.le_of_ble_eq_true rfl) ?_
  intro F n' w0 m0 hG hro h1
  repeat' first
    | refine SPB.seq ?_
    | refine SPB.block ?_
    | refine SPB.draw hG Try.TT_ok Try.keep19 (by kernel_rfl) ?_
    | refine SPB.reg hG Try.TT_ok Try.keep19 (by kernel_rfl) ?_
    | refine SPB.skip hG Try.TT_ok ?_
    | refine SPB.label hG Try.TT_ok ?_
    | refine SPB.ret hG Try.TT_ok ?_
    | refine SPB.exit hG Try.TT_ok ?_
    | refine SPB.condT rfl ?_
    | refine SPB.condF rfl ?_
    | refine SPB.cond rfl (And.intro (fun h => ?_) (fun h => ?_))
    | (conv => whnf
       first
         | refine And.intro (fun h => Bool.noConfusion (h : false = true)) (fun _ => ?_)
         | refine And.intro (fun _ => ?_) (fun h => Bool.noConfusion (h : true = false))
         | refine And.intro (by kernel_rfl) ?_
         | refine Exists.intro _ (And.intro ((Try.v15 s [x, y] (Nat.le_of_ble_eq_true rfl)).sl1) ?_)
         | refine Exists.intro _ (And.intro (Try.c40 s x y) ?_)
         | refine And.intro (fun h => ?_) (fun h => ?_)
         | refine Or.inl ?_
         | fail)
  · refine Ends.mk (Or.inl rfl) (AV.weak.of_eq (congrArg (AV.int .i64) ?_))
    rw [turnG, if_neg (by rw [notT (by assumption : (!valS s [x, y]) = true)]; exact Bool.false_ne_true)]
  · refine Ends.mk (Or.inl rfl) (AV.weak.of_eq (congrArg (AV.int .i64) ?_))
    have h := notF (by assumption : (!valS s [x, y]) = false)
    have hs := satB_of (valS_sat h)
    rw [turnG, if_pos h]
    exact trnK_eq (aimB_of hs (valS_aim h (by simp))) (aimB_of hs (valS_aim h (by simp)))
theorem Try.b18 (s : Nat → Int) (x y : Aim3) (hv : valS s [x, y] = false) : ACalls Try.prog 18 [.agg (satA s), .agg (aimA x), .agg (aimA y)] (.int .i64 0) := by
  have kv := (Try.v14 s [x, y] (Nat.le_of_ble_eq_true rfl)).sl1 (o := .full)
  rw [hv] at kv
  refine ACalls.ofB Try.TT_ok Try.func18 rfl (by kernel_rfl) Try.mixed (Nat.le_of_ble_eq_true rfl) ?_
  intro F n' w0 m0 hG hro h1
  repeat' first
    | refine SPB.seq ?_
    | refine SPB.block ?_
    | refine SPB.draw hG Try.TT_ok Try.keep18 (by kernel_rfl) ?_
    | refine SPB.reg hG Try.TT_ok Try.keep18 (by kernel_rfl) ?_
    | refine SPB.skip hG Try.TT_ok ?_
    | refine SPB.label hG Try.TT_ok ?_
    | refine SPB.ret hG Try.TT_ok ?_
    | refine SPB.exit hG Try.TT_ok ?_
    | refine SPB.condT rfl ?_
    | refine SPB.condF rfl ?_
    | refine SPB.cond rfl (And.intro (fun h => ?_) (fun h => ?_))
    | (conv => whnf
       first
         | refine And.intro (fun h => Bool.noConfusion (h : false = true)) (fun _ => ?_)
         | refine And.intro (fun _ => ?_) (fun h => Bool.noConfusion (h : true = false))
         | refine And.intro (by kernel_rfl) ?_
         | refine Exists.intro _ (And.intro (kv) ?_)
         | refine And.intro (fun h => ?_) (fun h => ?_)
         | refine Or.inl ?_
         | fail)
  exact Ends.mk (Or.inl rfl) (AV.weak.of_eq rfl)
theorem Try.g18 (s : Nat → Int) (x y : Aim3) : ACalls Try.prog 18 [.agg (satA s), .agg (aimA x), .agg (aimA y)] (.int .i64 (turnG s x y)) := by
  cases h : valS s [x, y] with
  | true => rw [turnG, if_pos h]; exact Try.c18 s x y h
  | false => rw [turnG, if_neg (by rw [h]; exact Bool.false_ne_true)]; exact Try.b18 s x y h
theorem Try.b16 (s : Nat → Int) (l : List Aim3) (hl : l.length ≤ 1000000) (h : valS s l = false) : ACalls Try.prog 16 [.agg (satA s), aimsA l] (.tup [.int .i64 0, .int .i64 0, .bool false, .int .i64 120]) := by
  refine ACalls.of Try.TT_ok Try.keep16 Try.func16 rfl (by kernel_rfl) Try.mixed (by kernel_rfl) (Nat.le_of_ble_eq_true rfl) ?_
  intro F n' w0 m0 hG hro h1
  refine SP.scopeEnds (awp_sound (keep := Try.keep16) hG Try.TT_ok _ _ _ (by kernel_rfl) ?_)
  refine Exists.intro _ (And.intro (Try.v14 s l hl) ?_)
  refine And.intro (fun hs => ?_) (fun hs => ?_)
  · exact Ends.mk (Or.inl rfl) (AV.weak.of_eq rfl)
  · rw [notF hs] at h; cases h
theorem Try.g16 (s : Nat → Int) (l : List Aim3) (hl : l.length ≤ 1000000) : ACalls Try.prog 16 [.agg (satA s), aimsA l] (slewG s l) := by
  cases h : valS s l with
  | true => rw [slewG, if_pos h]; exact Try.c16 s l hl h
  | false => rw [slewG, if_neg (by rw [h]; exact Bool.false_ne_true)]; exact Try.b16 s l hl h
theorem Try.b17 (s : Nat → Int) (l : List Aim3) (hl : l.length ≤ 1000000) (hv : valS s l = false) : ACalls Try.prog 17 [.agg (satA s), aimsA l] (.tup [.int .i64 0, .int .i64 0, .bool false, .int .i64 120]) := by
  have kv := Try.v15 s l hl
  rw [hv] at kv
  refine ACalls.ofB Try.TT_ok Try.func17 rfl (by kernel_rfl) Try.mixed (Nat.le_of_ble_eq_true rfl) ?_
  intro F n' w0 m0 hG hro h1
  repeat' first
    | refine SPB.seq ?_
    | refine SPB.block ?_
    | refine SPB.draw hG Try.TT_ok Try.keep17 (by kernel_rfl) ?_
    | refine SPB.reg hG Try.TT_ok Try.keep17 (by kernel_rfl) ?_
    | refine SPB.skip hG Try.TT_ok ?_
    | refine SPB.label hG Try.TT_ok ?_
    | refine SPB.ret hG Try.TT_ok ?_
    | refine SPB.exit hG Try.TT_ok ?_
    | refine SPB.condT rfl ?_
    | refine SPB.condF rfl ?_
    | refine SPB.cond rfl (And.intro (fun h => ?_) (fun h => ?_))
    | (conv => whnf
       first
         | refine And.intro (fun h => Bool.noConfusion (h : false = true)) (fun _ => ?_)
         | refine And.intro (fun _ => ?_) (fun h => Bool.noConfusion (h : true = false))
         | refine And.intro (by kernel_rfl) ?_
         | refine Exists.intro _ (And.intro (kv) ?_)
         | refine And.intro (fun h => ?_) (fun h => ?_)
         | refine Or.inl ?_
         | fail)
  exact Ends.mk (Or.inl rfl) (AV.weak.of_eq rfl)
theorem Try.c17 (s : Nat → Int) (l : List Aim3) (hl : l.length ≤ 1000000) (hv : valS s l = true) : ACalls Try.prog 17 [.agg (satA s), aimsA l] (.tup (slewA (slewO s l))) := by
  have hml : ((l.map aimA).length : Int) = l.length := by rw [List.length_map]
  have hsB := satB_of (valS_sat hv)
  have hxB : ∀ i, i < l.length → AimB (aimAt l i) := fun i h => aimB_of hsB (valS_aim hv (aimAt_mem h))
  have kv := Try.v15 s l hl
  rw [hv] at kv
  refine ACalls.ofB Try.TT_ok Try.func17 rfl (by kernel_rfl) Try.mixed (Nat.le_of_ble_eq_true rfl) ?_
  intro F n' w0 m0 hG hro h1
  repeat' first
    | refine SPB.seq ?_
    | refine SPB.block ?_
    | refine SPB.draw hG Try.TT_ok Try.keep17 (by kernel_rfl) ?_
    | refine SPB.reg hG Try.TT_ok Try.keep17 (by kernel_rfl) ?_
    | refine SPB.skip hG Try.TT_ok ?_
    | refine SPB.label hG Try.TT_ok ?_
    | refine SPB.ret hG Try.TT_ok ?_
    | refine SPB.exit hG Try.TT_ok ?_
    | refine SPB.condT rfl ?_
    | refine SPB.condF rfl ?_
    | refine SPB.cond rfl (And.intro (fun h => ?_) (fun h => ?_))
    | (conv => whnf
       first
         | refine And.intro (fun h => Bool.noConfusion (h : false = true)) (fun _ => ?_)
         | refine And.intro (fun _ => ?_) (fun h => Bool.noConfusion (h : true = false))
         | refine And.intro (by kernel_rfl) ?_
         | refine Exists.intro _ (And.intro (kv) ?_)
         | refine And.intro (fun h => ?_) (fun h => ?_)
         | refine Or.inl ?_
         | fail)
  refine SPB.loop (X := Nat) (fun k => ⟨[(8, .int .i64 k), (1, aimsA l), (2, .loc 2 0)], [(2, satA s)]⟩) (fun k => k ≤ l.length ∧ ∀ j, j < k → slewJ s l j = none) (fun k => l.length - k) 0 ⟨Nat.zero_le _, fun k hk => absurd hk (Nat.not_lt_zero _)⟩ (St.le.of ?_ ?_) (fun k hk => ?_)
  · repeat' (first | exact trivial | refine And.intro rfl ?_)
  · repeat' (first | exact trivial | refine And.intro rfl ?_)
  · obtain ⟨hk, hall⟩ := hk
    have hlt : decide ((k : Int) < ((l.map aimA).length : Int)) = true → k < l.length := fun h => by have := of_decide_eq_true h; omega
    have ck := fun h => hx_at (l := l) (i := k) (hlt h) rfl
    repeat' first
      | refine SPB.seq ?_
      | refine SPB.block ?_
      | refine SPB.draw hG Try.TT_ok Try.keep17 (by kernel_rfl) ?_
      | refine SPB.reg hG Try.TT_ok Try.keep17 (by kernel_rfl) ?_
      | refine SPB.skip hG Try.TT_ok ?_
      | refine SPB.label hG Try.TT_ok ?_
      | refine SPB.ret hG Try.TT_ok ?_
      | refine SPB.exit hG Try.TT_ok ?_
      | refine SPB.condT rfl ?_
      | refine SPB.condF rfl ?_
      | refine SPB.cond rfl (And.intro (fun h => ?_) (fun h => ?_))
      | (conv => whnf
         first
           | refine And.intro (fun h => Bool.noConfusion (h : false = true)) (fun _ => ?_)
           | refine And.intro (fun _ => ?_) (fun h => Bool.noConfusion (h : true = false))
           | refine And.intro (by kernel_rfl) ?_
           | refine And.intro (fun h => ?_) (fun h => ?_)
           | refine Or.inl ?_
           | fail)
    · have hk2 := hlt (by assumption)
      refine SPB.loop (X := Nat) (fun i => ⟨[(9, .int .i64 i), (8, .int .i64 k), (1, aimsA l), (2, .loc 2 0)], [(2, satA s)]⟩) (fun i => i ≤ k ∧ ∀ j, j < i → slewI s l k j = none) (fun i => k - i) 0 ⟨Nat.zero_le _, fun k hk => absurd hk (Nat.not_lt_zero _)⟩ (St.le.of ?_ ?_) (fun i hi => ?_)
      · repeat' (first | exact trivial | refine And.intro rfl ?_)
      · repeat' (first | exact trivial | refine And.intro rfl ?_)
      · obtain ⟨hi, hal2⟩ := hi
        have hlt2 : decide ((i : Int) < (k : Int)) = true → i < k := fun h => by have := of_decide_eq_true h; omega
        have ci := fun h => hx_at (l := l) (i := i) (z := i) (by have := hlt2 h; omega) rfl
        have hfit := fun (h : decide ((i : Int) < (k : Int)) = true) => fitR_eq hsB (hxB i (by have := hlt2 h; omega)) (hxB k hk2)
        have c39 := Try.c39 s (aimAt l i) (aimAt l k)
        have ck := ck (by assumption)
        repeat' first
          | refine SPB.seq ?_
          | refine SPB.block ?_
          | refine SPB.draw hG Try.TT_ok Try.keep17 (by kernel_rfl) ?_
          | refine SPB.reg hG Try.TT_ok Try.keep17 (by kernel_rfl) ?_
          | refine SPB.skip hG Try.TT_ok ?_
          | refine SPB.label hG Try.TT_ok ?_
          | refine SPB.ret hG Try.TT_ok ?_
          | refine SPB.exit hG Try.TT_ok ?_
          | refine SPB.condT rfl ?_
          | refine SPB.condF rfl ?_
          | refine SPB.cond rfl (And.intro (fun h => ?_) (fun h => ?_))
          | (conv => whnf
             first
               | refine And.intro (fun h => Bool.noConfusion (h : false = true)) (fun _ => ?_)
               | refine And.intro (fun _ => ?_) (fun h => Bool.noConfusion (h : true = false))
               | refine And.intro (by kernel_rfl) ?_
               | refine And.intro (ci (by assumption)).1 (Exists.intro _ (And.intro (ci (by assumption)).2 ?_))
               | refine And.intro ck.1 (Exists.intro _ (And.intro ck.2 ?_))
               | refine Exists.intro _ (And.intro (c39) ?_)
               | refine And.intro (fun h => ?_) (fun h => ?_)
               | refine Or.inl ?_
               | fail)
        · refine Ends.mk (Or.inl rfl) (AV.weak.of_eq ?_)
          have hf : fitP s (aimAt l i) (aimAt l k) = false := by rw [← hfit (by assumption)]; exact notT (by assumption)
          have hJ : slewJ s l k = some (i, k) := find_some (hlt2 (by assumption)) hal2 (by unfold slewI; rw [if_neg (by rw [hf]; exact Bool.false_ne_true)])
          have hO : slewO s l = some (i, k) := find_some hk2 hall hJ
          rw [hO]; rfl
        · have hf : fitP s (aimAt l i) (aimAt l k) = true := by rw [← hfit (by assumption)]; exact notF (by assumption)
          refine Exists.intro (i + 1) (And.intro ⟨hlt2 (by assumption), fun j hj => ?_⟩ (And.intro (by have := hlt2 (by assumption); omega) (St.le.of ?_ ?_)))
          · rcases Nat.lt_succ_iff_lt_or_eq.1 hj with h | rfl
            · exact hal2 j h
            · unfold slewI; rw [if_pos hf]
          · refine And.intro (congrArg some (le_next (by omega))) ?_
            repeat' (first | exact trivial | refine And.intro rfl ?_)
          · repeat' (first | exact trivial | refine And.intro rfl ?_)
        · have hi3 : i = k := by have := of_decide_eq_false (by assumption : decide ((i : Int) < (k : Int)) = false); omega
          subst hi3
          refine Exists.intro (i + 1) (And.intro ⟨hk2, fun j hj => ?_⟩ (And.intro (by omega) (St.le.of ?_ ?_)))
          · rcases Nat.lt_succ_iff_lt_or_eq.1 hj with h | rfl
            · exact hall j h
            · exact find_none hal2
          · refine And.intro (congrArg some (le_next (by omega))) ?_
            repeat' (first | exact trivial | refine And.intro rfl ?_)
          · repeat' (first | exact trivial | refine And.intro rfl ?_)
    · have hk3 : k = l.length := by have := of_decide_eq_false (by assumption : decide ((k : Int) < ((l.map aimA).length : Int)) = false); omega
      subst hk3
      have hO : slewO s l = none := find_none hall
      exact Ends.mk (Or.inl rfl) (AV.weak.of_eq (by rw [hO]; rfl))
theorem Try.g17 (s : Nat → Int) (l : List Aim3) (hl : l.length ≤ 1000000) : ACalls Try.prog 17 [.agg (satA s), aimsA l] (slewG s l) := by
  cases h : valS s l with
  | true => rw [slewG, if_pos h]; exact Try.c17 s l hl h
  | false => rw [slewG, if_neg (by rw [h]; exact Bool.false_ne_true)]; exact Try.b17 s l hl h
end Go.Proofs


namespace Go.Proofs
open Go Go.AI
set_option maxRecDepth 10000
set_option linter.unusedSimpArgs false

def okV (s : Nat → Int) (l : List Aim3) (a b : Int) : Bool := spanS a b && valS s l
/-- The reference's heats. -/
theorem Try.b21 (s : Nat → Int) (l : List Aim3) (a b : Int) (hl : l.length ≤ 1000000) (hv : okV s l a b = false) : ACalls Try.prog 21 [.agg (satA s), aimsA l, .agg (spellA a b)] (.tup [intsA [], .int .i64 120]) := by
  have kv := Try.v15 s l hl
  have ks := Try.c43 a b
  cases h1 : valS s l with
  | false =>
    rw [h1] at kv
    refine ACalls.ofB Try.TT_ok Try.func21 rfl (by kernel_rfl) Try.mixed (Nat.le_of_ble_eq_true rfl) ?_
    intro F n' w0 m0 hG hro h1
    repeat' first
      | refine SPB.seq ?_
      | refine SPB.block ?_
      | refine SPB.draw hG Try.TT_ok Try.keep21 (by kernel_rfl) ?_
      | refine SPB.reg hG Try.TT_ok Try.keep21 (by kernel_rfl) ?_
      | refine SPB.skip hG Try.TT_ok ?_
      | refine SPB.label hG Try.TT_ok ?_
      | refine SPB.ret hG Try.TT_ok ?_
      | refine SPB.exit hG Try.TT_ok ?_
      | refine SPB.condT rfl ?_
      | refine SPB.condF rfl ?_
      | refine SPB.cond rfl (And.intro (fun h => ?_) (fun h => ?_))
      | (conv => whnf
         first
           | refine And.intro (fun h => Bool.noConfusion (h : false = true)) (fun _ => ?_)
           | refine And.intro (fun _ => ?_) (fun h => Bool.noConfusion (h : true = false))
           | refine And.intro (by kernel_rfl) ?_
           | refine Exists.intro _ (And.intro (kv) ?_)
           | refine And.intro (fun h => ?_) (fun h => ?_)
           | refine Or.inl ?_
           | fail)
    all_goals exact Ends.mk (Or.inl rfl) (AV.weak.of_eq rfl)
  | true =>
    have h2 : spanS a b = false := by simpa [okV, h1] using hv
    rw [h1] at kv
    rw [h2] at ks
    refine ACalls.ofB Try.TT_ok Try.func21 rfl (by kernel_rfl) Try.mixed (Nat.le_of_ble_eq_true rfl) ?_
    intro F n' w0 m0 hG hro h1
    repeat' first
      | refine SPB.seq ?_
      | refine SPB.block ?_
      | refine SPB.draw hG Try.TT_ok Try.keep21 (by kernel_rfl) ?_
      | refine SPB.reg hG Try.TT_ok Try.keep21 (by kernel_rfl) ?_
      | refine SPB.skip hG Try.TT_ok ?_
      | refine SPB.label hG Try.TT_ok ?_
      | refine SPB.ret hG Try.TT_ok ?_
      | refine SPB.exit hG Try.TT_ok ?_
      | refine SPB.condT rfl ?_
      | refine SPB.condF rfl ?_
      | refine SPB.cond rfl (And.intro (fun h => ?_) (fun h => ?_))
      | (conv => whnf
         first
           | refine And.intro (fun h => Bool.noConfusion (h : false = true)) (fun _ => ?_)
           | refine And.intro (fun _ => ?_) (fun h => Bool.noConfusion (h : true = false))
           | refine And.intro (by kernel_rfl) ?_
           | refine Exists.intro _ (And.intro (kv) ?_)
           | refine Exists.intro _ (And.intro (ks) ?_)
           | refine And.intro (fun h => ?_) (fun h => ?_)
           | refine Or.inl ?_
           | fail)
    all_goals exact Ends.mk (Or.inl rfl) (AV.weak.of_eq rfl)
theorem heatR {s : Nat → Int} {l : List Aim3} (h : HotOK s l) (a : Int) (n : Nat) (hn : n ≤ 3000) : max 0 (w64 (w64 (hv (gS s l) a n + w64 (s 16 * (cnt (a + n) l : Nat))) - s 17)) = hv (gS s l) a (n + 1) := by
  have h1 := hv_rng (gS_rng h) a n
  have h2 := mul_rng h.w0 h.w1 (n := cnt (a + n) l) (by have := cnt_le (a + n) l; have := h.ln; omega)
  have := h.c0; have := h.c1
  rw [w64_in (n := s 16 * _) (by omega) (by omega), w64_in (n := hv _ _ _ + _) (by omega) (by omega), w64_in (by omega) (by omega)]
  show _ = max 0 (hv (gS s l) a n + gS s l (a + n))
  rw [gS_eq h]; omega
theorem Try.c21 (s : Nat → Int) (l : List Aim3) (a b : Int) (hl : l.length ≤ 1000000) (hs : spanS a b = true) (hv' : valS s l = true) : ACalls Try.prog 21 [.agg (satA s), aimsA l, .agg (spellA a b)] (.tup [intsA (heatsL s l a b), .int .i64 0]) := by
  have kv := Try.v15 s l hl
  have ks := Try.c43 a b
  rw [hv'] at kv
  rw [hs] at ks
  have hH := HotOK.of hv'
  obtain ⟨ha, hab, hb⟩ := span_b hs
  have hba : b - a ≤ 3000 := by
    simp only [spanS, Bool.and_eq_true, decide_eq_true_eq] at hs
    rw [w64_in (n := b - a) (by omega) (by omega)] at hs; exact hs.2
  have eH := heats_eq hH (a := a) (b := b) hba
  refine ACalls.ofB Try.TT_ok Try.func21 rfl (by kernel_rfl) Try.mixed (Nat.le_of_ble_eq_true rfl) ?_
  intro F n' w0 m0 hG hro h1
  repeat' first
    | refine SPB.seq ?_
    | refine SPB.block ?_
    | refine SPB.draw hG Try.TT_ok Try.keep21 (by kernel_rfl) ?_
    | refine SPB.reg hG Try.TT_ok Try.keep21 (by kernel_rfl) ?_
    | refine SPB.skip hG Try.TT_ok ?_
    | refine SPB.label hG Try.TT_ok ?_
    | refine SPB.ret hG Try.TT_ok ?_
    | refine SPB.exit hG Try.TT_ok ?_
    | refine SPB.condT rfl ?_
    | refine SPB.condF rfl ?_
    | refine SPB.cond rfl (And.intro (fun h => ?_) (fun h => ?_))
    | (conv => whnf
       first
         | refine And.intro (fun h => Bool.noConfusion (h : false = true)) (fun _ => ?_)
         | refine And.intro (fun _ => ?_) (fun h => Bool.noConfusion (h : true = false))
         | refine And.intro (by kernel_rfl) ?_
         | refine Exists.intro _ (And.intro (kv) ?_)
         | refine Exists.intro _ (And.intro (ks) ?_)
         | refine And.intro (fun h => ?_) (fun h => ?_)
         | refine Or.inl ?_
         | fail)
  refine SPB.loop (X := Nat) (fun i => ⟨[(10, .int .i64 (a + (i : Int))), (9, .int .i64 (hv (gS s l) a i)), (8, .sl (.id 8) 1 (((List.range i).map fun j => hv (gS s l) a (j + 1)).map fun h => [AV.int .i64 h])), (1, aimsA l), (3, .loc 3 0), (5, .loc 5 0)], [(3, satA s), (5, [.int .i64 a, .int .i64 b])]⟩) (fun i => i ≤ (b - a).toNat) (fun i => (b - a).toNat - i) 0 (Nat.zero_le _) (St.le.of ?_ ?_) (fun i hi => ?_)
  · refine And.intro (congrArg (fun z => some (AV.int .i64 z)) (show a = a + ((0 : Nat) : Int) by omega)) ?_
    repeat' (first | exact trivial | refine And.intro rfl ?_)
  · repeat' (first | exact trivial | refine And.intro rfl ?_)
  · have k44 := Try.c44 l (a + i) hl
    have hR := heatR hH a i (by omega)
    have hlen : (((List.range i).map fun j => hv (gS s l) a (j + 1)).map fun h => [AV.int .i64 h]).length ≤ 3000 := by simp; omega
    repeat' first
      | refine SPB.seq ?_
      | refine SPB.block ?_
      | refine SPB.draw hG Try.TT_ok Try.keep21 (by kernel_rfl) ?_
      | refine SPB.reg hG Try.TT_ok Try.keep21 (by kernel_rfl) ?_
      | refine SPB.skip hG Try.TT_ok ?_
      | refine SPB.label hG Try.TT_ok ?_
      | refine SPB.ret hG Try.TT_ok ?_
      | refine SPB.exit hG Try.TT_ok ?_
      | refine SPB.condT rfl ?_
      | refine SPB.condF rfl ?_
      | refine SPB.cond rfl (And.intro (fun h => ?_) (fun h => ?_))
      | (conv => whnf
         first
           | refine And.intro (fun h => Bool.noConfusion (h : false = true)) (fun _ => ?_)
           | refine And.intro (fun _ => ?_) (fun h => Bool.noConfusion (h : true = false))
           | refine And.intro (by kernel_rfl) ?_
           | refine Exists.intro _ (And.intro (k44) ?_)
           | refine And.intro (show _ * 8 ≤ 70368744177664 by simp only [List.length_cons, List.length_nil]; omega) (And.intro (show _ + _ ≤ 4611686018427387904 by simp only [List.length_cons, List.length_nil]; omega) ?_)
           | refine And.intro (fun h => ?_) (fun h => ?_)
           | refine Or.inl ?_
           | fail)
    · have hi2 : i < (b - a).toNat := by have := of_decide_eq_true (by assumption : decide (a + (i : Int) < b) = true); omega
      refine Exists.intro (i + 1) (And.intro hi2 (And.intro (by omega) (St.le.of ?_ ?_)))
      · refine And.intro (congrArg (fun z => some (AV.int .i64 z)) ((w64_in (by omega) (by omega)).trans (by omega))) (And.intro (congrArg (fun z => some (AV.int .i64 z)) hR) (And.intro (congrArg (fun z => some (AV.sl (.id 8) 1 z)) ?_) ?_))
        · rw [List.range_succ, List.map_append, List.map_append]
          exact congrArg (fun z => _ ++ [[AV.int .i64 z]]) hR
        · repeat' (first | exact trivial | refine And.intro rfl ?_)
      · repeat' (first | exact trivial | refine And.intro rfl ?_)
    · have hi2 : i = (b - a).toNat := by have := of_decide_eq_false (by assumption : decide (a + (i : Int) < b) = false); omega
      subst hi2
      refine Ends.mk (Or.inl rfl) (AV.weak.of_eq ?_)
      rw [eH]; rfl
def heatG (s : Nat → Int) (l : List Aim3) (a b : Int) : AV := .tup (if okV s l a b then [intsA (heatsL s l a b), .int .i64 0] else [intsA [], .int .i64 120])
theorem okV_t {s : Nat → Int} {l : List Aim3} {a b : Int} (h : okV s l a b = true) : spanS a b = true ∧ valS s l = true := by simpa [okV] using h
theorem Try.g21 (s : Nat → Int) (l : List Aim3) (a b : Int) (hl : l.length ≤ 1000000) : ACalls Try.prog 21 [.agg (satA s), aimsA l, .agg (spellA a b)] (heatG s l a b) := by
  cases h : okV s l a b with
  | true => rw [heatG, if_pos h]; exact Try.c21 s l a b hl (okV_t h).1 (okV_t h).2
  | false => rw [heatG, if_neg (by rw [h]; exact Bool.false_ne_true)]; exact Try.b21 s l a b hl h
theorem Try.g20 (s : Nat → Int) (l : List Aim3) (a b : Int) (hl : l.length ≤ 1000000) : ACalls Try.prog 20 [.agg (satA s), aimsA l, .agg (spellA a b)] (heatG s l a b) := by
  cases h : okV s l a b with
  | true => rw [heatG, if_pos h]; exact Try.c20 s l a b hl (okV_t h).1 (okV_t h).2
  | false => rw [heatG, if_neg (by rw [h]; exact Bool.false_ne_true)]; exact Try.b20 s l a b hl h
theorem Try.b23 (s : Nat → Int) (l : List Aim3) (a b : Int) (hl : l.length ≤ 1000000) (hv : okV s l a b = false) : ACalls Try.prog 23 [.agg (satA s), aimsA l, .agg (spellA a b)] (.tup [.int .i64 0, .int .i64 120]) := by
  have k21 := Try.b21 s l a b hl hv
  refine ACalls.ofB Try.TT_ok Try.func23 rfl (by kernel_rfl) Try.mixed (Nat.le_of_ble_eq_true rfl) ?_
  intro F n' w0 m0 hG hro h1
  repeat' first
    | refine SPB.seq ?_
    | refine SPB.block ?_
    | refine SPB.draw hG Try.TT_ok Try.keep23 (by kernel_rfl) ?_
    | refine SPB.reg hG Try.TT_ok Try.keep23 (by kernel_rfl) ?_
    | refine SPB.skip hG Try.TT_ok ?_
    | refine SPB.label hG Try.TT_ok ?_
    | refine SPB.ret hG Try.TT_ok ?_
    | refine SPB.exit hG Try.TT_ok ?_
    | refine SPB.condT rfl ?_
    | refine SPB.condF rfl ?_
    | refine SPB.cond rfl (And.intro (fun h => ?_) (fun h => ?_))
    | (conv => whnf
       first
         | refine And.intro (fun h => Bool.noConfusion (h : false = true)) (fun _ => ?_)
         | refine And.intro (fun _ => ?_) (fun h => Bool.noConfusion (h : true = false))
         | refine And.intro (by kernel_rfl) ?_
         | refine Exists.intro _ (And.intro (k21) ?_)
         | refine And.intro (fun h => ?_) (fun h => ?_)
         | refine Or.inl ?_
         | fail)
  exact Ends.mk (Or.inl rfl) (AV.weak.of_eq rfl)
theorem Try.c23 (s : Nat → Int) (l : List Aim3) (a b : Int) (hl : l.length ≤ 1000000) (hs : spanS a b = true) (hv' : valS s l = true) : ACalls Try.prog 23 [.agg (satA s), aimsA l, .agg (spellA a b)] (.tup [.int .i64 (hotS s l a b), .int .i64 0]) := by
  have k21 := Try.c21 s l a b hl hs hv'
  have lA := heatsL_len s l a b
  obtain ⟨ha, hab, hb⟩ := span_b hs
  have hh : hotS s l a b = (let i := idxF (fun h => decide (h > s 18)) (heatsL s l a b) 0; if i ≥ 0 then w64 (a + i) else -1) := rfl
  generalize heatsL s l a b = A at *
  generalize hotS s l a b = hot at *
  have mA : ((A.map fun h => [AV.int .i64 h]).length : Int) = A.length := by rw [List.length_map]
  refine ACalls.ofB Try.TT_ok Try.func23 rfl (by kernel_rfl) Try.mixed (Nat.le_of_ble_eq_true rfl) ?_
  intro F n' w0 m0 hG hro h1
  repeat' first
    | refine SPB.seq ?_
    | refine SPB.block ?_
    | refine SPB.draw hG Try.TT_ok Try.keep23 (by kernel_rfl) ?_
    | refine SPB.reg hG Try.TT_ok Try.keep23 (by kernel_rfl) ?_
    | refine SPB.skip hG Try.TT_ok ?_
    | refine SPB.label hG Try.TT_ok ?_
    | refine SPB.ret hG Try.TT_ok ?_
    | refine SPB.exit hG Try.TT_ok ?_
    | refine SPB.condT rfl ?_
    | refine SPB.condF rfl ?_
    | refine SPB.cond rfl (And.intro (fun h => ?_) (fun h => ?_))
    | (conv => whnf
       first
         | refine And.intro (fun h => Bool.noConfusion (h : false = true)) (fun _ => ?_)
         | refine And.intro (fun _ => ?_) (fun h => Bool.noConfusion (h : true = false))
         | refine And.intro (by kernel_rfl) ?_
         | refine Exists.intro _ (And.intro (k21) ?_)
         | refine And.intro (fun h => ?_) (fun h => ?_)
         | refine Or.inl ?_
         | fail)
  refine SPB.loop (X := Nat) (fun i => ⟨[(10, .int .i64 i), (8, intsA A), (3, .loc 3 0), (5, .loc 5 0)], [(3, satA s), (5, [.int .i64 a, .int .i64 b])]⟩) (fun i => i ≤ A.length ∧ idxF (fun h => decide (h > s 18)) (A.drop i) i = idxF (fun h => decide (h > s 18)) A 0) (fun i => A.length - i) 0 ⟨Nat.zero_le _, by simp⟩ (St.le.of ?_ ?_) (fun i hi => ?_)
  · repeat' (first | exact trivial | refine And.intro rfl ?_)
  · repeat' (first | exact trivial | refine And.intro rfl ?_)
  · obtain ⟨hi, hidx⟩ := hi
    have hlt : decide ((i : Int) < ((A.map fun h => [AV.int .i64 h]).length : Int)) = true → i < A.length := fun h => by have := of_decide_eq_true h; omega
    have cA := fun h => hL_at (l := A) (i := i) (z := i) (hlt h) rfl
    have hgd : ∀ h : i < A.length, A.getD i 0 = A[i] := fun h => by simp [List.getElem?_eq_getElem h]
    repeat' first
      | refine SPB.seq ?_
      | refine SPB.block ?_
      | refine SPB.draw hG Try.TT_ok Try.keep23 (by kernel_rfl) ?_
      | refine SPB.reg hG Try.TT_ok Try.keep23 (by kernel_rfl) ?_
      | refine SPB.skip hG Try.TT_ok ?_
      | refine SPB.label hG Try.TT_ok ?_
      | refine SPB.ret hG Try.TT_ok ?_
      | refine SPB.exit hG Try.TT_ok ?_
      | refine SPB.condT rfl ?_
      | refine SPB.condF rfl ?_
      | refine SPB.cond rfl (And.intro (fun h => ?_) (fun h => ?_))
      | (conv => whnf
         first
           | refine And.intro (fun h => Bool.noConfusion (h : false = true)) (fun _ => ?_)
           | refine And.intro (fun _ => ?_) (fun h => Bool.noConfusion (h : true = false))
           | refine And.intro (by kernel_rfl) ?_
           | refine And.intro (cA (by assumption)).1 (Exists.intro _ (And.intro (cA (by assumption)).2 ?_))
           | refine And.intro (fun h => ?_) (fun h => ?_)
           | refine Or.inl ?_
           | fail)
    · have hi2 := hlt (by assumption)
      rw [idxF_step hi2, if_pos (by rw [← hgd hi2]; exact (by assumption : decide (A.getD i 0 > s 18) = true))] at hidx
      refine Ends.mk (Or.inl rfl) (AV.weak.of_eq ?_)
      rw [hh, ← hidx]
      show _ = AV.tup [.int .i64 (if (i : Int) ≥ 0 then w64 (a + (i : Int)) else -1), .int .i64 0]
      rw [if_pos (by omega)]; rfl
    · have hi2 := hlt (by assumption)
      rw [idxF_step hi2, if_neg (by rw [← hgd hi2, (by assumption : decide (A.getD i 0 > s 18) = false)]; exact Bool.false_ne_true)] at hidx
      refine Exists.intro (i + 1) (And.intro ⟨hi2, hidx⟩ (And.intro (by omega) (St.le.of ?_ ?_)))
      · refine And.intro (congrArg some (le_next (by omega))) ?_
        repeat' (first | exact trivial | refine And.intro rfl ?_)
      · repeat' (first | exact trivial | refine And.intro rfl ?_)
    · have hi2 : i = A.length := by have := of_decide_eq_false (by assumption : decide ((i : Int) < ((A.map fun h => [AV.int .i64 h]).length : Int)) = false); omega
      subst hi2
      rw [List.drop_length] at hidx
      refine Ends.mk (Or.inl rfl) (AV.weak.of_eq ?_)
      rw [hh, ← hidx]; rfl
def hotG (s : Nat → Int) (l : List Aim3) (a b : Int) : AV := .tup (if okV s l a b then [.int .i64 (hotS s l a b), .int .i64 0] else [.int .i64 0, .int .i64 120])
theorem Try.g23 (s : Nat → Int) (l : List Aim3) (a b : Int) (hl : l.length ≤ 1000000) : ACalls Try.prog 23 [.agg (satA s), aimsA l, .agg (spellA a b)] (hotG s l a b) := by
  cases h : okV s l a b with
  | true => rw [hotG, if_pos h]; exact Try.c23 s l a b hl (okV_t h).1 (okV_t h).2
  | false => rw [hotG, if_neg (by rw [h]; exact Bool.false_ne_true)]; exact Try.b23 s l a b hl h
theorem Try.g22 (s : Nat → Int) (l : List Aim3) (a b : Int) (hl : l.length ≤ 1000000) : ACalls Try.prog 22 [.agg (satA s), aimsA l, .agg (spellA a b)] (hotG s l a b) := by
  cases h : okV s l a b with
  | true => rw [hotG, if_pos h]; exact Try.c22 s l a b hl (okV_t h).1 (okV_t h).2
  | false => rw [hotG, if_neg (by rw [h]; exact Bool.false_ne_true)]; exact Try.b22 s l a b hl h
end Go.Proofs


namespace Go.Proofs
open Go Go.AI
set_option maxRecDepth 10000
set_option linter.unusedSimpArgs false
theorem Try.b25 (s : Nat → Int) (l : List Aim3) (a b : Int) (hl : l.length ≤ 1000000) (hv : okV s l a b = false) : ACalls Try.prog 25 [.agg (satA s), aimsA l, .agg (spellA a b)] (.tup [.int .i64 0, .int .i64 120]) := by
  have kv := Try.v14 s l hl
  have ks := Try.c41 a b
  cases h1 : valS s l with
  | false =>
    rw [h1] at kv
    cases h2 : spanS a b <;> rw [h2] at ks
    all_goals (
      refine ACalls.ofB Try.TT_ok Try.func25 rfl (by kernel_rfl) Try.mixed (Nat.le_of_ble_eq_true rfl) ?_
      intro F n' w0 m0 hG hro h1
      repeat' first
        | refine SPB.seq ?_
        | refine SPB.block ?_
        | refine SPB.draw hG Try.TT_ok Try.keep25 (by kernel_rfl) ?_
        | refine SPB.reg hG Try.TT_ok Try.keep25 (by kernel_rfl) ?_
        | refine SPB.skip hG Try.TT_ok ?_
        | refine SPB.label hG Try.TT_ok ?_
        | refine SPB.ret hG Try.TT_ok ?_
        | refine SPB.exit hG Try.TT_ok ?_
        | refine SPB.condT rfl ?_
        | refine SPB.condF rfl ?_
        | refine SPB.cond rfl (And.intro (fun h => ?_) (fun h => ?_))
        | (conv => whnf
           first
             | refine And.intro (fun h => Bool.noConfusion (h : false = true)) (fun _ => ?_)
             | refine And.intro (fun _ => ?_) (fun h => Bool.noConfusion (h : true = false))
             | refine And.intro (by kernel_rfl) ?_
             | refine Exists.intro _ (And.intro (kv) ?_)
             | refine Exists.intro _ (And.intro (ks) ?_)
             | refine And.intro (fun h => ?_) (fun h => ?_)
             | refine Or.inl ?_
             | fail)
      all_goals exact Ends.mk (Or.inl rfl) (AV.weak.of_eq rfl))
  | true =>
    have h2 : spanS a b = false := by simpa [okV, h1] using hv
    rw [h1] at kv
    rw [h2] at ks
    refine ACalls.ofB Try.TT_ok Try.func25 rfl (by kernel_rfl) Try.mixed (Nat.le_of_ble_eq_true rfl) ?_
    intro F n' w0 m0 hG hro h1
    repeat' first
      | refine SPB.seq ?_
      | refine SPB.block ?_
      | refine SPB.draw hG Try.TT_ok Try.keep25 (by kernel_rfl) ?_
      | refine SPB.reg hG Try.TT_ok Try.keep25 (by kernel_rfl) ?_
      | refine SPB.skip hG Try.TT_ok ?_
      | refine SPB.label hG Try.TT_ok ?_
      | refine SPB.ret hG Try.TT_ok ?_
      | refine SPB.exit hG Try.TT_ok ?_
      | refine SPB.condT rfl ?_
      | refine SPB.condF rfl ?_
      | refine SPB.cond rfl (And.intro (fun h => ?_) (fun h => ?_))
      | (conv => whnf
         first
           | refine And.intro (fun h => Bool.noConfusion (h : false = true)) (fun _ => ?_)
           | refine And.intro (fun _ => ?_) (fun h => Bool.noConfusion (h : true = false))
           | refine And.intro (by kernel_rfl) ?_
           | refine Exists.intro _ (And.intro (kv) ?_)
           | refine Exists.intro _ (And.intro (ks) ?_)
           | refine And.intro (fun h => ?_) (fun h => ?_)
           | refine Or.inl ?_
           | fail)
    all_goals exact Ends.mk (Or.inl rfl) (AV.weak.of_eq rfl)
theorem Try.b26 (s : Nat → Int) (l : List Aim3) (a b : Int) (hl : l.length ≤ 1000000) (hv : okV s l a b = false) : ACalls Try.prog 26 [.agg (satA s), aimsA l, .agg (spellA a b)] (.tup [.int .i64 0, .int .i64 120]) := by
  have kv := Try.v15 s l hl
  have ks := Try.c43 a b
  cases h1 : valS s l with
  | false =>
    rw [h1] at kv
    cases h2 : spanS a b <;> rw [h2] at ks
    all_goals (
      refine ACalls.ofB Try.TT_ok Try.func26 rfl (by kernel_rfl) Try.mixed (Nat.le_of_ble_eq_true rfl) ?_
      intro F n' w0 m0 hG hro h1
      repeat' first
        | refine SPB.seq ?_
        | refine SPB.block ?_
        | refine SPB.draw hG Try.TT_ok Try.keep26 (by kernel_rfl) ?_
        | refine SPB.reg hG Try.TT_ok Try.keep26 (by kernel_rfl) ?_
        | refine SPB.skip hG Try.TT_ok ?_
        | refine SPB.label hG Try.TT_ok ?_
        | refine SPB.ret hG Try.TT_ok ?_
        | refine SPB.exit hG Try.TT_ok ?_
        | refine SPB.condT rfl ?_
        | refine SPB.condF rfl ?_
        | refine SPB.cond rfl (And.intro (fun h => ?_) (fun h => ?_))
        | (conv => whnf
           first
             | refine And.intro (fun h => Bool.noConfusion (h : false = true)) (fun _ => ?_)
             | refine And.intro (fun _ => ?_) (fun h => Bool.noConfusion (h : true = false))
             | refine And.intro (by kernel_rfl) ?_
             | refine Exists.intro _ (And.intro (kv) ?_)
             | refine Exists.intro _ (And.intro (ks) ?_)
             | refine And.intro (fun h => ?_) (fun h => ?_)
             | refine Or.inl ?_
             | fail)
      all_goals exact Ends.mk (Or.inl rfl) (AV.weak.of_eq rfl))
  | true =>
    have h2 : spanS a b = false := by simpa [okV, h1] using hv
    rw [h1] at kv
    rw [h2] at ks
    refine ACalls.ofB Try.TT_ok Try.func26 rfl (by kernel_rfl) Try.mixed (Nat.le_of_ble_eq_true rfl) ?_
    intro F n' w0 m0 hG hro h1
    repeat' first
      | refine SPB.seq ?_
      | refine SPB.block ?_
      | refine SPB.draw hG Try.TT_ok Try.keep26 (by kernel_rfl) ?_
      | refine SPB.reg hG Try.TT_ok Try.keep26 (by kernel_rfl) ?_
      | refine SPB.skip hG Try.TT_ok ?_
      | refine SPB.label hG Try.TT_ok ?_
      | refine SPB.ret hG Try.TT_ok ?_
      | refine SPB.exit hG Try.TT_ok ?_
      | refine SPB.condT rfl ?_
      | refine SPB.condF rfl ?_
      | refine SPB.cond rfl (And.intro (fun h => ?_) (fun h => ?_))
      | (conv => whnf
         first
           | refine And.intro (fun h => Bool.noConfusion (h : false = true)) (fun _ => ?_)
           | refine And.intro (fun _ => ?_) (fun h => Bool.noConfusion (h : true = false))
           | refine And.intro (by kernel_rfl) ?_
           | refine Exists.intro _ (And.intro (kv) ?_)
           | refine Exists.intro _ (And.intro (ks) ?_)
           | refine And.intro (fun h => ?_) (fun h => ?_)
           | refine Or.inl ?_
           | fail)
    all_goals exact Ends.mk (Or.inl rfl) (AV.weak.of_eq rfl)
theorem Try.b27 (s : Nat → Int) (l : List Aim3) (a b : Int) (hl : l.length ≤ 1000000) (hv : okV s l a b = false) : ACalls Try.prog 27 [.agg (satA s), aimsA l, .agg (spellA a b)] (.tup [.agg [.int .i64 0, .int .i64 0], .int .i64 0, .int .i64 120]) := by
  have kv := Try.v14 s l hl
  have ks := Try.c41 a b
  cases h1 : valS s l with
  | false =>
    rw [h1] at kv
    cases h2 : spanS a b <;> rw [h2] at ks
    all_goals (
      refine ACalls.ofB Try.TT_ok Try.func27 rfl (by kernel_rfl) Try.mixed (Nat.le_of_ble_eq_true rfl) ?_
      intro F n' w0 m0 hG hro h1
      repeat' first
        | refine SPB.seq ?_
        | refine SPB.block ?_
        | refine SPB.draw hG Try.TT_ok Try.keep27 (by kernel_rfl) ?_
        | refine SPB.reg hG Try.TT_ok Try.keep27 (by kernel_rfl) ?_
        | refine SPB.skip hG Try.TT_ok ?_
        | refine SPB.label hG Try.TT_ok ?_
        | refine SPB.ret hG Try.TT_ok ?_
        | refine SPB.exit hG Try.TT_ok ?_
        | refine SPB.condT rfl ?_
        | refine SPB.condF rfl ?_
        | refine SPB.cond rfl (And.intro (fun h => ?_) (fun h => ?_))
        | (conv => whnf
           first
             | refine And.intro (fun h => Bool.noConfusion (h : false = true)) (fun _ => ?_)
             | refine And.intro (fun _ => ?_) (fun h => Bool.noConfusion (h : true = false))
             | refine And.intro (by kernel_rfl) ?_
             | refine Exists.intro _ (And.intro (kv) ?_)
             | refine Exists.intro _ (And.intro (ks) ?_)
             | refine And.intro (fun h => ?_) (fun h => ?_)
             | refine Or.inl ?_
             | fail)
      all_goals exact Ends.mk (Or.inl rfl) (AV.weak.of_eq rfl))
  | true =>
    have h2 : spanS a b = false := by simpa [okV, h1] using hv
    rw [h1] at kv
    rw [h2] at ks
    refine ACalls.ofB Try.TT_ok Try.func27 rfl (by kernel_rfl) Try.mixed (Nat.le_of_ble_eq_true rfl) ?_
    intro F n' w0 m0 hG hro h1
    repeat' first
      | refine SPB.seq ?_
      | refine SPB.block ?_
      | refine SPB.draw hG Try.TT_ok Try.keep27 (by kernel_rfl) ?_
      | refine SPB.reg hG Try.TT_ok Try.keep27 (by kernel_rfl) ?_
      | refine SPB.skip hG Try.TT_ok ?_
      | refine SPB.label hG Try.TT_ok ?_
      | refine SPB.ret hG Try.TT_ok ?_
      | refine SPB.exit hG Try.TT_ok ?_
      | refine SPB.condT rfl ?_
      | refine SPB.condF rfl ?_
      | refine SPB.cond rfl (And.intro (fun h => ?_) (fun h => ?_))
      | (conv => whnf
         first
           | refine And.intro (fun h => Bool.noConfusion (h : false = true)) (fun _ => ?_)
           | refine And.intro (fun _ => ?_) (fun h => Bool.noConfusion (h : true = false))
           | refine And.intro (by kernel_rfl) ?_
           | refine Exists.intro _ (And.intro (kv) ?_)
           | refine Exists.intro _ (And.intro (ks) ?_)
           | refine And.intro (fun h => ?_) (fun h => ?_)
           | refine Or.inl ?_
           | fail)
    all_goals exact Ends.mk (Or.inl rfl) (AV.weak.of_eq rfl)
theorem Try.b28 (s : Nat → Int) (l : List Aim3) (a b : Int) (hl : l.length ≤ 1000000) (hv : okV s l a b = false) : ACalls Try.prog 28 [.agg (satA s), aimsA l, .agg (spellA a b)] (.tup [.agg [.int .i64 0, .int .i64 0], .int .i64 0, .int .i64 120]) := by
  have kv := Try.v15 s l hl
  have ks := Try.c43 a b
  cases h1 : valS s l with
  | false =>
    rw [h1] at kv
    cases h2 : spanS a b <;> rw [h2] at ks
    all_goals (
      refine ACalls.ofB Try.TT_ok Try.func28 rfl (by kernel_rfl) Try.mixed (Nat.le_of_ble_eq_true rfl) ?_
      intro F n' w0 m0 hG hro h1
      repeat' first
        | refine SPB.seq ?_
        | refine SPB.block ?_
        | refine SPB.draw hG Try.TT_ok Try.keep28 (by kernel_rfl) ?_
        | refine SPB.reg hG Try.TT_ok Try.keep28 (by kernel_rfl) ?_
        | refine SPB.skip hG Try.TT_ok ?_
        | refine SPB.label hG Try.TT_ok ?_
        | refine SPB.ret hG Try.TT_ok ?_
        | refine SPB.exit hG Try.TT_ok ?_
        | refine SPB.condT rfl ?_
        | refine SPB.condF rfl ?_
        | refine SPB.cond rfl (And.intro (fun h => ?_) (fun h => ?_))
        | (conv => whnf
           first
             | refine And.intro (fun h => Bool.noConfusion (h : false = true)) (fun _ => ?_)
             | refine And.intro (fun _ => ?_) (fun h => Bool.noConfusion (h : true = false))
             | refine And.intro (by kernel_rfl) ?_
             | refine Exists.intro _ (And.intro (kv) ?_)
             | refine Exists.intro _ (And.intro (ks) ?_)
             | refine And.intro (fun h => ?_) (fun h => ?_)
             | refine Or.inl ?_
             | fail)
      all_goals exact Ends.mk (Or.inl rfl) (AV.weak.of_eq rfl))
  | true =>
    have h2 : spanS a b = false := by simpa [okV, h1] using hv
    rw [h1] at kv
    rw [h2] at ks
    refine ACalls.ofB Try.TT_ok Try.func28 rfl (by kernel_rfl) Try.mixed (Nat.le_of_ble_eq_true rfl) ?_
    intro F n' w0 m0 hG hro h1
    repeat' first
      | refine SPB.seq ?_
      | refine SPB.block ?_
      | refine SPB.draw hG Try.TT_ok Try.keep28 (by kernel_rfl) ?_
      | refine SPB.reg hG Try.TT_ok Try.keep28 (by kernel_rfl) ?_
      | refine SPB.skip hG Try.TT_ok ?_
      | refine SPB.label hG Try.TT_ok ?_
      | refine SPB.ret hG Try.TT_ok ?_
      | refine SPB.exit hG Try.TT_ok ?_
      | refine SPB.condT rfl ?_
      | refine SPB.condF rfl ?_
      | refine SPB.cond rfl (And.intro (fun h => ?_) (fun h => ?_))
      | (conv => whnf
         first
           | refine And.intro (fun h => Bool.noConfusion (h : false = true)) (fun _ => ?_)
           | refine And.intro (fun _ => ?_) (fun h => Bool.noConfusion (h : true = false))
           | refine And.intro (by kernel_rfl) ?_
           | refine Exists.intro _ (And.intro (kv) ?_)
           | refine Exists.intro _ (And.intro (ks) ?_)
           | refine And.intro (fun h => ?_) (fun h => ?_)
           | refine Or.inl ?_
           | fail)
    all_goals exact Ends.mk (Or.inl rfl) (AV.weak.of_eq rfl)

theorem ovs_mul {w d : Int} {n : Nat} {o : Int} (hw : 0 ≤ w ∧ w ≤ 10000) (hd : 0 ≤ d ∧ d ≤ 3000) (hn : n ≤ 64) (ho : 0 ≤ o ∧ o ≤ d * n) : 0 ≤ w * o ∧ w * o ≤ 1920000000 := by
  have h1 : d * (n : Int) ≤ 3000 * 64 := Int.mul_le_mul hd.2 (by omega) (by omega) (by omega)
  have h2 : w * o ≤ 10000 * 192000 := Int.mul_le_mul hw.2 (by omega) ho.1 (by omega)
  exact ⟨Int.mul_nonneg hw.1 ho.1, by omega⟩
theorem Try.c26 (s : Nat → Int) (l : List Aim3) (a b : Int) (hl : l.length ≤ 1000000) (hs : spanS a b = true) (hv' : valS s l = true) : ACalls Try.prog 26 [.agg (satA s), aimsA l, .agg (spellA a b)] (.tup [.int .i64 (sumRun (gainsL s l a b)), .int .i64 0]) := by
  have kv := Try.v15 s l hl
  have ks := Try.c43 a b
  rw [hv'] at kv
  rw [hs] at ks
  have hH := HotOK.of hv'
  have hsB := satB_of (valS_sat hv')
  have hxB : ∀ x ∈ l, AimB x := fun x hx => aimB_of hsB (valS_aim hv' hx)
  have hln := valS_len hv'
  obtain ⟨ha, hab, hb⟩ := span_b hs
  have hba : b - a ≤ 3000 := by
    simp only [spanS, Bool.and_eq_true, decide_eq_true_eq] at hs
    rw [w64_in (n := b - a) (by omega) (by omega)] at hs; exact hs.2
  have hml : ((l.map aimA).length : Int) = l.length := by rw [List.length_map]
  have hw0 := hH.w0; have hw1 := hH.w1; have hc0 := hH.c0; have hc1 := hH.c1
  have eS : sumRun (gainsL s l a b) = s 16 * ovs a b l - s 17 * (b - a) := by
    rw [window_eq hH hba, sm_ovs hH (fun x hx => (hxB x hx).ab), show a + ((b - a).toNat : Int) = b by omega, show (((b - a).toNat : Nat) : Int) = b - a by omega]
  have hcm : 0 ≤ s 17 * (b - a) ∧ s 17 * (b - a) ≤ 30000000 := ⟨Int.mul_nonneg hc0 (by omega), Int.le_trans (Int.mul_le_mul hc1 hba (by omega) (by omega)) (by omega)⟩
  have hov : ∀ i, i ≤ l.length → 0 ≤ s 16 * ovs a b (l.take i) ∧ s 16 * ovs a b (l.take i) ≤ 1920000000 := fun i hi => by
    have := ovs_rng (a := a) (b := b) (by omega) (l.take i)
    rw [List.length_take] at this
    exact ovs_mul (n := min i l.length) ⟨hw0, hw1⟩ (d := b - a) (by omega) (by omega) this
  have e0 : IntKind.i64.wrap (IntKind.i64.wrap (0 - s 17) * IntKind.i64.wrap (b - a)) = s 16 * ovs a b (l.take 0) - s 17 * (b - a) := by
    rw [show IntKind.i64.wrap (0 - s 17) = 0 - s 17 from w64_in (by omega) (by omega), show IntKind.i64.wrap (b - a) = b - a from w64_in (by omega) (by omega), show (0 - s 17) * (b - a) = -(s 17 * (b - a)) by rw [Int.zero_sub, Int.neg_mul]]
    simp only [List.take_zero, ovs, Int.mul_zero]
    exact (w64_in (by omega) (by omega)).trans (by omega)
  refine ACalls.ofB Try.TT_ok Try.func26 rfl (by kernel_rfl) Try.mixed (Nat.le_of_ble_eq_true rfl) ?_
  intro F n' w0 m0 hG hro h1
  repeat' first
    | refine SPB.seq ?_
    | refine SPB.block ?_
    | refine SPB.draw hG Try.TT_ok Try.keep26 (by kernel_rfl) ?_
    | refine SPB.reg hG Try.TT_ok Try.keep26 (by kernel_rfl) ?_
    | refine SPB.skip hG Try.TT_ok ?_
    | refine SPB.label hG Try.TT_ok ?_
    | refine SPB.ret hG Try.TT_ok ?_
    | refine SPB.exit hG Try.TT_ok ?_
    | refine SPB.condT rfl ?_
    | refine SPB.condF rfl ?_
    | refine SPB.cond rfl (And.intro (fun h => ?_) (fun h => ?_))
    | (conv => whnf
       first
         | refine And.intro (fun h => Bool.noConfusion (h : false = true)) (fun _ => ?_)
         | refine And.intro (fun _ => ?_) (fun h => Bool.noConfusion (h : true = false))
         | refine And.intro (by kernel_rfl) ?_
         | refine Exists.intro _ (And.intro (kv) ?_)
         | refine Exists.intro _ (And.intro (ks) ?_)
         | refine And.intro (fun h => ?_) (fun h => ?_)
         | refine Or.inl ?_
         | fail)
  refine SPB.loop (X := Nat) (fun i => ⟨[(9, .int .i64 i), (8, .int .i64 (s 16 * ovs a b (l.take i) - s 17 * (b - a))), (1, aimsA l), (3, .loc 3 0), (5, .loc 5 0)], [(3, satA s), (5, [.int .i64 a, .int .i64 b])]⟩) (fun i => i ≤ l.length) (fun i => l.length - i) 0 (Nat.zero_le _) (St.le.of ?_ ?_) (fun i hi => ?_)
  · refine And.intro rfl (And.intro (congrArg (fun z => some (AV.int .i64 z)) e0) ?_)
    repeat' (first | exact trivial | refine And.intro rfl ?_)
  · repeat' (first | exact trivial | refine And.intro rfl ?_)
  · have hlt : decide ((i : Int) < ((l.map aimA).length : Int)) = true → i < l.length := fun h => by have := of_decide_eq_true h; omega
    have ci := fun h => hx_at (l := l) (i := i) (hlt h) rfl
    have nx : decide ((i : Int) < ((l.map aimA).length : Int)) = true → IntKind.i64.wrap (s 16 * ovs a b (l.take i) - s 17 * (b - a) + IntKind.i64.wrap (s 16 * max 0 (IntKind.i64.wrap (min b (aimAt l i).b - max a (aimAt l i).a)))) = s 16 * ovs a b (l.take (i + 1)) - s 17 * (b - a) := fun h => by
      have h2 := hlt h
      have hx := hxB _ (aimAt_mem h2)
      have := hx.a0; have := hx.ab; have := hx.b1
      have q0 := hov i hi
      have q1 := hov (i + 1) h2
      rw [show IntKind.i64.wrap (min b (aimAt l i).b - max a (aimAt l i).a) = min b (aimAt l i).b - max a (aimAt l i).a from w64_in (by omega) (by omega)]
      have e : ovs a b (l.take (i + 1)) = ovs a b (l.take i) + max 0 (min b (aimAt l i).b - max a (aimAt l i).a) := by rw [take_snoc h2, ovs_snoc, ← aimAt_eq h2]; rfl
      rw [e, Int.mul_add] at q1 ⊢
      generalize s 16 * max 0 (min b (aimAt l i).b - max a (aimAt l i).a) = m at *
      rw [show IntKind.i64.wrap m = m from w64_in (by omega) (by omega)]
      exact (w64_in (by omega) (by omega)).trans (by omega)
    repeat' first
      | refine SPB.seq ?_
      | refine SPB.block ?_
      | refine SPB.draw hG Try.TT_ok Try.keep26 (by kernel_rfl) ?_
      | refine SPB.reg hG Try.TT_ok Try.keep26 (by kernel_rfl) ?_
      | refine SPB.skip hG Try.TT_ok ?_
      | refine SPB.label hG Try.TT_ok ?_
      | refine SPB.ret hG Try.TT_ok ?_
      | refine SPB.exit hG Try.TT_ok ?_
      | refine SPB.condT rfl ?_
      | refine SPB.condF rfl ?_
      | refine SPB.cond rfl (And.intro (fun h => ?_) (fun h => ?_))
      | (conv => whnf
         first
           | refine And.intro (fun h => Bool.noConfusion (h : false = true)) (fun _ => ?_)
           | refine And.intro (fun _ => ?_) (fun h => Bool.noConfusion (h : true = false))
           | refine And.intro (by kernel_rfl) ?_
           | refine And.intro (ci (by assumption)).1 (Exists.intro _ (And.intro (ci (by assumption)).2 ?_))
           | refine And.intro (fun h => ?_) (fun h => ?_)
           | refine Or.inl ?_
           | fail)
    · refine Exists.intro (i + 1) (And.intro (hlt (by assumption)) (And.intro (by have := hlt (by assumption); omega) (St.le.of ?_ ?_)))
      · refine And.intro (congrArg some (le_next (by omega))) (And.intro (congrArg (fun z => some (AV.int .i64 z)) (nx (by assumption))) ?_)
        repeat' (first | exact trivial | refine And.intro rfl ?_)
      · repeat' (first | exact trivial | refine And.intro rfl ?_)
    · have hi2 : i = l.length := by have := of_decide_eq_false (by assumption : decide ((i : Int) < ((l.map aimA).length : Int)) = false); omega
      subst hi2
      refine Ends.mk (Or.inl rfl) (AV.weak.of_eq ?_)
      rw [eS, List.take_length]; rfl
theorem ksStep_t {a : Int} {w : KS} {p : Int × Int} (h : p.1 = a ∨ (ksIn w p.1).sum + p.2 > (ksIn w p.1).most) : ksStep a w p = ⟨(ksIn w p.1).frm, (ksIn w p.1).sum + p.2, (ksIn w p.1).frm, p.1 + 1, (ksIn w p.1).sum + p.2⟩ := by unfold ksStep; exact if_pos h
theorem ksStep_f {a : Int} {w : KS} {p : Int × Int} (h : ¬(p.1 = a ∨ (ksIn w p.1).sum + p.2 > (ksIn w p.1).most)) : ksStep a w p = { ksIn w p.1 with sum := (ksIn w p.1).sum + p.2 } := by unfold ksStep; exact if_neg h
theorem Try.c28 (s : Nat → Int) (l : List Aim3) (a b : Int) (hl : l.length ≤ 1000000) (hs : spanS a b = true) (hv' : valS s l = true) : ACalls Try.prog 28 [.agg (satA s), aimsA l, .agg (spellA a b)]
    (.tup [.agg [.int .i64 (worstRun a (gainsL s l a b)).bf, .int .i64 (worstRun a (gainsL s l a b)).bt], .int .i64 (worstRun a (gainsL s l a b)).most, .int .i64 0]) := by
  have kv := Try.v15 s l hl
  have ks := Try.c43 a b
  rw [hv'] at kv
  rw [hs] at ks
  have hH := HotOK.of hv'
  have hsB := satB_of (valS_sat hv')
  have hxB : ∀ x ∈ l, AimB x := fun x hx => aimB_of hsB (valS_aim hv' hx)
  have hln := valS_len hv'
  obtain ⟨ha, hab, hb⟩ := span_b hs
  have hba : b - a ≤ 3000 := by
    simp only [spanS, Bool.and_eq_true, decide_eq_true_eq] at hs
    rw [w64_in (n := b - a) (by omega) (by omega)] at hs; exact hs.2
  have hml : ((l.map aimA).length : Int) = l.length := by rw [List.length_map]
  have hw0 := hH.w0; have hw1 := hH.w1; have hc0 := hH.c0; have hc1 := hH.c1
  have hks := ks_eq hH (a := a) (by omega) (b - a).toNat (by omega)
  have hgg : gainsL s l a b = gainR s l a (b - a).toNat := rfl
  rw [← hgg] at hks
  generalize worstRun a (gainsL s l a b) = W at *
  have hrng : ∀ n : Nat, n ≤ 3000 → -2000000000 ≤ (ksRun a (gS s l) n).sum ∧ (ksRun a (gS s l) n).sum ≤ 2000000000 := fun n hn => by
    rw [ks_eq hH (a := a) (by omega) n hn]
    have hq := sm_rng (gS_rng hH) a
    have hb : ∃ j0 : Nat, j0 ≤ n ∧ (worstRun a (gainR s l a n)).sum = sm (gS s l) a n ∧ (worstRun a (gainR s l a n)).least = sm (gS s l) a j0 := by
      cases n with
      | zero => exact ⟨0, by omega, rfl, rfl⟩
      | succ n =>
        obtain ⟨j0, i1, k1, hI⟩ := worst_inv hH a (by omega) n (by omega)
        exact ⟨j0, by have := hI.jn; omega, hI.sum, hI.least⟩
    obtain ⟨j0, hj, e1, e2⟩ := hb
    have hN := hq n
    have hJ := hq j0
    show _ ≤ (worstRun a (gainR s l a n)).sum - (worstRun a (gainR s l a n)).least ∧ (worstRun a (gainR s l a n)).sum - (worstRun a (gainR s l a n)).least ≤ _
    omega
  refine ACalls.ofB Try.TT_ok Try.func28 rfl (by kernel_rfl) Try.mixed (Nat.le_of_ble_eq_true rfl) ?_
  intro F n' w0 m0 hG hro h1
  repeat' first
    | refine SPB.seq ?_
    | refine SPB.block ?_
    | refine SPB.draw hG Try.TT_ok Try.keep28 (by kernel_rfl) ?_
    | refine SPB.reg hG Try.TT_ok Try.keep28 (by kernel_rfl) ?_
    | refine SPB.skip hG Try.TT_ok ?_
    | refine SPB.label hG Try.TT_ok ?_
    | refine SPB.ret hG Try.TT_ok ?_
    | refine SPB.exit hG Try.TT_ok ?_
    | refine SPB.condT rfl ?_
    | refine SPB.condF rfl ?_
    | refine SPB.cond rfl (And.intro (fun h => ?_) (fun h => ?_))
    | (conv => whnf
       first
         | refine And.intro (fun h => Bool.noConfusion (h : false = true)) (fun _ => ?_)
         | refine And.intro (fun _ => ?_) (fun h => Bool.noConfusion (h : true = false))
         | refine And.intro (by kernel_rfl) ?_
         | refine Exists.intro _ (And.intro (kv) ?_)
         | refine Exists.intro _ (And.intro (ks) ?_)
         | refine And.intro (fun h => ?_) (fun h => ?_)
         | refine Or.inl ?_
         | fail)
  refine SPB.loop (X := Nat) (fun i => ⟨[(13, .int .i64 (a + (i : Int))), (12, .int .i64 (ksRun a (gS s l) i).sum), (11, .int .i64 (ksRun a (gS s l) i).frm), (10, .int .i64 (ksRun a (gS s l) i).most), (9, .loc 9 0), (6, .loc 6 0), (1, aimsA l), (3, .loc 3 0), (5, .loc 5 0)], [(9, [.int .i64 (ksRun a (gS s l) i).bf, .int .i64 (ksRun a (gS s l) i).bt]), (6, [.int .i64 0, .int .i64 0]), (3, satA s), (5, [.int .i64 a, .int .i64 b])]⟩) (fun i => i ≤ (b - a).toNat) (fun i => (b - a).toNat - i) 0 (Nat.zero_le _) (St.le.of ?_ ?_) (fun i hi => ?_)
  · refine And.intro (congrArg (fun z => some (AV.int .i64 z)) (show a = a + ((0 : Nat) : Int) by omega)) ?_
    repeat' (first | exact trivial | refine And.intro rfl ?_)
  · repeat' (first | exact trivial | refine And.intro rfl ?_)
  · have k44 := Try.c44 l (a + i) hl
    have hb3 : decide (a + (i : Int) < b) = true → i < (b - a).toNat := fun h => by have := of_decide_eq_true h; omega
    have hg := gS_eq hH (a + i)
    have hmr := mul_rng hw0 hw1 (n := cnt (a + i) l) (by have := cnt_le (a + i) l; omega)
    have hr1 := hrng i (by omega)
    have hK : ksRun a (gS s l) (i + 1) = ksStep a (ksRun a (gS s l) i) (a + i, gS s l (a + i)) := rfl
    have wG : ∀ z : Int, -2000000000 ≤ z → z ≤ 2000000000 → IntKind.i64.wrap (IntKind.i64.wrap (z + IntKind.i64.wrap (s 16 * (cnt (a + i) l : Nat))) - s 17) = z + gS s l (a + i) := fun z h1 h2 => by
      rw [show IntKind.i64.wrap (s 16 * (cnt (a + i) l : Nat)) = s 16 * (cnt (a + i) l : Nat) from w64_in (by omega) (by omega), show IntKind.i64.wrap (z + s 16 * (cnt (a + i) l : Nat)) = z + s 16 * (cnt (a + i) l : Nat) from w64_in (by omega) (by omega)]
      exact (w64_in (by omega) (by omega)).trans (by omega)
    have wA : IntKind.i64.wrap (a + (i : Int) + 1) = a + i + 1 := w64_in (by omega) (by omega)
    have wA' : a + (i : Int) + 1 = a + ((i + 1 : Nat) : Int) := by omega
    have hfin : i = (b - a).toNat → ksRun a (gS s l) i = ksOf W := fun h => by rw [h]; exact hks
    generalize ksRun a (gS s l) i = w at *
    obtain ⟨wf, ws, wb, we, wm⟩ := w
    simp only at hr1
    repeat' first
      | refine SPB.seq ?_
      | refine SPB.block ?_
      | refine SPB.draw hG Try.TT_ok Try.keep28 (by kernel_rfl) ?_
      | refine SPB.reg hG Try.TT_ok Try.keep28 (by kernel_rfl) ?_
      | refine SPB.skip hG Try.TT_ok ?_
      | refine SPB.label hG Try.TT_ok ?_
      | refine SPB.ret hG Try.TT_ok ?_
      | refine SPB.exit hG Try.TT_ok ?_
      | refine SPB.condT rfl ?_
      | refine SPB.condF rfl ?_
      | refine SPB.cond rfl (And.intro (fun h => ?_) (fun h => ?_))
      | (conv => whnf
         first
           | refine And.intro (fun h => Bool.noConfusion (h : false = true)) (fun _ => ?_)
           | refine And.intro (fun _ => ?_) (fun h => Bool.noConfusion (h : true = false))
           | refine And.intro (by kernel_rfl) ?_
           | refine Exists.intro _ (And.intro (k44) ?_)
           | refine And.intro (fun h => ?_) (fun h => ?_)
           | refine Or.inl ?_
           | fail)
    · have c1 := of_decide_eq_true (by assumption : decide (ws ≤ 0) = true)
      have hta : a + (i : Int) = a := beq_iff_eq.1 (by assumption)
      have hk' : ksRun a (gS s l) (i + 1) = ⟨(a + (i : Int)), (0 + gS s l (a + i)), (a + (i : Int)), a + (i : Int) + 1, (0 + gS s l (a + i))⟩ := by
        rw [hK]
        have e : ksIn ⟨wf, ws, wb, we, wm⟩ (a + (i : Int)) = ⟨(a + (i : Int)), 0, wb, we, wm⟩ := if_pos c1
        rw [ksStep_t (by simp only [e]; exact Or.inl hta)]; simp only [e]
      refine Exists.intro (i + 1) (And.intro (hb3 (by assumption)) (And.intro (by have := hb3 (by assumption); omega) (St.le.of ?_ ?_)))
      · refine And.intro (congrArg (fun z => some (AV.int .i64 z)) (wA.trans wA')) (And.intro (congrArg (fun z => some (AV.int .i64 z)) ((wG 0 (by omega) (by omega)).trans (by rw [hk']))) (And.intro (congrArg (fun z => some (AV.int .i64 z)) (show (a + (i : Int)) = _ by rw [hk'])) (And.intro (congrArg (fun z => some (AV.int .i64 z)) ((wG 0 (by omega) (by omega)).trans (by rw [hk']))) ?_)))
        repeat' (first | exact trivial | refine And.intro rfl ?_)
      · refine And.intro (congrArg some (show [AV.int .i64 (a + (i : Int)), AV.int .i64 (IntKind.i64.wrap (a + (i : Int) + 1))] = _ by rw [hk', wA])) ?_
        repeat' (first | exact trivial | refine And.intro rfl ?_)
    · have c1 := of_decide_eq_true (by assumption : decide (ws ≤ 0) = true)
      have hta : ¬ a + (i : Int) = a := beq_eq_false_iff_ne.1 (by assumption)
      have hgt := of_decide_eq_true (by assumption : decide ((IntKind.i64.wrap (IntKind.i64.wrap (0 + IntKind.i64.wrap (s 16 * (cnt (a + i) l : Nat))) - s 17)) > wm) = true)
      rw [wG 0 (by omega) (by omega)] at hgt
      have hk' : ksRun a (gS s l) (i + 1) = ⟨(a + (i : Int)), (0 + gS s l (a + i)), (a + (i : Int)), a + (i : Int) + 1, (0 + gS s l (a + i))⟩ := by
        rw [hK]
        have e : ksIn ⟨wf, ws, wb, we, wm⟩ (a + (i : Int)) = ⟨(a + (i : Int)), 0, wb, we, wm⟩ := if_pos c1
        rw [ksStep_t (by simp only [e]; exact Or.inr hgt)]; simp only [e]
      refine Exists.intro (i + 1) (And.intro (hb3 (by assumption)) (And.intro (by have := hb3 (by assumption); omega) (St.le.of ?_ ?_)))
      · refine And.intro (congrArg (fun z => some (AV.int .i64 z)) (wA.trans wA')) (And.intro (congrArg (fun z => some (AV.int .i64 z)) ((wG 0 (by omega) (by omega)).trans (by rw [hk']))) (And.intro (congrArg (fun z => some (AV.int .i64 z)) (show (a + (i : Int)) = _ by rw [hk'])) (And.intro (congrArg (fun z => some (AV.int .i64 z)) ((wG 0 (by omega) (by omega)).trans (by rw [hk']))) ?_)))
        repeat' (first | exact trivial | refine And.intro rfl ?_)
      · refine And.intro (congrArg some (show [AV.int .i64 (a + (i : Int)), AV.int .i64 (IntKind.i64.wrap (a + (i : Int) + 1))] = _ by rw [hk', wA])) ?_
        repeat' (first | exact trivial | refine And.intro rfl ?_)
    · have c1 := of_decide_eq_true (by assumption : decide (ws ≤ 0) = true)
      have hta : ¬ a + (i : Int) = a := beq_eq_false_iff_ne.1 (by assumption)
      have hgt := of_decide_eq_false (by assumption : decide ((IntKind.i64.wrap (IntKind.i64.wrap (0 + IntKind.i64.wrap (s 16 * (cnt (a + i) l : Nat))) - s 17)) > wm) = false)
      rw [wG 0 (by omega) (by omega)] at hgt
      have hk' : ksRun a (gS s l) (i + 1) = ⟨(a + (i : Int)), (0 + gS s l (a + i)), wb, we, wm⟩ := by
        rw [hK]
        have e : ksIn ⟨wf, ws, wb, we, wm⟩ (a + (i : Int)) = ⟨(a + (i : Int)), 0, wb, we, wm⟩ := if_pos c1
        rw [ksStep_f (by simp only [e]; exact fun h => h.elim hta hgt)]; simp only [e]
      refine Exists.intro (i + 1) (And.intro (hb3 (by assumption)) (And.intro (by have := hb3 (by assumption); omega) (St.le.of ?_ ?_)))
      · refine And.intro (congrArg (fun z => some (AV.int .i64 z)) (wA.trans wA')) (And.intro (congrArg (fun z => some (AV.int .i64 z)) ((wG 0 (by omega) (by omega)).trans (by rw [hk']))) (And.intro (congrArg (fun z => some (AV.int .i64 z)) (show (a + (i : Int)) = _ by rw [hk'])) (And.intro (congrArg (fun z => some (AV.int .i64 z)) (show wm = _ by rw [hk'])) ?_)))
        repeat' (first | exact trivial | refine And.intro rfl ?_)
      · refine And.intro (congrArg some (show [AV.int .i64 wb, AV.int .i64 we] = _ by rw [hk'])) ?_
        repeat' (first | exact trivial | refine And.intro rfl ?_)
    · have c1 := of_decide_eq_false (by assumption : decide (ws ≤ 0) = false)
      have hta : a + (i : Int) = a := beq_iff_eq.1 (by assumption)
      have hk' : ksRun a (gS s l) (i + 1) = ⟨wf, (ws + gS s l (a + i)), wf, a + (i : Int) + 1, (ws + gS s l (a + i))⟩ := by
        rw [hK]
        have e : ksIn ⟨wf, ws, wb, we, wm⟩ (a + (i : Int)) = ⟨wf, ws, wb, we, wm⟩ := if_neg c1
        rw [ksStep_t (by simp only [e]; exact Or.inl hta)]; simp only [e]
      refine Exists.intro (i + 1) (And.intro (hb3 (by assumption)) (And.intro (by have := hb3 (by assumption); omega) (St.le.of ?_ ?_)))
      · refine And.intro (congrArg (fun z => some (AV.int .i64 z)) (wA.trans wA')) (And.intro (congrArg (fun z => some (AV.int .i64 z)) ((wG ws (by omega) (by omega)).trans (by rw [hk']))) (And.intro (congrArg (fun z => some (AV.int .i64 z)) (show wf = _ by rw [hk'])) (And.intro (congrArg (fun z => some (AV.int .i64 z)) ((wG ws (by omega) (by omega)).trans (by rw [hk']))) ?_)))
        repeat' (first | exact trivial | refine And.intro rfl ?_)
      · refine And.intro (congrArg some (show [AV.int .i64 wf, AV.int .i64 (IntKind.i64.wrap (a + (i : Int) + 1))] = _ by rw [hk', wA])) ?_
        repeat' (first | exact trivial | refine And.intro rfl ?_)
    · have c1 := of_decide_eq_false (by assumption : decide (ws ≤ 0) = false)
      have hta : ¬ a + (i : Int) = a := beq_eq_false_iff_ne.1 (by assumption)
      have hgt := of_decide_eq_true (by assumption : decide ((IntKind.i64.wrap (IntKind.i64.wrap (ws + IntKind.i64.wrap (s 16 * (cnt (a + i) l : Nat))) - s 17)) > wm) = true)
      rw [wG ws (by omega) (by omega)] at hgt
      have hk' : ksRun a (gS s l) (i + 1) = ⟨wf, (ws + gS s l (a + i)), wf, a + (i : Int) + 1, (ws + gS s l (a + i))⟩ := by
        rw [hK]
        have e : ksIn ⟨wf, ws, wb, we, wm⟩ (a + (i : Int)) = ⟨wf, ws, wb, we, wm⟩ := if_neg c1
        rw [ksStep_t (by simp only [e]; exact Or.inr hgt)]; simp only [e]
      refine Exists.intro (i + 1) (And.intro (hb3 (by assumption)) (And.intro (by have := hb3 (by assumption); omega) (St.le.of ?_ ?_)))
      · refine And.intro (congrArg (fun z => some (AV.int .i64 z)) (wA.trans wA')) (And.intro (congrArg (fun z => some (AV.int .i64 z)) ((wG ws (by omega) (by omega)).trans (by rw [hk']))) (And.intro (congrArg (fun z => some (AV.int .i64 z)) (show wf = _ by rw [hk'])) (And.intro (congrArg (fun z => some (AV.int .i64 z)) ((wG ws (by omega) (by omega)).trans (by rw [hk']))) ?_)))
        repeat' (first | exact trivial | refine And.intro rfl ?_)
      · refine And.intro (congrArg some (show [AV.int .i64 wf, AV.int .i64 (IntKind.i64.wrap (a + (i : Int) + 1))] = _ by rw [hk', wA])) ?_
        repeat' (first | exact trivial | refine And.intro rfl ?_)
    · have c1 := of_decide_eq_false (by assumption : decide (ws ≤ 0) = false)
      have hta : ¬ a + (i : Int) = a := beq_eq_false_iff_ne.1 (by assumption)
      have hgt := of_decide_eq_false (by assumption : decide ((IntKind.i64.wrap (IntKind.i64.wrap (ws + IntKind.i64.wrap (s 16 * (cnt (a + i) l : Nat))) - s 17)) > wm) = false)
      rw [wG ws (by omega) (by omega)] at hgt
      have hk' : ksRun a (gS s l) (i + 1) = ⟨wf, (ws + gS s l (a + i)), wb, we, wm⟩ := by
        rw [hK]
        have e : ksIn ⟨wf, ws, wb, we, wm⟩ (a + (i : Int)) = ⟨wf, ws, wb, we, wm⟩ := if_neg c1
        rw [ksStep_f (by simp only [e]; exact fun h => h.elim hta hgt)]; simp only [e]
      refine Exists.intro (i + 1) (And.intro (hb3 (by assumption)) (And.intro (by have := hb3 (by assumption); omega) (St.le.of ?_ ?_)))
      · refine And.intro (congrArg (fun z => some (AV.int .i64 z)) (wA.trans wA')) (And.intro (congrArg (fun z => some (AV.int .i64 z)) ((wG ws (by omega) (by omega)).trans (by rw [hk']))) (And.intro (congrArg (fun z => some (AV.int .i64 z)) (show wf = _ by rw [hk'])) (And.intro (congrArg (fun z => some (AV.int .i64 z)) (show wm = _ by rw [hk'])) ?_)))
        repeat' (first | exact trivial | refine And.intro rfl ?_)
      · refine And.intro (congrArg some (show [AV.int .i64 wb, AV.int .i64 we] = _ by rw [hk'])) ?_
        repeat' (first | exact trivial | refine And.intro rfl ?_)
    · have hi2 : i = (b - a).toNat := by have := of_decide_eq_false (by assumption : decide (a + (i : Int) < b) = false); omega
      have h := hfin hi2
      have h1 : wm = W.most := congrArg KS.most h
      have h2 : wb = W.bf := congrArg KS.bf h
      have h3 : we = W.bt := congrArg KS.bt h
      refine Ends.mk (Or.inl rfl) (AV.weak.of_eq ?_)
      rw [← h1, ← h2, ← h3]; rfl
end Go.Proofs


