/- BatteryParts answers true, whatever the input; no condition. -/
import Derived.Test.YtoccmkmnkoldmaaBatC
import Derived.Test.YtoccmkmnkoldmaaRows
set_option linter.unusedSectionVars false
set_option linter.unusedVariables false
set_option linter.unusedSimpArgs false
namespace Go.Proofs
open Go Go.AI
set_option maxRecDepth 10000
set_option linter.unusedSimpArgs false

def bfS (C : Int) (L : List Int) : Nat → Int
  | 0 => C
  | i + 1 => L.getD i 0

set_option maxHeartbeats 8000000 in
theorem Try.y13t (x y s : Nat → Int) (l : List Load3) (z : List (Int × Int × Int)) (from_ long at_ a b p all sm rest : Int) (L Fr : List Int) (nt : Nat → Int) (hL : L.length ≤ 1000)
    (k35 : ACalls Try.prog 35 [.agg (orbA x), .agg (i4A y), .sl .no 3 (z.map row3A), .int .i64 from_, .int .i64 long] (.tup [.agg (satA s), loadsA l, .agg (spellA a b)]))
    (k39 : ACalls Try.prog 39 [.int .i64 at_, .int .i64 (IntKind.i64.wrap (b - a))] (.int .i64 p))
    (k36 : ACalls Try.prog 36 [.agg (satA s), loadsA l, .agg (spellA a b)] (.tup [intsA L, .int .i64 0]))
    (k36f : ACalls Try.prog 36 [.agg (satA s), loadsA l, .agg (spellA a (IntKind.i64.wrap (IntKind.i64.wrap (a + 1) + p)))] (.tup [intsA Fr, .int .i64 0]))
    (k40 : ACalls Try.prog 40 [.agg (satA s), loadsA l, .agg (spellA a b)] (.tup [.int .i64 all, .int .i64 0]))
    (k40m : ACalls Try.prog 40 [.agg (satA s), loadsA l, .agg (spellA a (IntKind.i64.wrap (IntKind.i64.wrap (a + 1) + p)))] (.tup [.int .i64 sm, .int .i64 0]))
    (k40r : ACalls Try.prog 40 [.agg (satA s), loadsA l, .agg (spellA (IntKind.i64.wrap (IntKind.i64.wrap (a + 1) + p)) b)] (.tup [.int .i64 rest, .int .i64 0]))
    (hm : decide ((IntKind.i64.wrap (IntKind.i64.wrap (a + 1) + p)) < b) = true)
    (k40i : ∀ i, i < L.length → ACalls Try.prog 40 [.agg (satA s), loadsA l, .agg (spellA (IntKind.i64.wrap (a + (i : Int))) (IntKind.i64.wrap (IntKind.i64.wrap (a + (i : Int)) + 1)))] (.tup [.int .i64 (nt i), .int .i64 0]))
    (f1 : ((L.map fun h => [AV.int .i64 h]).length : Int) = IntKind.i64.wrap (b - a))
    (f2 : ((Fr.map fun h => [AV.int .i64 h]).length : Int) = IntKind.i64.wrap ((IntKind.i64.wrap (IntKind.i64.wrap (a + 1) + p)) - a))
    (f3 : ∀ i, i < L.length → L.getD i 0 = min (s 11) (IntKind.i64.wrap (bfS (s 11) L i - nt i)))
    (f4 : ∀ i, i < L.length → i < Fr.length → Fr.getD i 0 = L.getD i 0)
    (f5 : all = IntKind.i64.wrap (sm + rest)) :
    ACalls Try.prog 13 [.agg (orbA x), .agg (i4A y), .sl .no 3 (z.map row3A), .int .i64 from_, .int .i64 long, .int .i64 at_] (.bool true) := by
  have bb1 : (((L.map fun h => [AV.int .i64 h]).length : Int) != IntKind.i64.wrap (b - a)) = true → False := fun h => by rw [f1] at h; simp at h
  have bb2 : (((Fr.map fun h => [AV.int .i64 h]).length : Int) != IntKind.i64.wrap ((IntKind.i64.wrap (IntKind.i64.wrap (a + 1) + p)) - a)) = true → False := fun h => by rw [f2] at h; simp at h
  have bbm : decide ((IntKind.i64.wrap (IntKind.i64.wrap (a + 1) + p)) < b) = false → False := fun h => tf hm h
  refine ACalls.ofB Try.TT_ok Try.func13 rfl (by kernel_rfl) Try.mixed (Nat.le_of_ble_eq_true rfl) ?_
  intro F n' w0 m0 hG hro h1
  repeat' first
    | exact (bb1 (by assumption)).elim
    | exact (bb2 (by assumption)).elim
    | exact (bbm (by assumption)).elim
    | refine SPB.seq ?_
    | refine SPB.block ?_
    | refine SPB.draw hG Try.TT_ok Try.keep13 (by kernel_rfl) ?_
    | refine SPB.reg hG Try.TT_ok Try.keep13 (by kernel_rfl) ?_
    | refine SPB.skip hG Try.TT_ok ?_
    | refine SPB.label hG Try.TT_ok ?_
    | refine SPB.ret hG Try.TT_ok ?_
    | refine SPB.exit hG Try.TT_ok ?_
    | refine SPB.condT rfl ?_
    | refine SPB.condF rfl ?_
    | refine SPB.cond rfl (And.intro (fun h => ?_) (fun h => ?_))
    | (conv => whnf
       first
         | refine And.intro (fun h => Bool.noConfusion (h : false = true)) (fun _ => ?_)
         | refine And.intro (fun _ => ?_) (fun h => Bool.noConfusion (h : true = false))
         | refine And.intro (by kernel_rfl) ?_
         | refine And.intro (fun h => ?_) (fun h => ?_)
         | refine Or.inl ?_
         | fail)
  conv => whnf
  refine Exists.intro _ (And.intro (Try.c34) ?_)
  repeat' first
    | exact (bb1 (by assumption)).elim
    | exact (bb2 (by assumption)).elim
    | exact (bbm (by assumption)).elim
    | refine SPB.seq ?_
    | refine SPB.block ?_
    | refine SPB.draw hG Try.TT_ok Try.keep13 (by kernel_rfl) ?_
    | refine SPB.reg hG Try.TT_ok Try.keep13 (by kernel_rfl) ?_
    | refine SPB.skip hG Try.TT_ok ?_
    | refine SPB.label hG Try.TT_ok ?_
    | refine SPB.ret hG Try.TT_ok ?_
    | refine SPB.exit hG Try.TT_ok ?_
    | refine SPB.condT rfl ?_
    | refine SPB.condF rfl ?_
    | refine SPB.cond rfl (And.intro (fun h => ?_) (fun h => ?_))
    | (conv => whnf
       first
         | refine And.intro (fun h => Bool.noConfusion (h : false = true)) (fun _ => ?_)
         | refine And.intro (fun _ => ?_) (fun h => Bool.noConfusion (h : true = false))
         | refine And.intro (by kernel_rfl) ?_
         | refine And.intro (fun h => ?_) (fun h => ?_)
         | refine Or.inl ?_
         | fail)
  conv => whnf
  refine Exists.intro _ (And.intro (k35) ?_)
  repeat' first
    | exact (bb1 (by assumption)).elim
    | exact (bb2 (by assumption)).elim
    | exact (bbm (by assumption)).elim
    | refine SPB.seq ?_
    | refine SPB.block ?_
    | refine SPB.draw hG Try.TT_ok Try.keep13 (by kernel_rfl) ?_
    | refine SPB.reg hG Try.TT_ok Try.keep13 (by kernel_rfl) ?_
    | refine SPB.skip hG Try.TT_ok ?_
    | refine SPB.label hG Try.TT_ok ?_
    | refine SPB.ret hG Try.TT_ok ?_
    | refine SPB.exit hG Try.TT_ok ?_
    | refine SPB.condT rfl ?_
    | refine SPB.condF rfl ?_
    | refine SPB.cond rfl (And.intro (fun h => ?_) (fun h => ?_))
    | (conv => whnf
       first
         | refine And.intro (fun h => Bool.noConfusion (h : false = true)) (fun _ => ?_)
         | refine And.intro (fun _ => ?_) (fun h => Bool.noConfusion (h : true = false))
         | refine And.intro (by kernel_rfl) ?_
         | refine And.intro (fun h => ?_) (fun h => ?_)
         | refine Or.inl ?_
         | fail)
  conv => whnf
  refine Exists.intro _ (And.intro (k39) ?_)
  repeat' first
    | exact (bb1 (by assumption)).elim
    | exact (bb2 (by assumption)).elim
    | exact (bbm (by assumption)).elim
    | refine SPB.seq ?_
    | refine SPB.block ?_
    | refine SPB.draw hG Try.TT_ok Try.keep13 (by kernel_rfl) ?_
    | refine SPB.reg hG Try.TT_ok Try.keep13 (by kernel_rfl) ?_
    | refine SPB.skip hG Try.TT_ok ?_
    | refine SPB.label hG Try.TT_ok ?_
    | refine SPB.ret hG Try.TT_ok ?_
    | refine SPB.exit hG Try.TT_ok ?_
    | refine SPB.condT rfl ?_
    | refine SPB.condF rfl ?_
    | refine SPB.cond rfl (And.intro (fun h => ?_) (fun h => ?_))
    | (conv => whnf
       first
         | refine And.intro (fun h => Bool.noConfusion (h : false = true)) (fun _ => ?_)
         | refine And.intro (fun _ => ?_) (fun h => Bool.noConfusion (h : true = false))
         | refine And.intro (by kernel_rfl) ?_
         | refine Exists.intro _ (And.intro (k36) ?_)
         | refine Exists.intro _ (And.intro (k36f) ?_)
         | refine Exists.intro _ (And.intro (k40) ?_)
         | refine Exists.intro _ (And.intro (k40m) ?_)
         | refine Exists.intro _ (And.intro (k40r) ?_)
         | refine And.intro (fun h => ?_) (fun h => ?_)
         | refine Or.inl ?_
         | fail)
  refine SPB.loop (X := Nat) (fun i => ⟨[(28, .int .i64 i), (27, .int .i64 (bfS (s 11) L i)), (23, .int .i64 (IntKind.i64.wrap (sm + rest))), (21, .int .i64 all), (19, intsA Fr), (17, intsA L), (15, .loc 15 0), (14, loadsA l), (13, .loc 13 0)],
      [(15, spellA a b), (13, satA s)]⟩)
    (fun i => i ≤ L.length) (fun i => L.length - i) 0 (Nat.zero_le _) (St.le.of ?_ ?_) (fun i hi => ?_)
  · repeat' (first | exact trivial | refine And.intro rfl ?_)
  · repeat' (first | exact trivial | refine And.intro rfl ?_)
  · by_cases hlt : i < L.length
    · have hx := ints_get L i hlt
      have g40 := k40i i hlt
      have bbk : decide ((i : Int) < ((L.map fun h => [AV.int .i64 h]).length : Int)) = false → False := fun h => by have := of_decide_eq_false h; rw [List.length_map] at this; omega
      have bb3 : (L.getD i 0 != min (s 11) (IntKind.i64.wrap (bfS (s 11) L i - nt i))) = true → False := fun h => by rw [← f3 i hlt] at h; simp at h
      have hFl : decide ((i : Int) < ((Fr.map fun h => [AV.int .i64 h]).length : Int)) = true → i < Fr.length := fun h => by have := of_decide_eq_true h; rw [List.length_map] at this; omega
      have hy : decide ((i : Int) < ((Fr.map fun h => [AV.int .i64 h]).length : Int)) = true → (Fr.map fun h => [AV.int .i64 h])[(i : Int).toNat]? = some [.int .i64 (L.getD i 0)] := fun h => by
        rw [← f4 i hlt (hFl h)]; exact ints_get Fr i (hFl h)
      have bb4 : (L.getD i 0 != L.getD i 0) = true → False := fun h => by simp at h
      repeat' first
        | exact (bbk (by assumption)).elim
        | exact (bb3 (by assumption)).elim
        | exact (bb4 (by assumption)).elim
        | refine SPB.seq ?_
        | refine SPB.block ?_
        | refine SPB.draw hG Try.TT_ok Try.keep13 (by kernel_rfl) ?_
        | refine SPB.reg hG Try.TT_ok Try.keep13 (by kernel_rfl) ?_
        | refine SPB.skip hG Try.TT_ok ?_
        | refine SPB.label hG Try.TT_ok ?_
        | refine SPB.ret hG Try.TT_ok ?_
        | refine SPB.exit hG Try.TT_ok ?_
        | refine SPB.condT rfl ?_
        | refine SPB.condF rfl ?_
        | refine SPB.cond rfl (And.intro (fun h => ?_) (fun h => ?_))
        | (conv => whnf
           first
             | refine And.intro (fun h => Bool.noConfusion (h : false = true)) (fun _ => ?_)
             | refine And.intro (fun _ => ?_) (fun h => Bool.noConfusion (h : true = false))
             | refine And.intro (by kernel_rfl) ?_
             | refine And.intro (Int.natCast_nonneg i) (Exists.intro _ (And.intro hx ?_))
             | refine And.intro (Int.natCast_nonneg i) (Exists.intro _ (And.intro (hy (by assumption)) ?_))
             | refine Exists.intro _ (And.intro (g40) ?_)
             | refine And.intro (fun h => ?_) (fun h => ?_)
             | refine Or.inl ?_
             | fail)
      all_goals
        refine Exists.intro (i + 1) (And.intro hlt (And.intro (by omega) (St.le.of ?_ ?_)))
        · refine And.intro (congrArg some (le_next (by omega))) ?_
          repeat' (first | exact trivial | refine And.intro rfl ?_)
        · repeat' (first | exact trivial | refine And.intro rfl ?_)
    · have hge : i = L.length := by omega
      subst hge
      have bbk : decide (((L.length : Nat) : Int) < ((L.map fun h => [AV.int .i64 h]).length : Int)) = true → False := fun h => by have := of_decide_eq_true h; rw [List.length_map] at this; omega
      repeat' first
        | exact (bbk (by assumption)).elim
        | refine SPB.seq ?_
        | refine SPB.block ?_
        | refine SPB.draw hG Try.TT_ok Try.keep13 (by kernel_rfl) ?_
        | refine SPB.reg hG Try.TT_ok Try.keep13 (by kernel_rfl) ?_
        | refine SPB.skip hG Try.TT_ok ?_
        | refine SPB.label hG Try.TT_ok ?_
        | refine SPB.ret hG Try.TT_ok ?_
        | refine SPB.exit hG Try.TT_ok ?_
        | refine SPB.condT rfl ?_
        | refine SPB.condF rfl ?_
        | refine SPB.cond rfl (And.intro (fun h => ?_) (fun h => ?_))
        | (conv => whnf
           first
             | refine And.intro (fun h => Bool.noConfusion (h : false = true)) (fun _ => ?_)
             | refine And.intro (fun _ => ?_) (fun h => Bool.noConfusion (h : true = false))
             | refine And.intro (by kernel_rfl) ?_
             | refine And.intro (fun h => ?_) (fun h => ?_)
             | refine Or.inl ?_
             | fail)
      all_goals exact Ends.mk (Or.inl rfl) (AV.weak.of_eq (congrArg AV.bool (by rw [f5]; simp)))

set_option maxHeartbeats 8000000 in
theorem Try.y13f (x y s : Nat → Int) (l : List Load3) (z : List (Int × Int × Int)) (from_ long at_ a b p all sm : Int) (L Fr : List Int) (nt : Nat → Int) (hL : L.length ≤ 1000)
    (k35 : ACalls Try.prog 35 [.agg (orbA x), .agg (i4A y), .sl .no 3 (z.map row3A), .int .i64 from_, .int .i64 long] (.tup [.agg (satA s), loadsA l, .agg (spellA a b)]))
    (k39 : ACalls Try.prog 39 [.int .i64 at_, .int .i64 (IntKind.i64.wrap (b - a))] (.int .i64 p))
    (k36 : ACalls Try.prog 36 [.agg (satA s), loadsA l, .agg (spellA a b)] (.tup [intsA L, .int .i64 0]))
    (k36f : ACalls Try.prog 36 [.agg (satA s), loadsA l, .agg (spellA a (IntKind.i64.wrap (IntKind.i64.wrap (a + 1) + p)))] (.tup [intsA Fr, .int .i64 0]))
    (k40 : ACalls Try.prog 40 [.agg (satA s), loadsA l, .agg (spellA a b)] (.tup [.int .i64 all, .int .i64 0]))
    (k40m : ACalls Try.prog 40 [.agg (satA s), loadsA l, .agg (spellA a (IntKind.i64.wrap (IntKind.i64.wrap (a + 1) + p)))] (.tup [.int .i64 sm, .int .i64 0]))
    (hm : decide ((IntKind.i64.wrap (IntKind.i64.wrap (a + 1) + p)) < b) = false)
    (k40i : ∀ i, i < L.length → ACalls Try.prog 40 [.agg (satA s), loadsA l, .agg (spellA (IntKind.i64.wrap (a + (i : Int))) (IntKind.i64.wrap (IntKind.i64.wrap (a + (i : Int)) + 1)))] (.tup [.int .i64 (nt i), .int .i64 0]))
    (f1 : ((L.map fun h => [AV.int .i64 h]).length : Int) = IntKind.i64.wrap (b - a))
    (f2 : ((Fr.map fun h => [AV.int .i64 h]).length : Int) = IntKind.i64.wrap ((IntKind.i64.wrap (IntKind.i64.wrap (a + 1) + p)) - a))
    (f3 : ∀ i, i < L.length → L.getD i 0 = min (s 11) (IntKind.i64.wrap (bfS (s 11) L i - nt i)))
    (f4 : ∀ i, i < L.length → i < Fr.length → Fr.getD i 0 = L.getD i 0)
    (f5 : all = sm) :
    ACalls Try.prog 13 [.agg (orbA x), .agg (i4A y), .sl .no 3 (z.map row3A), .int .i64 from_, .int .i64 long, .int .i64 at_] (.bool true) := by
  have bb1 : (((L.map fun h => [AV.int .i64 h]).length : Int) != IntKind.i64.wrap (b - a)) = true → False := fun h => by rw [f1] at h; simp at h
  have bb2 : (((Fr.map fun h => [AV.int .i64 h]).length : Int) != IntKind.i64.wrap ((IntKind.i64.wrap (IntKind.i64.wrap (a + 1) + p)) - a)) = true → False := fun h => by rw [f2] at h; simp at h
  have bbm : decide ((IntKind.i64.wrap (IntKind.i64.wrap (a + 1) + p)) < b) = true → False := fun h => tf h hm
  refine ACalls.ofB Try.TT_ok Try.func13 rfl (by kernel_rfl) Try.mixed (Nat.le_of_ble_eq_true rfl) ?_
  intro F n' w0 m0 hG hro h1
  repeat' first
    | exact (bb1 (by assumption)).elim
    | exact (bb2 (by assumption)).elim
    | exact (bbm (by assumption)).elim
    | refine SPB.seq ?_
    | refine SPB.block ?_
    | refine SPB.draw hG Try.TT_ok Try.keep13 (by kernel_rfl) ?_
    | refine SPB.reg hG Try.TT_ok Try.keep13 (by kernel_rfl) ?_
    | refine SPB.skip hG Try.TT_ok ?_
    | refine SPB.label hG Try.TT_ok ?_
    | refine SPB.ret hG Try.TT_ok ?_
    | refine SPB.exit hG Try.TT_ok ?_
    | refine SPB.condT rfl ?_
    | refine SPB.condF rfl ?_
    | refine SPB.cond rfl (And.intro (fun h => ?_) (fun h => ?_))
    | (conv => whnf
       first
         | refine And.intro (fun h => Bool.noConfusion (h : false = true)) (fun _ => ?_)
         | refine And.intro (fun _ => ?_) (fun h => Bool.noConfusion (h : true = false))
         | refine And.intro (by kernel_rfl) ?_
         | refine And.intro (fun h => ?_) (fun h => ?_)
         | refine Or.inl ?_
         | fail)
  conv => whnf
  refine Exists.intro _ (And.intro (Try.c34) ?_)
  repeat' first
    | exact (bb1 (by assumption)).elim
    | exact (bb2 (by assumption)).elim
    | exact (bbm (by assumption)).elim
    | refine SPB.seq ?_
    | refine SPB.block ?_
    | refine SPB.draw hG Try.TT_ok Try.keep13 (by kernel_rfl) ?_
    | refine SPB.reg hG Try.TT_ok Try.keep13 (by kernel_rfl) ?_
    | refine SPB.skip hG Try.TT_ok ?_
    | refine SPB.label hG Try.TT_ok ?_
    | refine SPB.ret hG Try.TT_ok ?_
    | refine SPB.exit hG Try.TT_ok ?_
    | refine SPB.condT rfl ?_
    | refine SPB.condF rfl ?_
    | refine SPB.cond rfl (And.intro (fun h => ?_) (fun h => ?_))
    | (conv => whnf
       first
         | refine And.intro (fun h => Bool.noConfusion (h : false = true)) (fun _ => ?_)
         | refine And.intro (fun _ => ?_) (fun h => Bool.noConfusion (h : true = false))
         | refine And.intro (by kernel_rfl) ?_
         | refine And.intro (fun h => ?_) (fun h => ?_)
         | refine Or.inl ?_
         | fail)
  conv => whnf
  refine Exists.intro _ (And.intro (k35) ?_)
  repeat' first
    | exact (bb1 (by assumption)).elim
    | exact (bb2 (by assumption)).elim
    | exact (bbm (by assumption)).elim
    | refine SPB.seq ?_
    | refine SPB.block ?_
    | refine SPB.draw hG Try.TT_ok Try.keep13 (by kernel_rfl) ?_
    | refine SPB.reg hG Try.TT_ok Try.keep13 (by kernel_rfl) ?_
    | refine SPB.skip hG Try.TT_ok ?_
    | refine SPB.label hG Try.TT_ok ?_
    | refine SPB.ret hG Try.TT_ok ?_
    | refine SPB.exit hG Try.TT_ok ?_
    | refine SPB.condT rfl ?_
    | refine SPB.condF rfl ?_
    | refine SPB.cond rfl (And.intro (fun h => ?_) (fun h => ?_))
    | (conv => whnf
       first
         | refine And.intro (fun h => Bool.noConfusion (h : false = true)) (fun _ => ?_)
         | refine And.intro (fun _ => ?_) (fun h => Bool.noConfusion (h : true = false))
         | refine And.intro (by kernel_rfl) ?_
         | refine And.intro (fun h => ?_) (fun h => ?_)
         | refine Or.inl ?_
         | fail)
  conv => whnf
  refine Exists.intro _ (And.intro (k39) ?_)
  repeat' first
    | exact (bb1 (by assumption)).elim
    | exact (bb2 (by assumption)).elim
    | exact (bbm (by assumption)).elim
    | refine SPB.seq ?_
    | refine SPB.block ?_
    | refine SPB.draw hG Try.TT_ok Try.keep13 (by kernel_rfl) ?_
    | refine SPB.reg hG Try.TT_ok Try.keep13 (by kernel_rfl) ?_
    | refine SPB.skip hG Try.TT_ok ?_
    | refine SPB.label hG Try.TT_ok ?_
    | refine SPB.ret hG Try.TT_ok ?_
    | refine SPB.exit hG Try.TT_ok ?_
    | refine SPB.condT rfl ?_
    | refine SPB.condF rfl ?_
    | refine SPB.cond rfl (And.intro (fun h => ?_) (fun h => ?_))
    | (conv => whnf
       first
         | refine And.intro (fun h => Bool.noConfusion (h : false = true)) (fun _ => ?_)
         | refine And.intro (fun _ => ?_) (fun h => Bool.noConfusion (h : true = false))
         | refine And.intro (by kernel_rfl) ?_
         | refine Exists.intro _ (And.intro (k36) ?_)
         | refine Exists.intro _ (And.intro (k36f) ?_)
         | refine Exists.intro _ (And.intro (k40) ?_)
         | refine Exists.intro _ (And.intro (k40m) ?_)
         | refine And.intro (fun h => ?_) (fun h => ?_)
         | refine Or.inl ?_
         | fail)
  refine SPB.loop (X := Nat) (fun i => ⟨[(28, .int .i64 i), (27, .int .i64 (bfS (s 11) L i)), (23, .int .i64 sm), (21, .int .i64 all), (19, intsA Fr), (17, intsA L), (15, .loc 15 0), (14, loadsA l), (13, .loc 13 0)],
      [(15, spellA a b), (13, satA s)]⟩)
    (fun i => i ≤ L.length) (fun i => L.length - i) 0 (Nat.zero_le _) (St.le.of ?_ ?_) (fun i hi => ?_)
  · repeat' (first | exact trivial | refine And.intro rfl ?_)
  · repeat' (first | exact trivial | refine And.intro rfl ?_)
  · by_cases hlt : i < L.length
    · have hx := ints_get L i hlt
      have g40 := k40i i hlt
      have bbk : decide ((i : Int) < ((L.map fun h => [AV.int .i64 h]).length : Int)) = false → False := fun h => by have := of_decide_eq_false h; rw [List.length_map] at this; omega
      have bb3 : (L.getD i 0 != min (s 11) (IntKind.i64.wrap (bfS (s 11) L i - nt i))) = true → False := fun h => by rw [← f3 i hlt] at h; simp at h
      have hFl : decide ((i : Int) < ((Fr.map fun h => [AV.int .i64 h]).length : Int)) = true → i < Fr.length := fun h => by have := of_decide_eq_true h; rw [List.length_map] at this; omega
      have hy : decide ((i : Int) < ((Fr.map fun h => [AV.int .i64 h]).length : Int)) = true → (Fr.map fun h => [AV.int .i64 h])[(i : Int).toNat]? = some [.int .i64 (L.getD i 0)] := fun h => by
        rw [← f4 i hlt (hFl h)]; exact ints_get Fr i (hFl h)
      have bb4 : (L.getD i 0 != L.getD i 0) = true → False := fun h => by simp at h
      repeat' first
        | exact (bbk (by assumption)).elim
        | exact (bb3 (by assumption)).elim
        | exact (bb4 (by assumption)).elim
        | refine SPB.seq ?_
        | refine SPB.block ?_
        | refine SPB.draw hG Try.TT_ok Try.keep13 (by kernel_rfl) ?_
        | refine SPB.reg hG Try.TT_ok Try.keep13 (by kernel_rfl) ?_
        | refine SPB.skip hG Try.TT_ok ?_
        | refine SPB.label hG Try.TT_ok ?_
        | refine SPB.ret hG Try.TT_ok ?_
        | refine SPB.exit hG Try.TT_ok ?_
        | refine SPB.condT rfl ?_
        | refine SPB.condF rfl ?_
        | refine SPB.cond rfl (And.intro (fun h => ?_) (fun h => ?_))
        | (conv => whnf
           first
             | refine And.intro (fun h => Bool.noConfusion (h : false = true)) (fun _ => ?_)
             | refine And.intro (fun _ => ?_) (fun h => Bool.noConfusion (h : true = false))
             | refine And.intro (by kernel_rfl) ?_
             | refine And.intro (Int.natCast_nonneg i) (Exists.intro _ (And.intro hx ?_))
             | refine And.intro (Int.natCast_nonneg i) (Exists.intro _ (And.intro (hy (by assumption)) ?_))
             | refine Exists.intro _ (And.intro (g40) ?_)
             | refine And.intro (fun h => ?_) (fun h => ?_)
             | refine Or.inl ?_
             | fail)
      all_goals
        refine Exists.intro (i + 1) (And.intro hlt (And.intro (by omega) (St.le.of ?_ ?_)))
        · refine And.intro (congrArg some (le_next (by omega))) ?_
          repeat' (first | exact trivial | refine And.intro rfl ?_)
        · repeat' (first | exact trivial | refine And.intro rfl ?_)
    · have hge : i = L.length := by omega
      subst hge
      have bbk : decide (((L.length : Nat) : Int) < ((L.map fun h => [AV.int .i64 h]).length : Int)) = true → False := fun h => by have := of_decide_eq_true h; rw [List.length_map] at this; omega
      repeat' first
        | exact (bbk (by assumption)).elim
        | refine SPB.seq ?_
        | refine SPB.block ?_
        | refine SPB.draw hG Try.TT_ok Try.keep13 (by kernel_rfl) ?_
        | refine SPB.reg hG Try.TT_ok Try.keep13 (by kernel_rfl) ?_
        | refine SPB.skip hG Try.TT_ok ?_
        | refine SPB.label hG Try.TT_ok ?_
        | refine SPB.ret hG Try.TT_ok ?_
        | refine SPB.exit hG Try.TT_ok ?_
        | refine SPB.condT rfl ?_
        | refine SPB.condF rfl ?_
        | refine SPB.cond rfl (And.intro (fun h => ?_) (fun h => ?_))
        | (conv => whnf
           first
             | refine And.intro (fun h => Bool.noConfusion (h : false = true)) (fun _ => ?_)
             | refine And.intro (fun _ => ?_) (fun h => Bool.noConfusion (h : true = false))
             | refine And.intro (by kernel_rfl) ?_
             | refine And.intro (fun h => ?_) (fun h => ?_)
             | refine Or.inl ?_
             | fail)
      all_goals exact Ends.mk (Or.inl rfl) (AV.weak.of_eq (congrArg AV.bool (by rw [f5]; simp)))

end Go.Proofs


namespace Go.Proofs
open Go Go.AI
set_option maxRecDepth 10000
set_option linter.unusedSimpArgs false

def lvW (s : Nat → Int) (dark : Nat → Bool) (dr : Nat → Int) : Nat → Int
  | 0 => s 11
  | i + 1 => min (s 11) (IntKind.i64.wrap (IntKind.i64.wrap (lvW s dark dr i + (if dark i then 0 else s 12)) - dr i))
set_option maxHeartbeats 8000000 in
theorem Try.y14 (x y s : Nat → Int) (l : List Load3) (z : List (Int × Int × Int)) (from_ long late a b p : Int) (L : List Int) (cel : Nat → Int × Int) (dark : Nat → Bool) (dr : Nat → Int) (hL : L.length ≤ 1000)
    (k35 : ACalls Try.prog 35 [.agg (orbA x), .agg (i4A y), .sl .no 3 (z.map row3A), .int .i64 from_, .int .i64 long] (.tup [.agg (satA s), loadsA l, .agg (spellA a b)]))
    (k36 : ACalls Try.prog 36 [.agg (satA s), loadsA l, .agg (spellA a b)] (.tup [intsA L, .int .i64 0]))
    (k39 : ACalls Try.prog 39 [.int .i64 late, .int .i64 (IntKind.i64.wrap (IntKind.i64.wrap (2 * s 8) + 1))] (.int .i64 p))
    (k24 : ∀ i, i < L.length → ACalls Try.prog 24 [.agg (orbA (orbO s)), .int .i64 (IntKind.i64.wrap (a + (i : Int))), .int .i64 (IntKind.i64.wrap (p - s 8))] (.tup [.agg (cellA (cel i)), .int .i64 0]))
    (k41 : ∀ i, i < L.length → ACalls Try.prog 41 [.agg (cellA (cel i)), .int .i64 (IntKind.i64.wrap (a + (i : Int)))] (.bool (dark i)))
    (k42 : ∀ i, i < L.length → ACalls Try.prog 42 [.agg (satA s), loadsA l, .int .i64 (IntKind.i64.wrap (a + (i : Int)))] (.int .i64 (dr i)))
    (f1 : ((L.map fun h => [AV.int .i64 h]).length : Int) = IntKind.i64.wrap (b - a))
    (f2 : ∀ i, i < L.length → ¬ lvW s dark dr (i + 1) < L.getD i 0) :
    ACalls Try.prog 14 [.agg (orbA x), .agg (i4A y), .sl .no 3 (z.map row3A), .int .i64 from_, .int .i64 long, .int .i64 late] (.bool true) := by
  have bb1 : (((L.map fun h => [AV.int .i64 h]).length : Int) != IntKind.i64.wrap (b - a)) = true → False := fun h => by rw [f1] at h; simp at h
  refine ACalls.ofB Try.TT_ok Try.func14 rfl (by kernel_rfl) Try.mixed (Nat.le_of_ble_eq_true rfl) ?_
  intro F n' w0 m0 hG hro h1
  repeat' first
    | exact (bb1 (by assumption)).elim
    | refine SPB.seq ?_
    | refine SPB.block ?_
    | refine SPB.draw hG Try.TT_ok Try.keep14 (by kernel_rfl) ?_
    | refine SPB.reg hG Try.TT_ok Try.keep14 (by kernel_rfl) ?_
    | refine SPB.skip hG Try.TT_ok ?_
    | refine SPB.label hG Try.TT_ok ?_
    | refine SPB.ret hG Try.TT_ok ?_
    | refine SPB.exit hG Try.TT_ok ?_
    | refine SPB.condT rfl ?_
    | refine SPB.condF rfl ?_
    | refine SPB.cond rfl (And.intro (fun h => ?_) (fun h => ?_))
    | (conv => whnf
       first
         | refine And.intro (fun h => Bool.noConfusion (h : false = true)) (fun _ => ?_)
         | refine And.intro (fun _ => ?_) (fun h => Bool.noConfusion (h : true = false))
         | refine And.intro (by kernel_rfl) ?_
         | refine And.intro (fun h => ?_) (fun h => ?_)
         | refine Or.inl ?_
         | fail)
  conv => whnf
  refine Exists.intro _ (And.intro (Try.c34) ?_)
  repeat' first
    | exact (bb1 (by assumption)).elim
    | refine SPB.seq ?_
    | refine SPB.block ?_
    | refine SPB.draw hG Try.TT_ok Try.keep14 (by kernel_rfl) ?_
    | refine SPB.reg hG Try.TT_ok Try.keep14 (by kernel_rfl) ?_
    | refine SPB.skip hG Try.TT_ok ?_
    | refine SPB.label hG Try.TT_ok ?_
    | refine SPB.ret hG Try.TT_ok ?_
    | refine SPB.exit hG Try.TT_ok ?_
    | refine SPB.condT rfl ?_
    | refine SPB.condF rfl ?_
    | refine SPB.cond rfl (And.intro (fun h => ?_) (fun h => ?_))
    | (conv => whnf
       first
         | refine And.intro (fun h => Bool.noConfusion (h : false = true)) (fun _ => ?_)
         | refine And.intro (fun _ => ?_) (fun h => Bool.noConfusion (h : true = false))
         | refine And.intro (by kernel_rfl) ?_
         | refine And.intro (fun h => ?_) (fun h => ?_)
         | refine Or.inl ?_
         | fail)
  conv => whnf
  refine Exists.intro _ (And.intro (k35) ?_)
  repeat' first
    | exact (bb1 (by assumption)).elim
    | refine SPB.seq ?_
    | refine SPB.block ?_
    | refine SPB.draw hG Try.TT_ok Try.keep14 (by kernel_rfl) ?_
    | refine SPB.reg hG Try.TT_ok Try.keep14 (by kernel_rfl) ?_
    | refine SPB.skip hG Try.TT_ok ?_
    | refine SPB.label hG Try.TT_ok ?_
    | refine SPB.ret hG Try.TT_ok ?_
    | refine SPB.exit hG Try.TT_ok ?_
    | refine SPB.condT rfl ?_
    | refine SPB.condF rfl ?_
    | refine SPB.cond rfl (And.intro (fun h => ?_) (fun h => ?_))
    | (conv => whnf
       first
         | refine And.intro (fun h => Bool.noConfusion (h : false = true)) (fun _ => ?_)
         | refine And.intro (fun _ => ?_) (fun h => Bool.noConfusion (h : true = false))
         | refine And.intro (by kernel_rfl) ?_
         | refine Exists.intro _ (And.intro (k39) ?_)
         | refine Exists.intro _ (And.intro (k36) ?_)
         | refine And.intro (fun h => ?_) (fun h => ?_)
         | refine Or.inl ?_
         | fail)
  refine SPB.loop (X := Nat) (fun i => ⟨[(20, .int .i64 i), (19, .int .i64 (lvW s dark dr i)), (17, intsA L), (16, .int .i64 (IntKind.i64.wrap (p - s 8))), (15, .loc 15 0), (14, loadsA l), (13, .loc 13 0)],
      [(15, spellA a b), (13, satA s)]⟩)
    (fun i => i ≤ L.length) (fun i => L.length - i) 0 (Nat.zero_le _) (St.le.of ?_ ?_) (fun i hi => ?_)
  · repeat' (first | exact trivial | refine And.intro rfl ?_)
  · repeat' (first | exact trivial | refine And.intro rfl ?_)
  · by_cases hlt : i < L.length
    · have hx := ints_get L i hlt
      have g24 := k24 i hlt
      have g41 := k41 i hlt
      have g42 := k42 i hlt
      have hf := f2 i hlt
      have bbk : decide ((i : Int) < ((L.map fun h => [AV.int .i64 h]).length : Int)) = false → False := fun h => by have := of_decide_eq_false h; rw [List.length_map] at this; omega
      cases hd : dark i <;> rw [hd] at g41
      · have bb2 : decide (min (s 11) (IntKind.i64.wrap (IntKind.i64.wrap (lvW s dark dr i + s 12) - dr i)) < L.getD i 0) = true → False := fun h => hf (by have := of_decide_eq_true h; rw [lvW, hd]; exact this)
        repeat' first
          | exact (bbk (by assumption)).elim
          | exact (bb2 (by assumption)).elim
          | refine SPB.seq ?_
          | refine SPB.block ?_
          | refine SPB.draw hG Try.TT_ok Try.keep14 (by kernel_rfl) ?_
          | refine SPB.reg hG Try.TT_ok Try.keep14 (by kernel_rfl) ?_
          | refine SPB.skip hG Try.TT_ok ?_
          | refine SPB.label hG Try.TT_ok ?_
          | refine SPB.ret hG Try.TT_ok ?_
          | refine SPB.exit hG Try.TT_ok ?_
          | refine SPB.condT rfl ?_
          | refine SPB.condF rfl ?_
          | refine SPB.cond rfl (And.intro (fun h => ?_) (fun h => ?_))
          | (conv => whnf
             first
               | refine And.intro (fun h => Bool.noConfusion (h : false = true)) (fun _ => ?_)
               | refine And.intro (fun _ => ?_) (fun h => Bool.noConfusion (h : true = false))
               | refine And.intro (by kernel_rfl) ?_
               | refine And.intro (Int.natCast_nonneg i) (Exists.intro _ (And.intro hx ?_))
               | refine Exists.intro _ (And.intro (g24) ?_)
               | refine Exists.intro _ (And.intro (g41) ?_)
               | refine Exists.intro _ (And.intro (g42) ?_)
               | refine And.intro (fun h => ?_) (fun h => ?_)
               | refine Or.inl ?_
               | fail)
        refine Exists.intro (i + 1) (And.intro hlt (And.intro (by omega) (St.le.of ?_ ?_)))
        · refine And.intro (congrArg some (le_next (by omega))) (And.intro (congrArg (fun z => some (AV.int .i64 z)) ?_) ?_)
          · rw [lvW, hd]; rfl
          · repeat' (first | exact trivial | refine And.intro rfl ?_)
        · repeat' (first | exact trivial | refine And.intro rfl ?_)
      · have bb2 : decide (min (s 11) (IntKind.i64.wrap (IntKind.i64.wrap (lvW s dark dr i + 0) - dr i)) < L.getD i 0) = true → False := fun h => hf (by have := of_decide_eq_true h; rw [lvW, hd]; exact this)
        repeat' first
          | exact (bbk (by assumption)).elim
          | exact (bb2 (by assumption)).elim
          | refine SPB.seq ?_
          | refine SPB.block ?_
          | refine SPB.draw hG Try.TT_ok Try.keep14 (by kernel_rfl) ?_
          | refine SPB.reg hG Try.TT_ok Try.keep14 (by kernel_rfl) ?_
          | refine SPB.skip hG Try.TT_ok ?_
          | refine SPB.label hG Try.TT_ok ?_
          | refine SPB.ret hG Try.TT_ok ?_
          | refine SPB.exit hG Try.TT_ok ?_
          | refine SPB.condT rfl ?_
          | refine SPB.condF rfl ?_
          | refine SPB.cond rfl (And.intro (fun h => ?_) (fun h => ?_))
          | (conv => whnf
             first
               | refine And.intro (fun h => Bool.noConfusion (h : false = true)) (fun _ => ?_)
               | refine And.intro (fun _ => ?_) (fun h => Bool.noConfusion (h : true = false))
               | refine And.intro (by kernel_rfl) ?_
               | refine And.intro (Int.natCast_nonneg i) (Exists.intro _ (And.intro hx ?_))
               | refine Exists.intro _ (And.intro (g24) ?_)
               | refine Exists.intro _ (And.intro (g41) ?_)
               | refine Exists.intro _ (And.intro (g42) ?_)
               | refine And.intro (fun h => ?_) (fun h => ?_)
               | refine Or.inl ?_
               | fail)
        refine Exists.intro (i + 1) (And.intro hlt (And.intro (by omega) (St.le.of ?_ ?_)))
        · refine And.intro (congrArg some (le_next (by omega))) (And.intro (congrArg (fun z => some (AV.int .i64 z)) ?_) ?_)
          · rw [lvW, hd]; rfl
          · repeat' (first | exact trivial | refine And.intro rfl ?_)
        · repeat' (first | exact trivial | refine And.intro rfl ?_)
    · have hge : i = L.length := by omega
      subst hge
      have bbk : decide (((L.length : Nat) : Int) < ((L.map fun h => [AV.int .i64 h]).length : Int)) = true → False := fun h => by have := of_decide_eq_true h; rw [List.length_map] at this; omega
      repeat' first
        | exact (bbk (by assumption)).elim
        | refine SPB.seq ?_
        | refine SPB.block ?_
        | refine SPB.draw hG Try.TT_ok Try.keep14 (by kernel_rfl) ?_
        | refine SPB.reg hG Try.TT_ok Try.keep14 (by kernel_rfl) ?_
        | refine SPB.skip hG Try.TT_ok ?_
        | refine SPB.label hG Try.TT_ok ?_
        | refine SPB.ret hG Try.TT_ok ?_
        | refine SPB.exit hG Try.TT_ok ?_
        | refine SPB.condT rfl ?_
        | refine SPB.condF rfl ?_
        | refine SPB.cond rfl (And.intro (fun h => ?_) (fun h => ?_))
        | (conv => whnf
           first
             | refine And.intro (fun h => Bool.noConfusion (h : false = true)) (fun _ => ?_)
             | refine And.intro (fun _ => ?_) (fun h => Bool.noConfusion (h : true = false))
             | refine And.intro (by kernel_rfl) ?_
             | refine And.intro (fun h => ?_) (fun h => ?_)
             | refine Or.inl ?_
             | fail)
      all_goals exact Ends.mk (Or.inl rfl) (AV.weak.of_eq rfl)
end Go.Proofs


namespace Go.Proofs
open Go Go.AI
set_option maxRecDepth 10000
set_option linter.unusedSimpArgs false
/-- Where it is sunny at all delays, it is not dark at one of them. -/
theorem lit_not_dark {o : Nat → Int} (h : PV o) {t d : Int} (h1 : 0 ≤ t) (h2 : t ≤ 1000000) (h3 : -(o 6) ≤ d) (h4 : d ≤ o 6) (hl : litS o t = true) : darkS (celW o (t - d)) t = false := by
  simp only [litS, Bool.and_eq_true, Bool.not_eq_true', List.any_eq_false] at hl
  have hm := (could_mem' (o := o) (t := t) ⟨h1, by omega⟩ ⟨h.s1, h.s2⟩ (celW o (t - d))).2 ⟨t - d, by omega, by omega, rfl⟩
  have := hl.2 _ hm
  simpa using this
theorem BCase.levD (c : BCase) {m i : Nat} (h : i < m) : (c.lev m).getD i 0 = levF (c.s 11) c.f (i + 1) := by
  unfold BCase.lev
  rw [List.getD_eq_getElem?_getD, List.getElem?_map, List.getElem?_range h]; rfl
theorem Try.x14 (c : BCase) (late : Int) (h : inI late) : ACalls Try.prog 14 [.agg (orbA c.x), .agg (i4A c.y), .sl .no 3 (c.z.map row3A), .int .i64 c.from_, .int .i64 c.long, .int .i64 late] (.bool true) := by
  have hr := c.rng
  have hN : 1 ≤ c.N ∧ c.N ≤ 200 := by unfold BCase.N; omega
  have hnN : c.n = (c.N : Int) := by unfold BCase.N; omega
  have hbN := c.bN
  have hl10 := c.len
  have hlen : c.l.length ≤ 1000000 := by omega
  have hc := c.mfed.c
  have hu := c.mfed.u
  have hfed := c.mfed.fed
  have hv := c.valid (a := c.a) (b := c.b) (by omega) (by omega) (by omega) (by omega)
  have hpv := c.pv
  have s1 : 0 ≤ c.s 8 := hpv.s1
  have s2 : c.s 8 ≤ 10 := hpv.s2
  have k36 := Try.c36 c.s c.l c.a c.b hlen hv
  have eL : (levRun (c.s 11) (netsL c.s c.l c.a c.b)).2 = c.lev c.N := by rw [hbN]; exact c.levels (by omega)
  rw [eL] at k36
  have w1 : IntKind.i64.wrap (c.b - c.a) = c.n := (w64_in (by omega) (by omega)).trans (by omega)
  have w2 : IntKind.i64.wrap (IntKind.i64.wrap (2 * c.s 8) + 1) = 2 * c.s 8 + 1 := by
    rw [show IntKind.i64.wrap (2 * c.s 8) = 2 * c.s 8 from w64_in (by omega) (by omega)]
    exact w64_in (by omega) (by omega)
  have k39 := Try.c39 late (IntKind.i64.wrap (IntKind.i64.wrap (2 * c.s 8) + 1)) (by rw [w2]; omega)
  have q1 := pick_rng h (n := 2 * c.s 8 + 1) (by omega)
  generalize hp : pickS late (IntKind.i64.wrap (IntKind.i64.wrap (2 * c.s 8) + 1)) = p at k39
  rw [w2] at hp
  rw [hp] at q1
  have w3 : IntKind.i64.wrap (p - c.s 8) = p - c.s 8 := w64_in (by omega) (by omega)
  have wt : ∀ i, i < c.N → IntKind.i64.wrap (c.a + (i : Int)) = c.a + (i : Int) := fun i hi => w64_in (by omega) (by omega)
  have ed : ∀ i, i < c.N → w64 (c.a + (i : Int) - (p - c.s 8)) = c.a + (i : Int) - (p - c.s 8) := fun i hi => w64_in (by omega) (by omega)
  obtain ⟨dark, hdark⟩ : ∃ dark : Nat → Bool, dark = fun (i : Nat) => darkS (celW (orbO c.s) (c.a + (i : Int) - (p - c.s 8))) (c.a + (i : Int)) := ⟨_, rfl⟩
  obtain ⟨dr, hdr⟩ : ∃ dr : Nat → Int, dr = fun (i : Nat) => drainS c.s c.l (c.a + (i : Int)) := ⟨_, rfl⟩
  have hin : ∀ i, i < c.N → inS (c.a + (i : Int)) 0 1000000 = true := fun i hi => inS_ok (by omega)
  have key : ∀ i, i ≤ c.N → levF (c.s 11) c.f i ≤ lvW c.s dark dr i ∧ lvW c.s dark dr i ≤ c.s 11 := by
    intro i
    induction i with
    | zero => intro _; exact ⟨Int.le_refl _, Int.le_refl _⟩
    | succ i ih =>
      intro hi
      obtain ⟨g1, g2⟩ := ih (by omega)
      have hlo := (levF_rng (c := c.s 11) c.nb i).1
      have hn := net_eq hfed (c.a + (i : Int)) c.l (litS (orbO c.s) (c.a + (i : Int))) (by omega)
      have hde := drain_eq hfed (c.a + (i : Int)) c.l (by omega)
      have hf : c.f i = netP c.s c.l (litS (orbO c.s) (c.a + (i : Int))) (c.a + (i : Int)) := hn.1
      have hdi : dr i = c.s 13 + addS c.s (c.a + (i : Int)) c.l := by rw [hdr]; exact hde
      have har := add_rng hfed (c.a + (i : Int)) c.l
      have hii := hfed.i
      have hch : (if litS (orbO c.s) (c.a + (i : Int)) then c.s 12 else 0) ≤ (if dark i then 0 else c.s 12) ∧ 0 ≤ (if dark i then 0 else c.s 12) ∧ (if dark i then 0 else c.s 12) ≤ 11 := by
        cases hlit : litS (orbO c.s) (c.a + (i : Int))
        · refine ⟨?_, ?_, ?_⟩
          · rw [if_neg (by simp)]; split <;> omega
          · split <;> omega
          · split <;> omega
        · have hnd := lit_not_dark hpv (t := c.a + (i : Int)) (d := p - c.s 8) (by omega) (by omega) (by show -(c.s 8) ≤ _; omega) (by show _ ≤ c.s 8; omega) hlit
          have hd : dark i = false := by rw [hdark]; exact hnd
          rw [hd]; simp; omega
      unfold netP at hf
      simp only [lvW, levF]
      rw [show IntKind.i64.wrap (lvW c.s dark dr i + if dark i = true then 0 else c.s 12) = lvW c.s dark dr i + (if dark i = true then 0 else c.s 12) from w64_in (by omega) (by omega)]
      rw [show IntKind.i64.wrap (lvW c.s dark dr i + (if dark i = true then 0 else c.s 12) - dr i) = lvW c.s dark dr i + (if dark i = true then 0 else c.s 12) - dr i from w64_in (by omega) (by omega)]
      omega
  refine Try.y14 c.x c.y c.s c.l c.z c.from_ c.long late c.a c.b p (c.lev c.N) (fun i => celW (orbO c.s) (c.a + (i : Int) - (p - c.s 8))) dark dr (by rw [c.lev_len]; omega) (Try.c35 c) k36 k39 (fun i hi => ?_) (fun i hi => ?_) (fun i hi => ?_) ?_ (fun i hi => ?_)
  · rw [c.lev_len] at hi
    rw [wt i hi, w3]
    have := Try.c24 (orbO c.s) (c.a + (i : Int)) (p - c.s 8) (atS_ok hpv (by omega) (by omega) (by omega) (by omega))
    rw [ed i hi] at this
    exact this
  · rw [c.lev_len] at hi
    rw [wt i hi, hdark]
    exact Try.c41 _ _ (hin i hi) (cel_ok hpv (by omega) (by omega))
  · rw [c.lev_len] at hi
    rw [wt i hi, hdr]
    have := Try.c42 c.s c.l (c.a + (i : Int)) hlen
    rw [drainV, if_pos (by rw [c.proper, c.sat]; rfl)] at this
    exact this
  · rw [w1, List.length_map, c.lev_len]; omega
  · rw [c.lev_len] at hi
    rw [c.levD hi]
    have := (key (i + 1) (by omega)).1
    omega
end Go.Proofs


namespace Go.Proofs
open Go Go.AI
set_option maxRecDepth 10000
set_option linter.unusedSimpArgs false
theorem Try.x13 (c : BCase) (at_ : Int) (h : inI at_) : ACalls Try.prog 13 [.agg (orbA c.x), .agg (i4A c.y), .sl .no 3 (c.z.map row3A), .int .i64 c.from_, .int .i64 c.long, .int .i64 at_] (.bool true) := by
  have hr := c.rng
  have hN : 1 ≤ c.N ∧ c.N ≤ 200 := by unfold BCase.N; omega
  have hnN : c.n = (c.N : Int) := by unfold BCase.N; omega
  have hbN := c.bN
  have hl10 := c.len
  have hlen : c.l.length ≤ 1000000 := by omega
  have hc := c.mfed.c
  have w1 : IntKind.i64.wrap (c.b - c.a) = c.n := (w64_in (by omega) (by omega)).trans (by omega)
  have q1 := pick_rng h (n := c.n) (by omega)
  have k39 := Try.c39 at_ (IntKind.i64.wrap (c.b - c.a)) (by rw [w1]; omega)
  generalize hp : pickS at_ (IntKind.i64.wrap (c.b - c.a)) = p at k39
  rw [w1] at hp
  rw [hp] at q1
  obtain ⟨m, hm⟩ : ∃ m : Nat, (m : Int) = p + 1 := ⟨(p + 1).toNat, by omega⟩
  have wm : IntKind.i64.wrap (IntKind.i64.wrap (c.a + 1) + p) = c.a + (m : Int) := by
    rw [show IntKind.i64.wrap (c.a + 1) = c.a + 1 from w64_in (by omega) (by omega)]
    exact (w64_in (by omega) (by omega)).trans (by omega)
  have hv := c.valid (a := c.a) (b := c.a + (c.N : Int)) (by omega) (by omega) (by omega) (by omega)
  have hvm := c.valid (a := c.a) (b := c.a + (m : Int)) (by omega) (by omega) (by omega) (by omega)
  have ha0 : c.a + ((0 : Nat) : Int) = c.a := by omega
  have k36 := Try.c36 c.s c.l c.a (c.a + (c.N : Int)) hlen hv
  have k36f := Try.c36 c.s c.l c.a (c.a + (m : Int)) hlen hvm
  rw [c.levels (by omega)] at k36 k36f
  have k40 := Try.c40 c.s c.l c.a (c.a + (c.N : Int)) hlen hv
  have k40m := Try.c40 c.s c.l c.a (c.a + (m : Int)) hlen hvm
  have sN := c.sum (Nat.zero_le c.N) (by omega)
  have sm := c.sum (Nat.zero_le m) (by omega)
  rw [ha0] at sN sm
  rw [sN] at k40
  rw [sm] at k40m
  have k40i : ∀ i, i < (c.lev c.N).length → ACalls Try.prog 40 [.agg (satA c.s), loadsA c.l, .agg (spellA (IntKind.i64.wrap (c.a + (i : Int))) (IntKind.i64.wrap (IntKind.i64.wrap (c.a + (i : Int)) + 1)))] (.tup [.int .i64 (c.f i), .int .i64 0]) := fun i hi => by
    rw [c.lev_len] at hi
    have e1 : IntKind.i64.wrap (c.a + (i : Int)) = c.a + (i : Int) := w64_in (by omega) (by omega)
    have e2 : IntKind.i64.wrap (c.a + (i : Int) + 1) = c.a + ((i + 1 : Nat) : Int) := (w64_in (by omega) (by omega)).trans (by omega)
    have := Try.c40 c.s c.l (c.a + (i : Int)) (c.a + ((i + 1 : Nat) : Int)) hlen (c.valid (by omega) (by omega) (by omega) (by omega))
    rw [c.sum (by omega) (by omega), show psum c.f (i + 1) - psum c.f i = c.f i by simp only [psum]; omega] at this
    rw [e1, e2]
    exact this
  have f3 : ∀ i, i < (c.lev c.N).length → (c.lev c.N).getD i 0 = min (c.s 11) (IntKind.i64.wrap (bfS (c.s 11) (c.lev c.N) i - c.f i)) := fun i hi => by
    rw [c.lev_len] at hi
    have hb : bfS (c.s 11) (c.lev c.N) i = levF (c.s 11) c.f i := by
      cases i with
      | zero => rfl
      | succ k => exact c.levD (by omega)
    have hl := levF_rng (c := c.s 11) c.nb i
    have hf := c.nb i
    rw [c.levD hi, hb]
    simp only [levF]
    rw [show IntKind.i64.wrap (levF (c.s 11) c.f i - c.f i) = levF (c.s 11) c.f i - c.f i from w64_in (by omega) (by omega)]
  have f4 : ∀ i, i < (c.lev c.N).length → i < (c.lev m).length → (c.lev m).getD i 0 = (c.lev c.N).getD i 0 := fun i h1 h2 => by
    rw [c.lev_len] at h1 h2
    rw [c.levD h1, c.levD h2]
  have f1 : (((c.lev c.N).map fun h => [AV.int .i64 h]).length : Int) = IntKind.i64.wrap (c.b - c.a) := by rw [w1, List.length_map, c.lev_len]; omega
  have f2 : (((c.lev m).map fun h => [AV.int .i64 h]).length : Int) = IntKind.i64.wrap (IntKind.i64.wrap (IntKind.i64.wrap (c.a + 1) + p) - c.a) := by
    rw [wm, List.length_map, c.lev_len]
    exact (w64_in (by omega) (by omega) |>.trans (by omega)).symm
  rw [← hbN] at k36 k40
  rw [← wm] at k36f k40m
  have pN := psum_rng c.nb c.N
  have p0 : psum c.f 0 = 0 := rfl
  have hle : (c.lev c.N).length ≤ 1000 := by rw [c.lev_len]; omega
  by_cases hlt : (m : Int) < (c.N : Int)
  · have k40r := Try.c40 c.s c.l (c.a + (m : Int)) (c.a + (c.N : Int)) hlen (c.valid (by omega) (by omega) (by omega) (by omega))
    rw [c.sum (by omega) (by omega), ← hbN, ← wm] at k40r
    refine Try.y13t c.x c.y c.s c.l c.z c.from_ c.long at_ c.a c.b p _ _ _ (c.lev c.N) (c.lev m) c.f hle (Try.c35 c) k39 k36 k36f k40 k40m k40r (decide_eq_true (by rw [wm]; omega)) k40i f1 f2 f3 f4 ?_
    rw [show psum c.f m - psum c.f 0 + (psum c.f c.N - psum c.f m) = psum c.f c.N - psum c.f 0 by omega]
    exact (w64_in (by omega) (by omega)).symm
  · have hmN : m = c.N := by omega
    refine Try.y13f c.x c.y c.s c.l c.z c.from_ c.long at_ c.a c.b p _ _ (c.lev c.N) (c.lev m) c.f hle (Try.c35 c) k39 k36 k36f k40 k40m (decide_eq_false (by rw [wm]; omega)) k40i f1 f2 f3 f4 ?_
    rw [hmN]
end Go.Proofs


namespace Go.Proofs
open Go Go.AI Go.Proofs.Ytoccmkmnkoldmaa
set_option maxRecDepth 100000
theorem Try.own : ownKnob Try.prog.godebug = none := by kernel_rfl
theorem Try.laidOut : laidOutB Try.prog = true := by kernel_rfl
theorem Try.reads22 : (Try.prog.readableRec 22 && Nat.blt 22 Try.prog.types.size) = true := by kernel_rfl
theorem Try.reads54 : (Try.prog.readableRec 54 && Nat.blt 54 Try.prog.types.size) = true := by kernel_rfl
theorem Try.reads55 : (Try.prog.readableRec 55 && Nat.blt 55 Try.prog.types.size) = true := by kernel_rfl
theorem Try.reads3 : (Try.prog.readableRec 3 && Nat.blt 3 Try.prog.types.size) = true := by kernel_rfl
def seven0 : Value := .agg #[.int .i64 0, .int .i64 0, .int .i64 0, .int .i64 0, .int .i64 0, .int .i64 0, .int .i64 0]
def sevenSh : List Sh := [.int .i64, .int .i64, .int .i64, .int .i64, .int .i64, .int .i64, .int .i64]
def lawSh : List (Bool × List Sh) := [(true, sevenSh), (true, [.int .i64, .int .i64, .int .i64, .int .i64]), (false, [.sl [.int .i64, .int .i64, .int .i64]]), (false, [.int .i64]), (false, [.int .i64]), (false, [.int .i64])]
theorem Try.shs : paramSh Try.prog 8 [22, 54, 55, 3, 3, 3] = some lawSh := by kernel_rfl
theorem Try.lifted (law : ∀ avs, PArgs 8 lawSh avs → ACalls Try.prog 13 avs (.bool true)) (os : Os) (started : os.Started) (H : Type) (enc : TypeId × Value → H) :
    ReturnsInHanded {} Try.checked os 13 .any (Rows.batteryPartsSpec.pre6 enc Try.prog Try.f13 Rows.batteryPartsRow.domain false) (Rows.batteryPartsSpec.post enc Try.prog Try.f13 false true false false) :=
  law_lifted (C := Try.checked) (tb := 4) Try.own started (by kernel_rfl) Try.func13
    (ChangeSpec.witness6 (enc := enc) (C := Try.checked) false ⟨#[], #[seven0, .agg #[.int .i64 0, .int .i64 0, .int .i64 0, .int .i64 0], .slice none 0 0, .int .i64 0, .int .i64 0, .int .i64 0], []⟩ 8 (by kernel_rfl) (by kernel_rfl) (by kernel_rfl) (by kernel_rfl))
    rfl (by kernel_rfl) (by kernel_rfl) (fun ds h => by
      match ds, h with
      | [d, da, db, d0, d1, d2], _ => rfl) Try.shs Try.laidOut (fun t ht => by
      have e : Try.f13.params.toList = [22, 54, 55, 3, 3, 3] := by kernel_rfl
      rw [e] at ht
      simp only [List.mem_cons, List.not_mem_nil, or_false] at ht
      have h22 := Try.reads22
      have h3 := Try.reads3
      have h54 := Try.reads54
      have h55 := Try.reads55
      simp only [Bool.and_eq_true] at h22 h3 h54 h55
      have g : t = 22 ∨ t = 54 ∨ t = 55 ∨ t = 3 := by rcases ht with h | h | h | h | h | h <;> first | exact .inl h | exact .inr (.inl h) | exact .inr (.inr (.inl h)) | exact .inr (.inr (.inr h))
      rcases g with rfl | rfl | rfl | rfl
      · exact ⟨h22.1, Nat.le_of_ble_eq_true h22.2⟩
      · exact ⟨h54.1, Nat.le_of_ble_eq_true h54.2⟩
      · exact ⟨h55.1, Nat.le_of_ble_eq_true h55.2⟩
      · exact ⟨h3.1, Nat.le_of_ble_eq_true h3.2⟩) law
theorem Try.row (law : ∀ avs, PArgs 8 lawSh avs → ACalls Try.prog 13 avs (.bool true)) : Rows.BatteryPartsSaid :=
  OpenClaim.holds_of_wide (p := Try.pinned) (s := Rows.batteryPartsSpec) (c := Rows.batteryPartsRow) 13 Try.f13 rfl rfl rfl rfl rfl rfl rfl ⟨rfl, rfl, rfl, rfl, rfl⟩ rfl rfl rfl rfl rfl (by kernel_rfl) Try.func13 (by kernel_rfl)
    (of_decide_eq_true (by kernel_rfl)) (by unfold Func.isWrapper; first | (rw [if_pos (by decide +kernel)]; kernel_rfl) | (rw [if_neg (by decide +kernel)]; exact ⟨rfl, rfl⟩))
    (fun os started H enc _ => Try.lifted law os started H enc)
theorem pargs_agg {n : Nat} {L : List Sh} {r : List (Bool × List Sh)} {avs : List AV} (h : PArgs n ((true, L) :: r) avs) : ∃ cs q, avs = .agg cs :: q ∧ Fa (ShOK n) L cs ∧ PArgs n r q := by
  match avs, h with
  | _ :: q, h =>
    obtain ⟨⟨cs, rfl, h1⟩, h2⟩ := h
    exact ⟨cs, q, rfl, h1, h2⟩
  | [], h => exact h.elim
theorem pargs_int {n : Nat} {r : List (Bool × List Sh)} {avs : List AV} (h : PArgs (n + 1) ((false, [.int .i64]) :: r) avs) : ∃ z q, avs = .int .i64 z :: q ∧ inI z ∧ PArgs (n + 1) r q := by
  match avs, h with
  | _ :: q, h =>
    obtain ⟨⟨s, e, h1⟩, h2⟩ := h
    cases e
    obtain ⟨z, rfl, hz⟩ := int_inv h1
    exact ⟨z, q, rfl, hz, h2⟩
  | [], h => exact h.elim
theorem pargs_sl {n : Nat} {e : List Sh} {r : List (Bool × List Sh)} {avs : List AV} (h : PArgs n ((false, [.sl e]) :: r) avs) : ∃ z q, avs = z :: q ∧ ShOK n (.sl e) z ∧ PArgs n r q := by
  match avs, h with
  | _ :: q, h =>
    obtain ⟨⟨s, e, h1⟩, h2⟩ := h
    cases e
    exact ⟨_, q, rfl, h1, h2⟩
  | [], h => exact h.elim
theorem pargs_nil {n : Nat} {avs : List AV} (h : PArgs n [] avs) : avs = [] := by
  match avs, h with
  | [], _ => rfl
  | _ :: _, h => exact h.elim
end Go.Proofs
namespace Go.Proofs.Ytoccmkmnkoldmaa
open Go Go.AI
/-- BatteryParts answers true, whatever the input. -/
theorem batteryParts : Rows.BatteryPartsSaid := Try.row fun avs h => by
  obtain ⟨cs, q, rfl, h1, h⟩ := pargs_agg h
  obtain ⟨ds, q, rfl, h2, h⟩ := pargs_agg h
  obtain ⟨z, q, rfl, h3, h⟩ := pargs_sl h
  obtain ⟨z0, q, rfl, i0, h⟩ := pargs_int h
  obtain ⟨z1, q, rfl, i1, h⟩ := pargs_int h
  obtain ⟨z2, q, rfl, i2, h⟩ := pargs_int h
  obtain rfl := pargs_nil h
  obtain ⟨x, hx, rfl⟩ := seven_of h1
  obtain ⟨y, hy, rfl⟩ := four_of h2
  obtain ⟨w, hw, rfl⟩ := rows_of h3
  exact Go.Proofs.Try.x13 ⟨x, y, w, z0, z1, hx, hy, hw, i0, i1⟩ z2 i2
end Go.Proofs.Ytoccmkmnkoldmaa


