/- Contracts of battery's functions, of the law's cases and of its examples; the conditions are those typed. -/
import Derived.Test.YtoccmkmnkoldmaaGreatBatA
set_option linter.unusedSectionVars false
set_option linter.unusedVariables false
set_option linter.unusedSimpArgs false

namespace Go.Proofs
open Go Go.AI
set_option maxRecDepth 10000
set_option linter.unusedSimpArgs false

theorem right_b {a b : Int} (h : rightS a b = true) : 0 ≤ a ∧ a < b ∧ b ≤ 1000000 := by
  simp only [rightS, inS, Bool.and_eq_true, decide_eq_true_eq] at h
  rw [w64_in (by omega) (by omega)] at h
  omega
theorem valid_b {s : Nat → Int} {l : List Load3} {a b : Int} (h : validS s l a b = true) : (0 ≤ a ∧ a < b ∧ b ≤ 1000000) ∧ b - a ≤ 4320 ∧ properS l = true ∧ satS s = true := by
  simp only [validS, Bool.and_eq_true, decide_eq_true_eq] at h
  have hb := right_b h.1.1.1
  refine ⟨hb, ?_, h.1.2, h.2⟩
  have := h.1.1.2
  rwa [w64_in (by omega) (by omega)] at this
theorem nets_len {s : Nat → Int} {l : List Load3} {a b : Int} : (netsL s l a b).length = (b - a).toNat := by simp [netsL, pairsF]
theorem pair_rd (m : Mem) (x : Int × Int) (i : Nat) (c : AV) (v : Value) (h1 : [AV.int .i64 x.1, AV.int .i64 x.2][i]? = some c) (h2 : (pairV x)[i]? = some v) : RD m c v := by
  match i, h1, h2 with
  | 0, h1, h2 => cases h1; cases h2; exact .int _ _
  | 1, h1, h2 => cases h1; cases h2; exact .int _ _

theorem Tryz.b36 (s : Nat → Int) (l : List Load3) (a b : Int) (hl : l.length ≤ 1000000) (hv : validS s l a b = false) : ACalls Tryz.prog 14 [.agg (satA s), loadsA l, .agg (spellA a b)] (.tup [.sl .no 1 [], .int .i64 100]) := by
  have h59 := Tryz.c59 s l a b hl
  rw [hv] at h59
  refine ACalls.ofB Tryz.TT_ok Tryz.func14 rfl (by kernel_rfl) Tryz.mixed (Nat.le_of_ble_eq_true rfl) ?_
  intro F n' w0 m0 hG hro h1
  repeat' first
    | refine SPB.seq ?_
    | refine SPB.block ?_
    | refine SPB.draw hG Tryz.TT_ok Tryz.keep14 (by kernel_rfl) ?_
    | refine SPB.reg hG Tryz.TT_ok Tryz.keep14 (by kernel_rfl) ?_
    | refine SPB.skip hG Tryz.TT_ok ?_
    | refine SPB.label hG Tryz.TT_ok ?_
    | refine SPB.ret hG Tryz.TT_ok ?_
    | refine SPB.exit hG Tryz.TT_ok ?_
    | refine SPB.condT rfl ?_
    | refine SPB.condF rfl ?_
    | refine SPB.cond rfl (And.intro (fun h => ?_) (fun h => ?_))
    | (conv => whnf
       first
         | refine And.intro (fun h => Bool.noConfusion (h : false = true)) (fun _ => ?_)
         | refine And.intro (fun _ => ?_) (fun h => Bool.noConfusion (h : true = false))
         | refine And.intro (by kernel_rfl) ?_
         | refine Exists.intro _ (And.intro (h59) ?_)
         | refine And.intro (fun h => ?_) (fun h => ?_)
         | refine Or.inl ?_
         | fail)
  all_goals exact Ends.mk (Or.inl rfl) (AV.weak.of_eq rfl)
theorem Tryz.b40 (s : Nat → Int) (l : List Load3) (a b : Int) (hl : l.length ≤ 1000000) (hv : validS s l a b = false) : ACalls Tryz.prog 18 [.agg (satA s), loadsA l, .agg (spellA a b)] (.tup [.int .i64 0, .int .i64 100]) := by
  have h59 := Tryz.c59 s l a b hl
  rw [hv] at h59
  refine ACalls.ofB Tryz.TT_ok Tryz.func18 rfl (by kernel_rfl) Tryz.mixed (Nat.le_of_ble_eq_true rfl) ?_
  intro F n' w0 m0 hG hro h1
  repeat' first
    | refine SPB.seq ?_
    | refine SPB.block ?_
    | refine SPB.draw hG Tryz.TT_ok Tryz.keep18 (by kernel_rfl) ?_
    | refine SPB.reg hG Tryz.TT_ok Tryz.keep18 (by kernel_rfl) ?_
    | refine SPB.skip hG Tryz.TT_ok ?_
    | refine SPB.label hG Tryz.TT_ok ?_
    | refine SPB.ret hG Tryz.TT_ok ?_
    | refine SPB.exit hG Tryz.TT_ok ?_
    | refine SPB.condT rfl ?_
    | refine SPB.condF rfl ?_
    | refine SPB.cond rfl (And.intro (fun h => ?_) (fun h => ?_))
    | (conv => whnf
       first
         | refine And.intro (fun h => Bool.noConfusion (h : false = true)) (fun _ => ?_)
         | refine And.intro (fun _ => ?_) (fun h => Bool.noConfusion (h : true = false))
         | refine And.intro (by kernel_rfl) ?_
         | refine Exists.intro _ (And.intro (h59) ?_)
         | refine And.intro (fun h => ?_) (fun h => ?_)
         | refine Or.inl ?_
         | fail)
  all_goals exact Ends.mk (Or.inl rfl) (AV.weak.of_eq rfl)
theorem Tryz.b37 (s : Nat → Int) (l : List Load3) (a b : Int) (hl : l.length ≤ 1000000) (hv : validS s l a b = false) : ACalls Tryz.prog 20 [.agg (satA s), loadsA l, .agg (spellA a b)] (.tup [.agg (spellA 0 0), .int .i64 0, .int .i64 100]) := by
  have h59 := Tryz.c59 s l a b hl
  rw [hv] at h59
  refine ACalls.ofB Tryz.TT_ok Tryz.func20 rfl (by kernel_rfl) Tryz.mixed (Nat.le_of_ble_eq_true rfl) ?_
  intro F n' w0 m0 hG hro h1
  repeat' first
    | refine SPB.seq ?_
    | refine SPB.block ?_
    | refine SPB.draw hG Tryz.TT_ok Tryz.keep20 (by kernel_rfl) ?_
    | refine SPB.reg hG Tryz.TT_ok Tryz.keep20 (by kernel_rfl) ?_
    | refine SPB.skip hG Tryz.TT_ok ?_
    | refine SPB.label hG Tryz.TT_ok ?_
    | refine SPB.ret hG Tryz.TT_ok ?_
    | refine SPB.exit hG Tryz.TT_ok ?_
    | refine SPB.condT rfl ?_
    | refine SPB.condF rfl ?_
    | refine SPB.cond rfl (And.intro (fun h => ?_) (fun h => ?_))
    | (conv => whnf
       first
         | refine And.intro (fun h => Bool.noConfusion (h : false = true)) (fun _ => ?_)
         | refine And.intro (fun _ => ?_) (fun h => Bool.noConfusion (h : true = false))
         | refine And.intro (by kernel_rfl) ?_
         | refine Exists.intro _ (And.intro (h59) ?_)
         | refine And.intro (fun h => ?_) (fun h => ?_)
         | refine Or.inl ?_
         | fail)
  all_goals exact Ends.mk (Or.inl rfl) (AV.weak.of_eq rfl)
theorem Tryz.c40 (s : Nat → Int) (l : List Load3) (a b : Int) (hl : l.length ≤ 1000000) (hv : validS s l a b = true) : ACalls Tryz.prog 18 [.agg (satA s), loadsA l, .agg (spellA a b)] (.tup [.int .i64 (sumRun (netsL s l a b)), .int .i64 0]) := by
  obtain ⟨hab, h43, hp, hs⟩ := valid_b hv
  have h59 := Tryz.c59 s l a b hl
  rw [hv] at h59
  have hlen : (netsL s l a b).length ≤ 4320 := by rw [nets_len]; omega
  refine ACalls.ofB Tryz.TT_ok Tryz.func18 rfl (by kernel_rfl) Tryz.mixed (Nat.le_of_ble_eq_true rfl) ?_
  intro F n' w0 m0 hG hro h1
  repeat' first
    | refine SPB.seq ?_
    | refine SPB.block ?_
    | refine SPB.draw hG Tryz.TT_ok Tryz.keep18 (by kernel_rfl) ?_
    | refine SPB.reg hG Tryz.TT_ok Tryz.keep18 (by kernel_rfl) ?_
    | refine SPB.skip hG Tryz.TT_ok ?_
    | refine SPB.label hG Tryz.TT_ok ?_
    | refine SPB.ret hG Tryz.TT_ok ?_
    | refine SPB.exit hG Tryz.TT_ok ?_
    | refine SPB.condT rfl ?_
    | refine SPB.condF rfl ?_
    | refine SPB.cond rfl (And.intro (fun h => ?_) (fun h => ?_))
    | (conv => whnf
       first
         | refine And.intro (fun h => Bool.noConfusion (h : false = true)) (fun _ => ?_)
         | refine And.intro (fun _ => ?_) (fun h => Bool.noConfusion (h : true = false))
         | refine And.intro (by kernel_rfl) ?_
         | refine Exists.intro _ (And.intro (h59) ?_)
         | refine Exists.intro _ (And.intro (Tryz.c63 s l a b) ?_)
         | refine And.intro (fun h => ?_) (fun h => ?_)
         | refine Or.inl ?_
         | fail)
  refine ⟨SP.range hG hro h1 (α := Int × Int) (fun p => [.int .i64 p.1, .int .i64 p.2]) pairV (f := 110) (cap := netsCap s l a b) (items := netsL s l a b) rfl (Tryz.s80 s l a b hab.1 hab.2.2 (by have := proper_len hp; omega) (proper_kind hp)) (fun _ => rfl) (fun _ => rfl) pair_rd
    [(8, .loc 8 0)] (fun pre => [(8, [.int .i64 (sumRun pre)])]) (St.le.of ?_ ?_) (by kernel_rfl) (by decide) ?_ ?_⟩
  · repeat' (first | exact trivial | refine And.intro rfl ?_)
  · repeat' (first | exact trivial | refine And.intro rfl ?_)
  · intro F' n'' m' hG pre x rest hx
    refine SPB.out (SPB.reg hG Tryz.TT_ok Tryz.keep18 (by kernel_rfl) ?_)
    conv => whnf
    refine And.intro rfl (And.intro (St.le.of ?_ ?_) ?_)
    · repeat' (first | exact trivial | refine And.intro rfl ?_)
    · repeat' (first | exact trivial | refine And.intro rfl ?_)
    · refine SPB.out ?_
      repeat' first
        | refine SPB.seq ?_
        | refine SPB.block ?_
        | refine SPB.draw hG Tryz.TT_ok Tryz.keep18 (by kernel_rfl) ?_
        | refine SPB.reg hG Tryz.TT_ok Tryz.keep18 (by kernel_rfl) ?_
        | refine SPB.skip hG Tryz.TT_ok ?_
        | refine SPB.label hG Tryz.TT_ok ?_
        | refine SPB.ret hG Tryz.TT_ok ?_
        | refine SPB.exit hG Tryz.TT_ok ?_
        | refine SPB.condT rfl ?_
        | refine SPB.condF rfl ?_
        | refine SPB.cond rfl (And.intro (fun h => ?_) (fun h => ?_))
        | (conv => whnf
           first
             | refine And.intro (fun h => Bool.noConfusion (h : false = true)) (fun _ => ?_)
             | refine And.intro (fun _ => ?_) (fun h => Bool.noConfusion (h : true = false))
             | refine And.intro (by kernel_rfl) ?_
             | refine And.intro (fun h => ?_) (fun h => ?_)
             | refine Or.inl ?_
             | fail)
      refine St.le.of ?_ ?_
      · repeat' (first | exact trivial | refine And.intro rfl ?_)
      · refine And.intro ?_ trivial
        rw [sumRun_snoc]; rfl
  · conv => whnf
    repeat' first
      | refine SPB.seq ?_
      | refine SPB.block ?_
      | refine SPB.draw hG Tryz.TT_ok Tryz.keep18 (by kernel_rfl) ?_
      | refine SPB.reg hG Tryz.TT_ok Tryz.keep18 (by kernel_rfl) ?_
      | refine SPB.skip hG Tryz.TT_ok ?_
      | refine SPB.label hG Tryz.TT_ok ?_
      | refine SPB.ret hG Tryz.TT_ok ?_
      | refine SPB.exit hG Tryz.TT_ok ?_
      | refine SPB.condT rfl ?_
      | refine SPB.condF rfl ?_
      | refine SPB.cond rfl (And.intro (fun h => ?_) (fun h => ?_))
      | (conv => whnf
         first
           | refine And.intro (fun h => Bool.noConfusion (h : false = true)) (fun _ => ?_)
           | refine And.intro (fun _ => ?_) (fun h => Bool.noConfusion (h : true = false))
           | refine And.intro (by kernel_rfl) ?_
           | refine And.intro (fun h => ?_) (fun h => ?_)
           | refine Or.inl ?_
           | fail)
    all_goals exact Ends.mk (Or.inl rfl) (AV.weak.of_eq rfl)

def lvS (rows : List (List AV)) : AV := match rows with
  | [] => .sl (.id 1009000) 0 []
  | r => .sl (.id 1009000) 1 r
theorem Tryz.c36 (s : Nat → Int) (l : List Load3) (a b : Int) (hl : l.length ≤ 1000000) (hv : validS s l a b = true) : ACalls Tryz.prog 14 [.agg (satA s), loadsA l, .agg (spellA a b)] (.tup [intsA (levRun (s 11) (netsL s l a b)).2, .int .i64 0]) := by
  obtain ⟨hab, h43, hp, hs⟩ := valid_b hv
  have h59 := Tryz.c59 s l a b hl
  rw [hv] at h59
  have hlen : (netsL s l a b).length ≤ 4320 := by rw [nets_len]; omega
  refine ACalls.ofB Tryz.TT_ok Tryz.func14 rfl (by kernel_rfl) Tryz.mixed (Nat.le_of_ble_eq_true rfl) ?_
  intro F n' w0 m0 hG hro h1
  repeat' first
    | refine SPB.seq ?_
    | refine SPB.block ?_
    | refine SPB.draw hG Tryz.TT_ok Tryz.keep14 (by kernel_rfl) ?_
    | refine SPB.reg hG Tryz.TT_ok Tryz.keep14 (by kernel_rfl) ?_
    | refine SPB.skip hG Tryz.TT_ok ?_
    | refine SPB.label hG Tryz.TT_ok ?_
    | refine SPB.ret hG Tryz.TT_ok ?_
    | refine SPB.exit hG Tryz.TT_ok ?_
    | refine SPB.condT rfl ?_
    | refine SPB.condF rfl ?_
    | refine SPB.cond rfl (And.intro (fun h => ?_) (fun h => ?_))
    | (conv => whnf
       first
         | refine And.intro (fun h => Bool.noConfusion (h : false = true)) (fun _ => ?_)
         | refine And.intro (fun _ => ?_) (fun h => Bool.noConfusion (h : true = false))
         | refine And.intro (by kernel_rfl) ?_
         | refine Exists.intro _ (And.intro (h59) ?_)
         | refine Exists.intro _ (And.intro (Tryz.c63 s l a b) ?_)
         | refine And.intro (fun h => ?_) (fun h => ?_)
         | refine Or.inl ?_
         | fail)
  refine ⟨SP.range hG hro h1 (α := Int × Int) (fun p => [.int .i64 p.1, .int .i64 p.2]) pairV (f := 110) (cap := netsCap s l a b) (items := netsL s l a b) rfl (Tryz.s80 s l a b hab.1 hab.2.2 (by have := proper_len hp; omega) (proper_kind hp)) (fun _ => rfl) (fun _ => rfl) pair_rd
    [(9, .loc 9 0), (8, .loc 8 0), (3, .loc 3 0)] (fun pre => [(9, [lvS ((levRun (s 11) pre).2.map fun h => [.int .i64 h])]), (8, [.int .i64 (levRun (s 11) pre).1]), (3, satA s)]) (St.le.of ?_ ?_) (by kernel_rfl) (by decide) ?_ ?_⟩
  · repeat' (first | exact trivial | refine And.intro rfl ?_)
  · repeat' (first | exact trivial | refine And.intro rfl ?_)
  · intro F' n'' m' hG pre x rest hx
    have hpl : pre.length < 4320 := by rw [hx] at hlen; simp at hlen; omega
    have hrl : ((levRun (s 11) pre).2.map fun h => [AV.int .i64 h]).length = pre.length := by rw [List.length_map, levRun_len]
    refine SPB.out (SPB.reg hG Tryz.TT_ok Tryz.keep14 (by kernel_rfl) ?_)
    conv => whnf
    refine And.intro rfl (And.intro (St.le.of ?_ ?_) ?_)
    · repeat' (first | exact trivial | refine And.intro rfl ?_)
    · repeat' (first | exact trivial | refine And.intro rfl ?_)
    · refine SPB.out ?_
      generalize hrw : ((levRun (s 11) pre).2.map fun h => [AV.int .i64 h]) = rows at hrl ⊢
      rcases rows with _ | ⟨y, r⟩

      · repeat' first
          | refine SPB.seq ?_
          | refine SPB.block ?_
          | refine SPB.draw hG Tryz.TT_ok Tryz.keep14 (by kernel_rfl) ?_
          | refine SPB.reg hG Tryz.TT_ok Tryz.keep14 (by kernel_rfl) ?_
          | refine SPB.skip hG Tryz.TT_ok ?_
          | refine SPB.label hG Tryz.TT_ok ?_
          | refine SPB.ret hG Tryz.TT_ok ?_
          | refine SPB.exit hG Tryz.TT_ok ?_
          | refine SPB.condT rfl ?_
          | refine SPB.condF rfl ?_
          | refine SPB.cond rfl (And.intro (fun h => ?_) (fun h => ?_))
          | (conv => whnf
             first
               | refine And.intro (fun h => Bool.noConfusion (h : false = true)) (fun _ => ?_)
               | refine And.intro (fun _ => ?_) (fun h => Bool.noConfusion (h : true = false))
               | refine And.intro (by kernel_rfl) ?_
               | refine And.intro (show (List.length ([] : List (List AV)) + 1) * 8 ≤ 70368744177664 by rw [hrl]; omega) ?_
               | refine And.intro (show List.length ([] : List (List AV)) + 1 ≤ 4611686018427387904 by rw [hrl]; omega) ?_
               | refine And.intro (fun h => ?_) (fun h => ?_)
               | refine Or.inl ?_
               | fail)
        refine St.le.of ?_ ?_
        · repeat' (first | exact trivial | refine And.intro rfl ?_)
        · refine And.intro ?_ (And.intro ?_ (And.intro rfl trivial))
          · rw [levRun_snoc, levStep, List.map_append, hrw]; rfl
          · rw [levRun_snoc]; rfl
      · repeat' first
          | refine SPB.seq ?_
          | refine SPB.block ?_
          | refine SPB.draw hG Tryz.TT_ok Tryz.keep14 (by kernel_rfl) ?_
          | refine SPB.reg hG Tryz.TT_ok Tryz.keep14 (by kernel_rfl) ?_
          | refine SPB.skip hG Tryz.TT_ok ?_
          | refine SPB.label hG Tryz.TT_ok ?_
          | refine SPB.ret hG Tryz.TT_ok ?_
          | refine SPB.exit hG Tryz.TT_ok ?_
          | refine SPB.condT rfl ?_
          | refine SPB.condF rfl ?_
          | refine SPB.cond rfl (And.intro (fun h => ?_) (fun h => ?_))
          | (conv => whnf
             first
               | refine And.intro (fun h => Bool.noConfusion (h : false = true)) (fun _ => ?_)
               | refine And.intro (fun _ => ?_) (fun h => Bool.noConfusion (h : true = false))
               | refine And.intro (by kernel_rfl) ?_
               | refine And.intro (show (List.length ((y :: r) : List (List AV)) + 1) * 8 ≤ 70368744177664 by rw [hrl]; omega) ?_
               | refine And.intro (show List.length ((y :: r) : List (List AV)) + 1 ≤ 4611686018427387904 by rw [hrl]; omega) ?_
               | refine And.intro (fun h => ?_) (fun h => ?_)
               | refine Or.inl ?_
               | fail)
        refine St.le.of ?_ ?_
        · repeat' (first | exact trivial | refine And.intro rfl ?_)
        · refine And.intro ?_ (And.intro ?_ (And.intro rfl trivial))
          · rw [levRun_snoc, levStep, List.map_append, hrw]; rfl
          · rw [levRun_snoc]; rfl
  · have hne : ((levRun (s 11) (netsL s l a b)).2.map fun h => [AV.int .i64 h]).length ≠ 0 := by rw [List.length_map, levRun_len, nets_len]; omega
    rw [show intsA (levRun (s 11) (netsL s l a b)).2 = .sl .no 1 ((levRun (s 11) (netsL s l a b)).2.map fun h => [AV.int .i64 h]) from rfl]
    generalize ((levRun (s 11) (netsL s l a b)).2.map fun h => [AV.int .i64 h]) = rows at hne ⊢
    rcases rows with _ | ⟨y, r⟩
    · exact absurd rfl hne
    · conv => whnf
      repeat' first
        | refine SPB.seq ?_
        | refine SPB.block ?_
        | refine SPB.draw hG Tryz.TT_ok Tryz.keep14 (by kernel_rfl) ?_
        | refine SPB.reg hG Tryz.TT_ok Tryz.keep14 (by kernel_rfl) ?_
        | refine SPB.skip hG Tryz.TT_ok ?_
        | refine SPB.label hG Tryz.TT_ok ?_
        | refine SPB.ret hG Tryz.TT_ok ?_
        | refine SPB.exit hG Tryz.TT_ok ?_
        | refine SPB.condT rfl ?_
        | refine SPB.condF rfl ?_
        | refine SPB.cond rfl (And.intro (fun h => ?_) (fun h => ?_))
        | (conv => whnf
           first
             | refine And.intro (fun h => Bool.noConfusion (h : false = true)) (fun _ => ?_)
             | refine And.intro (fun _ => ?_) (fun h => Bool.noConfusion (h : true = false))
             | refine And.intro (by kernel_rfl) ?_
             | refine And.intro (fun h => ?_) (fun h => ?_)
             | refine Or.inl ?_
             | fail)
      all_goals exact Ends.mk (Or.inl rfl) (AV.weak.of_eq rfl)
end Go.Proofs



namespace Go.Proofs
open Go Go.AI
set_option maxRecDepth 10000
set_option linter.unusedSimpArgs false

theorem Tryz.c65 (n : Int) : ACalls Tryz.prog 57 [.int .i64 n] (.bool (decide (n < 0))) := by
  refine ACalls.ofB Tryz.TT_ok Tryz.func57 rfl (by kernel_rfl) Tryz.mixed (Nat.le_of_ble_eq_true rfl) ?_
  intro F n' w0 m0 hG hro h1
  repeat' first
    | refine SPB.seq ?_
    | refine SPB.block ?_
    | refine SPB.draw hG Tryz.TT_ok Tryz.keep57 (by kernel_rfl) ?_
    | refine SPB.reg hG Tryz.TT_ok Tryz.keep57 (by kernel_rfl) ?_
    | refine SPB.skip hG Tryz.TT_ok ?_
    | refine SPB.label hG Tryz.TT_ok ?_
    | refine SPB.ret hG Tryz.TT_ok ?_
    | refine SPB.exit hG Tryz.TT_ok ?_
    | refine SPB.condT rfl ?_
    | refine SPB.condF rfl ?_
    | refine SPB.cond rfl (And.intro (fun h => ?_) (fun h => ?_))
    | (conv => whnf
       first
         | refine And.intro (fun h => Bool.noConfusion (h : false = true)) (fun _ => ?_)
         | refine And.intro (fun _ => ?_) (fun h => Bool.noConfusion (h : true = false))
         | refine And.intro (by kernel_rfl) ?_
         | refine And.intro (fun h => ?_) (fun h => ?_)
         | refine Or.inl ?_
         | fail)
  all_goals exact Ends.mk (Or.inl rfl) (AV.weak.of_eq rfl)
def emptyS (s : Nat → Int) (l : List Load3) (a b : Int) : Int := let i := idxF (fun n => decide (n < 0)) (levRun (s 11) (netsL s l a b)).2 0; if i ≥ 0 then w64 (a + i) else -1
theorem Tryz.c38 (s : Nat → Int) (l : List Load3) (a b : Int) (hl : l.length ≤ 1000000) (hv : validS s l a b = true) : ACalls Tryz.prog 16 [.agg (satA s), loadsA l, .agg (spellA a b)] (.tup [.int .i64 (emptyS s l a b), .int .i64 0]) := by
  have k36 := Tryz.c36 s l a b hl hv
  obtain ⟨hab, h43, hp, hs⟩ := valid_b hv
  have k64 := Tryz.c64 (levRun (s 11) (netsL s l a b)).2 (fun n => decide (n < 0)) 57 _ [] (Or.inr ⟨rfl, rfl⟩) (by rw [levRun_len, nets_len]; omega) (fun n _ => Tryz.c65 n)
  refine ACalls.ofB Tryz.TT_ok Tryz.func16 rfl (by kernel_rfl) Tryz.mixed (Nat.le_of_ble_eq_true rfl) ?_
  intro F n' w0 m0 hG hro h1
  repeat' first
    | refine SPB.seq ?_
    | refine SPB.block ?_
    | refine SPB.draw hG Tryz.TT_ok Tryz.keep16 (by kernel_rfl) ?_
    | refine SPB.reg hG Tryz.TT_ok Tryz.keep16 (by kernel_rfl) ?_
    | refine SPB.skip hG Tryz.TT_ok ?_
    | refine SPB.label hG Tryz.TT_ok ?_
    | refine SPB.ret hG Tryz.TT_ok ?_
    | refine SPB.exit hG Tryz.TT_ok ?_
    | refine SPB.condT rfl ?_
    | refine SPB.condF rfl ?_
    | refine SPB.cond rfl (And.intro (fun h => ?_) (fun h => ?_))
    | (conv => whnf
       first
         | refine And.intro (fun h => Bool.noConfusion (h : false = true)) (fun _ => ?_)
         | refine And.intro (fun _ => ?_) (fun h => Bool.noConfusion (h : true = false))
         | refine And.intro (by kernel_rfl) ?_
         | refine Exists.intro _ (And.intro (k36) ?_)
         | refine Exists.intro _ (And.intro (k64) ?_)
         | refine And.intro (fun h => ?_) (fun h => ?_)
         | refine Or.inl ?_
         | fail)
  · exact Ends.mk (Or.inl rfl) (AV.weak.of_eq (congrArg (fun z => AV.tup [.int .i64 z, .int .i64 0]) (if_pos (of_decide_eq_true (by assumption))).symm))
  · exact Ends.mk (Or.inl rfl) (AV.weak.of_eq (congrArg (fun z => AV.tup [.int .i64 z, .int .i64 0]) (if_neg (of_decide_eq_false (by assumption))).symm))
theorem Tryz.b38 (s : Nat → Int) (l : List Load3) (a b : Int) (hl : l.length ≤ 1000000) (hv : validS s l a b = false) : ACalls Tryz.prog 16 [.agg (satA s), loadsA l, .agg (spellA a b)] (.tup [.int .i64 0, .int .i64 100]) := by
  have k36 := Tryz.b36 s l a b hl hv
  refine ACalls.ofB Tryz.TT_ok Tryz.func16 rfl (by kernel_rfl) Tryz.mixed (Nat.le_of_ble_eq_true rfl) ?_
  intro F n' w0 m0 hG hro h1
  repeat' first
    | refine SPB.seq ?_
    | refine SPB.block ?_
    | refine SPB.draw hG Tryz.TT_ok Tryz.keep16 (by kernel_rfl) ?_
    | refine SPB.reg hG Tryz.TT_ok Tryz.keep16 (by kernel_rfl) ?_
    | refine SPB.skip hG Tryz.TT_ok ?_
    | refine SPB.label hG Tryz.TT_ok ?_
    | refine SPB.ret hG Tryz.TT_ok ?_
    | refine SPB.exit hG Tryz.TT_ok ?_
    | refine SPB.condT rfl ?_
    | refine SPB.condF rfl ?_
    | refine SPB.cond rfl (And.intro (fun h => ?_) (fun h => ?_))
    | (conv => whnf
       first
         | refine And.intro (fun h => Bool.noConfusion (h : false = true)) (fun _ => ?_)
         | refine And.intro (fun _ => ?_) (fun h => Bool.noConfusion (h : true = false))
         | refine And.intro (by kernel_rfl) ?_
         | refine Exists.intro _ (And.intro (k36) ?_)
         | refine And.intro (fun h => ?_) (fun h => ?_)
         | refine Or.inl ?_
         | fail)
  all_goals exact Ends.mk (Or.inl rfl) (AV.weak.of_eq rfl)

theorem wz {a b c : Int} : (a == 0 && (b == 0 && true) && (c == 0 && true)) = true ↔ a = 0 ∧ b = 0 ∧ c = 0 := by simp [and_assoc]
theorem wz' {a b c : Int} (h : (a == 0 && (b == 0 && true) && (c == 0 && true)) = false) : ¬ (a = 0 ∧ b = 0 ∧ c = 0) := fun g => tf (wz.2 g) h
theorem w_t1 {r : W6} {p : Int × Int} (h : (r.ef == 0 && (r.et == 0 && true) && (r.en == 0 && true)) = true) : wend r p = (p.1, w64 (0 + p.2)) := if_pos (Or.inl (wz.1 h))
theorem w_t2 {r : W6} {p : Int × Int} (h : decide (r.en < 0) = true) : wend r p = (p.1, w64 (0 + p.2)) := if_pos (Or.inr (of_decide_eq_true h))
theorem w_f {r : W6} {p : Int × Int} (h : (r.ef == 0 && (r.et == 0 && true) && (r.en == 0 && true)) = false) (h2 : decide (r.en < 0) = false) : wend r p = (r.ef, w64 (r.en + p.2)) :=
  if_neg (fun g => g.elim (wz' h) (of_decide_eq_false h2))
theorem s_t1 {r : W6} {p e : Int × Int} (he : wend r p = e) (h : (r.ff == 0 && (r.ft == 0 && true) && (r.fn == 0 && true)) = true) : wstep r p = ⟨e.1, w64 (p.1 + 1), e.2, e.1, w64 (p.1 + 1), e.2⟩ := by
  subst he; exact if_pos (Or.inl (wz.1 h))
theorem s_t2 {r : W6} {p e : Int × Int} (he : wend r p = e) (h : decide (e.2 > r.fn) = true) : wstep r p = ⟨e.1, w64 (p.1 + 1), e.2, e.1, w64 (p.1 + 1), e.2⟩ := by
  subst he; exact if_pos (Or.inr (of_decide_eq_true h))
theorem s_f {r : W6} {p e : Int × Int} (he : wend r p = e) (h : (r.ff == 0 && (r.ft == 0 && true) && (r.fn == 0 && true)) = false) (h2 : decide (e.2 > r.fn) = false) : wstep r p = ⟨r.ff, r.ft, r.fn, e.1, w64 (p.1 + 1), e.2⟩ := by
  subst he; exact if_neg (fun g => g.elim (wz' h) (of_decide_eq_false h2))
set_option maxHeartbeats 4000000 in
theorem Tryz.c37 (s : Nat → Int) (l : List Load3) (a b : Int) (hl : l.length ≤ 1000000) (hv : validS s l a b = true) : ACalls Tryz.prog 20 [.agg (satA s), loadsA l, .agg (spellA a b)] (.tup [.agg (spellA (worstRun (netsL s l a b)).ff (worstRun (netsL s l a b)).ft), .int .i64 (worstRun (netsL s l a b)).fn, .int .i64 0]) := by
  obtain ⟨hab, h43, hp, hs⟩ := valid_b hv
  have h59 := Tryz.c59 s l a b hl
  rw [hv] at h59
  have hlen : (netsL s l a b).length ≤ 4320 := by rw [nets_len]; omega
  refine ACalls.ofB Tryz.TT_ok Tryz.func20 rfl (by kernel_rfl) Tryz.mixed (Nat.le_of_ble_eq_true rfl) ?_
  intro F n' w0 m0 hG hro h1
  repeat' first
    | refine SPB.seq ?_
    | refine SPB.block ?_
    | refine SPB.draw hG Tryz.TT_ok Tryz.keep20 (by kernel_rfl) ?_
    | refine SPB.reg hG Tryz.TT_ok Tryz.keep20 (by kernel_rfl) ?_
    | refine SPB.skip hG Tryz.TT_ok ?_
    | refine SPB.label hG Tryz.TT_ok ?_
    | refine SPB.ret hG Tryz.TT_ok ?_
    | refine SPB.exit hG Tryz.TT_ok ?_
    | refine SPB.condT rfl ?_
    | refine SPB.condF rfl ?_
    | refine SPB.cond rfl (And.intro (fun h => ?_) (fun h => ?_))
    | (conv => whnf
       first
         | refine And.intro (fun h => Bool.noConfusion (h : false = true)) (fun _ => ?_)
         | refine And.intro (fun _ => ?_) (fun h => Bool.noConfusion (h : true = false))
         | refine And.intro (by kernel_rfl) ?_
         | refine Exists.intro _ (And.intro (h59) ?_)
         | refine Exists.intro _ (And.intro (Tryz.c63 s l a b) ?_)
         | refine And.intro (fun h => ?_) (fun h => ?_)
         | refine Or.inl ?_
         | fail)
  refine ⟨SP.range hG hro h1 (α := Int × Int) (fun p => [.int .i64 p.1, .int .i64 p.2]) pairV (f := 110) (cap := netsCap s l a b) (items := netsL s l a b) rfl (Tryz.s80 s l a b hab.1 hab.2.2 (by have := proper_len hp; omega) (proper_kind hp)) (fun _ => rfl) (fun _ => rfl) pair_rd
    [(10, .loc 10 0), (9, .loc 9 0), (6, .loc 6 0)] (fun pre => [(10, [.int .i64 (worstRun pre).ef, .int .i64 (worstRun pre).et, .int .i64 (worstRun pre).en]), (9, [.int .i64 (worstRun pre).ff, .int .i64 (worstRun pre).ft, .int .i64 (worstRun pre).fn]), (6, [.int .i64 0, .int .i64 0])]) (St.le.of ?_ ?_) (by kernel_rfl) (by decide) ?_ ?_⟩
  · repeat' (first | exact trivial | refine And.intro rfl ?_)
  · repeat' (first | exact trivial | refine And.intro rfl ?_)
  · intro F' n'' m' hG pre x rest hx
    refine SPB.out (SPB.seq (SPB.reg hG Tryz.TT_ok Tryz.keep20 (by kernel_rfl) ?_))
    conv => whnf
    refine SPB.reg hG Tryz.TT_ok Tryz.keep20 (by kernel_rfl) ?_
    conv => whnf
    refine And.intro rfl (And.intro (St.le.of ?_ ?_) ?_)
    · repeat' (first | exact trivial | refine And.intro rfl ?_)
    · repeat' (first | exact trivial | refine And.intro rfl ?_)
    · refine SPB.out ?_
      repeat' first
        | refine SPB.seq ?_
        | refine SPB.block ?_
        | refine SPB.draw hG Tryz.TT_ok Tryz.keep20 (by kernel_rfl) ?_
        | refine SPB.reg hG Tryz.TT_ok Tryz.keep20 (by kernel_rfl) ?_
        | refine SPB.skip hG Tryz.TT_ok ?_
        | refine SPB.label hG Tryz.TT_ok ?_
        | refine SPB.ret hG Tryz.TT_ok ?_
        | refine SPB.exit hG Tryz.TT_ok ?_
        | refine SPB.condT rfl ?_
        | refine SPB.condF rfl ?_
        | refine SPB.cond rfl (And.intro (fun h => ?_) (fun h => ?_))
        | (conv => whnf
           first
             | refine And.intro (fun h => Bool.noConfusion (h : false = true)) (fun _ => ?_)
             | refine And.intro (fun _ => ?_) (fun h => Bool.noConfusion (h : true = false))
             | refine And.intro (by kernel_rfl) ?_
             | refine And.intro (fun h => ?_) (fun h => ?_)
             | refine Or.inl ?_
             | fail)
      · refine St.le.of ?_ ?_
        · repeat' (first | exact trivial | refine And.intro rfl ?_)
        · refine And.intro ?_ (And.intro ?_ (And.intro rfl trivial))
          · rw [worstRun_snoc, s_t1 (r := worstRun pre) (p := x) (w_t1 (r := worstRun pre) (p := x) (by assumption)) (by assumption)]; rfl
          · rw [worstRun_snoc, s_t1 (r := worstRun pre) (p := x) (w_t1 (r := worstRun pre) (p := x) (by assumption)) (by assumption)]; rfl
      · refine St.le.of ?_ ?_
        · repeat' (first | exact trivial | refine And.intro rfl ?_)
        · refine And.intro ?_ (And.intro ?_ (And.intro rfl trivial))
          · rw [worstRun_snoc, s_t2 (r := worstRun pre) (p := x) (w_t1 (r := worstRun pre) (p := x) (by assumption)) (by assumption)]; rfl
          · rw [worstRun_snoc, s_t2 (r := worstRun pre) (p := x) (w_t1 (r := worstRun pre) (p := x) (by assumption)) (by assumption)]; rfl
      · refine St.le.of ?_ ?_
        · repeat' (first | exact trivial | refine And.intro rfl ?_)
        · refine And.intro ?_ (And.intro ?_ (And.intro rfl trivial))
          · rw [worstRun_snoc, s_f (r := worstRun pre) (p := x) (w_t1 (r := worstRun pre) (p := x) (by assumption)) (by assumption) (by assumption)]; rfl
          · rw [worstRun_snoc, s_f (r := worstRun pre) (p := x) (w_t1 (r := worstRun pre) (p := x) (by assumption)) (by assumption) (by assumption)]; rfl
      · refine St.le.of ?_ ?_
        · repeat' (first | exact trivial | refine And.intro rfl ?_)
        · refine And.intro ?_ (And.intro ?_ (And.intro rfl trivial))
          · rw [worstRun_snoc, s_t1 (r := worstRun pre) (p := x) (w_t2 (r := worstRun pre) (p := x) (by assumption)) (by assumption)]; rfl
          · rw [worstRun_snoc, s_t1 (r := worstRun pre) (p := x) (w_t2 (r := worstRun pre) (p := x) (by assumption)) (by assumption)]; rfl
      · refine St.le.of ?_ ?_
        · repeat' (first | exact trivial | refine And.intro rfl ?_)
        · refine And.intro ?_ (And.intro ?_ (And.intro rfl trivial))
          · rw [worstRun_snoc, s_t2 (r := worstRun pre) (p := x) (w_t2 (r := worstRun pre) (p := x) (by assumption)) (by assumption)]; rfl
          · rw [worstRun_snoc, s_t2 (r := worstRun pre) (p := x) (w_t2 (r := worstRun pre) (p := x) (by assumption)) (by assumption)]; rfl
      · refine St.le.of ?_ ?_
        · repeat' (first | exact trivial | refine And.intro rfl ?_)
        · refine And.intro ?_ (And.intro ?_ (And.intro rfl trivial))
          · rw [worstRun_snoc, s_f (r := worstRun pre) (p := x) (w_t2 (r := worstRun pre) (p := x) (by assumption)) (by assumption) (by assumption)]; rfl
          · rw [worstRun_snoc, s_f (r := worstRun pre) (p := x) (w_t2 (r := worstRun pre) (p := x) (by assumption)) (by assumption) (by assumption)]; rfl
      · refine St.le.of ?_ ?_
        · repeat' (first | exact trivial | refine And.intro rfl ?_)
        · refine And.intro ?_ (And.intro ?_ (And.intro rfl trivial))
          · rw [worstRun_snoc, s_t1 (r := worstRun pre) (p := x) (w_f (r := worstRun pre) (p := x) (by assumption) (by assumption)) (by assumption)]; rfl
          · rw [worstRun_snoc, s_t1 (r := worstRun pre) (p := x) (w_f (r := worstRun pre) (p := x) (by assumption) (by assumption)) (by assumption)]; rfl
      · refine St.le.of ?_ ?_
        · repeat' (first | exact trivial | refine And.intro rfl ?_)
        · refine And.intro ?_ (And.intro ?_ (And.intro rfl trivial))
          · rw [worstRun_snoc, s_t2 (r := worstRun pre) (p := x) (w_f (r := worstRun pre) (p := x) (by assumption) (by assumption)) (by assumption)]; rfl
          · rw [worstRun_snoc, s_t2 (r := worstRun pre) (p := x) (w_f (r := worstRun pre) (p := x) (by assumption) (by assumption)) (by assumption)]; rfl
      · refine St.le.of ?_ ?_
        · repeat' (first | exact trivial | refine And.intro rfl ?_)
        · refine And.intro ?_ (And.intro ?_ (And.intro rfl trivial))
          · rw [worstRun_snoc, s_f (r := worstRun pre) (p := x) (w_f (r := worstRun pre) (p := x) (by assumption) (by assumption)) (by assumption) (by assumption)]; rfl
          · rw [worstRun_snoc, s_f (r := worstRun pre) (p := x) (w_f (r := worstRun pre) (p := x) (by assumption) (by assumption)) (by assumption) (by assumption)]; rfl
  · conv => whnf
    repeat' first
      | refine SPB.seq ?_
      | refine SPB.block ?_
      | refine SPB.draw hG Tryz.TT_ok Tryz.keep20 (by kernel_rfl) ?_
      | refine SPB.reg hG Tryz.TT_ok Tryz.keep20 (by kernel_rfl) ?_
      | refine SPB.skip hG Tryz.TT_ok ?_
      | refine SPB.label hG Tryz.TT_ok ?_
      | refine SPB.ret hG Tryz.TT_ok ?_
      | refine SPB.exit hG Tryz.TT_ok ?_
      | refine SPB.condT rfl ?_
      | refine SPB.condF rfl ?_
      | refine SPB.cond rfl (And.intro (fun h => ?_) (fun h => ?_))
      | (conv => whnf
         first
           | refine And.intro (fun h => Bool.noConfusion (h : false = true)) (fun _ => ?_)
           | refine And.intro (fun _ => ?_) (fun h => Bool.noConfusion (h : true = false))
           | refine And.intro (by kernel_rfl) ?_
           | refine And.intro (fun h => ?_) (fun h => ?_)
           | refine Or.inl ?_
           | fail)
    all_goals exact Ends.mk (Or.inl rfl) (AV.weak.of_eq rfl)
end Go.Proofs



namespace Go.Proofs
open Go Go.AI
set_option maxRecDepth 10000
set_option linter.unusedSimpArgs false

theorem ints_get (l : List Int) (i : Nat) (h : i < l.length) : (l.map fun h => [AV.int .i64 h])[(i : Int).toNat]? = some [.int .i64 (l.getD i 0)] := by simp [List.getElem?_eq_getElem h]
/-- Whether two rows of integers are one. -/
theorem Tryz.c58 (l k : List Int) (hl : l.length ≤ 1000000) : ACalls Tryz.prog 24 [intsA l, intsA k] (.bool (decide (l = k))) := by
  refine ACalls.ofB Tryz.TT_ok Tryz.func24 rfl (by kernel_rfl) Tryz.mixed (Nat.le_of_ble_eq_true rfl) ?_
  intro F n' w0 m0 hG hro h1
  repeat' first
    | refine SPB.seq ?_
    | refine SPB.block ?_
    | refine SPB.draw hG Tryz.TT_ok Tryz.keep24 (by kernel_rfl) ?_
    | refine SPB.reg hG Tryz.TT_ok Tryz.keep24 (by kernel_rfl) ?_
    | refine SPB.skip hG Tryz.TT_ok ?_
    | refine SPB.label hG Tryz.TT_ok ?_
    | refine SPB.ret hG Tryz.TT_ok ?_
    | refine SPB.exit hG Tryz.TT_ok ?_
    | refine SPB.condT rfl ?_
    | refine SPB.condF rfl ?_
    | refine SPB.cond rfl (And.intro (fun h => ?_) (fun h => ?_))
    | (conv => whnf
       first
         | refine And.intro (fun h => Bool.noConfusion (h : false = true)) (fun _ => ?_)
         | refine And.intro (fun _ => ?_) (fun h => Bool.noConfusion (h : true = false))
         | refine And.intro (by kernel_rfl) ?_
         | refine And.intro (fun h => ?_) (fun h => ?_)
         | refine Or.inl ?_
         | fail)
  · have hne : ((l.map fun h => [AV.int .i64 h]).length : Int) ≠ ((k.map fun h => [AV.int .i64 h]).length : Int) := by simpa using (by assumption : (((l.map fun h => [AV.int .i64 h]).length : Int) != ((k.map fun h => [AV.int .i64 h]).length : Int)) = true)
    refine Ends.mk (Or.inl rfl) (AV.weak.of_eq (congrArg AV.bool ?_))
    exact (decide_eq_false fun e => hne (by rw [e])).symm
  · have hee : l.length = k.length := by
      have := (by simpa using (by assumption : (((l.map fun h => [AV.int .i64 h]).length : Int) != ((k.map fun h => [AV.int .i64 h]).length : Int)) = false) : (l.length : Int) = k.length)
      omega
    refine SPB.loop (X := Nat) (fun i => ⟨[(5, .int .i64 i), (1, intsA k), (0, intsA l)], []⟩)
      (fun i => i ≤ l.length ∧ l.take i = k.take i) (fun i => l.length - i) 0 ⟨Nat.zero_le _, rfl⟩ (St.le.of ?_ ?_) (fun i hi => ?_)
    · repeat' (first | exact trivial | refine And.intro rfl ?_)
    · repeat' (first | exact trivial | refine And.intro rfl ?_)
    · obtain ⟨hi, htk⟩ := hi
      have hx : decide ((i : Int) < ((l.map fun h => [AV.int .i64 h]).length : Int)) = true → i < l.length := fun h => by have := of_decide_eq_true h; simp at this; omega
      have hx1 : decide ((i : Int) < ((l.map fun h => [AV.int .i64 h]).length : Int)) = true → (l.map fun h => [AV.int .i64 h])[(i : Int).toNat]? = some [.int .i64 (l.getD i 0)] := fun h => ints_get _ _ (hx h)
      have hx2 : decide ((i : Int) < ((l.map fun h => [AV.int .i64 h]).length : Int)) = true → (k.map fun h => [AV.int .i64 h])[(i : Int).toNat]? = some [.int .i64 (k.getD i 0)] := fun h => ints_get _ _ (by have := hx h; omega)
      repeat' first
        | refine SPB.seq ?_
        | refine SPB.block ?_
        | refine SPB.draw hG Tryz.TT_ok Tryz.keep24 (by kernel_rfl) ?_
        | refine SPB.reg hG Tryz.TT_ok Tryz.keep24 (by kernel_rfl) ?_
        | refine SPB.skip hG Tryz.TT_ok ?_
        | refine SPB.label hG Tryz.TT_ok ?_
        | refine SPB.ret hG Tryz.TT_ok ?_
        | refine SPB.exit hG Tryz.TT_ok ?_
        | refine SPB.condT rfl ?_
        | refine SPB.condF rfl ?_
        | refine SPB.cond rfl (And.intro (fun h => ?_) (fun h => ?_))
        | (conv => whnf
           first
             | refine And.intro (fun h => Bool.noConfusion (h : false = true)) (fun _ => ?_)
             | refine And.intro (fun _ => ?_) (fun h => Bool.noConfusion (h : true = false))
             | refine And.intro (by kernel_rfl) ?_
             | refine And.intro (Int.natCast_nonneg i) (Exists.intro _ (And.intro (hx1 (by assumption)) ?_))
             | refine And.intro (Int.natCast_nonneg i) (Exists.intro _ (And.intro (hx2 (by assumption)) ?_))
             | refine And.intro (fun h => ?_) (fun h => ?_)
             | refine Or.inl ?_
             | fail)
      · have hlt := hx (by assumption)
        refine Ends.mk (Or.inl rfl) (AV.weak.of_eq (congrArg AV.bool ?_))
        refine (decide_eq_false fun e => ?_).symm
        subst e
        have h := (by assumption : (l.getD i 0 != l.getD i 0) = true)
        simp at h
      · have hlt := hx (by assumption)
        have hg : l.getD i 0 = k.getD i 0 := by simpa using (by assumption : (l.getD i 0 != k.getD i 0) = false)
        refine Exists.intro (i + 1) (And.intro ⟨hlt, ?_⟩ (And.intro (by omega) (St.le.of ?_ ?_)))
        · rw [List.take_add_one, List.take_add_one, htk]
          congr 1
          have h1 : l[i]? = some (l.getD i 0) := by simp [List.getElem?_eq_getElem hlt]
          have h2 : k[i]? = some (k.getD i 0) := by simp [List.getElem?_eq_getElem (show i < k.length by omega)]
          rw [h1, h2, hg]
        · refine And.intro (congrArg some (le_next (by omega))) ?_
          repeat' (first | exact trivial | refine And.intro rfl ?_)
        · repeat' (first | exact trivial | refine And.intro rfl ?_)
      · refine Ends.mk (Or.inl rfl) (AV.weak.of_eq (congrArg AV.bool ?_))
        have hge : l.length ≤ i := by have := of_decide_eq_false (by assumption : decide ((i : Int) < ((l.map fun h => [AV.int .i64 h]).length : Int)) = false); simp at this; omega
        rw [List.take_of_length_le hge, List.take_of_length_le (by omega)] at htk
        exact (decide_eq_true htk).symm
def row3A (x : Int × Int × Int) : List AV := [.int .i64 x.1, .int .i64 x.2.1, .int .i64 x.2.2]
structure MadeS where
  p : Int
  q : Int
  out : List Load3
def madeStep (r : MadeS) (x : Int × Int × Int) : MadeS :=
  if pickS x.1 2 = 0 then
    let f := w64 (r.p + pickS x.2.1 40)
    let t := w64 (w64 (f + 1) + pickS x.2.2 12)
    ⟨t, r.q, r.out ++ [⟨1, f, t⟩]⟩
  else
    let f := w64 (r.q + pickS x.2.1 40)
    let t := w64 (w64 (f + 1) + pickS x.2.2 12)
    ⟨r.p, t, r.out ++ [⟨2, f, t⟩]⟩
def madeRun (at_ : Int) (z : List (Int × Int × Int)) : MadeS := z.foldl madeStep ⟨at_, at_, []⟩
theorem madeRun_snoc (at_ : Int) (z : List (Int × Int × Int)) (x : Int × Int × Int) : madeRun at_ (z ++ [x]) = madeStep (madeRun at_ z) x := by simp [madeRun, List.foldl_append]
theorem madeRun_len (at_ : Int) (z : List (Int × Int × Int)) : (madeRun at_ z).out.length = z.length := by
  suffices h : ∀ (r : MadeS), (z.foldl madeStep r).out.length = r.out.length + z.length by simpa [madeRun] using h ⟨at_, at_, []⟩
  induction z with
  | nil => intro r; simp
  | cons p t ih => intro r; simp only [List.foldl_cons, ih, List.length_cons]; unfold madeStep; split <;> simp <;> omega
/-- The loads that integers determine. -/
def madeL (at_ : Int) (z : List (Int × Int × Int)) : List Load3 := (madeRun at_ (z.take 10)).out
def inI3 (x : Int × Int × Int) : Prop := inI x.1 ∧ inI x.2.1 ∧ inI x.2.2
set_option maxHeartbeats 4000000 in
theorem Tryz.c62 (at_ : Int) (z : List (Int × Int × Int)) (hz : ∀ x ∈ z, inI3 x) : ACalls Tryz.prog 53 [.int .i64 at_, .sl .no 3 (z.map row3A)] (loadsA (madeL at_ z)) := by
  refine ACalls.ofB Tryz.TT_ok Tryz.func53 rfl (by kernel_rfl) Tryz.mixed (Nat.le_of_ble_eq_true rfl) ?_
  intro F n' w0 m0 hG hro h1
  repeat' first
    | refine SPB.seq ?_
    | refine SPB.block ?_
    | refine SPB.draw hG Tryz.TT_ok Tryz.keep53 (by kernel_rfl) ?_
    | refine SPB.reg hG Tryz.TT_ok Tryz.keep53 (by kernel_rfl) ?_
    | refine SPB.skip hG Tryz.TT_ok ?_
    | refine SPB.label hG Tryz.TT_ok ?_
    | refine SPB.ret hG Tryz.TT_ok ?_
    | refine SPB.exit hG Tryz.TT_ok ?_
    | refine SPB.condT rfl ?_
    | refine SPB.condF rfl ?_
    | refine SPB.cond rfl (And.intro (fun h => ?_) (fun h => ?_))
    | (conv => whnf
       first
         | refine And.intro (fun h => Bool.noConfusion (h : false = true)) (fun _ => ?_)
         | refine And.intro (fun _ => ?_) (fun h => Bool.noConfusion (h : true = false))
         | refine And.intro (by kernel_rfl) ?_
         | refine And.intro (fun h => ?_) (fun h => ?_)
         | refine Or.inl ?_
         | fail)
  refine SPB.loop (X := Nat) (fun i => ⟨[(7, .int .i64 i), (6, .loc 6 0), (5, .sl (.id 5) 3 ((madeRun at_ (z.take i)).out.map loadA)), (1, .sl .no 3 (z.map row3A))], [(6, [.int .i64 (madeRun at_ (z.take i)).p, .int .i64 (madeRun at_ (z.take i)).q])]⟩)
    (fun i => i ≤ z.length ∧ i ≤ 10) (fun i => 10 - i) 0 ⟨Nat.zero_le _, Nat.zero_le _⟩ (St.le.of ?_ ?_) (fun i hi => ?_)
  · repeat' (first | exact trivial | refine And.intro rfl ?_)
  · repeat' (first | exact trivial | refine And.intro rfl ?_)
  · obtain ⟨hi, hi10⟩ := hi
    have hj : decide ((i : Int) < ((z.map row3A).length : Int)) = true → i < z.length := fun h => by have := of_decide_eq_true h; simp at this; omega
    have hj10 : decide ((i : Int) < 10) = true → i < 10 := fun h => by have := of_decide_eq_true h; omega
    have hjn : decide ((i : Int) < 10) = false → ¬ i < 10 := fun h => by have := of_decide_eq_false h; omega
    obtain ⟨x, hxd⟩ : ∃ x, x = z.getD i (0, 0, 0) := ⟨_, rfl⟩
    have hx : decide ((i : Int) < ((z.map row3A).length : Int)) = true → (z.map row3A)[(i : Int).toNat]? = some [.int .i64 x.1, .int .i64 x.2.1, .int .i64 x.2.2] := fun h => by have := hj h; rw [hxd]; simp [List.getElem?_eq_getElem this]; rfl
    have hs : decide ((i : Int) < ((z.map row3A).length : Int)) = true → z.take (i + 1) = z.take i ++ [x] := fun h => by have := hj h; rw [hxd, List.take_add_one, List.getD_eq_getElem?_getD, List.getElem?_eq_getElem this]; rfl
    have hp : decide ((i : Int) < ((z.map row3A).length : Int)) = true → pickS x.1 2 = 0 ∨ pickS x.1 2 = 1 := fun h => by
      have hm : x ∈ z := by have := hj h; rw [hxd, List.getD_eq_getElem?_getD, List.getElem?_eq_getElem this]; exact List.getElem_mem this
      have := pick_rng (hz x hm).1 (n := 2) (by omega)
      omega
    have hln : ((madeRun at_ (z.take i)).out.map loadA).length = i := by rw [List.length_map, madeRun_len, List.length_take]; omega
    have k79 := Tryz.c79 x.1 2 (by decide)
    by_cases h0 : pickS x.1 2 = 0 ∨ pickS x.1 2 = 1
    · have hst := madeRun_snoc at_ (z.take i) x
      unfold madeStep at hst
      rcases h0 with h0 | h0 <;> rw [h0] at k79

      · rw [if_pos h0] at hst
        repeat' first
          | refine SPB.seq ?_
          | refine SPB.block ?_
          | refine SPB.draw hG Tryz.TT_ok Tryz.keep53 (by kernel_rfl) ?_
          | refine SPB.reg hG Tryz.TT_ok Tryz.keep53 (by kernel_rfl) ?_
          | refine SPB.skip hG Tryz.TT_ok ?_
          | refine SPB.label hG Tryz.TT_ok ?_
          | refine SPB.ret hG Tryz.TT_ok ?_
          | refine SPB.exit hG Tryz.TT_ok ?_
          | refine SPB.condT rfl ?_
          | refine SPB.condF rfl ?_
          | refine SPB.cond rfl (And.intro (fun h => ?_) (fun h => ?_))
          | (conv => whnf
             first
               | refine And.intro (fun h => Bool.noConfusion (h : false = true)) (fun _ => ?_)
               | refine And.intro (fun _ => ?_) (fun h => Bool.noConfusion (h : true = false))
               | refine And.intro (by kernel_rfl) ?_
               | refine And.intro (Int.natCast_nonneg i) (Exists.intro _ (And.intro (hx (by assumption)) ?_))
               | refine Exists.intro _ (And.intro (k79) ?_)
               | refine Exists.intro _ (And.intro (Tryz.c79 _ _ (by decide)) ?_)
               | refine And.intro (show (((madeRun at_ (z.take i)).out.map loadA).length + 1) * 24 ≤ 70368744177664 by rw [hln]; omega) ?_
               | refine And.intro (show ((madeRun at_ (z.take i)).out.map loadA).length + 1 ≤ 4611686018427387904 by rw [hln]; omega) ?_
               | refine And.intro (of_decide_eq_true (Eq.refl true)) ?_
               | refine And.intro (fun h => ?_) (fun h => ?_)
               | refine Or.inl ?_
               | fail)
        · refine Exists.intro (i + 1) (And.intro ⟨hj (by assumption), hj10 (by assumption)⟩ (And.intro (by have := hj10 (by assumption); omega) (St.le.of ?_ ?_)))
          · refine And.intro (congrArg some (le_next (by omega))) (And.intro rfl (And.intro ?_ ?_))
            · rw [hs (by assumption), hst, List.map_append]; rfl
            · repeat' (first | exact trivial | refine And.intro rfl ?_)
          · refine And.intro ?_ ?_
            · rw [hs (by assumption), hst]; rfl
            · repeat' (first | exact trivial | refine And.intro rfl ?_)
        · have hge : z.take i = z.take 10 := by rw [show i = 10 by have := hjn (by assumption); omega]
          rw [madeL, ← hge]
          exact Ends.mk (Or.inl rfl) (AV.weak.of_eq rfl)
        · have hge : z.take i = z.take 10 := by
            have : z.length ≤ i := by have := of_decide_eq_false (by assumption : decide ((i : Int) < ((z.map row3A).length : Int)) = false); simp at this; omega
            rw [List.take_of_length_le this, List.take_of_length_le (by omega)]
          rw [madeL, ← hge]
          exact Ends.mk (Or.inl rfl) (AV.weak.of_eq rfl)
      · rw [if_neg (by rw [h0]; decide)] at hst
        repeat' first
          | refine SPB.seq ?_
          | refine SPB.block ?_
          | refine SPB.draw hG Tryz.TT_ok Tryz.keep53 (by kernel_rfl) ?_
          | refine SPB.reg hG Tryz.TT_ok Tryz.keep53 (by kernel_rfl) ?_
          | refine SPB.skip hG Tryz.TT_ok ?_
          | refine SPB.label hG Tryz.TT_ok ?_
          | refine SPB.ret hG Tryz.TT_ok ?_
          | refine SPB.exit hG Tryz.TT_ok ?_
          | refine SPB.condT rfl ?_
          | refine SPB.condF rfl ?_
          | refine SPB.cond rfl (And.intro (fun h => ?_) (fun h => ?_))
          | (conv => whnf
             first
               | refine And.intro (fun h => Bool.noConfusion (h : false = true)) (fun _ => ?_)
               | refine And.intro (fun _ => ?_) (fun h => Bool.noConfusion (h : true = false))
               | refine And.intro (by kernel_rfl) ?_
               | refine And.intro (Int.natCast_nonneg i) (Exists.intro _ (And.intro (hx (by assumption)) ?_))
               | refine Exists.intro _ (And.intro (k79) ?_)
               | refine Exists.intro _ (And.intro (Tryz.c79 _ _ (by decide)) ?_)
               | refine And.intro (show (((madeRun at_ (z.take i)).out.map loadA).length + 1) * 24 ≤ 70368744177664 by rw [hln]; omega) ?_
               | refine And.intro (show ((madeRun at_ (z.take i)).out.map loadA).length + 1 ≤ 4611686018427387904 by rw [hln]; omega) ?_
               | refine And.intro (of_decide_eq_true (Eq.refl true)) ?_
               | refine And.intro (fun h => ?_) (fun h => ?_)
               | refine Or.inl ?_
               | fail)
        · refine Exists.intro (i + 1) (And.intro ⟨hj (by assumption), hj10 (by assumption)⟩ (And.intro (by have := hj10 (by assumption); omega) (St.le.of ?_ ?_)))
          · refine And.intro (congrArg some (le_next (by omega))) (And.intro rfl (And.intro ?_ ?_))
            · rw [hs (by assumption), hst, List.map_append]; rfl
            · repeat' (first | exact trivial | refine And.intro rfl ?_)
          · refine And.intro ?_ ?_
            · rw [hs (by assumption), hst]; rfl
            · repeat' (first | exact trivial | refine And.intro rfl ?_)
        · have hge : z.take i = z.take 10 := by rw [show i = 10 by have := hjn (by assumption); omega]
          rw [madeL, ← hge]
          exact Ends.mk (Or.inl rfl) (AV.weak.of_eq rfl)
        · have hge : z.take i = z.take 10 := by
            have : z.length ≤ i := by have := of_decide_eq_false (by assumption : decide ((i : Int) < ((z.map row3A).length : Int)) = false); simp at this; omega
            rw [List.take_of_length_le this, List.take_of_length_le (by omega)]
          rw [madeL, ← hge]
          exact Ends.mk (Or.inl rfl) (AV.weak.of_eq rfl)
    · have hno : ¬ decide ((i : Int) < ((z.map row3A).length : Int)) = true := fun h => h0 (hp h)
      repeat' first
 | exact (hno (by assumption)).elim
        | refine SPB.seq ?_
        | refine SPB.block ?_
        | refine SPB.draw hG Tryz.TT_ok Tryz.keep53 (by kernel_rfl) ?_
        | refine SPB.reg hG Tryz.TT_ok Tryz.keep53 (by kernel_rfl) ?_
        | refine SPB.skip hG Tryz.TT_ok ?_
        | refine SPB.label hG Tryz.TT_ok ?_
        | refine SPB.ret hG Tryz.TT_ok ?_
        | refine SPB.exit hG Tryz.TT_ok ?_
        | refine SPB.condT rfl ?_
        | refine SPB.condF rfl ?_
        | refine SPB.cond rfl (And.intro (fun h => ?_) (fun h => ?_))
        | (conv => whnf
           first
             | refine And.intro (fun h => Bool.noConfusion (h : false = true)) (fun _ => ?_)
             | refine And.intro (fun _ => ?_) (fun h => Bool.noConfusion (h : true = false))
             | refine And.intro (by kernel_rfl) ?_
             | refine And.intro (fun h => ?_) (fun h => ?_)
             | refine Or.inl ?_
             | fail)
      all_goals
        have hge : z.take i = z.take 10 := by
            have : z.length ≤ i := by have := of_decide_eq_false (by assumption : decide ((i : Int) < ((z.map row3A).length : Int)) = false); simp at this; omega
            rw [List.take_of_length_le this, List.take_of_length_le (by omega)]
        rw [madeL, ← hge]
        exact Ends.mk (Or.inl rfl) (AV.weak.of_eq rfl)
end Go.Proofs



namespace Go.Proofs
open Go Go.AI
set_option maxRecDepth 10000
set_option linter.unusedSimpArgs false

/-- What a case's integers say. -/
structure BCase where
  x : Nat → Int
  y : Nat → Int
  z : List (Int × Int × Int)
  from_ : Int
  long : Int
  hx : ∀ i, inI (x i)
  hy : ∀ i, inI (y i)
  hz : ∀ r ∈ z, inI3 r
  hf : inI from_
  hl : inI long
namespace BCase
def s (c : BCase) : Nat → Int := satM c.x c.y
def a (c : BCase) : Int := pickS c.from_ 5000
def n (c : BCase) : Int := pickS c.long 200 + 1
def b (c : BCase) : Int := c.a + c.n
def l (c : BCase) : List Load3 := madeL c.a c.z
end BCase
theorem BCase.rng (c : BCase) : 0 ≤ c.a ∧ c.a < 5000 ∧ 1 ≤ c.n ∧ c.n ≤ 200 := by
  have h1 := pick_rng c.hf (n := 5000) (by omega)
  have h2 := pick_rng c.hl (n := 200) (by omega)
  unfold BCase.a BCase.n
  omega
theorem Tryz.c35 (c : BCase) : ACalls Tryz.prog 12 [.agg (orbA c.x), .agg (i4A c.y), .sl .no 3 (c.z.map row3A), .int .i64 c.from_, .int .i64 c.long] (.tup [.agg (satA c.s), loadsA c.l, .agg (spellA c.a c.b)]) := by
  have hr := c.rng
  have e1 : IntKind.i64.wrap (IntKind.i64.wrap (pickS c.from_ 5000 + 1) + pickS c.long 200) = c.b := by
    have h1 : pickS c.from_ 5000 = c.a := rfl
    have h2 : pickS c.long 200 = c.n - 1 := by unfold BCase.n; omega
    rw [h1, h2, show IntKind.i64.wrap (c.a + 1) = c.a + 1 from w64_in (by omega) (by omega)]
    rw [show IntKind.i64.wrap (c.a + 1 + (c.n - 1)) = c.a + 1 + (c.n - 1) from w64_in (by omega) (by omega)]
    unfold BCase.b; omega
  refine ACalls.ofB Tryz.TT_ok Tryz.func12 rfl (by kernel_rfl) Tryz.mixed (Nat.le_of_ble_eq_true rfl) ?_
  intro F n' w0 m0 hG hro h1
  repeat' first
    | refine SPB.seq ?_
    | refine SPB.block ?_
    | refine SPB.draw hG Tryz.TT_ok Tryz.keep12 (by kernel_rfl) ?_
    | refine SPB.reg hG Tryz.TT_ok Tryz.keep12 (by kernel_rfl) ?_
    | refine SPB.skip hG Tryz.TT_ok ?_
    | refine SPB.label hG Tryz.TT_ok ?_
    | refine SPB.ret hG Tryz.TT_ok ?_
    | refine SPB.exit hG Tryz.TT_ok ?_
    | refine SPB.condT rfl ?_
    | refine SPB.condF rfl ?_
    | refine SPB.cond rfl (And.intro (fun h => ?_) (fun h => ?_))
    | (conv => whnf
       first
         | refine And.intro (fun h => Bool.noConfusion (h : false = true)) (fun _ => ?_)
         | refine And.intro (fun _ => ?_) (fun h => Bool.noConfusion (h : true = false))
         | refine And.intro (by kernel_rfl) ?_
         | refine Exists.intro _ (And.intro (Tryz.c39 _ _ (by decide)) ?_)
         | refine Exists.intro _ (And.intro (Tryz.c61 c.x c.y (made_ne c.hx)) ?_)
         | refine Exists.intro _ (And.intro (Tryz.c62 (pickS c.from_ 5000) c.z c.hz) ?_)
         | refine And.intro (fun h => ?_) (fun h => ?_)
         | refine Or.inl ?_
         | fail)
  all_goals exact Ends.mk (Or.inl rfl) (AV.weak.of_eq (congrArg (fun z => AV.tup [.agg (satA c.s), loadsA c.l, .agg (spellA c.a z)]) e1))
/-! The case is valid. -/
theorem okL_append (x : Load3) : ∀ (l pre : List Load3), okL pre (l ++ [x]) = (okL pre l && loadOK (pre ++ l) x)
  | [], pre => by simp [okL]
  | y :: r, pre => by
    simp only [List.cons_append, okL, okL_append x r (pre ++ [y]), List.append_assoc, List.nil_append, Bool.and_assoc]
structure MInv (at_ : Int) (n : Nat) (r : MadeS) : Prop where
  p : at_ ≤ r.p ∧ r.p ≤ at_ + 51 * (n : Int)
  q : at_ ≤ r.q ∧ r.q ≤ at_ + 51 * (n : Int)
  all : ∀ y ∈ r.out, (y.k = 1 ∧ y.b ≤ r.p) ∨ (y.k = 2 ∧ y.b ≤ r.q)
  ok : okL [] r.out = true
theorem right_ok {a b : Int} (h1 : 0 ≤ a) (h2 : a < b) (h3 : b ≤ 1000000) : rightS a b = true := by
  simp only [rightS, inS, Bool.and_eq_true, decide_eq_true_eq]
  rw [w64_in (by omega) (by omega)]
  omega
theorem madeInv {at_ : Int} (ha : 0 ≤ at_ ∧ at_ ≤ 10000) : ∀ (z : List (Int × Int × Int)) (n : Nat) (r : MadeS), n + z.length ≤ 100 → (∀ x ∈ z, inI3 x) → MInv at_ n r → MInv at_ (n + z.length) (z.foldl madeStep r)
  | [], n, r, _, _, h => h
  | x :: z, n, r, hn, hz, h => by
    have hxi := hz x List.mem_cons_self
    have h0 := pick_rng hxi.1 (n := 2) (by omega)
    have h1 := pick_rng hxi.2.1 (n := 40) (by omega)
    have h2 := pick_rng hxi.2.2 (n := 12) (by omega)
    rw [List.length_cons] at hn ⊢
    have hp := h.p
    have hq := h.q
    have step : MInv at_ (n + 1) (madeStep r x) := by
      unfold madeStep
      by_cases hk : pickS x.1 2 = 0
      · rw [if_pos hk]
        simp only [w64_in (n := r.p + pickS x.2.1 40) (by omega) (by omega), w64_in (n := r.p + pickS x.2.1 40 + 1) (by omega) (by omega), w64_in (n := r.p + pickS x.2.1 40 + 1 + pickS x.2.2 12) (by omega) (by omega)]
        refine ⟨by simp only; omega, by simp only; omega, fun y hy => ?_, ?_⟩
        · rcases List.mem_append.1 hy with hy | hy
          · rcases h.all y hy with h | h
            · exact Or.inl ⟨h.1, by simp only; omega⟩
            · exact Or.inr h
          · simp only [List.mem_singleton] at hy; subst hy
            exact Or.inl ⟨rfl, by simp only; omega⟩
        · rw [okL_append, h.ok, Bool.true_and, List.nil_append]
          simp only [loadOK, Bool.and_eq_true, Bool.not_eq_true', List.any_eq_false]
          refine ⟨⟨by simp only [inS]; decide, right_ok (by omega) (by omega) (by omega)⟩, fun y hy => ?_⟩
          rcases h.all y hy with g | g <;> simp only [overS, Bool.and_eq_true, decide_eq_true_eq] <;> omega
      · rw [if_neg hk]
        simp only [w64_in (n := r.q + pickS x.2.1 40) (by omega) (by omega), w64_in (n := r.q + pickS x.2.1 40 + 1) (by omega) (by omega), w64_in (n := r.q + pickS x.2.1 40 + 1 + pickS x.2.2 12) (by omega) (by omega)]
        refine ⟨by simp only; omega, by simp only; omega, fun y hy => ?_, ?_⟩
        · rcases List.mem_append.1 hy with hy | hy
          · rcases h.all y hy with h | h
            · exact Or.inl h
            · exact Or.inr ⟨h.1, by simp only; omega⟩
          · simp only [List.mem_singleton] at hy; subst hy
            exact Or.inr ⟨rfl, by simp only; omega⟩
        · rw [okL_append, h.ok, Bool.true_and, List.nil_append]
          simp only [loadOK, Bool.and_eq_true, Bool.not_eq_true', List.any_eq_false]
          refine ⟨⟨by simp only [inS]; decide, right_ok (by omega) (by omega) (by omega)⟩, fun y hy => ?_⟩
          rcases h.all y hy with g | g <;> simp only [overS, Bool.and_eq_true, decide_eq_true_eq] <;> omega
    have := madeInv ha z (n + 1) (madeStep r x) (by omega) (fun y hy => hz y (List.mem_cons_of_mem _ hy)) step
    rw [show n + (z.length + 1) = n + 1 + z.length by omega]
    exact this
theorem BCase.minv (c : BCase) : MInv c.a (c.z.take 10).length (madeRun c.a (c.z.take 10)) := by
  have hr := c.rng
  have := madeInv (at_ := c.a) (by omega) (c.z.take 10) 0 ⟨c.a, c.a, []⟩ (by simp; omega) (fun x hx => c.hz x (List.mem_of_mem_take hx)) ⟨by simp only; omega, by simp only; omega, fun y hy => by simp at hy, rfl⟩
  rwa [Nat.zero_add] at this
theorem BCase.len (c : BCase) : c.l.length ≤ 10 := by
  unfold BCase.l madeL
  rw [madeRun_len, List.length_take]; omega
theorem BCase.proper (c : BCase) : properS c.l = true := by
  simp only [properS, Bool.and_eq_true, decide_eq_true_eq]
  exact ⟨by have := c.len; omega, c.minv.ok⟩
theorem BCase.kind (c : BCase) : ∀ y ∈ c.l, y.k = 1 ∨ y.k = 2 := proper_kind c.proper
theorem inS_ok {n a b : Int} (h : a ≤ n ∧ n ≤ b) : inS n a b = true := by simp only [inS, Bool.and_eq_true, decide_eq_true_eq]; exact h
/-- The numbers of a case's satellite. -/
structure MFed (s : Nat → Int) : Prop where
  c : 100 ≤ s 11 ∧ s 11 ≤ 2099
  u : 0 ≤ s 12 ∧ s 12 ≤ 11
  i : 0 ≤ s 13 ∧ s 13 ≤ 3
  h : 2 ≤ s 14 ∧ s 14 ≤ 31
  d : 1 ≤ s 15 ∧ s 15 ≤ 20
theorem BCase.mfed (c : BCase) : MFed c.s := by
  have y1 := pick_rng (c.hy 1) (n := 2000) (by omega)
  have y2 := pick_rng (c.hy 2) (n := 12) (by omega)
  have y3 := pick_rng (c.hy 2) (n := 4) (by omega)
  have y4 := pick_rng (c.hy 2) (n := 30) (by omega)
  have y5 := pick_rng (c.hy 3) (n := 20) (by omega)
  refine ⟨?_, ?_, ?_, ?_, ?_⟩
  · show 100 ≤ w64 (100 + pickS (c.y 1) 2000) ∧ w64 (100 + pickS (c.y 1) 2000) ≤ 2099
    rw [w64_in (by omega) (by omega)]; omega
  · show 0 ≤ pickS (c.y 2) 12 ∧ pickS (c.y 2) 12 ≤ 11
    omega
  · show 0 ≤ pickS (c.y 2) 4 ∧ pickS (c.y 2) 4 ≤ 3
    omega
  · show 2 ≤ w64 (2 + pickS (c.y 2) 30) ∧ w64 (2 + pickS (c.y 2) 30) ≤ 31
    rw [w64_in (by omega) (by omega)]; omega
  · show 1 ≤ w64 (1 + pickS (c.y 3) 20) ∧ w64 (1 + pickS (c.y 3) 20) ≤ 20
    rw [w64_in (by omega) (by omega)]; omega
theorem MFed.fed {s : Nat → Int} (h : MFed s) : Fed s := ⟨by have := h.c; omega, by have := h.u; omega, by have := h.i; omega, by have := h.h; omega, by have := h.d; omega⟩
theorem orbS_ext {o p : Nat → Int} (h : ∀ i, i < 7 → o i = p i) : orbS o = orbS p := by
  simp only [orbS, h 0 (by omega), h 1 (by omega), h 2 (by omega), h 3 (by omega), h 4 (by omega), h 5 (by omega), h 6 (by omega)]
theorem BCase.orb (c : BCase) : ∀ i, i < 7 → orbO c.s i = madeO c.x i := by
  intro i hi
  match i, hi with
  | 0, _ => rfl
  | 1, _ => rfl
  | 2, _ => rfl
  | 3, _ => rfl
  | 4, _ => rfl
  | 5, _ => rfl
  | 6, _ => rfl
theorem BCase.pv (c : BCase) : PV (orbO c.s) := by
  rw [← orbS_iff, orbS_ext c.orb, orbS_iff]
  exact (made_pv c.hx).1
theorem BCase.sat (c : BCase) : satS c.s = true := by
  have m := c.mfed
  have mc := m.c; have mu := m.u; have mi := m.i; have mh := m.h; have md := m.d
  have p0 := pick_rng (c.hy 0) (n := 4) (by omega)
  have p1 := pick_rng (c.hy 1) (n := 200) (by omega)
  have p2 := pick_rng (c.hy 1) (n := 60) (by omega)
  have p3 := pick_rng (c.hy 2) (n := 9) (by omega)
  have p4 := pick_rng (c.hy 3) (n := 9) (by omega)
  have p5 := pick_rng (c.hy 3) (n := 4) (by omega)
  have p6 : 0 ≤ pickS (w64 ((c.y 0).tdiv 4)) 4 ∧ pickS (w64 ((c.y 0).tdiv 4)) 4 < 4 := pick_rng (w64_inI _) (by omega)
  have ho : orbS (fun i => c.s (i + 2)) = true := (orbS_iff _).2 c.pv
  have q0 : inS (c.s 0) 0 23 = true := by show inS (pickS 3 24) 0 23 = true; decide
  have q1 : inS (c.s 1) 0 15 = true := inS_ok (show 0 ≤ pickS (c.y 0) 4 ∧ pickS (c.y 0) 4 ≤ 15 by omega)
  have q9 : inS (c.s 9) 0 4 = true := inS_ok (show 0 ≤ pickS (c.y 0) 4 ∧ pickS (c.y 0) 4 ≤ 4 by omega)
  have q10 : inS (c.s 10) 1 1000000 = true := inS_ok (show 1 ≤ w64 (20 + pickS (c.y 1) 200) ∧ w64 (20 + pickS (c.y 1) 200) ≤ 1000000 by rw [w64_in (by omega) (by omega)]; omega)
  have q19 : inS (c.s 19) 0 60 = true := inS_ok (show 0 ≤ pickS (w64 ((c.y 0).tdiv 4)) 4 ∧ pickS (w64 ((c.y 0).tdiv 4)) 4 ≤ 60 by omega)
  have q20 : inS (c.s 20) 1 1000 = true := inS_ok (show 1 ≤ w64 (1 + pickS (c.y 2) 9) ∧ w64 (1 + pickS (c.y 2) 9) ≤ 1000 by rw [w64_in (by omega) (by omega)]; omega)
  have q16 : inS (c.s 16) 0 10000 = true := inS_ok (show 0 ≤ w64 (1 + pickS (c.y 3) 9) ∧ w64 (1 + pickS (c.y 3) 9) ≤ 10000 by rw [w64_in (by omega) (by omega)]; omega)
  have q17 : inS (c.s 17) 0 10000 = true := inS_ok (show 0 ≤ w64 (1 + pickS (c.y 3) 4) ∧ w64 (1 + pickS (c.y 3) 4) ≤ 10000 by rw [w64_in (by omega) (by omega)]; omega)
  have q18 : inS (c.s 18) 1 1000000 = true := inS_ok (show 1 ≤ w64 (5 + pickS (c.y 1) 60) ∧ w64 (5 + pickS (c.y 1) 60) ≤ 1000000 by rw [w64_in (by omega) (by omega)]; omega)
  have q11 : inS (c.s 11) 1 1000000 = true := inS_ok (by omega)
  have q12 : inS (c.s 12) 0 10000 = true := inS_ok (by omega)
  have q13 : inS (c.s 13) 0 10000 = true := inS_ok (by omega)
  have q14 : inS (c.s 14) 0 10000 = true := inS_ok (by omega)
  have q15 : inS (c.s 15) 0 10000 = true := inS_ok (by omega)
  simp only [satS, q0, q1, q9, q10, q11, q12, q13, q14, q15, q16, q17, q18, q19, q20, ho, Bool.and_self]
theorem BCase.valid (c : BCase) {a b : Int} (h1 : 0 ≤ a) (h2 : a < b) (h3 : b ≤ 1000000) (h4 : b - a ≤ 4320) : validS c.s c.l a b = true := by
  simp only [validS, Bool.and_eq_true, decide_eq_true_eq]
  exact ⟨⟨⟨right_ok h1 h2 h3, by rw [w64_in (by omega) (by omega)]; omega⟩, c.proper⟩, c.sat⟩
end Go.Proofs



namespace Go.Proofs
open Go Go.AI
set_option maxRecDepth 10000
set_option linter.unusedSimpArgs false

theorem could_calm {o : Nat → Int} {t : Int} (h : o 6 = 0) : couldL o t = [celW o (w64 t)] := by
  have e : delL o t = [w64 t] := by
    unfold delL
    rw [h]
    simp
  unfold couldL
  rw [e]
  exact (ordC_eq (l := [celW o (w64 t)]) (List.Perm.refl _) (by simp)).symm
theorem lit_calm {o : Nat → Int} {t : Int} (h : o 6 = 0) : litS o t = (atS o t 0 && !darkS (celW o (w64 t)) t) := by
  unfold litS
  rw [could_calm h]
  simp
theorem nets_lit {s : Nat → Int} {l : List Load3} {a b : Int} (h : ∀ i, i < (b - a).toNat → litS (orbO s) (a + (i : Int)) = true) : netsL s l a b = pairsF a (fun i => netW s l true (a + i)) (b - a).toNat := by
  unfold netsL pairsF
  refine List.map_congr_left fun i hi => ?_
  show (_, netS s l (a + (i : Int))) = (_, netW s l true (a + (i : Int)))
  rw [show netS s l (a + (i : Int)) = netW s l (litS (orbO s) (a + (i : Int))) (a + (i : Int)) from rfl, h i (List.mem_range.1 hi)]
def exS (c n : Int) (i : Nat) : Int := match i with
  | 2 => 2000 | 4 => 11000 | 5 => 13000 | 7 => n | 10 => 1 | 11 => c | 12 => 10 | 13 => 4 | 14 => 20 | 15 => 9 | 18 => 1 | 20 => 1 | _ => 0
def exL : List Load3 := [⟨1, 1, 4⟩]
theorem ex_lit (c : Int) : ∀ i, i < 5 → litS (orbO (exS c (-33))) (0 + ((i : Nat) : Int)) = true := by
  intro i hi
  rw [lit_calm rfl]
  obtain rfl | rfl | rfl | rfl | rfl : i = 0 ∨ i = 1 ∨ i = 2 ∨ i = 3 ∨ i = 4 := by omega
  all_goals kernel_rfl
theorem ex_lit1 (c : Int) : ∀ i, i < (4 - 1 : Int).toNat → litS (orbO (exS c (-33))) (1 + ((i : Nat) : Int)) = true := by
  intro i hi
  have := ex_lit c (i + 1) (by omega)
  rwa [show (0 : Int) + ((i + 1 : Nat) : Int) = 1 + (i : Int) by omega] at this
theorem ex_nets (c : Int) : netsL (exS c (-33)) exL 0 5 = [(0, -6), (1, 14), (2, 14), (3, 14), (4, -6)] := by
  rw [nets_lit (a := 0) (b := 5) (fun i hi => ex_lit c i hi)]; kernel_rfl
theorem ex_nets0 (c : Int) : netsL (exS c (-33)) [] 0 3 = [(0, -6), (1, -6), (2, -6)] := by
  rw [nets_lit (a := 0) (b := 3) (fun i hi => ex_lit c i (by omega))]; kernel_rfl
theorem ex_nets1 (c : Int) : netsL (exS c (-33)) exL 1 4 = [(1, 14), (2, 14), (3, 14)] := by
  rw [nets_lit (a := 1) (b := 4) (ex_lit1 c)]; kernel_rfl
theorem Tryz.k36a : ACalls Tryz.prog 14 [.agg (satA (exS 100 (-33))), .sl .full 0 [], .agg (spellA 0 3)] (.tup [intsA [100, 100, 100], .int .i64 0]) := by
  have h := (Tryz.c36 (exS 100 (-33)) [] 0 3 (Nat.le_of_ble_eq_true rfl) (by kernel_rfl)).weak (us := [.agg (satA (exS 100 (-33))), .sl .full 0 [], .agg (spellA 0 3)]) (.cons (.refl _) (.cons AV.weak.slnil (.cons (.refl _) .nil)))
  rw [ex_nets0] at h
  exact h
theorem Tryz.k36b : ACalls Tryz.prog 14 [.agg (satA (exS 100 (-33))), loadsA exL, .agg (spellA 0 5)] (.tup [intsA [100, 86, 72, 58, 64], .int .i64 0]) := by
  have h := Tryz.c36 (exS 100 (-33)) exL 0 5 (Nat.le_of_ble_eq_true rfl) (by kernel_rfl)
  rw [ex_nets] at h
  exact h
theorem Tryz.k40a : ACalls Tryz.prog 18 [.agg (satA (exS 100 (-33))), loadsA exL, .agg (spellA 1 4)] (.tup [.int .i64 42, .int .i64 0]) := by
  have h := Tryz.c40 (exS 100 (-33)) exL 1 4 (Nat.le_of_ble_eq_true rfl) (by kernel_rfl)
  rw [ex_nets1] at h
  exact h
theorem Tryz.k40b : ACalls Tryz.prog 18 [.agg (satA (exS 100 (-33))), loadsA exL, .agg (spellA 0 5)] (.tup [.int .i64 30, .int .i64 0]) := by
  have h := Tryz.c40 (exS 100 (-33)) exL 0 5 (Nat.le_of_ble_eq_true rfl) (by kernel_rfl)
  rw [ex_nets] at h
  exact h
theorem Tryz.k37 : ACalls Tryz.prog 20 [.agg (satA (exS 100 (-33))), loadsA exL, .agg (spellA 0 5)] (.tup [.agg (spellA 1 4), .int .i64 42, .int .i64 0]) := by
  have h := Tryz.c37 (exS 100 (-33)) exL 0 5 (Nat.le_of_ble_eq_true rfl) (by kernel_rfl)
  rw [ex_nets, show worstRun [(0, -6), (1, 14), (2, 14), (3, 14), (4, -6)] = ⟨1, 4, 42, 1, 5, 36⟩ from by kernel_rfl] at h
  exact h
theorem Tryz.k38a : ACalls Tryz.prog 16 [.agg (satA (exS 100 (-33))), loadsA exL, .agg (spellA 0 5)] (.tup [.int .i64 (-1), .int .i64 0]) := by
  have h := Tryz.c38 (exS 100 (-33)) exL 0 5 (Nat.le_of_ble_eq_true rfl) (by kernel_rfl)
  rw [emptyS, ex_nets] at h
  exact h
theorem Tryz.k38b : ACalls Tryz.prog 16 [.agg (satA (exS 41 (-33))), loadsA exL, .agg (spellA 0 5)] (.tup [.int .i64 3, .int .i64 0]) := by
  have h := Tryz.c38 (exS 41 (-33)) exL 0 5 (Nat.le_of_ble_eq_true rfl) (by kernel_rfl)
  rw [emptyS, ex_nets] at h
  exact h
theorem Tryz.k40n : ACalls Tryz.prog 18 [.agg (satA (exS 41 (-33))), loadsA exL, .agg (spellA 0 0)] (.tup [.int .i64 0, .int .i64 100]) := Tryz.b40 (exS 41 (-33)) exL 0 0 (Nat.le_of_ble_eq_true rfl) (by kernel_rfl)
theorem Tryz.k58a : ACalls Tryz.prog 24 [intsA [100, 100, 100], .sl .full 1 (([100, 100, 100] : List Int).map fun h => [.int .i64 h])] (.bool true) := (Tryz.c58 [100, 100, 100] [100, 100, 100] (Nat.le_of_ble_eq_true rfl)).sl1 (o := .full)
theorem Tryz.k58b : ACalls Tryz.prog 24 [intsA [100, 86, 72, 58, 64], .sl .full 1 (([100, 86, 72, 58, 64] : List Int).map fun h => [.int .i64 h])] (.bool true) := (Tryz.c58 [100, 86, 72, 58, 64] [100, 86, 72, 58, 64] (Nat.le_of_ble_eq_true rfl)).sl1 (o := .full)
theorem Tryz.k59a : ACalls Tryz.prog 22 [.agg (satA (exS 41 (-33))), loadsA exL, .agg (spellA 0 5)] (.bool true) := by
  have h := Tryz.c59 (exS 41 (-33)) exL 0 5 (Nat.le_of_ble_eq_true rfl)
  rwa [show validS (exS 41 (-33)) exL 0 5 = true from by kernel_rfl] at h
theorem Tryz.k59b : ACalls Tryz.prog 22 [.agg (satA (exS 41 (-33))), loadsA (exL ++ exL), .agg (spellA 0 5)] (.bool false) := by
  have h := Tryz.c59 (exS 41 (-33)) (exL ++ exL) 0 5 (Nat.le_of_ble_eq_true rfl)
  rwa [show validS (exS 41 (-33)) (exL ++ exL) 0 5 = false from by kernel_rfl] at h
theorem Tryz.k60a : ACalls Tryz.prog 25 [.agg (satA (exS 41 (-33))), .int .i64 0] (.bool true) := by
  have h := Tryz.c60 (exS 41 (-33)) 0
  rwa [lit_calm rfl, show (satS (exS 41 (-33)) && (atS (orbO (exS 41 (-33))) 0 0 && !darkS (celW (orbO (exS 41 (-33))) (w64 0)) 0)) = true from by kernel_rfl] at h
theorem Tryz.k60b : ACalls Tryz.prog 25 [.agg (satA (exS 41 (-33))), .int .i64 720] (.bool true) := by
  have h := Tryz.c60 (exS 41 (-33)) 720
  rwa [lit_calm rfl, show (satS (exS 41 (-33)) && (atS (orbO (exS 41 (-33))) 720 0 && !darkS (celW (orbO (exS 41 (-33))) (w64 720)) 720)) = true from by kernel_rfl] at h
theorem Tryz.k60c : ACalls Tryz.prog 25 [.agg (satA (exS 100 0)), .int .i64 720] (.bool false) := by
  have h := Tryz.c60 (exS 100 0) 720
  rwa [lit_calm rfl, show (satS (exS 100 0) && (atS (orbO (exS 100 0)) 720 0 && !darkS (celW (orbO (exS 100 0)) (w64 720)) 720)) = false from by kernel_rfl] at h
theorem Tryz.k42a : ACalls Tryz.prog 27 [.agg (satA (exS 41 (-33))), loadsA exL, .int .i64 1] (.int .i64 24) := by
  have h := Tryz.c42 (exS 41 (-33)) exL 1 (Nat.le_of_ble_eq_true rfl)
  rwa [show drainV (exS 41 (-33)) exL 1 = 24 from by kernel_rfl] at h
theorem Tryz.k42b : ACalls Tryz.prog 27 [.agg (satA (exS 41 (-33))), loadsA exL, .int .i64 4] (.int .i64 4) := by
  have h := Tryz.c42 (exS 41 (-33)) exL 4 (Nat.le_of_ble_eq_true rfl)
  rwa [show drainV (exS 41 (-33)) exL 4 = 4 from by kernel_rfl] at h
set_option maxHeartbeats 8000000 in
theorem Tryz.c34 : ACalls Tryz.prog 11 [] (.bool true) := by
  refine ACalls.ofB Tryz.TT_ok Tryz.func11 rfl (by kernel_rfl) Tryz.mixed (Nat.le_of_ble_eq_true rfl) ?_
  intro F n' w0 m0 hG hro h1
  repeat' first
    | refine SPB.seq ?_
    | refine SPB.block ?_
    | refine SPB.draw hG Tryz.TT_ok Tryz.keep11 (by kernel_rfl) ?_
    | refine SPB.reg hG Tryz.TT_ok Tryz.keep11 (by kernel_rfl) ?_
    | refine SPB.skip hG Tryz.TT_ok ?_
    | refine SPB.label hG Tryz.TT_ok ?_
    | refine SPB.ret hG Tryz.TT_ok ?_
    | refine SPB.exit hG Tryz.TT_ok ?_
    | refine SPB.condT rfl ?_
    | refine SPB.condF rfl ?_
    | refine SPB.cond rfl (And.intro (fun h => ?_) (fun h => ?_))
    | (conv => whnf
       first
         | refine And.intro (fun h => Bool.noConfusion (h : false = true)) (fun _ => ?_)
         | refine And.intro (fun _ => ?_) (fun h => Bool.noConfusion (h : true = false))
         | refine And.intro (by kernel_rfl) ?_
         | refine Exists.intro _ (And.intro (Tryz.k36a) ?_)
         | refine Exists.intro _ (And.intro (Tryz.k36b.sl1) ?_)
         | refine Exists.intro _ (And.intro (Tryz.k40a.sl1) ?_)
         | refine Exists.intro _ (And.intro (Tryz.k40b.sl1) ?_)
         | refine Exists.intro _ (And.intro (Tryz.k37.sl1) ?_)
         | refine Exists.intro _ (And.intro (Tryz.k38a.sl1) ?_)
         | refine Exists.intro _ (And.intro (Tryz.k38b.sl1) ?_)
         | refine Exists.intro _ (And.intro (Tryz.k40n.sl1) ?_)
         | refine Exists.intro _ (And.intro (Tryz.k58a) ?_)
         | refine Exists.intro _ (And.intro (Tryz.k58b) ?_)
         | refine Exists.intro _ (And.intro (Tryz.k59a.sl1) ?_)
         | refine Exists.intro _ (And.intro (Tryz.k59b.sl1) ?_)
         | refine Exists.intro _ (And.intro (Tryz.k60a) ?_)
         | refine Exists.intro _ (And.intro (Tryz.k60b) ?_)
         | refine Exists.intro _ (And.intro (Tryz.k60c) ?_)
         | refine Exists.intro _ (And.intro (Tryz.k42a.sl1) ?_)
         | refine Exists.intro _ (And.intro (Tryz.k42b.sl1) ?_)
         | refine And.intro (by decide) (Exists.intro _ (And.intro rfl ?_))
         | refine And.intro (by decide) (And.intro (by decide) ?_)
         | refine And.intro (Nat.le_of_ble_eq_true rfl) ?_
         | refine And.intro (And.intro (Nat.le_of_ble_eq_true rfl) (Nat.le_of_ble_eq_true rfl)) ?_
         | refine And.intro (of_decide_eq_true (Eq.refl true)) ?_
         | refine And.intro (fun h => ?_) (fun h => ?_)
         | refine Or.inl ?_
         | fail)
  all_goals exact Ends.mk (Or.inl rfl) (AV.weak.of_eq rfl)
end Go.Proofs



namespace Go.Proofs
open Go Go.AI
set_option maxRecDepth 10000
/-! How a Battery law's arguments read. -/
def four (a b c d : Int) : Nat → Int
  | 0 => a | 1 => b | 2 => c | 3 => d | _ => 0
theorem four_of {n : Nat} {cs : List AV} (h : Fa (ShOK (n + 1)) [.int .i64, .int .i64, .int .i64, .int .i64] cs) : ∃ y : Nat → Int, (∀ i, inI (y i)) ∧ cs = i4A y := by
  obtain ⟨b0, q, rfl, h0, h⟩ := Fa.cons_inv h
  obtain ⟨b1, q, rfl, h1, h⟩ := Fa.cons_inv h
  obtain ⟨b2, q, rfl, h2, h⟩ := Fa.cons_inv h
  obtain ⟨b3, q, rfl, h3, h⟩ := Fa.cons_inv h
  obtain rfl := Fa.nil_inv h
  obtain ⟨z0, rfl, i0⟩ := int_inv h0
  obtain ⟨z1, rfl, i1⟩ := int_inv h1
  obtain ⟨z2, rfl, i2⟩ := int_inv h2
  obtain ⟨z3, rfl, i3⟩ := int_inv h3
  refine ⟨four z0 z1 z2 z3, fun i => ?_, rfl⟩
  by_cases e0 : i = 0; · subst e0; exact i0
  by_cases e1 : i = 1; · subst e1; exact i1
  by_cases e2 : i = 2; · subst e2; exact i2
  by_cases e3 : i = 3; · subst e3; exact i3
  have : four z0 z1 z2 z3 i = 0 := by
    unfold four
    split <;> first | rfl | omega
  rw [this]
  exact ⟨by omega, by omega⟩
theorem row3_of {n : Nat} {cs : List AV} (h : Fa (ShOK (n + 1)) [.int .i64, .int .i64, .int .i64] cs) : ∃ x : Int × Int × Int, inI3 x ∧ cs = row3A x := by
  obtain ⟨b0, q, rfl, h0, h⟩ := Fa.cons_inv h
  obtain ⟨b1, q, rfl, h1, h⟩ := Fa.cons_inv h
  obtain ⟨b2, q, rfl, h2, h⟩ := Fa.cons_inv h
  obtain rfl := Fa.nil_inv h
  obtain ⟨z0, rfl, i0⟩ := int_inv h0
  obtain ⟨z1, rfl, i1⟩ := int_inv h1
  obtain ⟨z2, rfl, i2⟩ := int_inv h2
  exact ⟨(z0, z1, z2), ⟨i0, i1, i2⟩, rfl⟩
theorem rows_of {n : Nat} {a : AV} (h : ShOK (n + 2) (.sl [.int .i64, .int .i64, .int .i64]) a) : ∃ z : List (Int × Int × Int), (∀ x ∈ z, inI3 x) ∧ a = .sl .no 3 (z.map row3A) := by
  obtain ⟨xs, rfl, h2⟩ := h
  suffices hs : ∀ l : List (List AV), (∀ x ∈ l, Fa (ShOK (n + 1)) [.int .i64, .int .i64, .int .i64] x) → ∃ z : List (Int × Int × Int), (∀ x ∈ z, inI3 x) ∧ l = z.map row3A by
    obtain ⟨z, g1, g2⟩ := hs xs h2
    exact ⟨z, g1, congrArg (AV.sl .no 3) g2⟩
  intro l
  induction l with
  | nil => exact fun _ => ⟨[], by simp, rfl⟩
  | cons y r ih =>
    intro h
    obtain ⟨z, g1, rfl⟩ := ih (fun x hx => h x (List.mem_cons_of_mem _ hx))
    obtain ⟨x, g2, rfl⟩ := row3_of (h y List.mem_cons_self)
    exact ⟨x :: z, fun w hw => by rcases List.mem_cons.1 hw with rfl | hw; exact g2; exact g1 w hw, rfl⟩
end Go.Proofs


