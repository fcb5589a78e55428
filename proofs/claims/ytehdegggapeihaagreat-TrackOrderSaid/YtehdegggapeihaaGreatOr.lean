/- TrackOrder answers true, whatever the input; no condition. -/
import Derived.Test.YtehdegggapeihaaGreatConE
import Derived.Test.YtehdegggapeihaaGreatRows
set_option linter.unusedSectionVars false
set_option linter.unusedVariables false
set_option linter.unusedSimpArgs false
namespace Go.Proofs
open Go Go.AI
set_option maxRecDepth 10000
set_option maxHeartbeats 4000000 in
theorem Tryz.y5 (c : TCase) (s : Nat → Int) (l : List Opt) (ps : List PassT) (a b : Int) (A B : List Flt) (hA : A.length ≤ 10) (hB : B.length ≤ 10)
    (k17 : ACalls Tryz.prog 17 [] (.bool true)) (k18 : ACalls Tryz.prog 18 [.agg (caseA c)] (.tup [.agg (satA s), passesA ps, optsA l, .agg (spellA a b)]))
    (kA : ACalls Tryz.prog 21 [.agg (satA s), optsA l, passesA ps, .agg (spellA a b)] (.tup [fltsA A, .int .i64 0])) (which : Int) (k : Nat) (hl : l.length ≤ 8) (hk : k < l.length)
    (kp : ACalls Tryz.prog 20 [.int .i64 which, .int .i64 ((l.map optA).length : Int)] (.int .i64 (k : Int)))
    (kB : ACalls Tryz.prog 21 [.agg (satA s), .sl .no 9 ((([] : List (List AV)) ++ List.drop 0 (List.take ((k : Nat) : Int).toNat (l.map optA))) ++ List.drop (IntKind.i64.wrap (((k : Nat) : Int) + 1)).toNat (List.take (l.map optA).length (l.map optA))), passesA ps, .agg (spellA a b)] (.tup [fltsA B, .int .i64 0]))
    (f1 : ∀ i, i < B.length → ACalls Tryz.prog 33 [fltsA A, .int .i64 (B.getD i flt0).k] (.bool true))
    (f2 : ∀ i, 0 < i → i < B.length → (B.getD (i - 1) flt0).k < (B.getD i flt0).k) :
    ACalls Tryz.prog 5 [.agg (caseA c), .int .i64 which] (.bool true) := by
  have hk0 : 0 ≤ ((k : Nat) : Int) := Int.natCast_nonneg k
  have hkw : IntKind.i64.wrap (((k : Nat) : Int) + 1) = ((k + 1 : Nat) : Int) := (w64_in (by omega) (by omega)).trans (by omega)
  have hk1 : 0 ≤ IntKind.i64.wrap (((k : Nat) : Int) + 1) := by rw [hkw]; exact Int.natCast_nonneg _
  have hkle : ((k : Nat) : Int).toNat ≤ (l.map optA).length := by rw [List.length_map]; omega
  have hk1le : (IntKind.i64.wrap (((k : Nat) : Int) + 1)).toNat ≤ (l.map optA).length := by rw [hkw, List.length_map]; omega
  have b0 : (((l.map optA).length : Int) == 0) = true → False := fun h => by rw [List.length_map] at h; simp at h; rw [h] at hk; simp at hk
  have hlb : ((B.map fltA).length : Int) = (B.length : Int) := by rw [List.length_map]
  refine ACalls.ofB Tryz.T Tryz.func5 rfl (by kernel_rfl) Tryz.mixed (Nat.le_of_ble_eq_true rfl) ?_
  intro F n' w0 m0 hG hro h1
  repeat' first|exact (b0 (by assumption)).elim|refine Q1 ?_|refine Q2 ?_|refine Q3 hG Tryz.T Tryz.keep5 (by kernel_rfl) ?_|refine Q4 hG Tryz.T Tryz.keep5 (by kernel_rfl) ?_|refine Q5 hG Tryz.T ?_|refine Q6 hG Tryz.T ?_|refine Q7 hG Tryz.T ?_|refine Q8 hG Tryz.T ?_|refine Q9 rfl ?_|refine QF rfl ?_|refine QC rfl (And.intro (fun h => ?_) (fun h => ?_))|((conv => whnf); first|refine anF ?_|refine anT ?_|refine And.intro (by kernel_rfl) ?_|refine And.intro (fun h => ?_) (fun h => ?_)|refine Or.inl ?_|fail)
  conv => whnf
  refine Exists.intro _ (And.intro (k17) ?_)
  repeat' first|exact (b0 (by assumption)).elim|refine Q1 ?_|refine Q2 ?_|refine Q3 hG Tryz.T Tryz.keep5 (by kernel_rfl) ?_|refine Q4 hG Tryz.T Tryz.keep5 (by kernel_rfl) ?_|refine Q5 hG Tryz.T ?_|refine Q6 hG Tryz.T ?_|refine Q7 hG Tryz.T ?_|refine Q8 hG Tryz.T ?_|refine Q9 rfl ?_|refine QF rfl ?_|refine QC rfl (And.intro (fun h => ?_) (fun h => ?_))|((conv => whnf); first|refine anF ?_|refine anT ?_|refine And.intro (by kernel_rfl) ?_|refine And.intro (fun h => ?_) (fun h => ?_)|refine Or.inl ?_|fail)
  conv => whnf
  refine Exists.intro _ (And.intro (k18) ?_)
  repeat' first|exact (b0 (by assumption)).elim|refine Q1 ?_|refine Q2 ?_|refine Q3 hG Tryz.T Tryz.keep5 (by kernel_rfl) ?_|refine Q4 hG Tryz.T Tryz.keep5 (by kernel_rfl) ?_|refine Q5 hG Tryz.T ?_|refine Q6 hG Tryz.T ?_|refine Q7 hG Tryz.T ?_|refine Q8 hG Tryz.T ?_|refine Q9 rfl ?_|refine QF rfl ?_|refine QC rfl (And.intro (fun h => ?_) (fun h => ?_))|((conv => whnf); first|refine anF ?_|refine anT ?_|refine And.intro (by kernel_rfl) ?_|refine And.intro (fun h => ?_) (fun h => ?_)|refine Or.inl ?_|fail)
  conv => whnf
  refine Exists.intro _ (And.intro (kA) ?_)
  repeat' first|exact (b0 (by assumption)).elim|refine Q1 ?_|refine Q2 ?_|refine Q3 hG Tryz.T Tryz.keep5 (by kernel_rfl) ?_|refine Q4 hG Tryz.T Tryz.keep5 (by kernel_rfl) ?_|refine Q5 hG Tryz.T ?_|refine Q6 hG Tryz.T ?_|refine Q7 hG Tryz.T ?_|refine Q8 hG Tryz.T ?_|refine Q9 rfl ?_|refine QF rfl ?_|refine QC rfl (And.intro (fun h => ?_) (fun h => ?_))|((conv => whnf); first|refine anF ?_|refine anT ?_|refine And.intro (by kernel_rfl) ?_|refine And.intro (fun h => ?_) (fun h => ?_)|refine Or.inl ?_|fail)
  conv => whnf
  refine Exists.intro _ (And.intro (kp) ?_)
  repeat' first|exact (b0 (by assumption)).elim|refine Q1 ?_|refine Q2 ?_|refine Q3 hG Tryz.T Tryz.keep5 (by kernel_rfl) ?_|refine Q4 hG Tryz.T Tryz.keep5 (by kernel_rfl) ?_|refine Q5 hG Tryz.T ?_|refine Q6 hG Tryz.T ?_|refine Q7 hG Tryz.T ?_|refine Q8 hG Tryz.T ?_|refine Q9 rfl ?_|refine QF rfl ?_|refine QC rfl (And.intro (fun h => ?_) (fun h => ?_))|((conv => whnf); first|refine anF ?_|refine anT ?_|refine And.intro (by kernel_rfl) ?_|refine Exists.intro _ (And.intro (kB) ?_)|refine And.intro hk0 ?_|refine And.intro hk1 ?_|refine And.intro (Nat.zero_le _) ?_|refine And.intro hkle ?_|refine And.intro hk1le ?_|refine And.intro (Nat.le_refl _) ?_|refine And.intro (show _ * 88 ≤ 70368744177664 by simp only [List.length_append, List.length_cons, List.length_nil, List.length_drop, List.length_take, List.length_map]; omega) ?_|refine And.intro (show _ ≤ 4611686018427387904 by simp only [List.length_append, List.length_cons, List.length_nil, List.length_drop, List.length_take, List.length_map]; omega) ?_|refine And.intro (fun h => ?_) (fun h => ?_)|refine Or.inl ?_|fail)
  refine SPB.loop (X := Nat) (fun x => ⟨[(14, .int .i64 x), (12, fltsA B), (9, fltsA A)], []⟩) (fun x => x ≤ B.length) (fun x => B.length - x) 0 (Nat.zero_le _) (St.le.of ?_ ?_) (fun x hx => ?_)
  · repeat' (first | exact trivial | refine And.intro rfl ?_)
  · repeat' (first | exact trivial | refine And.intro rfl ?_)
  · rename Nat => i
    have hi := hx
    by_cases hlt_i : i < B.length
    · have bbk : decide ((i : Int) < ((B.map fltA).length : Int)) = false → False := fun h => by have := of_decide_eq_false h; simp at this; omega
      have hx := row_at (f := fltA) flt0 hlt_i
      have g1 := f1 i hlt_i
      have hpr : decide ((i : Int) > 0) = true → 0 ≤ IntKind.i64.wrap ((i : Int) - 1) ∧ (B.map fltA)[(IntKind.i64.wrap ((i : Int) - 1)).toNat]? = some (fltA (B.getD (i - 1) flt0)) := fun h => by
        have h := of_decide_eq_true h
        have e : IntKind.i64.wrap ((i : Int) - 1) = ((i - 1 : Nat) : Int) := (w64_in (by omega) (by omega)).trans (by omega)
        rw [e]
        exact ⟨Int.natCast_nonneg _, row_at flt0 (by omega)⟩
      have g2 : decide ((i : Int) > 0) = true → decide ((B.getD i flt0).k ≤ (B.getD (i - 1) flt0).k) = false := fun h => decide_eq_false (by have := of_decide_eq_true h; have := f2 i (by omega) hlt_i; omega)
      generalize B.getD i flt0 = u at *
      generalize B.getD (i - 1) flt0 = v at *
      repeat' first|exact (bbk (by assumption)).elim|refine Q1 ?_|refine Q2 ?_|refine Q3 hG Tryz.T Tryz.keep5 (by kernel_rfl) ?_|refine Q4 hG Tryz.T Tryz.keep5 (by kernel_rfl) ?_|refine Q5 hG Tryz.T ?_|refine Q6 hG Tryz.T ?_|refine Q7 hG Tryz.T ?_|refine Q8 hG Tryz.T ?_|refine Q9 rfl ?_|refine QF rfl ?_|refine QC rfl (And.intro (fun h => ?_) (fun h => ?_))|((conv => whnf); first|refine anF ?_|refine anT ?_|refine And.intro (by kernel_rfl) ?_|refine And.intro (Int.natCast_nonneg i) (Exists.intro _ (And.intro hx ?_))|refine Exists.intro _ (And.intro (g1) ?_)|refine And.intro (hpr (by assumption)).1 (Exists.intro _ (And.intro (hpr (by assumption)).2 ?_))|refine And.intro (fun h => ?_) (fun h => ?_)|refine Or.inl ?_|fail)
      all_goals first
        | exact absurd (by assumption : decide (u.k ≤ v.k) = true) (by rw [g2 (by assumption)]; simp)
        | skip
      all_goals (refine Exists.intro (i + 1) (And.intro hlt_i (And.intro (by omega) (St.le.of ?_ ?_))))
      all_goals first
        | (refine And.intro (congrArg some (le_next (by omega))) ?_
           repeat' (first | exact trivial | refine And.intro rfl ?_))
        | (repeat' (first | exact trivial | refine And.intro rfl ?_))
    · have bbk : decide ((i : Int) < ((B.map fltA).length : Int)) = true → False := fun h => by have := of_decide_eq_true h; simp at this; omega
      repeat' first|exact (bbk (by assumption)).elim|refine Q1 ?_|refine Q2 ?_|refine Q3 hG Tryz.T Tryz.keep5 (by kernel_rfl) ?_|refine Q4 hG Tryz.T Tryz.keep5 (by kernel_rfl) ?_|refine Q5 hG Tryz.T ?_|refine Q6 hG Tryz.T ?_|refine Q7 hG Tryz.T ?_|refine Q8 hG Tryz.T ?_|refine Q9 rfl ?_|refine QF rfl ?_|refine QC rfl (And.intro (fun h => ?_) (fun h => ?_))|((conv => whnf); first|refine anF ?_|refine anT ?_|refine And.intro (by kernel_rfl) ?_|refine And.intro (fun h => ?_) (fun h => ?_)|refine Or.inl ?_|fail)
      exact Ends.mk (Or.inl rfl) (AV.weak.of_eq rfl)
set_option maxHeartbeats 4000000 in
theorem Tryz.y6 (c : TCase) (s : Nat → Int) (l : List Opt) (ps : List PassT) (a b : Int) (A B : List Flt) (hA : A.length ≤ 10) (hB : B.length ≤ 10)
    (k17 : ACalls Tryz.prog 17 [] (.bool true)) (k18 : ACalls Tryz.prog 18 [.agg (caseA c)] (.tup [.agg (satA s), passesA ps, optsA l, .agg (spellA a b)]))
    (kA : ACalls Tryz.prog 21 [.agg (satA s), optsA l, passesA ps, .agg (spellA a b)] (.tup [fltsA A, .int .i64 0])) (turn : Int) (k : Nat) (hl : l.length ≤ 8) (hk : k ≤ l.length) (D : List Load3)
    (kp : ACalls Tryz.prog 20 [.int .i64 turn, .int .i64 (IntKind.i64.wrap (((l.map optA).length : Int) + 1))] (.int .i64 (k : Int)))
    (kB : ACalls Tryz.prog 21 [.agg (satA s), .sl .no 9 ((([] : List (List AV)) ++ List.drop ((k : Nat) : Int).toNat (List.take (l.map optA).length (l.map optA))) ++ List.drop 0 (List.take ((k : Nat) : Int).toNat (l.map optA))), passesA ps, .agg (spellA a b)] (.tup [fltsA B, .int .i64 0]))
    (kL : ACalls Tryz.prog 27 [optsA l] (loadsA D)) (kM : ACalls Tryz.prog 27 [.sl .no 9 ((([] : List (List AV)) ++ List.drop ((k : Nat) : Int).toNat (List.take (l.map optA).length (l.map optA))) ++ List.drop 0 (List.take ((k : Nat) : Int).toNat (l.map optA)))] (loadsA D)) (kS : ACalls Tryz.prog 26 [loadsA D, loadsA D] (.bool true))
    (f1 : A.length = B.length) (f2 : ∀ i, SameK (A.getD i flt0) (B.getD i flt0)) :
    ACalls Tryz.prog 6 [.agg (caseA c), .int .i64 turn] (.bool true) := by
  have hk0 : 0 ≤ ((k : Nat) : Int) := Int.natCast_nonneg k
  have hk1 := hk0
  have hkle : ((k : Nat) : Int).toNat ≤ (l.map optA).length := by rw [List.length_map]; omega
  have hk1le := hkle
  have hla : ((A.map fltA).length : Int) = (A.length : Int) := by rw [List.length_map]
  have hlb : ((B.map fltA).length : Int) = (B.length : Int) := by rw [List.length_map]
  have b0 : (((A.map fltA).length : Int) != ((B.map fltA).length : Int)) = true → False := fun h => by rw [hla, hlb, f1] at h; simp at h
  refine ACalls.ofB Tryz.T Tryz.func6 rfl (by kernel_rfl) Tryz.mixed (Nat.le_of_ble_eq_true rfl) ?_
  intro F n' w0 m0 hG hro h1
  repeat' first|exact (b0 (by assumption)).elim|refine Q1 ?_|refine Q2 ?_|refine Q3 hG Tryz.T Tryz.keep6 (by kernel_rfl) ?_|refine Q4 hG Tryz.T Tryz.keep6 (by kernel_rfl) ?_|refine Q5 hG Tryz.T ?_|refine Q6 hG Tryz.T ?_|refine Q7 hG Tryz.T ?_|refine Q8 hG Tryz.T ?_|refine Q9 rfl ?_|refine QF rfl ?_|refine QC rfl (And.intro (fun h => ?_) (fun h => ?_))|((conv => whnf); first|refine anF ?_|refine anT ?_|refine And.intro (by kernel_rfl) ?_|refine And.intro (fun h => ?_) (fun h => ?_)|refine Or.inl ?_|fail)
  conv => whnf
  refine Exists.intro _ (And.intro (k17) ?_)
  repeat' first|exact (b0 (by assumption)).elim|refine Q1 ?_|refine Q2 ?_|refine Q3 hG Tryz.T Tryz.keep6 (by kernel_rfl) ?_|refine Q4 hG Tryz.T Tryz.keep6 (by kernel_rfl) ?_|refine Q5 hG Tryz.T ?_|refine Q6 hG Tryz.T ?_|refine Q7 hG Tryz.T ?_|refine Q8 hG Tryz.T ?_|refine Q9 rfl ?_|refine QF rfl ?_|refine QC rfl (And.intro (fun h => ?_) (fun h => ?_))|((conv => whnf); first|refine anF ?_|refine anT ?_|refine And.intro (by kernel_rfl) ?_|refine And.intro (fun h => ?_) (fun h => ?_)|refine Or.inl ?_|fail)
  conv => whnf
  refine Exists.intro _ (And.intro (k18) ?_)
  repeat' first|exact (b0 (by assumption)).elim|refine Q1 ?_|refine Q2 ?_|refine Q3 hG Tryz.T Tryz.keep6 (by kernel_rfl) ?_|refine Q4 hG Tryz.T Tryz.keep6 (by kernel_rfl) ?_|refine Q5 hG Tryz.T ?_|refine Q6 hG Tryz.T ?_|refine Q7 hG Tryz.T ?_|refine Q8 hG Tryz.T ?_|refine Q9 rfl ?_|refine QF rfl ?_|refine QC rfl (And.intro (fun h => ?_) (fun h => ?_))|((conv => whnf); first|refine anF ?_|refine anT ?_|refine And.intro (by kernel_rfl) ?_|refine And.intro (fun h => ?_) (fun h => ?_)|refine Or.inl ?_|fail)
  conv => whnf
  refine Exists.intro _ (And.intro (kp) ?_)
  repeat' first|exact (b0 (by assumption)).elim|refine Q1 ?_|refine Q2 ?_|refine Q3 hG Tryz.T Tryz.keep6 (by kernel_rfl) ?_|refine Q4 hG Tryz.T Tryz.keep6 (by kernel_rfl) ?_|refine Q5 hG Tryz.T ?_|refine Q6 hG Tryz.T ?_|refine Q7 hG Tryz.T ?_|refine Q8 hG Tryz.T ?_|refine Q9 rfl ?_|refine QF rfl ?_|refine QC rfl (And.intro (fun h => ?_) (fun h => ?_))|((conv => whnf); first|refine anF ?_|refine anT ?_|refine And.intro (by kernel_rfl) ?_|refine Exists.intro _ (And.intro (kA) ?_)|refine Exists.intro _ (And.intro (kB) ?_)|refine And.intro hk0 ?_|refine And.intro hk1 ?_|refine And.intro (Nat.zero_le _) ?_|refine And.intro hkle ?_|refine And.intro hk1le ?_|refine And.intro (Nat.le_refl _) ?_|refine And.intro (show _ * 88 ≤ 70368744177664 by simp only [List.length_append, List.length_cons, List.length_nil, List.length_drop, List.length_take, List.length_map]; omega) ?_|refine And.intro (show _ ≤ 4611686018427387904 by simp only [List.length_append, List.length_cons, List.length_nil, List.length_drop, List.length_take, List.length_map]; omega) ?_|refine And.intro (fun h => ?_) (fun h => ?_)|refine Or.inl ?_|fail)
  refine SPB.demT 34 (SPB.loop (X := Nat) (fun x => ⟨[(15, .int .i64 x), (13, fltsA B), (11, fltsA A), (10, .sl .no 9 ((([] : List (List AV)) ++ List.drop ((k : Nat) : Int).toNat (List.take (l.map optA).length (l.map optA))) ++ List.drop 0 (List.take ((k : Nat) : Int).toNat (l.map optA)))), (7, optsA l)], []⟩) (fun x => x ≤ A.length) (fun x => A.length - x) 0 (Nat.zero_le _) (St.le.of ?_ ?_) (fun x hx => ?_))
  · repeat' (first | exact trivial | refine And.intro rfl ?_)
  · repeat' (first | exact trivial | refine And.intro rfl ?_)
  · rename Nat => i
    have hi := hx
    by_cases hlt_i : i < A.length
    · have bbk : decide ((i : Int) < ((A.map fltA).length : Int)) = false → False := fun h => by have := of_decide_eq_false h; simp at this; omega
      have hx := row_at (f := fltA) flt0 hlt_i
      have hy := row_at (f := fltA) flt0 (show i < B.length by omega)
      have hs := f2 i
      generalize A.getD i flt0 = u at *
      generalize B.getD i flt0 = v at *
      obtain ⟨s1, s2⟩ := hs
      have b1 : (u.k != v.k) = true → False := fun h => by rw [s1] at h; simp at h
      have b2 : decide (u.k ≥ 3) = true → decide (u.k ≤ 5) = true → u = v := fun h1 h2 => s2 ⟨of_decide_eq_true h1, of_decide_eq_true h2⟩
      repeat' first|exact (bbk (by assumption)).elim|refine Q1 ?_|refine Q2 ?_|refine Q3 hG Tryz.T Tryz.keep6 (by kernel_rfl) ?_|refine Q4 hG Tryz.T Tryz.keep6 (by kernel_rfl) ?_|refine Q5 hG Tryz.T ?_|refine Q6 hG Tryz.T ?_|refine Q7 hG Tryz.T ?_|refine Q8 hG Tryz.T ?_|refine Q9 rfl ?_|refine QF rfl ?_|refine QC rfl (And.intro (fun h => ?_) (fun h => ?_))|((conv => whnf); first|refine anF ?_|refine anT ?_|refine And.intro (by kernel_rfl) ?_|refine And.intro (Int.natCast_nonneg i) (Exists.intro _ (And.intro hx ?_))|refine And.intro (Int.natCast_nonneg i) (Exists.intro _ (And.intro hy ?_))|refine And.intro (fun h => ?_) (fun h => ?_)|refine Or.inl ?_|fail)
      all_goals first
        | exact (b1 (by assumption)).elim
        | (have e := b2 (by assumption) (by assumption)
           subst e
           have h := (by assumption : (!_) = true)
           simp at h
           done)
        | skip
      all_goals (refine Exists.intro (i + 1) (And.intro hlt_i (And.intro (by omega) (St.le.of ?_ ?_))))
      all_goals first
        | (refine And.intro (congrArg some (le_next (by omega))) ?_
           repeat' (first | exact trivial | refine And.intro rfl ?_))
        | (repeat' (first | exact trivial | refine And.intro rfl ?_))
    · have bbk : decide ((i : Int) < ((A.map fltA).length : Int)) = true → False := fun h => by have := of_decide_eq_true h; simp at this; omega
      repeat' first|exact (bbk (by assumption)).elim|refine Q1 ?_|refine Q2 ?_|refine Q3 hG Tryz.T Tryz.keep6 (by kernel_rfl) ?_|refine Q4 hG Tryz.T Tryz.keep6 (by kernel_rfl) ?_|refine Q5 hG Tryz.T ?_|refine Q6 hG Tryz.T ?_|refine Q7 hG Tryz.T ?_|refine Q8 hG Tryz.T ?_|refine Q9 rfl ?_|refine QF rfl ?_|refine QC rfl (And.intro (fun h => ?_) (fun h => ?_))|((conv => whnf); first|refine anF ?_|refine anT ?_|refine And.intro (by kernel_rfl) ?_|refine Exists.intro _ (And.intro (kL) ?_)|refine Exists.intro _ (And.intro (kM) ?_)|refine Exists.intro _ (And.intro (kS) ?_)|refine And.intro (fun h => ?_) (fun h => ?_)|refine Or.inl ?_|fail)
      exact Ends.mk (Or.inl rfl) (AV.weak.of_eq rfl)
end Go.Proofs
namespace Go.Proofs
open Go Go.AI
set_option maxRecDepth 10000
theorem TCase.psl (c : TCase) : c.ps.length ≤ 1000000 := by have := c.passes.2.1; omega
theorem TCase.trk (c : TCase) : TrkH c.s c.l c.a c.b := TrkH.of c.valid
theorem faults_len (s : Nat → Int) (l : List Opt) (a b : Int) : (faultsL s l a b).length ≤ 5 := by
  have := fltTake_len s l a b 5
  exact this
theorem Tryz.kchk (c : TCase) : ACalls Tryz.prog 21 [.agg (satA c.s), optsA c.l, passesA c.ps, .agg (spellA c.a c.b)] (.tup [fltsA (faultsL c.s c.l c.a c.b), .int .i64 0]) := Tryz.checkOf c.s c.l c.ps c.a c.b c.psl c.valid
theorem Tryz.x6 (c : TCase) (turn : Int) (hw : inI turn) : ACalls Tryz.prog 6 [.agg (caseA c), .int .i64 turn] (.bool true) := by
  have hA := faults_len c.s c.l c.a c.b
  have hln := c.len
  have hp := pick_rng hw (n := (c.l.length : Int) + 1) (by omega)
  obtain ⟨k, hk⟩ : ∃ k : Nat, pickS turn ((c.l.length : Int) + 1) = (k : Int) := ⟨(pickS turn ((c.l.length : Int) + 1)).toNat, by omega⟩
  rw [hk] at hp
  have kp := Tryz.lpick turn ((c.l.length : Int) + 1) (by omega)
  rw [hk] at kp
  have hlw : IntKind.i64.wrap (((c.l.map optA).length : Int) + 1) = (c.l.length : Int) + 1 := by rw [List.length_map]; exact w64_in (by omega) (by omega)
  have hpm : (c.l.drop k ++ c.l.take k).Perm c.l := by
    have h1 : (c.l.drop k ++ c.l.take k).Perm (c.l.take k ++ c.l.drop k) := List.perm_append_comm
    rwa [List.take_append_drop] at h1
  have hv := track_perm c.valid hpm
  have kB := Tryz.checkOf c.s _ c.ps c.a c.b c.psl hv
  have hT := TrkH.of hv
  have kM := Tryz.loads (c.l.drop k ++ c.l.take k) hT.chk.hl hT.chk.sl hT.chk.sp
  rw [loads_perm c.trk.good hpm] at kM
  have hrow : (c.l.drop k ++ c.l.take k).map optA = (([] : List (List AV)) ++ List.drop ((k : Nat) : Int).toNat (List.take (c.l.map optA).length (c.l.map optA))) ++ List.drop 0 (List.take ((k : Nat) : Int).toNat (c.l.map optA)) := by
    rw [Int.toNat_natCast, List.take_length, List.nil_append, List.drop_zero, List.map_append, List.map_take, List.map_drop]
  rw [optsA, hrow] at kB kM
  have hB := faults_len c.s (c.l.drop k ++ c.l.take k) c.a c.b
  have hall := c.trk.turn hpm
  have hD : (optLoads c.l).length ≤ 1000000 := c.trk.chk.ll
  have kS := Tryz.sameLoads (optLoads c.l) (optLoads c.l) hD
  rw [decide_eq_true rfl] at kS
  exact Tryz.y6 c c.s c.l c.ps c.a c.b _ _ (by omega) (by omega) Tryz.sane19 (Tryz.made c) (Tryz.kchk c) turn k (by omega) (by omega) (optLoads c.l) (by rw [hlw]; exact kp) kB (Tryz.loads c.l c.trk.chk.hl c.trk.chk.sl c.trk.chk.sp) kM kS hall.len hall.get
structure Eases (s e : Nat → Int) : Prop where
  eq : ∀ i, i < 10 ∨ 12 ≤ i ∧ i ≤ 16 ∨ i = 20 → e i = s i
  st : s 10 ≤ e 10
  ch : s 11 ≤ e 11
  co : s 17 ≤ e 17
  hot : s 18 ≤ e 18
  sl : e 19 ≤ s 19
  sat : satS e = true
theorem Eases.orb {s e : Nat → Int} (h : Eases s e) : ∀ i, i < 7 → orbO e i = orbO s i := fun i hi => h.eq (i + 2) (by omega)
theorem Eases.slots {s e : Nat → Int} (h : Eases s e) (ps : List PassT) (z : Int) : ∀ (l : List SlotT) (t : Int), slotsOK e ps z t l = slotsOK s ps z t l
  | [], _ => rfl
  | x :: r, t => by
    simp only [slotsOK, slotOK, h.eq 0 (by omega), h.eq 20 (by omega), Eases.slots h ps z r x.b]
theorem Eases.fits {s e : Nat → Int} (h : Eases s e) {o : Opt} {ps : List PassT} (hf : fitsS s o ps = true) : fitsS e o ps = true := by
  have hst := h.st
  simp only [fitsS, headS, shotS, swathS, orbS_ext h.orb, h.eq 0 (by omega), h.eq 9 (by omega), h.slots, Bool.and_eq_true, inS, decide_eq_true_eq] at hf ⊢
  obtain ⟨⟨⟨⟨h1, h2⟩, h3⟩, h4⟩, h5⟩ := hf
  exact ⟨⟨⟨⟨h1, by omega⟩, h3⟩, h4⟩, h5⟩
end Go.Proofs
namespace Go.Proofs
open Go Go.AI Go.Proofs.YtehdegggapeihaaGreat
set_option maxRecDepth 100000
theorem Tryz.own : ownKnob Tryz.prog.godebug = none := by kernel_rfl
theorem Tryz.laidOut : laidOutB Tryz.prog = true := by kernel_rfl
theorem Tryz.reads3 : (Tryz.prog.readableRec 3 && Nat.blt 3 Tryz.prog.types.size) = true := by kernel_rfl
theorem Tryz.reads27 : (Tryz.prog.readableRec 27 && Nat.blt 27 Tryz.prog.types.size) = true := by kernel_rfl
def caseSh : List Sh := [.int .i64, .int .i64, .int .i64, .int .i64, .int .i64, .int .i64, .int .i64, .int .i64, .int .i64, .int .i64, .int .i64, .sl [.int .i64, .int .i64, .int .i64], .sl [.int .i64, .int .i64, .int .i64, .int .i64, .int .i64], .int .i64]
def lawSh : List (Bool × List Sh) := [(true, caseSh), (false, [.int .i64])]
theorem Tryz.shs : paramSh Tryz.prog 8 [27, 3] = some lawSh := by kernel_rfl
theorem Tryz.lifted (law : ∀ avs, PArgs 8 lawSh avs → ACalls Tryz.prog 6 avs (.bool true)) (os : Os) (started : os.Started) (H : Type) (enc : TypeId × Value → H) :
    ReturnsInHanded {} Tryz.checked os 6 .any (Rows.trackOrderSpec.pre6 enc Tryz.prog Tryz.f6 Rows.trackOrderRow.domain false) (Rows.trackOrderSpec.post enc Tryz.prog Tryz.f6 false true false false) :=
  law_lifted (C := Tryz.checked) (tb := 4) Tryz.own started (by kernel_rfl) Tryz.func6
    (ChangeSpec.witness6 (enc := enc) (C := Tryz.checked) false ⟨#[], #[.agg #[.int .i64 0, .int .i64 0, .int .i64 0, .int .i64 0, .int .i64 0, .int .i64 0, .int .i64 0, .int .i64 0, .int .i64 0, .int .i64 0, .int .i64 0, .slice none 0 0, .slice none 0 0, .int .i64 0], .int .i64 0], []⟩ 8 (by kernel_rfl) (by kernel_rfl) (by kernel_rfl) (by kernel_rfl))
    rfl (by kernel_rfl) (by kernel_rfl) (fun ds h => by
      match ds, h with
      | [d0, d1], _ => rfl) Tryz.shs Tryz.laidOut (fun t ht => by
      have e : Tryz.f6.params.toList = [27, 3] := by kernel_rfl
      rw [e] at ht
      simp only [List.mem_cons, List.not_mem_nil, or_false] at ht
      have h3 := Tryz.reads3
      have h27 := Tryz.reads27
      simp only [Bool.and_eq_true] at h3 h27
      rcases ht with h | h <;> subst h <;> first | exact ⟨h3.1, Nat.le_of_ble_eq_true h3.2⟩ | exact ⟨h27.1, Nat.le_of_ble_eq_true h27.2⟩) law
theorem Tryz.jf0 : (Rows.trackOrderRow.wf (OpenSpec.ofChange Rows.trackOrderSpec) : Bool) = true := by kernel_rfl
theorem Tryz.jf1 : (laidOutB Tryz.pinned.checked.prog : Bool) = true := by kernel_rfl
theorem Tryz.jf2 : (mapsRowed Tryz.pinned.checked.prog : Bool) = true := by kernel_rfl
theorem Tryz.jf3 : (Tryz.f6.params.all (Tryz.pinned.checked.prog.readableRec ·) : Bool) = true := by kernel_rfl
theorem Tryz.jf4 : (namedTie Tryz.pinned.checked.prog Rows.trackOrderRow.named Rows.trackOrderSpec.vars : Bool) = true := by kernel_rfl
theorem Tryz.jf5 : ((Rows.trackOrderRow.stops == []) : Bool) = true := by kernel_rfl
theorem Tryz.jf6 : ((Tryz.pinned.checked.prog.stops == []) : Bool) = true := by kernel_rfl
theorem Tryz.jf7 : ((Rows.trackOrderRow.knobs == []) : Bool) = true := by kernel_rfl
theorem Tryz.jf8 : ((Tryz.pinned.checked.prog.stopKnobs == []) : Bool) = true := by kernel_rfl
theorem Tryz.jf9 : ((Rows.trackOrderRow.inPlace == Tryz.pinned.checked.prog.inPlace 6) : Bool) = true := by kernel_rfl
theorem Tryz.jf10 : ((Rows.trackOrderRow.unfollowed == Tryz.pinned.checked.prog.unfollowed 6) : Bool) = true := by kernel_rfl
theorem Tryz.jf11 : ((Rows.trackOrderRow.recurses == Tryz.pinned.checked.prog.recurses 6) : Bool) = true := by kernel_rfl
theorem Tryz.jf12 : ((Rows.trackOrderRow.named == Tryz.pinned.checked.prog.varsNamed 6) : Bool) = true := by kernel_rfl
theorem Tryz.jf13 : ((Rows.trackOrderRow.maps == (Tryz.f6.params.toList ++ Rows.trackOrderSpec.plain.varTypes Tryz.pinned.checked.prog).any (Tryz.pinned.checked.prog.mapsRec ·)) : Bool) = true := by kernel_rfl
theorem Tryz.jf14 : ((Rows.trackOrderRow.ifaces == (Tryz.f6.params.toList ++ Rows.trackOrderSpec.plain.varTypes Tryz.pinned.checked.prog).any (Tryz.pinned.checked.prog.ifacesRec ·)) : Bool) = true := by kernel_rfl
theorem Tryz.jf15 : ((Rows.trackOrderRow.mapsOut == Tryz.pinned.checked.prog.mapsAmong Tryz.f6.resultTypes.toList) : Bool) = true := by kernel_rfl
theorem Tryz.jf16 : ((Rows.trackOrderRow.loops == (Tryz.f6.params.toList ++ Rows.trackOrderSpec.plain.varTypes Tryz.pinned.checked.prog).any (Tryz.pinned.checked.prog.loopsFrom ·)) : Bool) = true := by kernel_rfl
theorem Tryz.jf17 : ((Rows.trackOrderRow.wideKeys == (Tryz.f6.params.toList ++ Rows.trackOrderSpec.plain.varTypes Tryz.pinned.checked.prog ++ Tryz.f6.resultTypes.toList).any (Tryz.pinned.checked.prog.wideKeysFrom ·)) : Bool) = true := by kernel_rfl
theorem Tryz.jf18 : (Rows.trackOrderSpec.vars.all (Tryz.pinned.checked.prog.varReadable ·) : Bool) = true := by kernel_rfl
theorem Tryz.jf19 : (Tryz.f6.resultTypes.all (fun t => Tryz.pinned.checked.prog.readableRec t && decide (t < Tryz.pinned.checked.prog.types.size)) : Bool) = true := by kernel_rfl
theorem Tryz.jf20 : ((Rows.trackOrderRow.ifacesOut == Tryz.f6.resultTypes.toList.any (Tryz.pinned.checked.prog.ifacesRec ·)) : Bool) = true := by kernel_rfl
theorem Tryz.jf21 : ((Rows.trackOrderRow.loopsOut == Tryz.f6.resultTypes.toList.any (Tryz.pinned.checked.prog.loopsFrom ·)) : Bool) = true := by kernel_rfl
theorem Tryz.jf22 : ((Rows.trackOrderRow.plainKeys == Tryz.pinned.checked.prog.plainKeys) : Bool) = true := by kernel_rfl
theorem Tryz.jf23 : (Rows.trackOrderRow.shortTexts.isNone : Bool) = true := by kernel_rfl
theorem Tryz.jf24 : (Tryz.pinned.checked.prog.stopsHeard : Bool) = true := by kernel_rfl
theorem Tryz.jf25 : (Tryz.pinned.checked.prog.mayEnter : Bool) = true := by kernel_rfl
theorem Tryz.jf26 : ((Rows.trackOrderRow.lifted == Tryz.pinned.checked.prog.liftsFinal) : Bool) = true := by kernel_rfl
theorem Tryz.jf27 : ((Tryz.pinned.checked.prog.make == some Rows.trackOrderRow.make) : Bool) = true := by kernel_rfl
theorem Tryz.jf28 : ((Rows.trackOrderRow.kinds == (if Rows.trackOrderRow.domain.isEmpty then [] else Tryz.f6.params.toList.map fun t => match Tryz.pinned.checked.prog.underlying t with | some (.int k) => some k | _ => none)) : Bool) = true := by kernel_rfl
theorem Tryz.jf29 : ((Rows.trackOrderRow.pinned == Rows.trackOrderRow.pinnedBy) : Bool) = true := by kernel_rfl
theorem Tryz.jf30 : ((Rows.trackOrderRow.veiled == (Tryz.f6.params.toList ++ Rows.trackOrderSpec.plain.varTypes Tryz.pinned.checked.prog ++ Tryz.f6.resultTypes.toList).any (Tryz.pinned.checked.prog.veiledRec ·)) : Bool) = true := by kernel_rfl
theorem Tryz.jf31 : (Rows.trackOrderRow.veiledFits Tryz.pinned.checked.prog Tryz.f6.params.toList (Tryz.f6.params.toList ++ Rows.trackOrderSpec.plain.varTypes Tryz.pinned.checked.prog ++ Tryz.f6.resultTypes.toList) : Bool) = true := by kernel_rfl
theorem and_i {a b : Bool} (h : a = true) (k : b = true) : (a && b) = true := by rw [h, k]; rfl
theorem Tryz.jf : joinedFacts Tryz.pinned.checked.prog 6 Tryz.f6 Rows.trackOrderSpec Rows.trackOrderRow = true := by
  unfold joinedFacts
  exact and_i (and_i (and_i (and_i (and_i (and_i (and_i (and_i (and_i (and_i (and_i (and_i (and_i (and_i (and_i (and_i (and_i (and_i (and_i (and_i (and_i (and_i (and_i (and_i (and_i (and_i (and_i (and_i (and_i (and_i (and_i (Tryz.jf0) Tryz.jf1) Tryz.jf2) Tryz.jf3) Tryz.jf4) Tryz.jf5) Tryz.jf6) Tryz.jf7) Tryz.jf8) Tryz.jf9) Tryz.jf10) Tryz.jf11) Tryz.jf12) Tryz.jf13) Tryz.jf14) Tryz.jf15) Tryz.jf16) Tryz.jf17) Tryz.jf18) Tryz.jf19) Tryz.jf20) Tryz.jf21) Tryz.jf22) Tryz.jf23) Tryz.jf24) Tryz.jf25) Tryz.jf26) Tryz.jf27) Tryz.jf28) Tryz.jf29) Tryz.jf30) Tryz.jf31
theorem Tryz.row (law : ∀ avs, PArgs 8 lawSh avs → ACalls Tryz.prog 6 avs (.bool true)) : Rows.TrackOrderSaid :=
  OpenClaim.holds_of_wide (p := Tryz.pinned) (s := Rows.trackOrderSpec) (c := Rows.trackOrderRow) 6 Tryz.f6 rfl rfl rfl rfl rfl rfl rfl ⟨rfl, rfl, rfl, rfl, rfl⟩ rfl rfl rfl rfl rfl (by kernel_rfl) Tryz.func6 Tryz.jf
    (of_decide_eq_true (by kernel_rfl)) (by unfold Func.isWrapper; first | (rw [if_pos (by decide +kernel)]; kernel_rfl) | (rw [if_neg (by decide +kernel)]; exact ⟨rfl, rfl⟩))
    (fun os started H enc _ => Tryz.lifted law os started H enc)
theorem pargs_agg {n : Nat} {L : List Sh} {r : List (Bool × List Sh)} {avs : List AV} (h : PArgs n ((true, L) :: r) avs) : ∃ cs q, avs = .agg cs :: q ∧ Fa (ShOK n) L cs ∧ PArgs n r q := by
  match avs, h with
  | _ :: q, h =>
    obtain ⟨⟨cs, rfl, h1⟩, h2⟩ := h
    exact ⟨cs, q, rfl, h1, h2⟩
  | [], h => exact h.elim
theorem pargs_int {n : Nat} {r : List (Bool × List Sh)} {avs : List AV} (h : PArgs (n + 1) ((false, [.int .i64]) :: r) avs) : ∃ z q, avs = .int .i64 z :: q ∧ inI z ∧ PArgs (n + 1) r q := by
  match avs, h with
  | _ :: q, h =>
    obtain ⟨⟨s, e, h1⟩, h2⟩ := h
    cases e
    obtain ⟨z, rfl, hz⟩ := int_inv h1
    exact ⟨z, q, rfl, hz, h2⟩
  | [], h => exact h.elim
theorem pargs_sl {n : Nat} {e : List Sh} {r : List (Bool × List Sh)} {avs : List AV} (h : PArgs n ((false, [.sl e]) :: r) avs) : ∃ z q, avs = z :: q ∧ ShOK n (.sl e) z ∧ PArgs n r q := by
  match avs, h with
  | _ :: q, h =>
    obtain ⟨⟨s, e, h1⟩, h2⟩ := h
    cases e
    exact ⟨_, q, rfl, h1, h2⟩
  | [], h => exact h.elim
theorem pargs_nil {n : Nat} {avs : List AV} (h : PArgs n [] avs) : avs = [] := by
  match avs, h with
  | [], _ => rfl
  | _ :: _, h => exact h.elim
theorem intsL_of {n : Nat} {a : AV} (h : ShOK (n + 2) (.sl [.int .i64]) a) : ∃ z : List Int, (∀ x ∈ z, inI x) ∧ a = intsA z := by
  obtain ⟨xs, rfl, h2⟩ := h
  suffices hs : ∀ l : List (List AV), (∀ x ∈ l, Fa (ShOK (n + 1)) [.int .i64] x) → ∃ z : List Int, (∀ x ∈ z, inI x) ∧ l = z.map fun h => [AV.int .i64 h] by
    obtain ⟨z, g1, g2⟩ := hs xs h2
    exact ⟨z, g1, congrArg (AV.sl .no 1) g2⟩
  intro l
  induction l with
  | nil => exact fun _ => ⟨[], by simp, rfl⟩
  | cons y r ih =>
    intro h
    obtain ⟨z, g1, rfl⟩ := ih (fun x hx => h x (List.mem_cons_of_mem _ hx))
    obtain ⟨b, q, rfl, h0, h'⟩ := Fa.cons_inv (h y List.mem_cons_self)
    obtain rfl := Fa.nil_inv h'
    obtain ⟨w, rfl, hw⟩ := int_inv h0
    exact ⟨w :: z, fun v hv => by rcases List.mem_cons.1 hv with rfl | hv; exact hw; exact g1 v hv, rfl⟩
theorem rows5_of {n : Nat} {a : AV} (h : ShOK (n + 2) (.sl [.int .i64, .int .i64, .int .i64, .int .i64, .int .i64]) a) : ∃ z : List R5, (∀ x ∈ z, inI5 x) ∧ a = .sl .no 5 (z.map row5A) := by
  obtain ⟨xs, rfl, h2⟩ := h
  suffices hs : ∀ l : List (List AV), (∀ x ∈ l, Fa (ShOK (n + 1)) [.int .i64, .int .i64, .int .i64, .int .i64, .int .i64] x) → ∃ z : List R5, (∀ x ∈ z, inI5 x) ∧ l = z.map row5A by
    obtain ⟨z, g1, g2⟩ := hs xs h2
    exact ⟨z, g1, congrArg (AV.sl .no 5) g2⟩
  intro l
  induction l with
  | nil => exact fun _ => ⟨[], by simp, rfl⟩
  | cons y r ih =>
    intro h
    obtain ⟨z, g1, rfl⟩ := ih (fun x hx => h x (List.mem_cons_of_mem _ hx))
    obtain ⟨b0, q, rfl, h0, h'⟩ := Fa.cons_inv (h y List.mem_cons_self)
    obtain ⟨b1, q, rfl, h1, h'⟩ := Fa.cons_inv h'
    obtain ⟨b2, q, rfl, h2, h'⟩ := Fa.cons_inv h'
    obtain ⟨b3, q, rfl, h3, h'⟩ := Fa.cons_inv h'
    obtain ⟨b4, q, rfl, h4, h'⟩ := Fa.cons_inv h'
    obtain rfl := Fa.nil_inv h'
    obtain ⟨z0, rfl, i0⟩ := int_inv h0
    obtain ⟨z1, rfl, i1⟩ := int_inv h1
    obtain ⟨z2, rfl, i2⟩ := int_inv h2
    obtain ⟨z3, rfl, i3⟩ := int_inv h3
    obtain ⟨z4, rfl, i4⟩ := int_inv h4
    exact ⟨⟨z0, z1, z2, z3, z4⟩ :: z, fun w hw => by rcases List.mem_cons.1 hw with rfl | hw; exact ⟨i0, i1, i2, i3, i4⟩; exact g1 w hw, rfl⟩
theorem getD_inI {l : List Int} (h : ∀ y ∈ l, inI y) (i : Nat) : inI (l.getD i 0) := by
  rw [List.getD_eq_getElem?_getD]
  cases hi : l[i]? with
  | none => show inI 0; unfold inI; omega
  | some y => exact h y (List.mem_of_getElem? hi)
theorem case_of {n : Nat} {cs : List AV} (h : Fa (ShOK (n + 2)) caseSh cs) : ∃ c : TCase, cs = caseA c := by
  obtain ⟨b0, q, rfl, h0, h⟩ := Fa.cons_inv h
  obtain ⟨b1, q, rfl, h1, h⟩ := Fa.cons_inv h
  obtain ⟨b2, q, rfl, h2, h⟩ := Fa.cons_inv h
  obtain ⟨b3, q, rfl, h3, h⟩ := Fa.cons_inv h
  obtain ⟨b4, q, rfl, h4, h⟩ := Fa.cons_inv h
  obtain ⟨b5, q, rfl, h5, h⟩ := Fa.cons_inv h
  obtain ⟨b6, q, rfl, h6, h⟩ := Fa.cons_inv h
  obtain ⟨b7, q, rfl, h7, h⟩ := Fa.cons_inv h
  obtain ⟨b8, q, rfl, h8, h⟩ := Fa.cons_inv h
  obtain ⟨b9, q, rfl, h9, h⟩ := Fa.cons_inv h
  obtain ⟨b10, q, rfl, h10, h⟩ := Fa.cons_inv h
  obtain ⟨b11, q, rfl, h11, h⟩ := Fa.cons_inv h
  obtain ⟨b12, q, rfl, h12, h⟩ := Fa.cons_inv h
  obtain ⟨b13, q, rfl, h13, h⟩ := Fa.cons_inv h
  obtain rfl := Fa.nil_inv h
  obtain ⟨z0, rfl, i0⟩ := int_inv h0
  obtain ⟨z1, rfl, i1⟩ := int_inv h1
  obtain ⟨z2, rfl, i2⟩ := int_inv h2
  obtain ⟨z3, rfl, i3⟩ := int_inv h3
  obtain ⟨z4, rfl, i4⟩ := int_inv h4
  obtain ⟨z5, rfl, i5⟩ := int_inv h5
  obtain ⟨z6, rfl, i6⟩ := int_inv h6
  obtain ⟨z7, rfl, i7⟩ := int_inv h7
  obtain ⟨z8, rfl, i8⟩ := int_inv h8
  obtain ⟨z9, rfl, i9⟩ := int_inv h9
  obtain ⟨z10, rfl, i10⟩ := int_inv h10
  obtain ⟨z, hz, rfl⟩ := rows_of h11
  obtain ⟨v, hv, rfl⟩ := rows5_of h12
  obtain ⟨f, rfl, hf⟩ := int_inv h13
  exact ⟨⟨fun i => [z0, z1, z2, z3, z4, z5, z6].getD i 0, fun i => [z7, z8, z9, z10].getD i 0, z, v, f, getD_inI (by simp [*]), getD_inI (by simp [*]), hz, hv, hf⟩, rfl⟩
end Go.Proofs
namespace Go.Proofs.YtehdegggapeihaaGreat
open Go Go.AI
theorem trackOrder : Rows.TrackOrderSaid := Tryz.row fun avs h => by
  obtain ⟨cs, q, rfl, h1, h⟩ := pargs_agg h
  obtain ⟨z1, q, rfl, i1, h⟩ := pargs_int h
  obtain rfl := pargs_nil h
  obtain ⟨c, rfl⟩ := case_of h1
  exact Go.Proofs.Tryz.x6 c z1 i1
end Go.Proofs.YtehdegggapeihaaGreat
