/- TrackMeans answers true, whatever the input; no condition. -/
import Derived.Test.YtehdegggapeihaaGreatConE
import Derived.Test.YtehdegggapeihaaGreatRows
set_option linter.unusedSectionVars false
set_option linter.unusedVariables false
set_option linter.unusedSimpArgs false
namespace Go.Proofs
open Go Go.AI
set_option maxRecDepth 10000
def updS (s : Nat → Int) (j : Nat) (v : Int) (i : Nat) : Int := if i = j then v else s i
set_option maxHeartbeats 4000000 in
theorem Tryz.y8a (c : TCase) (s : Nat → Int) (l : List Opt) (ps : List PassT) (a b : Int) (A B : List Flt) (hA : A.length ≤ 10) (hB : B.length ≤ 10)
    (k17 : ACalls Tryz.prog 17 [] (.bool true)) (k18 : ACalls Tryz.prog 18 [.agg (caseA c)] (.tup [.agg (satA s), passesA ps, optsA l, .agg (spellA a b)]))
    (kA : ACalls Tryz.prog 21 [.agg (satA s), optsA l, passesA ps, .agg (spellA a b)] (.tup [fltsA A, .int .i64 0])) (how by_ q : Int)
    (kp : ACalls Tryz.prog 20 [.int .i64 how, .int .i64 5] (.int .i64 0)) (kq : ACalls Tryz.prog 20 [.int .i64 by_, .int .i64 100] (.int .i64 q))
    (kB : ACalls Tryz.prog 21 [.agg (satA (updS s 10 (IntKind.i64.wrap (s 10 + q)))), optsA l, passesA ps, .agg (spellA a b)] (.tup [fltsA B, .int .i64 0]))
    (f1 : ∀ i, i < B.length → ACalls Tryz.prog 33 [fltsA A, .int .i64 (B.getD i flt0).k] (.bool true)) :
    ACalls Tryz.prog 8 [.agg (caseA c), .int .i64 how, .int .i64 by_] (.bool true) := by
  refine ACalls.ofB Tryz.T Tryz.func8 rfl (by kernel_rfl) Tryz.mixed (Nat.le_of_ble_eq_true rfl) ?_
  intro F n' w0 m0 hG hro h1
  repeat' first|refine Q1 ?_|refine Q2 ?_|refine Q3 hG Tryz.T Tryz.keep8 (by kernel_rfl) ?_|refine Q4 hG Tryz.T Tryz.keep8 (by kernel_rfl) ?_|refine Q5 hG Tryz.T ?_|refine Q6 hG Tryz.T ?_|refine Q7 hG Tryz.T ?_|refine Q8 hG Tryz.T ?_|refine Q9 rfl ?_|refine QF rfl ?_|refine QC rfl (And.intro (fun h => ?_) (fun h => ?_))|((conv => whnf); first|refine anF ?_|refine anT ?_|refine And.intro (by kernel_rfl) ?_|refine And.intro (fun h => ?_) (fun h => ?_)|refine Or.inl ?_|fail)
  conv => whnf
  refine Exists.intro _ (And.intro (k17) ?_)
  repeat' first|refine Q1 ?_|refine Q2 ?_|refine Q3 hG Tryz.T Tryz.keep8 (by kernel_rfl) ?_|refine Q4 hG Tryz.T Tryz.keep8 (by kernel_rfl) ?_|refine Q5 hG Tryz.T ?_|refine Q6 hG Tryz.T ?_|refine Q7 hG Tryz.T ?_|refine Q8 hG Tryz.T ?_|refine Q9 rfl ?_|refine QF rfl ?_|refine QC rfl (And.intro (fun h => ?_) (fun h => ?_))|((conv => whnf); first|refine anF ?_|refine anT ?_|refine And.intro (by kernel_rfl) ?_|refine And.intro (fun h => ?_) (fun h => ?_)|refine Or.inl ?_|fail)
  conv => whnf
  refine Exists.intro _ (And.intro (k18) ?_)
  repeat' first|refine Q1 ?_|refine Q2 ?_|refine Q3 hG Tryz.T Tryz.keep8 (by kernel_rfl) ?_|refine Q4 hG Tryz.T Tryz.keep8 (by kernel_rfl) ?_|refine Q5 hG Tryz.T ?_|refine Q6 hG Tryz.T ?_|refine Q7 hG Tryz.T ?_|refine Q8 hG Tryz.T ?_|refine Q9 rfl ?_|refine QF rfl ?_|refine QC rfl (And.intro (fun h => ?_) (fun h => ?_))|((conv => whnf); first|refine anF ?_|refine anT ?_|refine And.intro (by kernel_rfl) ?_|refine And.intro (fun h => ?_) (fun h => ?_)|refine Or.inl ?_|fail)
  conv => whnf
  refine Exists.intro _ (And.intro (kA) ?_)
  repeat' first|refine Q1 ?_|refine Q2 ?_|refine Q3 hG Tryz.T Tryz.keep8 (by kernel_rfl) ?_|refine Q4 hG Tryz.T Tryz.keep8 (by kernel_rfl) ?_|refine Q5 hG Tryz.T ?_|refine Q6 hG Tryz.T ?_|refine Q7 hG Tryz.T ?_|refine Q8 hG Tryz.T ?_|refine Q9 rfl ?_|refine QF rfl ?_|refine QC rfl (And.intro (fun h => ?_) (fun h => ?_))|((conv => whnf); first|refine anF ?_|refine anT ?_|refine And.intro (by kernel_rfl) ?_|refine And.intro (fun h => ?_) (fun h => ?_)|refine Or.inl ?_|fail)
  conv => whnf
  refine Exists.intro _ (And.intro (kp) ?_)
  repeat' first|refine Q1 ?_|refine Q2 ?_|refine Q3 hG Tryz.T Tryz.keep8 (by kernel_rfl) ?_|refine Q4 hG Tryz.T Tryz.keep8 (by kernel_rfl) ?_|refine Q5 hG Tryz.T ?_|refine Q6 hG Tryz.T ?_|refine Q7 hG Tryz.T ?_|refine Q8 hG Tryz.T ?_|refine Q9 rfl ?_|refine QF rfl ?_|refine QC rfl (And.intro (fun h => ?_) (fun h => ?_))|((conv => whnf); first|refine anF ?_|refine anT ?_|refine And.intro (by kernel_rfl) ?_|refine Exists.intro _ (And.intro (kq) ?_)|refine Exists.intro _ (And.intro (kB) ?_)|refine And.intro (fun h => ?_) (fun h => ?_)|refine Or.inl ?_|fail)
  refine SPB.loop (X := Nat) (fun x => ⟨[(16, .int .i64 x), (14, fltsA B), (11, fltsA A)], []⟩) (fun x => x ≤ B.length) (fun x => B.length - x) 0 (Nat.zero_le _) (St.le.of ?_ ?_) (fun x hx => ?_)
  · repeat' (first | exact trivial | refine And.intro rfl ?_)
  · repeat' (first | exact trivial | refine And.intro rfl ?_)
  · rename Nat => i
    have hi := hx
    by_cases hlt_i : i < B.length
    · have bbk : decide ((i : Int) < ((B.map fltA).length : Int)) = false → False := fun h => by have := of_decide_eq_false h; simp at this; omega
      have hx := row_at (f := fltA) flt0 hlt_i
      have g1 := f1 i hlt_i
      generalize B.getD i flt0 = u at *
      repeat' first|exact (bbk (by assumption)).elim|refine Q1 ?_|refine Q2 ?_|refine Q3 hG Tryz.T Tryz.keep8 (by kernel_rfl) ?_|refine Q4 hG Tryz.T Tryz.keep8 (by kernel_rfl) ?_|refine Q5 hG Tryz.T ?_|refine Q6 hG Tryz.T ?_|refine Q7 hG Tryz.T ?_|refine Q8 hG Tryz.T ?_|refine Q9 rfl ?_|refine QF rfl ?_|refine QC rfl (And.intro (fun h => ?_) (fun h => ?_))|((conv => whnf); first|refine anF ?_|refine anT ?_|refine And.intro (by kernel_rfl) ?_|refine And.intro (Int.natCast_nonneg i) (Exists.intro _ (And.intro hx ?_))|refine Exists.intro _ (And.intro (g1) ?_)|refine And.intro (fun h => ?_) (fun h => ?_)|refine Or.inl ?_|fail)
      refine Exists.intro (i + 1) (And.intro hlt_i (And.intro (by omega) (St.le.of ?_ ?_)))
      · refine And.intro (congrArg some (le_next (by omega))) ?_
        repeat' (first | exact trivial | refine And.intro rfl ?_)
      · repeat' (first | exact trivial | refine And.intro rfl ?_)
    · have bbk : decide ((i : Int) < ((B.map fltA).length : Int)) = true → False := fun h => by have := of_decide_eq_true h; simp at this; omega
      repeat' first|exact (bbk (by assumption)).elim|refine Q1 ?_|refine Q2 ?_|refine Q3 hG Tryz.T Tryz.keep8 (by kernel_rfl) ?_|refine Q4 hG Tryz.T Tryz.keep8 (by kernel_rfl) ?_|refine Q5 hG Tryz.T ?_|refine Q6 hG Tryz.T ?_|refine Q7 hG Tryz.T ?_|refine Q8 hG Tryz.T ?_|refine Q9 rfl ?_|refine QF rfl ?_|refine QC rfl (And.intro (fun h => ?_) (fun h => ?_))|((conv => whnf); first|refine anF ?_|refine anT ?_|refine And.intro (by kernel_rfl) ?_|refine And.intro (fun h => ?_) (fun h => ?_)|refine Or.inl ?_|fail)
      exact Ends.mk (Or.inl rfl) (AV.weak.of_eq rfl)
set_option maxHeartbeats 4000000 in
theorem Tryz.y8b (c : TCase) (s : Nat → Int) (l : List Opt) (ps : List PassT) (a b : Int) (A B : List Flt) (hA : A.length ≤ 10) (hB : B.length ≤ 10)
    (k17 : ACalls Tryz.prog 17 [] (.bool true)) (k18 : ACalls Tryz.prog 18 [.agg (caseA c)] (.tup [.agg (satA s), passesA ps, optsA l, .agg (spellA a b)]))
    (kA : ACalls Tryz.prog 21 [.agg (satA s), optsA l, passesA ps, .agg (spellA a b)] (.tup [fltsA A, .int .i64 0])) (how by_ q : Int)
    (kp : ACalls Tryz.prog 20 [.int .i64 how, .int .i64 5] (.int .i64 1)) (kq : ACalls Tryz.prog 20 [.int .i64 by_, .int .i64 1000] (.int .i64 q))
    (kB : ACalls Tryz.prog 21 [.agg (satA (updS s 11 (IntKind.i64.wrap (s 11 + q)))), optsA l, passesA ps, .agg (spellA a b)] (.tup [fltsA B, .int .i64 0]))
    (f1 : ∀ i, i < B.length → ACalls Tryz.prog 33 [fltsA A, .int .i64 (B.getD i flt0).k] (.bool true)) :
    ACalls Tryz.prog 8 [.agg (caseA c), .int .i64 how, .int .i64 by_] (.bool true) := by
  refine ACalls.ofB Tryz.T Tryz.func8 rfl (by kernel_rfl) Tryz.mixed (Nat.le_of_ble_eq_true rfl) ?_
  intro F n' w0 m0 hG hro h1
  repeat' first|refine Q1 ?_|refine Q2 ?_|refine Q3 hG Tryz.T Tryz.keep8 (by kernel_rfl) ?_|refine Q4 hG Tryz.T Tryz.keep8 (by kernel_rfl) ?_|refine Q5 hG Tryz.T ?_|refine Q6 hG Tryz.T ?_|refine Q7 hG Tryz.T ?_|refine Q8 hG Tryz.T ?_|refine Q9 rfl ?_|refine QF rfl ?_|refine QC rfl (And.intro (fun h => ?_) (fun h => ?_))|((conv => whnf); first|refine anF ?_|refine anT ?_|refine And.intro (by kernel_rfl) ?_|refine And.intro (fun h => ?_) (fun h => ?_)|refine Or.inl ?_|fail)
  conv => whnf
  refine Exists.intro _ (And.intro (k17) ?_)
  repeat' first|refine Q1 ?_|refine Q2 ?_|refine Q3 hG Tryz.T Tryz.keep8 (by kernel_rfl) ?_|refine Q4 hG Tryz.T Tryz.keep8 (by kernel_rfl) ?_|refine Q5 hG Tryz.T ?_|refine Q6 hG Tryz.T ?_|refine Q7 hG Tryz.T ?_|refine Q8 hG Tryz.T ?_|refine Q9 rfl ?_|refine QF rfl ?_|refine QC rfl (And.intro (fun h => ?_) (fun h => ?_))|((conv => whnf); first|refine anF ?_|refine anT ?_|refine And.intro (by kernel_rfl) ?_|refine And.intro (fun h => ?_) (fun h => ?_)|refine Or.inl ?_|fail)
  conv => whnf
  refine Exists.intro _ (And.intro (k18) ?_)
  repeat' first|refine Q1 ?_|refine Q2 ?_|refine Q3 hG Tryz.T Tryz.keep8 (by kernel_rfl) ?_|refine Q4 hG Tryz.T Tryz.keep8 (by kernel_rfl) ?_|refine Q5 hG Tryz.T ?_|refine Q6 hG Tryz.T ?_|refine Q7 hG Tryz.T ?_|refine Q8 hG Tryz.T ?_|refine Q9 rfl ?_|refine QF rfl ?_|refine QC rfl (And.intro (fun h => ?_) (fun h => ?_))|((conv => whnf); first|refine anF ?_|refine anT ?_|refine And.intro (by kernel_rfl) ?_|refine And.intro (fun h => ?_) (fun h => ?_)|refine Or.inl ?_|fail)
  conv => whnf
  refine Exists.intro _ (And.intro (kA) ?_)
  repeat' first|refine Q1 ?_|refine Q2 ?_|refine Q3 hG Tryz.T Tryz.keep8 (by kernel_rfl) ?_|refine Q4 hG Tryz.T Tryz.keep8 (by kernel_rfl) ?_|refine Q5 hG Tryz.T ?_|refine Q6 hG Tryz.T ?_|refine Q7 hG Tryz.T ?_|refine Q8 hG Tryz.T ?_|refine Q9 rfl ?_|refine QF rfl ?_|refine QC rfl (And.intro (fun h => ?_) (fun h => ?_))|((conv => whnf); first|refine anF ?_|refine anT ?_|refine And.intro (by kernel_rfl) ?_|refine And.intro (fun h => ?_) (fun h => ?_)|refine Or.inl ?_|fail)
  conv => whnf
  refine Exists.intro _ (And.intro (kp) ?_)
  repeat' first|refine Q1 ?_|refine Q2 ?_|refine Q3 hG Tryz.T Tryz.keep8 (by kernel_rfl) ?_|refine Q4 hG Tryz.T Tryz.keep8 (by kernel_rfl) ?_|refine Q5 hG Tryz.T ?_|refine Q6 hG Tryz.T ?_|refine Q7 hG Tryz.T ?_|refine Q8 hG Tryz.T ?_|refine Q9 rfl ?_|refine QF rfl ?_|refine QC rfl (And.intro (fun h => ?_) (fun h => ?_))|((conv => whnf); first|refine anF ?_|refine anT ?_|refine And.intro (by kernel_rfl) ?_|refine Exists.intro _ (And.intro (kq) ?_)|refine Exists.intro _ (And.intro (kB) ?_)|refine And.intro (fun h => ?_) (fun h => ?_)|refine Or.inl ?_|fail)
  refine SPB.loop (X := Nat) (fun x => ⟨[(16, .int .i64 x), (14, fltsA B), (11, fltsA A)], []⟩) (fun x => x ≤ B.length) (fun x => B.length - x) 0 (Nat.zero_le _) (St.le.of ?_ ?_) (fun x hx => ?_)
  · repeat' (first | exact trivial | refine And.intro rfl ?_)
  · repeat' (first | exact trivial | refine And.intro rfl ?_)
  · rename Nat => i
    have hi := hx
    by_cases hlt_i : i < B.length
    · have bbk : decide ((i : Int) < ((B.map fltA).length : Int)) = false → False := fun h => by have := of_decide_eq_false h; simp at this; omega
      have hx := row_at (f := fltA) flt0 hlt_i
      have g1 := f1 i hlt_i
      generalize B.getD i flt0 = u at *
      repeat' first|exact (bbk (by assumption)).elim|refine Q1 ?_|refine Q2 ?_|refine Q3 hG Tryz.T Tryz.keep8 (by kernel_rfl) ?_|refine Q4 hG Tryz.T Tryz.keep8 (by kernel_rfl) ?_|refine Q5 hG Tryz.T ?_|refine Q6 hG Tryz.T ?_|refine Q7 hG Tryz.T ?_|refine Q8 hG Tryz.T ?_|refine Q9 rfl ?_|refine QF rfl ?_|refine QC rfl (And.intro (fun h => ?_) (fun h => ?_))|((conv => whnf); first|refine anF ?_|refine anT ?_|refine And.intro (by kernel_rfl) ?_|refine And.intro (Int.natCast_nonneg i) (Exists.intro _ (And.intro hx ?_))|refine Exists.intro _ (And.intro (g1) ?_)|refine And.intro (fun h => ?_) (fun h => ?_)|refine Or.inl ?_|fail)
      refine Exists.intro (i + 1) (And.intro hlt_i (And.intro (by omega) (St.le.of ?_ ?_)))
      · refine And.intro (congrArg some (le_next (by omega))) ?_
        repeat' (first | exact trivial | refine And.intro rfl ?_)
      · repeat' (first | exact trivial | refine And.intro rfl ?_)
    · have bbk : decide ((i : Int) < ((B.map fltA).length : Int)) = true → False := fun h => by have := of_decide_eq_true h; simp at this; omega
      repeat' first|exact (bbk (by assumption)).elim|refine Q1 ?_|refine Q2 ?_|refine Q3 hG Tryz.T Tryz.keep8 (by kernel_rfl) ?_|refine Q4 hG Tryz.T Tryz.keep8 (by kernel_rfl) ?_|refine Q5 hG Tryz.T ?_|refine Q6 hG Tryz.T ?_|refine Q7 hG Tryz.T ?_|refine Q8 hG Tryz.T ?_|refine Q9 rfl ?_|refine QF rfl ?_|refine QC rfl (And.intro (fun h => ?_) (fun h => ?_))|((conv => whnf); first|refine anF ?_|refine anT ?_|refine And.intro (by kernel_rfl) ?_|refine And.intro (fun h => ?_) (fun h => ?_)|refine Or.inl ?_|fail)
      exact Ends.mk (Or.inl rfl) (AV.weak.of_eq rfl)
set_option maxHeartbeats 4000000 in
theorem Tryz.y8c (c : TCase) (s : Nat → Int) (l : List Opt) (ps : List PassT) (a b : Int) (A B : List Flt) (hA : A.length ≤ 10) (hB : B.length ≤ 10)
    (k17 : ACalls Tryz.prog 17 [] (.bool true)) (k18 : ACalls Tryz.prog 18 [.agg (caseA c)] (.tup [.agg (satA s), passesA ps, optsA l, .agg (spellA a b)]))
    (kA : ACalls Tryz.prog 21 [.agg (satA s), optsA l, passesA ps, .agg (spellA a b)] (.tup [fltsA A, .int .i64 0])) (how by_ q : Int)
    (kp : ACalls Tryz.prog 20 [.int .i64 how, .int .i64 5] (.int .i64 2)) (kq : ACalls Tryz.prog 20 [.int .i64 by_, .int .i64 100] (.int .i64 q))
    (kB : ACalls Tryz.prog 21 [.agg (satA (updS s 18 (IntKind.i64.wrap (s 18 + q)))), optsA l, passesA ps, .agg (spellA a b)] (.tup [fltsA B, .int .i64 0]))
    (f1 : ∀ i, i < B.length → ACalls Tryz.prog 33 [fltsA A, .int .i64 (B.getD i flt0).k] (.bool true)) :
    ACalls Tryz.prog 8 [.agg (caseA c), .int .i64 how, .int .i64 by_] (.bool true) := by
  refine ACalls.ofB Tryz.T Tryz.func8 rfl (by kernel_rfl) Tryz.mixed (Nat.le_of_ble_eq_true rfl) ?_
  intro F n' w0 m0 hG hro h1
  repeat' first|refine Q1 ?_|refine Q2 ?_|refine Q3 hG Tryz.T Tryz.keep8 (by kernel_rfl) ?_|refine Q4 hG Tryz.T Tryz.keep8 (by kernel_rfl) ?_|refine Q5 hG Tryz.T ?_|refine Q6 hG Tryz.T ?_|refine Q7 hG Tryz.T ?_|refine Q8 hG Tryz.T ?_|refine Q9 rfl ?_|refine QF rfl ?_|refine QC rfl (And.intro (fun h => ?_) (fun h => ?_))|((conv => whnf); first|refine anF ?_|refine anT ?_|refine And.intro (by kernel_rfl) ?_|refine And.intro (fun h => ?_) (fun h => ?_)|refine Or.inl ?_|fail)
  conv => whnf
  refine Exists.intro _ (And.intro (k17) ?_)
  repeat' first|refine Q1 ?_|refine Q2 ?_|refine Q3 hG Tryz.T Tryz.keep8 (by kernel_rfl) ?_|refine Q4 hG Tryz.T Tryz.keep8 (by kernel_rfl) ?_|refine Q5 hG Tryz.T ?_|refine Q6 hG Tryz.T ?_|refine Q7 hG Tryz.T ?_|refine Q8 hG Tryz.T ?_|refine Q9 rfl ?_|refine QF rfl ?_|refine QC rfl (And.intro (fun h => ?_) (fun h => ?_))|((conv => whnf); first|refine anF ?_|refine anT ?_|refine And.intro (by kernel_rfl) ?_|refine And.intro (fun h => ?_) (fun h => ?_)|refine Or.inl ?_|fail)
  conv => whnf
  refine Exists.intro _ (And.intro (k18) ?_)
  repeat' first|refine Q1 ?_|refine Q2 ?_|refine Q3 hG Tryz.T Tryz.keep8 (by kernel_rfl) ?_|refine Q4 hG Tryz.T Tryz.keep8 (by kernel_rfl) ?_|refine Q5 hG Tryz.T ?_|refine Q6 hG Tryz.T ?_|refine Q7 hG Tryz.T ?_|refine Q8 hG Tryz.T ?_|refine Q9 rfl ?_|refine QF rfl ?_|refine QC rfl (And.intro (fun h => ?_) (fun h => ?_))|((conv => whnf); first|refine anF ?_|refine anT ?_|refine And.intro (by kernel_rfl) ?_|refine And.intro (fun h => ?_) (fun h => ?_)|refine Or.inl ?_|fail)
  conv => whnf
  refine Exists.intro _ (And.intro (kA) ?_)
  repeat' first|refine Q1 ?_|refine Q2 ?_|refine Q3 hG Tryz.T Tryz.keep8 (by kernel_rfl) ?_|refine Q4 hG Tryz.T Tryz.keep8 (by kernel_rfl) ?_|refine Q5 hG Tryz.T ?_|refine Q6 hG Tryz.T ?_|refine Q7 hG Tryz.T ?_|refine Q8 hG Tryz.T ?_|refine Q9 rfl ?_|refine QF rfl ?_|refine QC rfl (And.intro (fun h => ?_) (fun h => ?_))|((conv => whnf); first|refine anF ?_|refine anT ?_|refine And.intro (by kernel_rfl) ?_|refine And.intro (fun h => ?_) (fun h => ?_)|refine Or.inl ?_|fail)
  conv => whnf
  refine Exists.intro _ (And.intro (kp) ?_)
  repeat' first|refine Q1 ?_|refine Q2 ?_|refine Q3 hG Tryz.T Tryz.keep8 (by kernel_rfl) ?_|refine Q4 hG Tryz.T Tryz.keep8 (by kernel_rfl) ?_|refine Q5 hG Tryz.T ?_|refine Q6 hG Tryz.T ?_|refine Q7 hG Tryz.T ?_|refine Q8 hG Tryz.T ?_|refine Q9 rfl ?_|refine QF rfl ?_|refine QC rfl (And.intro (fun h => ?_) (fun h => ?_))|((conv => whnf); first|refine anF ?_|refine anT ?_|refine And.intro (by kernel_rfl) ?_|refine Exists.intro _ (And.intro (kq) ?_)|refine Exists.intro _ (And.intro (kB) ?_)|refine And.intro (fun h => ?_) (fun h => ?_)|refine Or.inl ?_|fail)
  refine SPB.loop (X := Nat) (fun x => ⟨[(16, .int .i64 x), (14, fltsA B), (11, fltsA A)], []⟩) (fun x => x ≤ B.length) (fun x => B.length - x) 0 (Nat.zero_le _) (St.le.of ?_ ?_) (fun x hx => ?_)
  · repeat' (first | exact trivial | refine And.intro rfl ?_)
  · repeat' (first | exact trivial | refine And.intro rfl ?_)
  · rename Nat => i
    have hi := hx
    by_cases hlt_i : i < B.length
    · have bbk : decide ((i : Int) < ((B.map fltA).length : Int)) = false → False := fun h => by have := of_decide_eq_false h; simp at this; omega
      have hx := row_at (f := fltA) flt0 hlt_i
      have g1 := f1 i hlt_i
      generalize B.getD i flt0 = u at *
      repeat' first|exact (bbk (by assumption)).elim|refine Q1 ?_|refine Q2 ?_|refine Q3 hG Tryz.T Tryz.keep8 (by kernel_rfl) ?_|refine Q4 hG Tryz.T Tryz.keep8 (by kernel_rfl) ?_|refine Q5 hG Tryz.T ?_|refine Q6 hG Tryz.T ?_|refine Q7 hG Tryz.T ?_|refine Q8 hG Tryz.T ?_|refine Q9 rfl ?_|refine QF rfl ?_|refine QC rfl (And.intro (fun h => ?_) (fun h => ?_))|((conv => whnf); first|refine anF ?_|refine anT ?_|refine And.intro (by kernel_rfl) ?_|refine And.intro (Int.natCast_nonneg i) (Exists.intro _ (And.intro hx ?_))|refine Exists.intro _ (And.intro (g1) ?_)|refine And.intro (fun h => ?_) (fun h => ?_)|refine Or.inl ?_|fail)
      refine Exists.intro (i + 1) (And.intro hlt_i (And.intro (by omega) (St.le.of ?_ ?_)))
      · refine And.intro (congrArg some (le_next (by omega))) ?_
        repeat' (first | exact trivial | refine And.intro rfl ?_)
      · repeat' (first | exact trivial | refine And.intro rfl ?_)
    · have bbk : decide ((i : Int) < ((B.map fltA).length : Int)) = true → False := fun h => by have := of_decide_eq_true h; simp at this; omega
      repeat' first|exact (bbk (by assumption)).elim|refine Q1 ?_|refine Q2 ?_|refine Q3 hG Tryz.T Tryz.keep8 (by kernel_rfl) ?_|refine Q4 hG Tryz.T Tryz.keep8 (by kernel_rfl) ?_|refine Q5 hG Tryz.T ?_|refine Q6 hG Tryz.T ?_|refine Q7 hG Tryz.T ?_|refine Q8 hG Tryz.T ?_|refine Q9 rfl ?_|refine QF rfl ?_|refine QC rfl (And.intro (fun h => ?_) (fun h => ?_))|((conv => whnf); first|refine anF ?_|refine anT ?_|refine And.intro (by kernel_rfl) ?_|refine And.intro (fun h => ?_) (fun h => ?_)|refine Or.inl ?_|fail)
      exact Ends.mk (Or.inl rfl) (AV.weak.of_eq rfl)
set_option maxHeartbeats 4000000 in
theorem Tryz.y8d (c : TCase) (s : Nat → Int) (l : List Opt) (ps : List PassT) (a b : Int) (A B : List Flt) (hA : A.length ≤ 10) (hB : B.length ≤ 10)
    (k17 : ACalls Tryz.prog 17 [] (.bool true)) (k18 : ACalls Tryz.prog 18 [.agg (caseA c)] (.tup [.agg (satA s), passesA ps, optsA l, .agg (spellA a b)]))
    (kA : ACalls Tryz.prog 21 [.agg (satA s), optsA l, passesA ps, .agg (spellA a b)] (.tup [fltsA A, .int .i64 0])) (how by_ q : Int)
    (kp : ACalls Tryz.prog 20 [.int .i64 how, .int .i64 5] (.int .i64 3)) (kq : ACalls Tryz.prog 20 [.int .i64 by_, .int .i64 (IntKind.i64.wrap (s 19 + 1))] (.int .i64 q))
    (kB : ACalls Tryz.prog 21 [.agg (satA (updS s 19 (IntKind.i64.wrap (s 19 - q)))), optsA l, passesA ps, .agg (spellA a b)] (.tup [fltsA B, .int .i64 0]))
    (f1 : ∀ i, i < B.length → ACalls Tryz.prog 33 [fltsA A, .int .i64 (B.getD i flt0).k] (.bool true)) :
    ACalls Tryz.prog 8 [.agg (caseA c), .int .i64 how, .int .i64 by_] (.bool true) := by
  refine ACalls.ofB Tryz.T Tryz.func8 rfl (by kernel_rfl) Tryz.mixed (Nat.le_of_ble_eq_true rfl) ?_
  intro F n' w0 m0 hG hro h1
  repeat' first|refine Q1 ?_|refine Q2 ?_|refine Q3 hG Tryz.T Tryz.keep8 (by kernel_rfl) ?_|refine Q4 hG Tryz.T Tryz.keep8 (by kernel_rfl) ?_|refine Q5 hG Tryz.T ?_|refine Q6 hG Tryz.T ?_|refine Q7 hG Tryz.T ?_|refine Q8 hG Tryz.T ?_|refine Q9 rfl ?_|refine QF rfl ?_|refine QC rfl (And.intro (fun h => ?_) (fun h => ?_))|((conv => whnf); first|refine anF ?_|refine anT ?_|refine And.intro (by kernel_rfl) ?_|refine And.intro (fun h => ?_) (fun h => ?_)|refine Or.inl ?_|fail)
  conv => whnf
  refine Exists.intro _ (And.intro (k17) ?_)
  repeat' first|refine Q1 ?_|refine Q2 ?_|refine Q3 hG Tryz.T Tryz.keep8 (by kernel_rfl) ?_|refine Q4 hG Tryz.T Tryz.keep8 (by kernel_rfl) ?_|refine Q5 hG Tryz.T ?_|refine Q6 hG Tryz.T ?_|refine Q7 hG Tryz.T ?_|refine Q8 hG Tryz.T ?_|refine Q9 rfl ?_|refine QF rfl ?_|refine QC rfl (And.intro (fun h => ?_) (fun h => ?_))|((conv => whnf); first|refine anF ?_|refine anT ?_|refine And.intro (by kernel_rfl) ?_|refine And.intro (fun h => ?_) (fun h => ?_)|refine Or.inl ?_|fail)
  conv => whnf
  refine Exists.intro _ (And.intro (k18) ?_)
  repeat' first|refine Q1 ?_|refine Q2 ?_|refine Q3 hG Tryz.T Tryz.keep8 (by kernel_rfl) ?_|refine Q4 hG Tryz.T Tryz.keep8 (by kernel_rfl) ?_|refine Q5 hG Tryz.T ?_|refine Q6 hG Tryz.T ?_|refine Q7 hG Tryz.T ?_|refine Q8 hG Tryz.T ?_|refine Q9 rfl ?_|refine QF rfl ?_|refine QC rfl (And.intro (fun h => ?_) (fun h => ?_))|((conv => whnf); first|refine anF ?_|refine anT ?_|refine And.intro (by kernel_rfl) ?_|refine And.intro (fun h => ?_) (fun h => ?_)|refine Or.inl ?_|fail)
  conv => whnf
  refine Exists.intro _ (And.intro (kA) ?_)
  repeat' first|refine Q1 ?_|refine Q2 ?_|refine Q3 hG Tryz.T Tryz.keep8 (by kernel_rfl) ?_|refine Q4 hG Tryz.T Tryz.keep8 (by kernel_rfl) ?_|refine Q5 hG Tryz.T ?_|refine Q6 hG Tryz.T ?_|refine Q7 hG Tryz.T ?_|refine Q8 hG Tryz.T ?_|refine Q9 rfl ?_|refine QF rfl ?_|refine QC rfl (And.intro (fun h => ?_) (fun h => ?_))|((conv => whnf); first|refine anF ?_|refine anT ?_|refine And.intro (by kernel_rfl) ?_|refine And.intro (fun h => ?_) (fun h => ?_)|refine Or.inl ?_|fail)
  conv => whnf
  refine Exists.intro _ (And.intro (kp) ?_)
  repeat' first|refine Q1 ?_|refine Q2 ?_|refine Q3 hG Tryz.T Tryz.keep8 (by kernel_rfl) ?_|refine Q4 hG Tryz.T Tryz.keep8 (by kernel_rfl) ?_|refine Q5 hG Tryz.T ?_|refine Q6 hG Tryz.T ?_|refine Q7 hG Tryz.T ?_|refine Q8 hG Tryz.T ?_|refine Q9 rfl ?_|refine QF rfl ?_|refine QC rfl (And.intro (fun h => ?_) (fun h => ?_))|((conv => whnf); first|refine anF ?_|refine anT ?_|refine And.intro (by kernel_rfl) ?_|refine Exists.intro _ (And.intro (kq) ?_)|refine Exists.intro _ (And.intro (kB) ?_)|refine And.intro (fun h => ?_) (fun h => ?_)|refine Or.inl ?_|fail)
  refine SPB.loop (X := Nat) (fun x => ⟨[(16, .int .i64 x), (14, fltsA B), (11, fltsA A)], []⟩) (fun x => x ≤ B.length) (fun x => B.length - x) 0 (Nat.zero_le _) (St.le.of ?_ ?_) (fun x hx => ?_)
  · repeat' (first | exact trivial | refine And.intro rfl ?_)
  · repeat' (first | exact trivial | refine And.intro rfl ?_)
  · rename Nat => i
    have hi := hx
    by_cases hlt_i : i < B.length
    · have bbk : decide ((i : Int) < ((B.map fltA).length : Int)) = false → False := fun h => by have := of_decide_eq_false h; simp at this; omega
      have hx := row_at (f := fltA) flt0 hlt_i
      have g1 := f1 i hlt_i
      generalize B.getD i flt0 = u at *
      repeat' first|exact (bbk (by assumption)).elim|refine Q1 ?_|refine Q2 ?_|refine Q3 hG Tryz.T Tryz.keep8 (by kernel_rfl) ?_|refine Q4 hG Tryz.T Tryz.keep8 (by kernel_rfl) ?_|refine Q5 hG Tryz.T ?_|refine Q6 hG Tryz.T ?_|refine Q7 hG Tryz.T ?_|refine Q8 hG Tryz.T ?_|refine Q9 rfl ?_|refine QF rfl ?_|refine QC rfl (And.intro (fun h => ?_) (fun h => ?_))|((conv => whnf); first|refine anF ?_|refine anT ?_|refine And.intro (by kernel_rfl) ?_|refine And.intro (Int.natCast_nonneg i) (Exists.intro _ (And.intro hx ?_))|refine Exists.intro _ (And.intro (g1) ?_)|refine And.intro (fun h => ?_) (fun h => ?_)|refine Or.inl ?_|fail)
      refine Exists.intro (i + 1) (And.intro hlt_i (And.intro (by omega) (St.le.of ?_ ?_)))
      · refine And.intro (congrArg some (le_next (by omega))) ?_
        repeat' (first | exact trivial | refine And.intro rfl ?_)
      · repeat' (first | exact trivial | refine And.intro rfl ?_)
    · have bbk : decide ((i : Int) < ((B.map fltA).length : Int)) = true → False := fun h => by have := of_decide_eq_true h; simp at this; omega
      repeat' first|exact (bbk (by assumption)).elim|refine Q1 ?_|refine Q2 ?_|refine Q3 hG Tryz.T Tryz.keep8 (by kernel_rfl) ?_|refine Q4 hG Tryz.T Tryz.keep8 (by kernel_rfl) ?_|refine Q5 hG Tryz.T ?_|refine Q6 hG Tryz.T ?_|refine Q7 hG Tryz.T ?_|refine Q8 hG Tryz.T ?_|refine Q9 rfl ?_|refine QF rfl ?_|refine QC rfl (And.intro (fun h => ?_) (fun h => ?_))|((conv => whnf); first|refine anF ?_|refine anT ?_|refine And.intro (by kernel_rfl) ?_|refine And.intro (fun h => ?_) (fun h => ?_)|refine Or.inl ?_|fail)
      exact Ends.mk (Or.inl rfl) (AV.weak.of_eq rfl)
set_option maxHeartbeats 4000000 in
theorem Tryz.y8e (c : TCase) (s : Nat → Int) (l : List Opt) (ps : List PassT) (a b : Int) (A B : List Flt) (hA : A.length ≤ 10) (hB : B.length ≤ 10)
    (k17 : ACalls Tryz.prog 17 [] (.bool true)) (k18 : ACalls Tryz.prog 18 [.agg (caseA c)] (.tup [.agg (satA s), passesA ps, optsA l, .agg (spellA a b)]))
    (kA : ACalls Tryz.prog 21 [.agg (satA s), optsA l, passesA ps, .agg (spellA a b)] (.tup [fltsA A, .int .i64 0])) (how by_ q : Int)
    (kp : ACalls Tryz.prog 20 [.int .i64 how, .int .i64 5] (.int .i64 4)) (kq : ACalls Tryz.prog 20 [.int .i64 by_, .int .i64 9] (.int .i64 q))
    (kB : ACalls Tryz.prog 21 [.agg (satA (updS s 17 (IntKind.i64.wrap (s 17 + q)))), optsA l, passesA ps, .agg (spellA a b)] (.tup [fltsA B, .int .i64 0]))
    (f1 : ∀ i, i < B.length → ACalls Tryz.prog 33 [fltsA A, .int .i64 (B.getD i flt0).k] (.bool true)) :
    ACalls Tryz.prog 8 [.agg (caseA c), .int .i64 how, .int .i64 by_] (.bool true) := by
  refine ACalls.ofB Tryz.T Tryz.func8 rfl (by kernel_rfl) Tryz.mixed (Nat.le_of_ble_eq_true rfl) ?_
  intro F n' w0 m0 hG hro h1
  repeat' first|refine Q1 ?_|refine Q2 ?_|refine Q3 hG Tryz.T Tryz.keep8 (by kernel_rfl) ?_|refine Q4 hG Tryz.T Tryz.keep8 (by kernel_rfl) ?_|refine Q5 hG Tryz.T ?_|refine Q6 hG Tryz.T ?_|refine Q7 hG Tryz.T ?_|refine Q8 hG Tryz.T ?_|refine Q9 rfl ?_|refine QF rfl ?_|refine QC rfl (And.intro (fun h => ?_) (fun h => ?_))|((conv => whnf); first|refine anF ?_|refine anT ?_|refine And.intro (by kernel_rfl) ?_|refine And.intro (fun h => ?_) (fun h => ?_)|refine Or.inl ?_|fail)
  conv => whnf
  refine Exists.intro _ (And.intro (k17) ?_)
  repeat' first|refine Q1 ?_|refine Q2 ?_|refine Q3 hG Tryz.T Tryz.keep8 (by kernel_rfl) ?_|refine Q4 hG Tryz.T Tryz.keep8 (by kernel_rfl) ?_|refine Q5 hG Tryz.T ?_|refine Q6 hG Tryz.T ?_|refine Q7 hG Tryz.T ?_|refine Q8 hG Tryz.T ?_|refine Q9 rfl ?_|refine QF rfl ?_|refine QC rfl (And.intro (fun h => ?_) (fun h => ?_))|((conv => whnf); first|refine anF ?_|refine anT ?_|refine And.intro (by kernel_rfl) ?_|refine And.intro (fun h => ?_) (fun h => ?_)|refine Or.inl ?_|fail)
  conv => whnf
  refine Exists.intro _ (And.intro (k18) ?_)
  repeat' first|refine Q1 ?_|refine Q2 ?_|refine Q3 hG Tryz.T Tryz.keep8 (by kernel_rfl) ?_|refine Q4 hG Tryz.T Tryz.keep8 (by kernel_rfl) ?_|refine Q5 hG Tryz.T ?_|refine Q6 hG Tryz.T ?_|refine Q7 hG Tryz.T ?_|refine Q8 hG Tryz.T ?_|refine Q9 rfl ?_|refine QF rfl ?_|refine QC rfl (And.intro (fun h => ?_) (fun h => ?_))|((conv => whnf); first|refine anF ?_|refine anT ?_|refine And.intro (by kernel_rfl) ?_|refine And.intro (fun h => ?_) (fun h => ?_)|refine Or.inl ?_|fail)
  conv => whnf
  refine Exists.intro _ (And.intro (kA) ?_)
  repeat' first|refine Q1 ?_|refine Q2 ?_|refine Q3 hG Tryz.T Tryz.keep8 (by kernel_rfl) ?_|refine Q4 hG Tryz.T Tryz.keep8 (by kernel_rfl) ?_|refine Q5 hG Tryz.T ?_|refine Q6 hG Tryz.T ?_|refine Q7 hG Tryz.T ?_|refine Q8 hG Tryz.T ?_|refine Q9 rfl ?_|refine QF rfl ?_|refine QC rfl (And.intro (fun h => ?_) (fun h => ?_))|((conv => whnf); first|refine anF ?_|refine anT ?_|refine And.intro (by kernel_rfl) ?_|refine And.intro (fun h => ?_) (fun h => ?_)|refine Or.inl ?_|fail)
  conv => whnf
  refine Exists.intro _ (And.intro (kp) ?_)
  repeat' first|refine Q1 ?_|refine Q2 ?_|refine Q3 hG Tryz.T Tryz.keep8 (by kernel_rfl) ?_|refine Q4 hG Tryz.T Tryz.keep8 (by kernel_rfl) ?_|refine Q5 hG Tryz.T ?_|refine Q6 hG Tryz.T ?_|refine Q7 hG Tryz.T ?_|refine Q8 hG Tryz.T ?_|refine Q9 rfl ?_|refine QF rfl ?_|refine QC rfl (And.intro (fun h => ?_) (fun h => ?_))|((conv => whnf); first|refine anF ?_|refine anT ?_|refine And.intro (by kernel_rfl) ?_|refine Exists.intro _ (And.intro (kq) ?_)|refine Exists.intro _ (And.intro (kB) ?_)|refine And.intro (fun h => ?_) (fun h => ?_)|refine Or.inl ?_|fail)
  refine SPB.loop (X := Nat) (fun x => ⟨[(16, .int .i64 x), (14, fltsA B), (11, fltsA A)], []⟩) (fun x => x ≤ B.length) (fun x => B.length - x) 0 (Nat.zero_le _) (St.le.of ?_ ?_) (fun x hx => ?_)
  · repeat' (first | exact trivial | refine And.intro rfl ?_)
  · repeat' (first | exact trivial | refine And.intro rfl ?_)
  · rename Nat => i
    have hi := hx
    by_cases hlt_i : i < B.length
    · have bbk : decide ((i : Int) < ((B.map fltA).length : Int)) = false → False := fun h => by have := of_decide_eq_false h; simp at this; omega
      have hx := row_at (f := fltA) flt0 hlt_i
      have g1 := f1 i hlt_i
      generalize B.getD i flt0 = u at *
      repeat' first|exact (bbk (by assumption)).elim|refine Q1 ?_|refine Q2 ?_|refine Q3 hG Tryz.T Tryz.keep8 (by kernel_rfl) ?_|refine Q4 hG Tryz.T Tryz.keep8 (by kernel_rfl) ?_|refine Q5 hG Tryz.T ?_|refine Q6 hG Tryz.T ?_|refine Q7 hG Tryz.T ?_|refine Q8 hG Tryz.T ?_|refine Q9 rfl ?_|refine QF rfl ?_|refine QC rfl (And.intro (fun h => ?_) (fun h => ?_))|((conv => whnf); first|refine anF ?_|refine anT ?_|refine And.intro (by kernel_rfl) ?_|refine And.intro (Int.natCast_nonneg i) (Exists.intro _ (And.intro hx ?_))|refine Exists.intro _ (And.intro (g1) ?_)|refine And.intro (fun h => ?_) (fun h => ?_)|refine Or.inl ?_|fail)
      refine Exists.intro (i + 1) (And.intro hlt_i (And.intro (by omega) (St.le.of ?_ ?_)))
      · refine And.intro (congrArg some (le_next (by omega))) ?_
        repeat' (first | exact trivial | refine And.intro rfl ?_)
      · repeat' (first | exact trivial | refine And.intro rfl ?_)
    · have bbk : decide ((i : Int) < ((B.map fltA).length : Int)) = true → False := fun h => by have := of_decide_eq_true h; simp at this; omega
      repeat' first|exact (bbk (by assumption)).elim|refine Q1 ?_|refine Q2 ?_|refine Q3 hG Tryz.T Tryz.keep8 (by kernel_rfl) ?_|refine Q4 hG Tryz.T Tryz.keep8 (by kernel_rfl) ?_|refine Q5 hG Tryz.T ?_|refine Q6 hG Tryz.T ?_|refine Q7 hG Tryz.T ?_|refine Q8 hG Tryz.T ?_|refine Q9 rfl ?_|refine QF rfl ?_|refine QC rfl (And.intro (fun h => ?_) (fun h => ?_))|((conv => whnf); first|refine anF ?_|refine anT ?_|refine And.intro (by kernel_rfl) ?_|refine And.intro (fun h => ?_) (fun h => ?_)|refine Or.inl ?_|fail)
      exact Ends.mk (Or.inl rfl) (AV.weak.of_eq rfl)
end Go.Proofs
namespace Go.Proofs
open Go Go.AI
set_option maxRecDepth 10000
theorem TCase.psl (c : TCase) : c.ps.length ≤ 1000000 := by have := c.passes.2.1; omega
theorem TCase.trk (c : TCase) : TrkH c.s c.l c.a c.b := TrkH.of c.valid
theorem faults_len (s : Nat → Int) (l : List Opt) (a b : Int) : (faultsL s l a b).length ≤ 5 := by
  have := fltTake_len s l a b 5
  exact this
theorem Tryz.kchk (c : TCase) : ACalls Tryz.prog 21 [.agg (satA c.s), optsA c.l, passesA c.ps, .agg (spellA c.a c.b)] (.tup [fltsA (faultsL c.s c.l c.a c.b), .int .i64 0]) := Tryz.checkOf c.s c.l c.ps c.a c.b c.psl c.valid
theorem cel_ext {o p : Nat → Int} (h : ∀ i, i < 7 → o i = p i) (t : Int) : celW o t = celW p t := by
  simp only [celW, rowW, colW, h 0 (by omega), h 1 (by omega), h 2 (by omega), h 3 (by omega), h 4 (by omega), h 5 (by omega)]
theorem could_ext {o p : Nat → Int} (h : ∀ i, i < 7 → o i = p i) (t : Int) : couldL o t = couldL p t := by
  have hd : delL o t = delL p t := by unfold delL; rw [h 6 (by omega)]
  have hk : ∀ l : List Int, keysOf o l = keysOf p l := fun l => by
    unfold keysOf
    congr 1
    funext a b
    rw [cel_ext h]
  unfold couldL
  rw [hd, hk]
theorem lit_ext {o p : Nat → Int} (h : ∀ i, i < 7 → o i = p i) (t : Int) : litS o t = litS p t := by
  unfold litS
  rw [could_ext h]
  congr 1
  simp only [atS, orbS_ext h]
structure Eases (s e : Nat → Int) : Prop where
  eq : ∀ i, i < 10 ∨ 12 ≤ i ∧ i ≤ 16 ∨ i = 20 → e i = s i
  st : s 10 ≤ e 10
  ch : s 11 ≤ e 11
  co : s 17 ≤ e 17
  hot : s 18 ≤ e 18
  sl : e 19 ≤ s 19
  sat : satS e = true
theorem Eases.orb {s e : Nat → Int} (h : Eases s e) : ∀ i, i < 7 → orbO e i = orbO s i := fun i hi => h.eq (i + 2) (by omega)
theorem Eases.slots {s e : Nat → Int} (h : Eases s e) (ps : List PassT) (z : Int) : ∀ (l : List SlotT) (t : Int), slotsOK e ps z t l = slotsOK s ps z t l
  | [], _ => rfl
  | x :: r, t => by
    simp only [slotsOK, slotOK, h.eq 0 (by omega), h.eq 20 (by omega), Eases.slots h ps z r x.b]
theorem Eases.fits {s e : Nat → Int} (h : Eases s e) {o : Opt} {ps : List PassT} (hf : fitsS s o ps = true) : fitsS e o ps = true := by
  have hst := h.st
  simp only [fitsS, headS, shotS, swathS, orbS_ext h.orb, h.eq 0 (by omega), h.eq 9 (by omega), h.slots, Bool.and_eq_true, inS, decide_eq_true_eq] at hf ⊢
  obtain ⟨⟨⟨⟨h1, h2⟩, h3⟩, h4⟩, h5⟩ := hf
  exact ⟨⟨⟨⟨h1, by omega⟩, h3⟩, h4⟩, h5⟩
theorem Eases.track {s e : Nat → Int} (h : Eases s e) {l : List Opt} {ps : List PassT} {a b : Int} (ht : trackS s l ps a b = true) : trackS e l ps a b = true := by
  rw [track_iff] at *
  obtain ⟨h1, h2, h3, _, h5, h6, h7⟩ := ht
  exact ⟨h1, h2, h3, h.sat, h5, fun o ho => ⟨h.fits (h6 o ho).1, (h6 o ho).2⟩, h7⟩
theorem add_same {s e : Nat → Int} (h : Eases s e) (t : Int) : ∀ l : List Load3, addS e t l = addS s t l
  | [] => rfl
  | x :: r => by
    show oneS e t x + addS e t r = oneS s t x + addS s t r
    rw [add_same h t r]
    unfold oneS costS
    rw [h.eq 14 (by omega), h.eq 15 (by omega)]
theorem Eases.faults {s e : Nat → Int} (h : Eases s e) {l : List Opt} {a b : Int} (hs : TrkH s l a b) (he : TrkH e l a b) : ∀ x ∈ faultsL e l a b, hasF (faultsL s l a b) x.k = true := by
  have hr := hs.rng
  have h10 := (sat_h hs.sat).2.1
  have n1 := opt_len hs.good
  refine sub_faults (isSome_of fun hn => ?_) (heat_le (by omega) hr.2 (HotOK.of hs.chk.val) (HotOK.of he.chk.val) (fun t => ?_) h.hot) (store_le hs.span he.span (by omega) h.st fun t => Int.le_refl _) (isSome_of fun hn => ?_) id
  · rw [slewF_none] at *
    exact hn.imp_of_mem fun {x y} hx hy hf => fit_less hs.satB he.satB h.sl (hs.aimB x hx) (hs.aimB y hy) hf
  · rw [gS_eq (HotOK.of hs.chk.val), gS_eq (HotOK.of he.chk.val), h.eq 16 (by omega)]
    have := h.co
    omega
  · unfold chargeF at *
    rw [minF_none] at *
    refine empty_le (sat_fedZ hs.sat) (sat_fedZ he.sat) (by omega) (by omega) (by omega) hr.2 h.ch (fun t => net_le (sat_fedZ hs.sat) (sat_fedZ he.sat) (h.eq 12 (by omega)) (h.eq 13 (by omega)) (fun t => lit_ext h.orb t) (by omega) (by omega) ?_) hn
    rw [add_same h]; exact Int.le_refl _
theorem Eases.upd {s : Nat → Int} {j : Nat} {v : Int} (hs : satS s = true) (hj : j = 10 ∨ j = 11 ∨ j = 17 ∨ j = 18 ∨ j = 19) (h1 : j = 10 → s 10 ≤ v ∧ v ≤ 1000000) (h2 : j = 11 → s 11 ≤ v ∧ v ≤ 1000000) (h3 : j = 17 → s 17 ≤ v ∧ v ≤ 10000) (h4 : j = 18 → s 18 ≤ v ∧ v ≤ 1000000) (h5 : j = 19 → 0 ≤ v ∧ v ≤ s 19) : Eases s (updS s j v) := by
  have hq := sat_h hs
  refine ⟨fun i hi => if_neg (by omega), ?_, ?_, ?_, ?_, ?_, ?_⟩
  · unfold updS; split <;> omega
  · unfold updS; split <;> omega
  · unfold updS; split <;> omega
  · unfold updS; split <;> omega
  · unfold updS; split <;> omega
  · have ho : orbS (fun i => updS s j v (i + 2)) = orbS fun i => s (i + 2) := orbS_ext fun i hi => if_neg (by omega)
    have ne : ∀ i, i ≠ j → updS s j v i = s i := fun i hi => if_neg hi
    have e10 : updS s j v 10 = if 10 = j then v else s 10 := rfl
    simp only [satS, ho, inS, Bool.and_eq_true, decide_eq_true_eq] at hs ⊢
    have g : ∀ i, i < 10 ∨ 12 ≤ i ∧ i ≤ 16 ∨ i = 20 → updS s j v i = s i := fun i hi => if_neg (by omega)
    rw [g 0 (by omega), g 1 (by omega), g 9 (by omega), g 20 (by omega), g 12 (by omega), g 13 (by omega), g 14 (by omega), g 15 (by omega), g 16 (by omega)]
    have v10 : 1 ≤ updS s j v 10 ∧ updS s j v 10 ≤ 1000000 := by unfold updS; split <;> omega
    have v11 : 1 ≤ updS s j v 11 ∧ updS s j v 11 ≤ 1000000 := by unfold updS; split <;> omega
    have v17 : 0 ≤ updS s j v 17 ∧ updS s j v 17 ≤ 10000 := by unfold updS; split <;> omega
    have v18 : 1 ≤ updS s j v 18 ∧ updS s j v 18 ≤ 1000000 := by unfold updS; split <;> omega
    have v19 : 0 ≤ updS s j v 19 ∧ updS s j v 19 ≤ 60 := by unfold updS; split <;> omega
    generalize updS s j v 10 = a10 at *
    generalize updS s j v 11 = a11 at *
    generalize updS s j v 17 = a17 at *
    generalize updS s j v 18 = a18 at *
    generalize updS s j v 19 = a19 at *
    obtain ⟨⟨q1, q2⟩, q3⟩ := hs
    (try simp only [and_assoc] at *)
    grind
theorem Tryz.x8 (c : TCase) (how by_ : Int) (hh : inI how) (hb : inI by_) : ACalls Tryz.prog 8 [.agg (caseA c), .int .i64 how, .int .i64 by_] (.bool true) := by
  have hA := faults_len c.s c.l c.a c.b
  have kH : ∀ k, ACalls Tryz.prog 33 [fltsA (faultsL c.s c.l c.a c.b), .int .i64 k] (.bool (hasF (faultsL c.s c.l c.a c.b) k)) := fun k => Tryz.has _ k (by omega)
  have kp := Tryz.lpick how 5 (by decide)
  have hp := pick_rng hh (n := 5) (by omega)
  have hq := sat_h c.sat
  have m := c.bc.mfed
  have mc : 100 ≤ c.s 11 ∧ c.s 11 ≤ 2099 := m.c
  have y1 := pick_rng (c.hy 1) (n := 200) (by omega)
  have y2 := pick_rng (c.hy 1) (n := 60) (by omega)
  have y3 := pick_rng (c.hy 3) (n := 4) (by omega)
  have m10 : c.s 10 ≤ 219 := by show w64 (20 + pickS (c.y 1) 200) ≤ 219; rw [w64_in (by omega) (by omega)]; omega
  have m18 : c.s 18 ≤ 64 := by show w64 (5 + pickS (c.y 1) 60) ≤ 64; rw [w64_in (by omega) (by omega)]; omega
  have m17 : c.s 17 ≤ 4 := by show w64 (1 + pickS (c.y 3) 4) ≤ 4; rw [w64_in (by omega) (by omega)]; omega
  have main : ∀ j v, Eases c.s (updS c.s j v) → ∃ B : List Flt, B.length ≤ 10 ∧ ACalls Tryz.prog 21 [.agg (satA (updS c.s j v)), optsA c.l, passesA c.ps, .agg (spellA c.a c.b)] (.tup [fltsA B, .int .i64 0]) ∧ ∀ i, i < B.length → ACalls Tryz.prog 33 [fltsA (faultsL c.s c.l c.a c.b), .int .i64 (B.getD i flt0).k] (.bool true) := fun j v he => by
    have hv := he.track c.valid
    refine ⟨faultsL (updS c.s j v) c.l c.a c.b, by have := faults_len (updS c.s j v) c.l c.a c.b; omega, Tryz.checkOf _ c.l c.ps c.a c.b c.psl hv, fun i hi => ?_⟩
    have hm : (faultsL (updS c.s j v) c.l c.a c.b).getD i flt0 ∈ faultsL (updS c.s j v) c.l c.a c.b := by rw [List.getD_eq_getElem?_getD, List.getElem?_eq_getElem hi]; exact List.getElem_mem hi
    have := kH ((faultsL (updS c.s j v) c.l c.a c.b).getD i flt0).k
    rw [he.faults c.trk (TrkH.of hv) _ hm] at this
    exact this
  generalize pickS how 5 = w at *
  obtain rfl | rfl | rfl | rfl | rfl : w = 0 ∨ w = 1 ∨ w = 2 ∨ w = 3 ∨ w = 4 := by omega
  · have hn := pick_rng hb (n := 100) (by omega)
    have e : IntKind.i64.wrap (c.s 10 + pickS by_ 100) = c.s 10 + pickS by_ 100 := w64_in (by omega) (by omega)
    obtain ⟨B, h1, h2, h3⟩ := main 10 (IntKind.i64.wrap (c.s 10 + pickS by_ 100)) (Eases.upd c.sat (by omega) (fun h => by first | (cases h; done) | (rw [e]; omega)) (fun h => by first | (cases h; done) | (rw [e]; omega)) (fun h => by first | (cases h; done) | (rw [e]; omega)) (fun h => by first | (cases h; done) | (rw [e]; omega)) (fun h => by first | (cases h; done) | (rw [e]; omega)))
    exact Tryz.y8a c c.s c.l c.ps c.a c.b _ B (by omega) h1 Tryz.sane19 (Tryz.made c) (Tryz.kchk c) how by_ _ kp (Tryz.lpick by_ _ (by decide)) h2 h3
  · have hn := pick_rng hb (n := 1000) (by omega)
    have e : IntKind.i64.wrap (c.s 11 + pickS by_ 1000) = c.s 11 + pickS by_ 1000 := w64_in (by omega) (by omega)
    obtain ⟨B, h1, h2, h3⟩ := main 11 (IntKind.i64.wrap (c.s 11 + pickS by_ 1000)) (Eases.upd c.sat (by omega) (fun h => by first | (cases h; done) | (rw [e]; omega)) (fun h => by first | (cases h; done) | (rw [e]; omega)) (fun h => by first | (cases h; done) | (rw [e]; omega)) (fun h => by first | (cases h; done) | (rw [e]; omega)) (fun h => by first | (cases h; done) | (rw [e]; omega)))
    exact Tryz.y8b c c.s c.l c.ps c.a c.b _ B (by omega) h1 Tryz.sane19 (Tryz.made c) (Tryz.kchk c) how by_ _ kp (Tryz.lpick by_ _ (by decide)) h2 h3
  · have hn := pick_rng hb (n := 100) (by omega)
    have e : IntKind.i64.wrap (c.s 18 + pickS by_ 100) = c.s 18 + pickS by_ 100 := w64_in (by omega) (by omega)
    obtain ⟨B, h1, h2, h3⟩ := main 18 (IntKind.i64.wrap (c.s 18 + pickS by_ 100)) (Eases.upd c.sat (by omega) (fun h => by first | (cases h; done) | (rw [e]; omega)) (fun h => by first | (cases h; done) | (rw [e]; omega)) (fun h => by first | (cases h; done) | (rw [e]; omega)) (fun h => by first | (cases h; done) | (rw [e]; omega)) (fun h => by first | (cases h; done) | (rw [e]; omega)))
    exact Tryz.y8c c c.s c.l c.ps c.a c.b _ B (by omega) h1 Tryz.sane19 (Tryz.made c) (Tryz.kchk c) how by_ _ kp (Tryz.lpick by_ _ (by decide)) h2 h3
  · have hn := pick_rng hb (n := (c.s 19 + 1)) (by omega)
    have hw : IntKind.i64.wrap (c.s 19 + 1) = c.s 19 + 1 := w64_in (by omega) (by omega)
    have e : IntKind.i64.wrap (c.s 19 - pickS by_ (c.s 19 + 1)) = c.s 19 - pickS by_ (c.s 19 + 1) := w64_in (by omega) (by omega)
    obtain ⟨B, h1, h2, h3⟩ := main 19 (IntKind.i64.wrap (c.s 19 - pickS by_ (c.s 19 + 1))) (Eases.upd c.sat (by omega) (fun h => by first | (cases h; done) | (rw [e]; omega)) (fun h => by first | (cases h; done) | (rw [e]; omega)) (fun h => by first | (cases h; done) | (rw [e]; omega)) (fun h => by first | (cases h; done) | (rw [e]; omega)) (fun h => by first | (cases h; done) | (rw [e]; omega)))
    exact Tryz.y8d c c.s c.l c.ps c.a c.b _ B (by omega) h1 Tryz.sane19 (Tryz.made c) (Tryz.kchk c) how by_ _ kp (by rw [hw]; exact Tryz.lpick by_ _ (by omega)) h2 h3
  · have hn := pick_rng hb (n := 9) (by omega)
    have e : IntKind.i64.wrap (c.s 17 + pickS by_ 9) = c.s 17 + pickS by_ 9 := w64_in (by omega) (by omega)
    obtain ⟨B, h1, h2, h3⟩ := main 17 (IntKind.i64.wrap (c.s 17 + pickS by_ 9)) (Eases.upd c.sat (by omega) (fun h => by first | (cases h; done) | (rw [e]; omega)) (fun h => by first | (cases h; done) | (rw [e]; omega)) (fun h => by first | (cases h; done) | (rw [e]; omega)) (fun h => by first | (cases h; done) | (rw [e]; omega)) (fun h => by first | (cases h; done) | (rw [e]; omega)))
    exact Tryz.y8e c c.s c.l c.ps c.a c.b _ B (by omega) h1 Tryz.sane19 (Tryz.made c) (Tryz.kchk c) how by_ _ kp (Tryz.lpick by_ _ (by decide)) h2 h3
end Go.Proofs
namespace Go.Proofs
open Go Go.AI Go.Proofs.YtehdegggapeihaaGreat
set_option maxRecDepth 100000
theorem Tryz.own : ownKnob Tryz.prog.godebug = none := by kernel_rfl
theorem Tryz.laidOut : laidOutB Tryz.prog = true := by kernel_rfl
theorem Tryz.reads3 : (Tryz.prog.readableRec 3 && Nat.blt 3 Tryz.prog.types.size) = true := by kernel_rfl
theorem Tryz.reads27 : (Tryz.prog.readableRec 27 && Nat.blt 27 Tryz.prog.types.size) = true := by kernel_rfl
def caseSh : List Sh := [.int .i64, .int .i64, .int .i64, .int .i64, .int .i64, .int .i64, .int .i64, .int .i64, .int .i64, .int .i64, .int .i64, .sl [.int .i64, .int .i64, .int .i64], .sl [.int .i64, .int .i64, .int .i64, .int .i64, .int .i64], .int .i64]
def lawSh : List (Bool × List Sh) := [(true, caseSh), (false, [.int .i64]), (false, [.int .i64])]
theorem Tryz.shs : paramSh Tryz.prog 8 [27, 3, 3] = some lawSh := by kernel_rfl
theorem Tryz.lifted (law : ∀ avs, PArgs 8 lawSh avs → ACalls Tryz.prog 8 avs (.bool true)) (os : Os) (started : os.Started) (H : Type) (enc : TypeId × Value → H) :
    ReturnsInHanded {} Tryz.checked os 8 .any (Rows.trackMeansSpec.pre6 enc Tryz.prog Tryz.f8 Rows.trackMeansRow.domain false) (Rows.trackMeansSpec.post enc Tryz.prog Tryz.f8 false true false false) :=
  law_lifted (C := Tryz.checked) (tb := 4) Tryz.own started (by kernel_rfl) Tryz.func8
    (ChangeSpec.witness6 (enc := enc) (C := Tryz.checked) false ⟨#[], #[.agg #[.int .i64 0, .int .i64 0, .int .i64 0, .int .i64 0, .int .i64 0, .int .i64 0, .int .i64 0, .int .i64 0, .int .i64 0, .int .i64 0, .int .i64 0, .slice none 0 0, .slice none 0 0, .int .i64 0], .int .i64 0, .int .i64 0], []⟩ 8 (by kernel_rfl) (by kernel_rfl) (by kernel_rfl) (by kernel_rfl))
    rfl (by kernel_rfl) (by kernel_rfl) (fun ds h => by
      match ds, h with
      | [d0, d1, d2], _ => rfl) Tryz.shs Tryz.laidOut (fun t ht => by
      have e : Tryz.f8.params.toList = [27, 3, 3] := by kernel_rfl
      rw [e] at ht
      simp only [List.mem_cons, List.not_mem_nil, or_false] at ht
      have h3 := Tryz.reads3
      have h27 := Tryz.reads27
      simp only [Bool.and_eq_true] at h3 h27
      rcases ht with h | h | h <;> subst h <;> first | exact ⟨h3.1, Nat.le_of_ble_eq_true h3.2⟩ | exact ⟨h27.1, Nat.le_of_ble_eq_true h27.2⟩) law
theorem Tryz.jf0 : (Rows.trackMeansRow.wf (OpenSpec.ofChange Rows.trackMeansSpec) : Bool) = true := by kernel_rfl
theorem Tryz.jf1 : (laidOutB Tryz.pinned.checked.prog : Bool) = true := by kernel_rfl
theorem Tryz.jf2 : (mapsRowed Tryz.pinned.checked.prog : Bool) = true := by kernel_rfl
theorem Tryz.jf3 : (Tryz.f8.params.all (Tryz.pinned.checked.prog.readableRec ·) : Bool) = true := by kernel_rfl
theorem Tryz.jf4 : (namedTie Tryz.pinned.checked.prog Rows.trackMeansRow.named Rows.trackMeansSpec.vars : Bool) = true := by kernel_rfl
theorem Tryz.jf5 : ((Rows.trackMeansRow.stops == []) : Bool) = true := by kernel_rfl
theorem Tryz.jf6 : ((Tryz.pinned.checked.prog.stops == []) : Bool) = true := by kernel_rfl
theorem Tryz.jf7 : ((Rows.trackMeansRow.knobs == []) : Bool) = true := by kernel_rfl
theorem Tryz.jf8 : ((Tryz.pinned.checked.prog.stopKnobs == []) : Bool) = true := by kernel_rfl
theorem Tryz.jf9 : ((Rows.trackMeansRow.inPlace == Tryz.pinned.checked.prog.inPlace 8) : Bool) = true := by kernel_rfl
theorem Tryz.jf10 : ((Rows.trackMeansRow.unfollowed == Tryz.pinned.checked.prog.unfollowed 8) : Bool) = true := by kernel_rfl
theorem Tryz.jf11 : ((Rows.trackMeansRow.recurses == Tryz.pinned.checked.prog.recurses 8) : Bool) = true := by kernel_rfl
theorem Tryz.jf12 : ((Rows.trackMeansRow.named == Tryz.pinned.checked.prog.varsNamed 8) : Bool) = true := by kernel_rfl
theorem Tryz.jf13 : ((Rows.trackMeansRow.maps == (Tryz.f8.params.toList ++ Rows.trackMeansSpec.plain.varTypes Tryz.pinned.checked.prog).any (Tryz.pinned.checked.prog.mapsRec ·)) : Bool) = true := by kernel_rfl
theorem Tryz.jf14 : ((Rows.trackMeansRow.ifaces == (Tryz.f8.params.toList ++ Rows.trackMeansSpec.plain.varTypes Tryz.pinned.checked.prog).any (Tryz.pinned.checked.prog.ifacesRec ·)) : Bool) = true := by kernel_rfl
theorem Tryz.jf15 : ((Rows.trackMeansRow.mapsOut == Tryz.pinned.checked.prog.mapsAmong Tryz.f8.resultTypes.toList) : Bool) = true := by kernel_rfl
theorem Tryz.jf16 : ((Rows.trackMeansRow.loops == (Tryz.f8.params.toList ++ Rows.trackMeansSpec.plain.varTypes Tryz.pinned.checked.prog).any (Tryz.pinned.checked.prog.loopsFrom ·)) : Bool) = true := by kernel_rfl
theorem Tryz.jf17 : ((Rows.trackMeansRow.wideKeys == (Tryz.f8.params.toList ++ Rows.trackMeansSpec.plain.varTypes Tryz.pinned.checked.prog ++ Tryz.f8.resultTypes.toList).any (Tryz.pinned.checked.prog.wideKeysFrom ·)) : Bool) = true := by kernel_rfl
theorem Tryz.jf18 : (Rows.trackMeansSpec.vars.all (Tryz.pinned.checked.prog.varReadable ·) : Bool) = true := by kernel_rfl
theorem Tryz.jf19 : (Tryz.f8.resultTypes.all (fun t => Tryz.pinned.checked.prog.readableRec t && decide (t < Tryz.pinned.checked.prog.types.size)) : Bool) = true := by kernel_rfl
theorem Tryz.jf20 : ((Rows.trackMeansRow.ifacesOut == Tryz.f8.resultTypes.toList.any (Tryz.pinned.checked.prog.ifacesRec ·)) : Bool) = true := by kernel_rfl
theorem Tryz.jf21 : ((Rows.trackMeansRow.loopsOut == Tryz.f8.resultTypes.toList.any (Tryz.pinned.checked.prog.loopsFrom ·)) : Bool) = true := by kernel_rfl
theorem Tryz.jf22 : ((Rows.trackMeansRow.plainKeys == Tryz.pinned.checked.prog.plainKeys) : Bool) = true := by kernel_rfl
theorem Tryz.jf23 : (Rows.trackMeansRow.shortTexts.isNone : Bool) = true := by kernel_rfl
theorem Tryz.jf24 : (Tryz.pinned.checked.prog.stopsHeard : Bool) = true := by kernel_rfl
theorem Tryz.jf25 : (Tryz.pinned.checked.prog.mayEnter : Bool) = true := by kernel_rfl
theorem Tryz.jf26 : ((Rows.trackMeansRow.lifted == Tryz.pinned.checked.prog.liftsFinal) : Bool) = true := by kernel_rfl
theorem Tryz.jf27 : ((Tryz.pinned.checked.prog.make == some Rows.trackMeansRow.make) : Bool) = true := by kernel_rfl
theorem Tryz.jf28 : ((Rows.trackMeansRow.kinds == (if Rows.trackMeansRow.domain.isEmpty then [] else Tryz.f8.params.toList.map fun t => match Tryz.pinned.checked.prog.underlying t with | some (.int k) => some k | _ => none)) : Bool) = true := by kernel_rfl
theorem Tryz.jf29 : ((Rows.trackMeansRow.pinned == Rows.trackMeansRow.pinnedBy) : Bool) = true := by kernel_rfl
theorem Tryz.jf30 : ((Rows.trackMeansRow.veiled == (Tryz.f8.params.toList ++ Rows.trackMeansSpec.plain.varTypes Tryz.pinned.checked.prog ++ Tryz.f8.resultTypes.toList).any (Tryz.pinned.checked.prog.veiledRec ·)) : Bool) = true := by kernel_rfl
theorem Tryz.jf31 : (Rows.trackMeansRow.veiledFits Tryz.pinned.checked.prog Tryz.f8.params.toList (Tryz.f8.params.toList ++ Rows.trackMeansSpec.plain.varTypes Tryz.pinned.checked.prog ++ Tryz.f8.resultTypes.toList) : Bool) = true := by kernel_rfl
theorem and_i {a b : Bool} (h : a = true) (k : b = true) : (a && b) = true := by rw [h, k]; rfl
theorem Tryz.jf : joinedFacts Tryz.pinned.checked.prog 8 Tryz.f8 Rows.trackMeansSpec Rows.trackMeansRow = true := by
  unfold joinedFacts
  exact and_i (and_i (and_i (and_i (and_i (and_i (and_i (and_i (and_i (and_i (and_i (and_i (and_i (and_i (and_i (and_i (and_i (and_i (and_i (and_i (and_i (and_i (and_i (and_i (and_i (and_i (and_i (and_i (and_i (and_i (and_i (Tryz.jf0) Tryz.jf1) Tryz.jf2) Tryz.jf3) Tryz.jf4) Tryz.jf5) Tryz.jf6) Tryz.jf7) Tryz.jf8) Tryz.jf9) Tryz.jf10) Tryz.jf11) Tryz.jf12) Tryz.jf13) Tryz.jf14) Tryz.jf15) Tryz.jf16) Tryz.jf17) Tryz.jf18) Tryz.jf19) Tryz.jf20) Tryz.jf21) Tryz.jf22) Tryz.jf23) Tryz.jf24) Tryz.jf25) Tryz.jf26) Tryz.jf27) Tryz.jf28) Tryz.jf29) Tryz.jf30) Tryz.jf31
theorem Tryz.row (law : ∀ avs, PArgs 8 lawSh avs → ACalls Tryz.prog 8 avs (.bool true)) : Rows.TrackMeansSaid :=
  OpenClaim.holds_of_wide (p := Tryz.pinned) (s := Rows.trackMeansSpec) (c := Rows.trackMeansRow) 8 Tryz.f8 rfl rfl rfl rfl rfl rfl rfl ⟨rfl, rfl, rfl, rfl, rfl⟩ rfl rfl rfl rfl rfl (by kernel_rfl) Tryz.func8 Tryz.jf
    (of_decide_eq_true (by kernel_rfl)) (by unfold Func.isWrapper; first | (rw [if_pos (by decide +kernel)]; kernel_rfl) | (rw [if_neg (by decide +kernel)]; exact ⟨rfl, rfl⟩))
    (fun os started H enc _ => Tryz.lifted law os started H enc)
theorem pargs_agg {n : Nat} {L : List Sh} {r : List (Bool × List Sh)} {avs : List AV} (h : PArgs n ((true, L) :: r) avs) : ∃ cs q, avs = .agg cs :: q ∧ Fa (ShOK n) L cs ∧ PArgs n r q := by
  match avs, h with
  | _ :: q, h =>
    obtain ⟨⟨cs, rfl, h1⟩, h2⟩ := h
    exact ⟨cs, q, rfl, h1, h2⟩
  | [], h => exact h.elim
theorem pargs_int {n : Nat} {r : List (Bool × List Sh)} {avs : List AV} (h : PArgs (n + 1) ((false, [.int .i64]) :: r) avs) : ∃ z q, avs = .int .i64 z :: q ∧ inI z ∧ PArgs (n + 1) r q := by
  match avs, h with
  | _ :: q, h =>
    obtain ⟨⟨s, e, h1⟩, h2⟩ := h
    cases e
    obtain ⟨z, rfl, hz⟩ := int_inv h1
    exact ⟨z, q, rfl, hz, h2⟩
  | [], h => exact h.elim
theorem pargs_sl {n : Nat} {e : List Sh} {r : List (Bool × List Sh)} {avs : List AV} (h : PArgs n ((false, [.sl e]) :: r) avs) : ∃ z q, avs = z :: q ∧ ShOK n (.sl e) z ∧ PArgs n r q := by
  match avs, h with
  | _ :: q, h =>
    obtain ⟨⟨s, e, h1⟩, h2⟩ := h
    cases e
    exact ⟨_, q, rfl, h1, h2⟩
  | [], h => exact h.elim
theorem pargs_nil {n : Nat} {avs : List AV} (h : PArgs n [] avs) : avs = [] := by
  match avs, h with
  | [], _ => rfl
  | _ :: _, h => exact h.elim
theorem intsL_of {n : Nat} {a : AV} (h : ShOK (n + 2) (.sl [.int .i64]) a) : ∃ z : List Int, (∀ x ∈ z, inI x) ∧ a = intsA z := by
  obtain ⟨xs, rfl, h2⟩ := h
  suffices hs : ∀ l : List (List AV), (∀ x ∈ l, Fa (ShOK (n + 1)) [.int .i64] x) → ∃ z : List Int, (∀ x ∈ z, inI x) ∧ l = z.map fun h => [AV.int .i64 h] by
    obtain ⟨z, g1, g2⟩ := hs xs h2
    exact ⟨z, g1, congrArg (AV.sl .no 1) g2⟩
  intro l
  induction l with
  | nil => exact fun _ => ⟨[], by simp, rfl⟩
  | cons y r ih =>
    intro h
    obtain ⟨z, g1, rfl⟩ := ih (fun x hx => h x (List.mem_cons_of_mem _ hx))
    obtain ⟨b, q, rfl, h0, h'⟩ := Fa.cons_inv (h y List.mem_cons_self)
    obtain rfl := Fa.nil_inv h'
    obtain ⟨w, rfl, hw⟩ := int_inv h0
    exact ⟨w :: z, fun v hv => by rcases List.mem_cons.1 hv with rfl | hv; exact hw; exact g1 v hv, rfl⟩
theorem rows5_of {n : Nat} {a : AV} (h : ShOK (n + 2) (.sl [.int .i64, .int .i64, .int .i64, .int .i64, .int .i64]) a) : ∃ z : List R5, (∀ x ∈ z, inI5 x) ∧ a = .sl .no 5 (z.map row5A) := by
  obtain ⟨xs, rfl, h2⟩ := h
  suffices hs : ∀ l : List (List AV), (∀ x ∈ l, Fa (ShOK (n + 1)) [.int .i64, .int .i64, .int .i64, .int .i64, .int .i64] x) → ∃ z : List R5, (∀ x ∈ z, inI5 x) ∧ l = z.map row5A by
    obtain ⟨z, g1, g2⟩ := hs xs h2
    exact ⟨z, g1, congrArg (AV.sl .no 5) g2⟩
  intro l
  induction l with
  | nil => exact fun _ => ⟨[], by simp, rfl⟩
  | cons y r ih =>
    intro h
    obtain ⟨z, g1, rfl⟩ := ih (fun x hx => h x (List.mem_cons_of_mem _ hx))
    obtain ⟨b0, q, rfl, h0, h'⟩ := Fa.cons_inv (h y List.mem_cons_self)
    obtain ⟨b1, q, rfl, h1, h'⟩ := Fa.cons_inv h'
    obtain ⟨b2, q, rfl, h2, h'⟩ := Fa.cons_inv h'
    obtain ⟨b3, q, rfl, h3, h'⟩ := Fa.cons_inv h'
    obtain ⟨b4, q, rfl, h4, h'⟩ := Fa.cons_inv h'
    obtain rfl := Fa.nil_inv h'
    obtain ⟨z0, rfl, i0⟩ := int_inv h0
    obtain ⟨z1, rfl, i1⟩ := int_inv h1
    obtain ⟨z2, rfl, i2⟩ := int_inv h2
    obtain ⟨z3, rfl, i3⟩ := int_inv h3
    obtain ⟨z4, rfl, i4⟩ := int_inv h4
    exact ⟨⟨z0, z1, z2, z3, z4⟩ :: z, fun w hw => by rcases List.mem_cons.1 hw with rfl | hw; exact ⟨i0, i1, i2, i3, i4⟩; exact g1 w hw, rfl⟩
theorem getD_inI {l : List Int} (h : ∀ y ∈ l, inI y) (i : Nat) : inI (l.getD i 0) := by
  rw [List.getD_eq_getElem?_getD]
  cases hi : l[i]? with
  | none => show inI 0; unfold inI; omega
  | some y => exact h y (List.mem_of_getElem? hi)
theorem case_of {n : Nat} {cs : List AV} (h : Fa (ShOK (n + 2)) caseSh cs) : ∃ c : TCase, cs = caseA c := by
  obtain ⟨b0, q, rfl, h0, h⟩ := Fa.cons_inv h
  obtain ⟨b1, q, rfl, h1, h⟩ := Fa.cons_inv h
  obtain ⟨b2, q, rfl, h2, h⟩ := Fa.cons_inv h
  obtain ⟨b3, q, rfl, h3, h⟩ := Fa.cons_inv h
  obtain ⟨b4, q, rfl, h4, h⟩ := Fa.cons_inv h
  obtain ⟨b5, q, rfl, h5, h⟩ := Fa.cons_inv h
  obtain ⟨b6, q, rfl, h6, h⟩ := Fa.cons_inv h
  obtain ⟨b7, q, rfl, h7, h⟩ := Fa.cons_inv h
  obtain ⟨b8, q, rfl, h8, h⟩ := Fa.cons_inv h
  obtain ⟨b9, q, rfl, h9, h⟩ := Fa.cons_inv h
  obtain ⟨b10, q, rfl, h10, h⟩ := Fa.cons_inv h
  obtain ⟨b11, q, rfl, h11, h⟩ := Fa.cons_inv h
  obtain ⟨b12, q, rfl, h12, h⟩ := Fa.cons_inv h
  obtain ⟨b13, q, rfl, h13, h⟩ := Fa.cons_inv h
  obtain rfl := Fa.nil_inv h
  obtain ⟨z0, rfl, i0⟩ := int_inv h0
  obtain ⟨z1, rfl, i1⟩ := int_inv h1
  obtain ⟨z2, rfl, i2⟩ := int_inv h2
  obtain ⟨z3, rfl, i3⟩ := int_inv h3
  obtain ⟨z4, rfl, i4⟩ := int_inv h4
  obtain ⟨z5, rfl, i5⟩ := int_inv h5
  obtain ⟨z6, rfl, i6⟩ := int_inv h6
  obtain ⟨z7, rfl, i7⟩ := int_inv h7
  obtain ⟨z8, rfl, i8⟩ := int_inv h8
  obtain ⟨z9, rfl, i9⟩ := int_inv h9
  obtain ⟨z10, rfl, i10⟩ := int_inv h10
  obtain ⟨z, hz, rfl⟩ := rows_of h11
  obtain ⟨v, hv, rfl⟩ := rows5_of h12
  obtain ⟨f, rfl, hf⟩ := int_inv h13
  exact ⟨⟨fun i => [z0, z1, z2, z3, z4, z5, z6].getD i 0, fun i => [z7, z8, z9, z10].getD i 0, z, v, f, getD_inI (by simp [*]), getD_inI (by simp [*]), hz, hv, hf⟩, rfl⟩
end Go.Proofs
namespace Go.Proofs.YtehdegggapeihaaGreat
open Go Go.AI
theorem trackMeans : Rows.TrackMeansSaid := Tryz.row fun avs h => by
  obtain ⟨cs, q, rfl, h1, h⟩ := pargs_agg h
  obtain ⟨z1, q, rfl, i1, h⟩ := pargs_int h
  obtain ⟨z2, q, rfl, i2, h⟩ := pargs_int h
  obtain rfl := pargs_nil h
  obtain ⟨c, rfl⟩ := case_of h1
  exact Go.Proofs.Tryz.x8 c z1 z2 i1 i2
end Go.Proofs.YtehdegggapeihaaGreat
