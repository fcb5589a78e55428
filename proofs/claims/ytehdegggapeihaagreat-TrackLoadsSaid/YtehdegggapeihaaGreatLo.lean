/- TrackLoads answers true, whatever the input; no condition. -/
import Derived.Test.YtehdegggapeihaaGreatConE
import Derived.Test.YtehdegggapeihaaGreatChecked
import Derived.Test.YtehdegggapeihaaGreatRows
import Derived.KernelRfl
set_option linter.unusedSectionVars false
set_option linter.unusedVariables false
set_option linter.unusedSimpArgs false
namespace Go.Proofs
open Go Go.AI
def Tryz.keep7 : List Nat := [0, 1, 2, 4, 7, 8, 9, 10, 11, 12, 13, 14, 15, 16, 17, 18, 20, 33, 95, 97, 112, 145, 182, 202, 211]
end Go.Proofs
namespace Go.Proofs
open Go Go.AI
set_option maxRecDepth 10000
def cO (t : Int) (o : Opt) : Bool := decide (t ≥ o.a) && decide (t < o.b)
def cS (t : Int) (x : SlotT) : Bool := decide (t ≥ x.a) && decide (t < x.b)
def cL (t k : Int) (x : Load3) : Bool := decide (x.k = k) && (decide (t ≥ x.a) && decide (t < x.b))
theorem bool_iff {a b : Bool} (h : a = true ↔ b = true) : a = b := Bool.eq_iff_iff.2 h
theorem loads_say (c : TCase) : (c.l.length ≤ 8 ∧ (optLoads c.l).length ≤ 100) ∧ (∀ i, i < (optLoads c.l).length → ((optLoads c.l).getD i ld0).a < ((optLoads c.l).getD i ld0).b ∧ (((optLoads c.l).getD i ld0).k = 1 ∨ ((optLoads c.l).getD i ld0).k = 2) ∧ (0 < i → apartL ((optLoads c.l).getD (i - 1) ld0) ((optLoads c.l).getD i ld0))) ∧ (∀ t, c.l.any (cO t) = (optLoads c.l).any (cL t 1)) ∧ (∀ t, (c.l.any fun o => o.sl.any (cS t)) = (optLoads c.l).any (cL t 2)) := by
  have hln := c.len
  have hT := TrkH.of c.valid
  obtain ⟨hc, hv⟩ := hT.good.can
  have hk := hT.good.kinds
  have hlen := opt_len hT.good
  refine ⟨⟨by omega, by omega⟩, fun i hi => ?_, fun t => bool_iff ?_, fun t => bool_iff ?_⟩
  · have e : (optLoads c.l).getD i ld0 = (optLoads c.l)[i] := by rw [List.getD_eq_getElem?_getD, List.getElem?_eq_getElem hi]; rfl
    rw [e]
    refine ⟨hc.ok _ (List.getElem_mem hi), hk _ (List.getElem_mem hi), fun h0 => ?_⟩
    have e2 : (optLoads c.l).getD (i - 1) ld0 = (optLoads c.l)[i - 1] := by rw [List.getD_eq_getElem?_getD, List.getElem?_eq_getElem (by omega)]; rfl
    rw [e2]
    exact List.pairwise_iff_getElem.1 hc.sep (i - 1) i (by omega) hi (by omega)
  · have h1 : (optLoads c.l).any (cL t 1) = true ↔ covL (rawL c.l) 1 t := by
      rw [← hv, List.any_eq_true]
      simp only [cL, covL, Bool.and_eq_true, decide_eq_true_eq, ge_iff_le]
    rw [h1, List.any_eq_true]
    simp only [cO, Bool.and_eq_true, decide_eq_true_eq, ge_iff_le]
    constructor
    · rintro ⟨o, ho, h⟩
      exact ⟨_, rawL_mem.2 (.inl ⟨o, ho, rfl⟩), rfl, h⟩
    · rintro ⟨x, hx, h2, h3⟩
      rcases rawL_mem.1 hx with ⟨o, ho, rfl⟩ | ⟨o, ho, y, hy, rfl⟩
      · exact ⟨o, ho, h3⟩
      · exact absurd h2 (by simp)
  · have h1 : (optLoads c.l).any (cL t 2) = true ↔ covL (rawL c.l) 2 t := by
      rw [← hv, List.any_eq_true]
      simp only [cL, covL, Bool.and_eq_true, decide_eq_true_eq, ge_iff_le]
    rw [h1, List.any_eq_true]
    simp only [List.any_eq_true, cS, Bool.and_eq_true, decide_eq_true_eq, ge_iff_le]
    constructor
    · rintro ⟨o, ho, y, hy, h⟩
      exact ⟨_, rawL_mem.2 (.inr ⟨o, ho, y, hy, rfl⟩), rfl, h⟩
    · rintro ⟨x, hx, h2, h3⟩
      rcases rawL_mem.1 hx with ⟨o, ho, rfl⟩ | ⟨o, ho, y, hy, rfl⟩
      · exact absurd h2 (by simp)
      · exact ⟨o, ho, y, hy, h3⟩
theorem Tryz.kL (c : TCase) : ACalls Tryz.prog 27 [optsA c.l] (loadsA (optLoads c.l)) := by
  have hT := TrkH.of c.valid
  exact Tryz.loads c.l hT.chk.hl hT.chk.sl hT.chk.sp
theorem Tryz.kslens (c : TCase) : slens c.l := (TrkH.of c.valid).chk.sl
end Go.Proofs
namespace Go.Proofs
open Go Go.AI
set_option maxRecDepth 10000
set_option maxHeartbeats 8000000 in
theorem Tryz.y7 (c : TCase) (s : Nat → Int) (l : List Opt) (ps : List PassT) (a b at_ p : Int) (D : List Load3) (hl : l.length ≤ 8) (hs : slens l) (hD : D.length ≤ 100)
    (k17 : ACalls Tryz.prog 17 [] (.bool true)) (k18 : ACalls Tryz.prog 18 [.agg (caseA c)] (.tup [.agg (satA s), passesA ps, optsA l, .agg (spellA a b)]))
    (kL : ACalls Tryz.prog 27 [optsA l] (loadsA D)) (kp : ACalls Tryz.prog 20 [.int .i64 at_, .int .i64 200] (.int .i64 p))
    (fD : ∀ i, i < D.length → (D.getD i ld0).a < (D.getD i ld0).b ∧ ((D.getD i ld0).k = 1 ∨ (D.getD i ld0).k = 2) ∧ (0 < i → apartL (D.getD (i - 1) ld0) (D.getD i ld0)))
    (fT1 : ∀ t, l.any (cO t) = D.any (cL t 1)) (fT2 : ∀ t, (l.any fun o => o.sl.any (cS t)) = D.any (cL t 2)) :
    ACalls Tryz.prog 7 [.agg (caseA c), .int .i64 at_] (.bool true) := by
  refine ACalls.ofB Tryz.T Tryz.func7 rfl (by kernel_rfl) Tryz.mixed (Nat.le_of_ble_eq_true rfl) ?_
  intro F n' w0 m0 hG hro h1
  repeat' first|refine Q1 ?_|refine Q2 ?_|refine Q3 hG Tryz.T Tryz.keep7 (by kernel_rfl) ?_|refine Q4 hG Tryz.T Tryz.keep7 (by kernel_rfl) ?_|refine Q5 hG Tryz.T ?_|refine Q6 hG Tryz.T ?_|refine Q7 hG Tryz.T ?_|refine Q8 hG Tryz.T ?_|refine Q9 rfl ?_|refine QF rfl ?_|refine QC rfl (And.intro (fun h => ?_) (fun h => ?_))|((conv => whnf); first|refine anF ?_|refine anT ?_|refine And.intro (by kernel_rfl) ?_|refine And.intro (fun h => ?_) (fun h => ?_)|refine Or.inl ?_|fail)
  conv => whnf
  refine Exists.intro _ (And.intro (k17) ?_)
  repeat' first|refine Q1 ?_|refine Q2 ?_|refine Q3 hG Tryz.T Tryz.keep7 (by kernel_rfl) ?_|refine Q4 hG Tryz.T Tryz.keep7 (by kernel_rfl) ?_|refine Q5 hG Tryz.T ?_|refine Q6 hG Tryz.T ?_|refine Q7 hG Tryz.T ?_|refine Q8 hG Tryz.T ?_|refine Q9 rfl ?_|refine QF rfl ?_|refine QC rfl (And.intro (fun h => ?_) (fun h => ?_))|((conv => whnf); first|refine anF ?_|refine anT ?_|refine And.intro (by kernel_rfl) ?_|refine And.intro (fun h => ?_) (fun h => ?_)|refine Or.inl ?_|fail)
  conv => whnf
  refine Exists.intro _ (And.intro (k18) ?_)
  repeat' first|refine Q1 ?_|refine Q2 ?_|refine Q3 hG Tryz.T Tryz.keep7 (by kernel_rfl) ?_|refine Q4 hG Tryz.T Tryz.keep7 (by kernel_rfl) ?_|refine Q5 hG Tryz.T ?_|refine Q6 hG Tryz.T ?_|refine Q7 hG Tryz.T ?_|refine Q8 hG Tryz.T ?_|refine Q9 rfl ?_|refine QF rfl ?_|refine QC rfl (And.intro (fun h => ?_) (fun h => ?_))|((conv => whnf); first|refine anF ?_|refine anT ?_|refine And.intro (by kernel_rfl) ?_|refine And.intro (fun h => ?_) (fun h => ?_)|refine Or.inl ?_|fail)
  conv => whnf
  refine Exists.intro _ (And.intro (kL) ?_)
  repeat' first|refine Q1 ?_|refine Q2 ?_|refine Q3 hG Tryz.T Tryz.keep7 (by kernel_rfl) ?_|refine Q4 hG Tryz.T Tryz.keep7 (by kernel_rfl) ?_|refine Q5 hG Tryz.T ?_|refine Q6 hG Tryz.T ?_|refine Q7 hG Tryz.T ?_|refine Q8 hG Tryz.T ?_|refine Q9 rfl ?_|refine QF rfl ?_|refine QC rfl (And.intro (fun h => ?_) (fun h => ?_))|((conv => whnf); first|refine anF ?_|refine anT ?_|refine And.intro (by kernel_rfl) ?_|refine And.intro (fun h => ?_) (fun h => ?_)|refine Or.inl ?_|fail)
  refine SPB.loop (X := Nat) (fun x => ⟨[(10, .int .i64 x), (9, loadsA D), (8, .loc 8 0), (7, optsA l), (1, .int .i64 at_)], [(8, spellA a b)]⟩) (fun x => x ≤ D.length) (fun x => D.length - x) 0 (Nat.zero_le _) (St.le.of ?_ ?_) (fun x hx => ?_)
  · repeat' (first | exact trivial | refine And.intro rfl ?_)
  · repeat' (first | exact trivial | refine And.intro rfl ?_)
  · rename Nat => i
    have hi := hx
    by_cases hlt_i : i < D.length
    · have bbk : decide ((i : Int) < ((D.map loadA).length : Int)) = false → False := fun h => by have := of_decide_eq_false h; simp at this; omega
      have hx := row_at (f := loadA) ld0 hlt_i
      obtain ⟨f1, f2, f3⟩ := fD i hlt_i
      have hpr : decide ((i : Int) > 0) = true → 0 ≤ IntKind.i64.wrap ((i : Int) - 1) ∧ (D.map loadA)[(IntKind.i64.wrap ((i : Int) - 1)).toNat]? = some (loadA (D.getD (i - 1) ld0)) := fun h => by
        have h := of_decide_eq_true h
        have e : IntKind.i64.wrap ((i : Int) - 1) = ((i - 1 : Nat) : Int) := (w64_in (by omega) (by omega)).trans (by omega)
        rw [e]
        exact ⟨Int.natCast_nonneg _, row_at ld0 (by omega)⟩
      have f4 : decide ((i : Int) > 0) = true → apartL (D.getD (i - 1) ld0) (D.getD i ld0) := fun h => f3 (by have := of_decide_eq_true h; omega)
      unfold apartL at f4
      clear f3
      generalize D.getD i ld0 = u at *
      generalize D.getD (i - 1) ld0 = v at *
      repeat' first|exact (bbk (by assumption)).elim|refine Q1 ?_|refine Q2 ?_|refine Q3 hG Tryz.T Tryz.keep7 (by kernel_rfl) ?_|refine Q4 hG Tryz.T Tryz.keep7 (by kernel_rfl) ?_|refine Q5 hG Tryz.T ?_|refine Q6 hG Tryz.T ?_|refine Q7 hG Tryz.T ?_|refine Q8 hG Tryz.T ?_|refine Q9 rfl ?_|refine QF rfl ?_|refine QC rfl (And.intro (fun h => ?_) (fun h => ?_))|((conv => whnf); first|refine anF ?_|refine anT ?_|refine And.intro (by kernel_rfl) ?_|refine And.intro (Int.natCast_nonneg i) (Exists.intro _ (And.intro hx ?_))|refine And.intro (hpr (by assumption)).1 (Exists.intro _ (And.intro (hpr (by assumption)).2 ?_))|refine And.intro (fun h => ?_) (fun h => ?_)|refine Or.inl ?_|fail)
      all_goals first
        | (refine Exists.intro (i + 1) (And.intro hlt_i (And.intro (by omega) (St.le.of ?_ ?_)))
           · refine And.intro (congrArg some (le_next (by omega))) ?_
             repeat' (first | exact trivial | refine And.intro rfl ?_)
           · repeat' (first | exact trivial | refine And.intro rfl ?_))
        | (exfalso; clear hG hx hpr fT1 fT2 fD; grind)
    · have bbk : decide ((i : Int) < ((D.map loadA).length : Int)) = true → False := fun h => by have := of_decide_eq_true h; simp at this; omega
      repeat' first|exact (bbk (by assumption)).elim|refine Q1 ?_|refine Q2 ?_|refine Q3 hG Tryz.T Tryz.keep7 (by kernel_rfl) ?_|refine Q4 hG Tryz.T Tryz.keep7 (by kernel_rfl) ?_|refine Q5 hG Tryz.T ?_|refine Q6 hG Tryz.T ?_|refine Q7 hG Tryz.T ?_|refine Q8 hG Tryz.T ?_|refine Q9 rfl ?_|refine QF rfl ?_|refine QC rfl (And.intro (fun h => ?_) (fun h => ?_))|((conv => whnf); first|refine anF ?_|refine anT ?_|refine And.intro (by kernel_rfl) ?_|refine And.intro (fun h => ?_) (fun h => ?_)|refine Or.inl ?_|fail)
      refine SPB.loop (X := Nat) (fun tn => ⟨[(12, .int .i64 tn), (9, loadsA D), (8, .loc 8 0), (7, optsA l), (1, .int .i64 at_)], [(8, spellA a b)]⟩) (fun tn => tn ≤ 8) (fun tn => 8 - tn) 0 (Nat.zero_le _) (St.le.of ?_ ?_) (fun tn hn => ?_)
      · repeat' (first | exact trivial | refine And.intro rfl ?_)
      · repeat' (first | exact trivial | refine And.intro rfl ?_)
      · by_cases hn8 : tn < 8
        · have b8 : decide ((tn : Int) < 8) = false → False := fun h => by have := of_decide_eq_false h; omega
          obtain ⟨t, ht⟩ : ∃ t, t = IntKind.i64.wrap (a + (IntKind.i64.wrap (p + IntKind.i64.wrap (23 * (tn : Int)))).tmod 200) := ⟨_, rfl⟩
          repeat' first|exact (b8 (by assumption)).elim|refine Q1 ?_|refine Q2 ?_|refine Q3 hG Tryz.T Tryz.keep7 (by kernel_rfl) ?_|refine Q4 hG Tryz.T Tryz.keep7 (by kernel_rfl) ?_|refine Q5 hG Tryz.T ?_|refine Q6 hG Tryz.T ?_|refine Q7 hG Tryz.T ?_|refine Q8 hG Tryz.T ?_|refine Q9 rfl ?_|refine QF rfl ?_|refine QC rfl (And.intro (fun h => ?_) (fun h => ?_))|((conv => whnf); first|refine anF ?_|refine anT ?_|refine And.intro (by kernel_rfl) ?_|refine Exists.intro _ (And.intro (kp) ?_)|refine And.intro (by decide) ?_|refine And.intro (fun h => ?_) (fun h => ?_)|refine Or.inl ?_|fail)
          rw [← ht]
          refine SPB.loop (X := Nat × Bool × Bool) (fun x => ⟨[(16, .int .i64 x.1), (15, .loc 15 0), (14, .loc 14 0), (12, .int .i64 tn), (13, .int .i64 t), (9, loadsA D), (8, .loc 8 0), (7, optsA l), (1, .int .i64 at_)], [(15, [.bool false, .bool false, .bool false]), (14, [.bool false, .bool x.2.1, .bool x.2.2]), (8, spellA a b)]⟩) (fun x => x.1 ≤ l.length ∧ x.2.1 = (l.take x.1).any (cO t) ∧ x.2.2 = (l.take x.1).any fun o => o.sl.any (cS t)) (fun x => l.length - x.1) (0, false, false) ⟨Nat.zero_le _, rfl, rfl⟩ (St.le.of ?_ ?_) (fun x hx => ?_)
          · repeat' (first | exact trivial | refine And.intro rfl ?_)
          · repeat' (first | exact trivial | refine And.intro rfl ?_)
          · obtain ⟨i, w1, w2⟩ := x
            obtain ⟨hi, hw1, hw2⟩ := hx
            simp only at hi hw1 hw2 ⊢
            by_cases hlt_i : i < l.length
            · have bbk : decide ((i : Int) < ((l.map optA).length : Int)) = false → False := fun h => by have := of_decide_eq_false h; simp at this; omega
              have hx := opt_at hlt_i
              have hsl : (optAt l i).sl.length ≤ 1000000 := hs _ (by rw [optAt_eq hlt_i]; exact List.getElem_mem hlt_i)
              have hn1 : (l.take (i + 1)).any (cO t) = (w1 || cO t (optAt l i)) := by rw [show l.take (i + 1) = l.take i ++ [optAt l i] from take_next opt0 hlt_i, List.any_append, hw1]; simp
              have hn2 : ((l.take (i + 1)).any fun o => o.sl.any (cS t)) = (w2 || (optAt l i).sl.any (cS t)) := by rw [show l.take (i + 1) = l.take i ++ [optAt l i] from take_next opt0 hlt_i, List.any_append, hw2]; simp
              generalize optAt l i = u at *
              obtain ⟨cov, hcov⟩ : ∃ z, z = cO t u := ⟨_, rfl⟩
              rw [← hcov] at hn1
              unfold cO at hcov
              refine Q1 ?_
              refine SPB.cut (X := Unit) (fun _ => ⟨[(16, .int .i64 i), (15, .loc 15 0), (14, .loc 14 0), (12, .int .i64 tn), (13, .int .i64 t), (9, loadsA D), (8, .loc 8 0), (7, optsA l), (1, .int .i64 at_)], [(15, [.bool false, .bool false, .bool false]), (14, [.bool false, .bool w1, .bool w2]), (8, spellA a b)]⟩) (fun _ => True) ?_ (fun _ _ => ?_)
              · repeat' first|exact (bbk (by assumption)).elim|refine Q1 ?_|refine Q2 ?_|refine Q3 hG Tryz.T Tryz.keep7 (by kernel_rfl) ?_|refine Q4 hG Tryz.T Tryz.keep7 (by kernel_rfl) ?_|refine Q5 hG Tryz.T ?_|refine Q6 hG Tryz.T ?_|refine Q7 hG Tryz.T ?_|refine Q8 hG Tryz.T ?_|refine Q9 rfl ?_|refine QF rfl ?_|refine QC rfl (And.intro (fun h => ?_) (fun h => ?_))|((conv => whnf); first|refine anF ?_|refine anT ?_|refine And.intro (by kernel_rfl) ?_|refine And.intro (Int.natCast_nonneg i) (Exists.intro _ (And.intro hx ?_))|refine And.intro (fun h => ?_) (fun h => ?_)|refine Or.inl ?_|fail)
                all_goals first
                  | (refine Exists.intro () (And.intro trivial (St.le.of ?_ ?_))
                     · repeat' (first | exact trivial | refine And.intro rfl ?_)
                     · repeat' (first | exact trivial | refine And.intro rfl ?_))
              refine Q1 ?_
              refine Q2 ?_
              refine Q1 ?_
              refine SPB.cut (X := Unit) (fun _ => ⟨[(16, .int .i64 i), (15, .loc 15 0), (14, .loc 14 0), (12, .int .i64 tn), (13, .int .i64 t), (9, loadsA D), (8, .loc 8 0), (7, optsA l), (1, .int .i64 at_)], [(15, [.bool false, .bool false, .bool false]), (14, [.bool false, .bool (w1 || cov), .bool w2]), (8, spellA a b)]⟩) (fun _ => True) ?_ (fun _ _ => ?_)
              · repeat' first|refine Q1 ?_|refine Q2 ?_|refine Q3 hG Tryz.T Tryz.keep7 (by kernel_rfl) ?_|refine Q4 hG Tryz.T Tryz.keep7 (by kernel_rfl) ?_|refine Q5 hG Tryz.T ?_|refine Q6 hG Tryz.T ?_|refine Q7 hG Tryz.T ?_|refine Q8 hG Tryz.T ?_|refine Q9 rfl ?_|refine QF rfl ?_|refine QC rfl (And.intro (fun h => ?_) (fun h => ?_))|((conv => whnf); first|refine anF ?_|refine anT ?_|refine And.intro (by kernel_rfl) ?_|refine And.intro (Int.natCast_nonneg i) (Exists.intro _ (And.intro hx ?_))|refine And.intro (by decide) ?_|refine And.intro (fun h => ?_) (fun h => ?_)|refine Or.inl ?_|fail)
                all_goals (refine Exists.intro () (And.intro trivial (St.le.of ?_ ?_)))
                all_goals (repeat' (first | exact trivial | refine And.intro rfl ?_))
                all_goals (refine And.intro (congrArg (fun z => some [AV.bool false, AV.bool z, AV.bool w2]) ?_) ?_)
                all_goals first
                  | ((repeat' (first | exact trivial | refine And.intro rfl ?_)); done)
                  | rfl
                  | (clear hG hx fT1 fT2 fD hw1 hw2 hn1 hn2 ht; grind)
              repeat' first|exact (bbk (by assumption)).elim|refine Q1 ?_|refine Q2 ?_|refine Q3 hG Tryz.T Tryz.keep7 (by kernel_rfl) ?_|refine Q4 hG Tryz.T Tryz.keep7 (by kernel_rfl) ?_|refine Q5 hG Tryz.T ?_|refine Q6 hG Tryz.T ?_|refine Q7 hG Tryz.T ?_|refine Q8 hG Tryz.T ?_|refine Q9 rfl ?_|refine QF rfl ?_|refine QC rfl (And.intro (fun h => ?_) (fun h => ?_))|((conv => whnf); first|refine anF ?_|refine anT ?_|refine And.intro (by kernel_rfl) ?_|refine And.intro (fun h => ?_) (fun h => ?_)|refine Or.inl ?_|fail)
              refine SPB.loop (X := Nat × Bool) (fun x => ⟨[(17, .int .i64 x.1), (16, .int .i64 i), (15, .loc 15 0), (14, .loc 14 0), (12, .int .i64 tn), (13, .int .i64 t), (9, loadsA D), (8, .loc 8 0), (7, optsA l), (1, .int .i64 at_)], [(15, [.bool false, .bool false, .bool false]), (14, [.bool false, .bool (w1 || cov), .bool x.2]), (8, spellA a b)]⟩) (fun x => x.1 ≤ u.sl.length ∧ x.2 = (w2 || (u.sl.take x.1).any (cS t))) (fun x => u.sl.length - x.1) (0, w2) ⟨Nat.zero_le _, by simp⟩ (St.le.of ?_ ?_) (fun x hx => ?_)
              · repeat' (first | exact trivial | refine And.intro rfl ?_)
              · repeat' (first | exact trivial | refine And.intro rfl ?_)
              · obtain ⟨k, g⟩ := x
                obtain ⟨hk, hg⟩ := hx
                simp only at hk hg ⊢
                by_cases hlt_k : k < u.sl.length
                · have bbk : decide ((k : Int) < ((u.sl.map slotA).length : Int)) = false → False := fun h => by have := of_decide_eq_false h; simp at this; omega
                  have hy : (u.sl.map slotA)[(k : Int).toNat]? = some (slotA (u.sl.getD k slot0)) := slot_at hlt_k
                  have hsn : (w2 || (u.sl.take (k + 1)).any (cS t)) = (g || cS t (u.sl.getD k slot0)) := by rw [take_next slot0 hlt_k, List.any_append, hg]; simp [Bool.or_assoc]
                  generalize u.sl.getD k slot0 = v at *
                  unfold cS at hsn
                  repeat' first|exact (bbk (by assumption)).elim|refine Q1 ?_|refine Q2 ?_|refine Q3 hG Tryz.T Tryz.keep7 (by kernel_rfl) ?_|refine Q4 hG Tryz.T Tryz.keep7 (by kernel_rfl) ?_|refine Q5 hG Tryz.T ?_|refine Q6 hG Tryz.T ?_|refine Q7 hG Tryz.T ?_|refine Q8 hG Tryz.T ?_|refine Q9 rfl ?_|refine QF rfl ?_|refine QC rfl (And.intro (fun h => ?_) (fun h => ?_))|((conv => whnf); first|refine anF ?_|refine anT ?_|refine And.intro (by kernel_rfl) ?_|refine And.intro (Int.natCast_nonneg i) (Exists.intro _ (And.intro hx ?_))|refine And.intro (Int.natCast_nonneg k) (Exists.intro _ (And.intro hy ?_))|refine And.intro (by decide) ?_|refine And.intro (fun h => ?_) (fun h => ?_)|refine Or.inl ?_|fail)
                  all_goals (refine Exists.intro (k + 1, g || (decide (t ≥ v.a) && decide (t < v.b))) (And.intro ⟨hlt_k, hsn.symm⟩ (And.intro (by show u.sl.length - (k + 1) < u.sl.length - k; omega) (St.le.of ?_ ?_))))
                  all_goals first
                    | (refine And.intro (congrArg some (le_next (by omega))) ?_
                       repeat' (first | exact trivial | refine And.intro rfl ?_))
                    | (refine And.intro rfl (And.intro (congrArg (fun z => some [AV.bool false, AV.bool (w1 || cov), AV.bool z]) ?_) ?_)
                       · first | rfl | (clear hG hx hy fT1 fT2 fD hn1 hn2 hsn hg ht; grind)
                       · repeat' (first | exact trivial | refine And.intro rfl ?_))
                · have bbk : decide ((k : Int) < ((u.sl.map slotA).length : Int)) = true → False := fun h => by have := of_decide_eq_true h; simp at this; omega
                  have he : u.sl.take k = u.sl := List.take_of_length_le (by omega)
                  rw [he] at hg
                  repeat' first|exact (bbk (by assumption)).elim|refine Q1 ?_|refine Q2 ?_|refine Q3 hG Tryz.T Tryz.keep7 (by kernel_rfl) ?_|refine Q4 hG Tryz.T Tryz.keep7 (by kernel_rfl) ?_|refine Q5 hG Tryz.T ?_|refine Q6 hG Tryz.T ?_|refine Q7 hG Tryz.T ?_|refine Q8 hG Tryz.T ?_|refine Q9 rfl ?_|refine QF rfl ?_|refine QC rfl (And.intro (fun h => ?_) (fun h => ?_))|((conv => whnf); first|refine anF ?_|refine anT ?_|refine And.intro (by kernel_rfl) ?_|refine And.intro (Int.natCast_nonneg i) (Exists.intro _ (And.intro hx ?_))|refine And.intro (fun h => ?_) (fun h => ?_)|refine Or.inl ?_|fail)
                  conv => whnf
                  refine Exists.intro (i + 1, w1 || cov, g) (And.intro ⟨hlt_i, ?_, ?_⟩ (And.intro (by show l.length - (i + 1) < l.length - i; omega) (St.le.of ?_ ?_)))
                  · rw [hn1]
                  · rw [hg, hn2]
                  · refine And.intro (congrArg some (le_next (by omega))) ?_
                    repeat' (first | exact trivial | refine And.intro rfl ?_)
                  · repeat' (first | exact trivial | refine And.intro rfl ?_)
            · have bbk : decide ((i : Int) < ((l.map optA).length : Int)) = true → False := fun h => by have := of_decide_eq_true h; simp at this; omega
              have he : l.take i = l := List.take_of_length_le (by omega)
              rw [he] at hw1 hw2
              repeat' first|exact (bbk (by assumption)).elim|refine Q1 ?_|refine Q2 ?_|refine Q3 hG Tryz.T Tryz.keep7 (by kernel_rfl) ?_|refine Q4 hG Tryz.T Tryz.keep7 (by kernel_rfl) ?_|refine Q5 hG Tryz.T ?_|refine Q6 hG Tryz.T ?_|refine Q7 hG Tryz.T ?_|refine Q8 hG Tryz.T ?_|refine Q9 rfl ?_|refine QF rfl ?_|refine QC rfl (And.intro (fun h => ?_) (fun h => ?_))|((conv => whnf); first|refine anF ?_|refine anT ?_|refine And.intro (by kernel_rfl) ?_|refine And.intro (fun h => ?_) (fun h => ?_)|refine Or.inl ?_|fail)
              refine SPB.loop (X := Nat × Bool × Bool) (fun x => ⟨[(18, .int .i64 x.1), (15, .loc 15 0), (14, .loc 14 0), (12, .int .i64 tn), (13, .int .i64 t), (9, loadsA D), (8, .loc 8 0), (7, optsA l), (1, .int .i64 at_)], [(15, [.bool false, .bool x.2.1, .bool x.2.2]), (14, [.bool false, .bool w1, .bool w2]), (8, spellA a b)]⟩) (fun x => x.1 ≤ D.length ∧ x.2.1 = (D.take x.1).any (cL t 1) ∧ x.2.2 = (D.take x.1).any (cL t 2)) (fun x => D.length - x.1) (0, false, false) ⟨Nat.zero_le _, rfl, rfl⟩ (St.le.of ?_ ?_) (fun x hx => ?_)
              · repeat' (first | exact trivial | refine And.intro rfl ?_)
              · repeat' (first | exact trivial | refine And.intro rfl ?_)
              · obtain ⟨j, g1, g2⟩ := x
                obtain ⟨hj, hg1, hg2⟩ := hx
                simp only at hj hg1 hg2 ⊢
                by_cases hlt_j : j < D.length
                · have bbj : decide ((j : Int) < ((D.map loadA).length : Int)) = false → False := fun h => by have := of_decide_eq_false h; simp at this; omega
                  have hx := row_at (f := loadA) ld0 hlt_j
                  obtain ⟨_, hkd, _⟩ := fD j hlt_j
                  have hn1 : (D.take (j + 1)).any (cL t 1) = (g1 || cL t 1 (D.getD j ld0)) := by rw [take_next ld0 hlt_j, List.any_append, hg1]; simp
                  have hn2 : (D.take (j + 1)).any (cL t 2) = (g2 || cL t 2 (D.getD j ld0)) := by rw [take_next ld0 hlt_j, List.any_append, hg2]; simp
                  generalize D.getD j ld0 = u at *
                  obtain ⟨uk, ua, ub⟩ := u
                  simp only at hkd
                  rcases hkd with rfl | rfl
                  · have q1 : cL t 1 ⟨1, ua, ub⟩ = (decide (t ≥ ua) && decide (t < ub)) := by simp [cL]
                    have q2 : cL t 2 ⟨1, ua, ub⟩ = false := by simp [cL]
                    rw [q1] at hn1
                    rw [q2] at hn2
                    try rw [Bool.or_false] at hn1
                    try rw [Bool.or_false] at hn2
                    repeat' first|exact (bbj (by assumption)).elim|refine Q1 ?_|refine Q2 ?_|refine Q3 hG Tryz.T Tryz.keep7 (by kernel_rfl) ?_|refine Q4 hG Tryz.T Tryz.keep7 (by kernel_rfl) ?_|refine Q5 hG Tryz.T ?_|refine Q6 hG Tryz.T ?_|refine Q7 hG Tryz.T ?_|refine Q8 hG Tryz.T ?_|refine Q9 rfl ?_|refine QF rfl ?_|refine QC rfl (And.intro (fun h => ?_) (fun h => ?_))|((conv => whnf); first|refine anF ?_|refine anT ?_|refine And.intro (by kernel_rfl) ?_|refine And.intro (Int.natCast_nonneg j) (Exists.intro _ (And.intro hx ?_))|refine And.intro (of_decide_eq_true (Eq.refl true)) (And.intro (of_decide_eq_true (Eq.refl true)) ?_)|refine And.intro (fun h => ?_) (fun h => ?_)|refine Or.inl ?_|fail)
                    all_goals (refine Exists.intro (j + 1, (g1 || (decide (t ≥ ua) && decide (t < ub)), g2)) (And.intro ⟨hlt_j, ?_, ?_⟩ (And.intro (by show D.length - (j + 1) < D.length - j; omega) (St.le.of ?_ ?_))))
                    all_goals first
                      | exact hn1.symm
                      | exact hn2.symm
                      | (refine And.intro (congrArg some (le_next (by omega))) ?_
                         repeat' (first | exact trivial | refine And.intro rfl ?_))
                      | (refine And.intro (congrArg (fun z => some [AV.bool false, AV.bool z, AV.bool g2]) ?_) ?_
                         · first | rfl | (clear hG hx fT1 fT2 fD hn1 hn2 hg1 hg2 hw1 hw2 ht; grind)
                         · repeat' (first | exact trivial | refine And.intro rfl ?_))
                  · have q1 : cL t 1 ⟨2, ua, ub⟩ = false := by simp [cL]
                    have q2 : cL t 2 ⟨2, ua, ub⟩ = (decide (t ≥ ua) && decide (t < ub)) := by simp [cL]
                    rw [q1] at hn1
                    rw [q2] at hn2
                    try rw [Bool.or_false] at hn1
                    try rw [Bool.or_false] at hn2
                    repeat' first|exact (bbj (by assumption)).elim|refine Q1 ?_|refine Q2 ?_|refine Q3 hG Tryz.T Tryz.keep7 (by kernel_rfl) ?_|refine Q4 hG Tryz.T Tryz.keep7 (by kernel_rfl) ?_|refine Q5 hG Tryz.T ?_|refine Q6 hG Tryz.T ?_|refine Q7 hG Tryz.T ?_|refine Q8 hG Tryz.T ?_|refine Q9 rfl ?_|refine QF rfl ?_|refine QC rfl (And.intro (fun h => ?_) (fun h => ?_))|((conv => whnf); first|refine anF ?_|refine anT ?_|refine And.intro (by kernel_rfl) ?_|refine And.intro (Int.natCast_nonneg j) (Exists.intro _ (And.intro hx ?_))|refine And.intro (of_decide_eq_true (Eq.refl true)) (And.intro (of_decide_eq_true (Eq.refl true)) ?_)|refine And.intro (fun h => ?_) (fun h => ?_)|refine Or.inl ?_|fail)
                    all_goals (refine Exists.intro (j + 1, (g1, g2 || (decide (t ≥ ua) && decide (t < ub)))) (And.intro ⟨hlt_j, ?_, ?_⟩ (And.intro (by show D.length - (j + 1) < D.length - j; omega) (St.le.of ?_ ?_))))
                    all_goals first
                      | exact hn1.symm
                      | exact hn2.symm
                      | (refine And.intro (congrArg some (le_next (by omega))) ?_
                         repeat' (first | exact trivial | refine And.intro rfl ?_))
                      | (refine And.intro (congrArg (fun z => some [AV.bool false, AV.bool g1, AV.bool z]) ?_) ?_
                         · first | rfl | (clear hG hx fT1 fT2 fD hn1 hn2 hg1 hg2 hw1 hw2 ht; grind)
                         · repeat' (first | exact trivial | refine And.intro rfl ?_))
                · have bbj : decide ((j : Int) < ((D.map loadA).length : Int)) = true → False := fun h => by have := of_decide_eq_true h; simp at this; omega
                  have he : D.take j = D := List.take_of_length_le (by omega)
                  rw [he] at hg1 hg2
                  have e1 : w1 = g1 := by rw [hw1, hg1, fT1]
                  have e2 : w2 = g2 := by rw [hw2, hg2, fT2]
                  subst e1
                  subst e2
                  have b9 : (!(false == false && (w1 == w1 && (w2 == w2 && true)))) = true → False := fun h => by simp at h
                  repeat' first|exact (bbj (by assumption)).elim|refine Q1 ?_|refine Q2 ?_|refine Q3 hG Tryz.T Tryz.keep7 (by kernel_rfl) ?_|refine Q4 hG Tryz.T Tryz.keep7 (by kernel_rfl) ?_|refine Q5 hG Tryz.T ?_|refine Q6 hG Tryz.T ?_|refine Q7 hG Tryz.T ?_|refine Q8 hG Tryz.T ?_|refine Q9 rfl ?_|refine QF rfl ?_|refine QC rfl (And.intro (fun h => ?_) (fun h => ?_))|((conv => whnf); first|refine anF ?_|refine anT ?_|refine And.intro (by kernel_rfl) ?_|refine And.intro (fun h => ?_) (fun h => ?_)|refine Or.inl ?_|fail)
                  all_goals first
                    | exact (b9 (by assumption)).elim
                    | (refine Exists.intro (tn + 1) (And.intro (by omega) (And.intro (by omega) (St.le.of ?_ ?_)))
                       · refine And.intro (congrArg some (le_next (by omega))) ?_
                         repeat' (first | exact trivial | refine And.intro rfl ?_)
                       · repeat' (first | exact trivial | refine And.intro rfl ?_))
        · have b8 : decide ((tn : Int) < 8) = true → False := fun h => by have := of_decide_eq_true h; omega
          repeat' first|exact (b8 (by assumption)).elim|refine Q1 ?_|refine Q2 ?_|refine Q3 hG Tryz.T Tryz.keep7 (by kernel_rfl) ?_|refine Q4 hG Tryz.T Tryz.keep7 (by kernel_rfl) ?_|refine Q5 hG Tryz.T ?_|refine Q6 hG Tryz.T ?_|refine Q7 hG Tryz.T ?_|refine Q8 hG Tryz.T ?_|refine Q9 rfl ?_|refine QF rfl ?_|refine QC rfl (And.intro (fun h => ?_) (fun h => ?_))|((conv => whnf); first|refine anF ?_|refine anT ?_|refine And.intro (by kernel_rfl) ?_|refine And.intro (fun h => ?_) (fun h => ?_)|refine Or.inl ?_|fail)
          exact Ends.mk (Or.inl rfl) (AV.weak.of_eq rfl)
end Go.Proofs
namespace Go.Proofs
open Go Go.AI
set_option maxRecDepth 10000
theorem Tryz.x7 (c : TCase) (at_ : Int) : ACalls Tryz.prog 7 [.agg (caseA c), .int .i64 at_] (.bool true) := by
  obtain ⟨⟨h1, h2⟩, h3, h4, h5⟩ := loads_say c
  exact Tryz.y7 c c.s c.l c.ps c.a c.b at_ _ _ h1 (Tryz.kslens c) h2 Tryz.sane19 (Tryz.made c) (Tryz.kL c) (Tryz.lpick at_ 200 (by decide)) h3 h4 h5
end Go.Proofs
namespace Go.Proofs
open Go Go.AI Go.Proofs.YtehdegggapeihaaGreat
set_option maxRecDepth 100000
theorem Tryz.own : ownKnob Tryz.prog.godebug = none := by kernel_rfl
theorem Tryz.laidOut : laidOutB Tryz.prog = true := by kernel_rfl
theorem Tryz.reads3 : (Tryz.prog.readableRec 3 && Nat.blt 3 Tryz.prog.types.size) = true := by kernel_rfl
theorem Tryz.reads27 : (Tryz.prog.readableRec 27 && Nat.blt 27 Tryz.prog.types.size) = true := by kernel_rfl
def caseSh : List Sh := [.int .i64, .int .i64, .int .i64, .int .i64, .int .i64, .int .i64, .int .i64, .int .i64, .int .i64, .int .i64, .int .i64, .sl [.int .i64, .int .i64, .int .i64], .sl [.int .i64, .int .i64, .int .i64, .int .i64, .int .i64], .int .i64]
def lawSh : List (Bool × List Sh) := [(true, caseSh), (false, [.int .i64])]
theorem Tryz.shs : paramSh Tryz.prog 8 [27, 3] = some lawSh := by kernel_rfl
theorem Tryz.lifted (law : ∀ avs, PArgs 8 lawSh avs → ACalls Tryz.prog 7 avs (.bool true)) (os : Os) (started : os.Started) (H : Type) (enc : TypeId × Value → H) :
    ReturnsInHanded {} Tryz.checked os 7 .any (Rows.trackLoadsSpec.pre6 enc Tryz.prog Tryz.f7 Rows.trackLoadsRow.domain false) (Rows.trackLoadsSpec.post enc Tryz.prog Tryz.f7 false true false false) :=
  law_lifted (C := Tryz.checked) (tb := 4) Tryz.own started (by kernel_rfl) Tryz.func7
    (ChangeSpec.witness6 (enc := enc) (C := Tryz.checked) false ⟨#[], #[.agg #[.int .i64 0, .int .i64 0, .int .i64 0, .int .i64 0, .int .i64 0, .int .i64 0, .int .i64 0, .int .i64 0, .int .i64 0, .int .i64 0, .int .i64 0, .slice none 0 0, .slice none 0 0, .int .i64 0], .int .i64 0], []⟩ 8 (by kernel_rfl) (by kernel_rfl) (by kernel_rfl) (by kernel_rfl))
    rfl (by kernel_rfl) (by kernel_rfl) (fun ds h => by
      match ds, h with
      | [d0, d1], _ => rfl) Tryz.shs Tryz.laidOut (fun t ht => by
      have e : Tryz.f7.params.toList = [27, 3] := by kernel_rfl
      rw [e] at ht
      simp only [List.mem_cons, List.not_mem_nil, or_false] at ht
      have h3 := Tryz.reads3
      have h27 := Tryz.reads27
      simp only [Bool.and_eq_true] at h3 h27
      rcases ht with h | h <;> subst h <;> first | exact ⟨h3.1, Nat.le_of_ble_eq_true h3.2⟩ | exact ⟨h27.1, Nat.le_of_ble_eq_true h27.2⟩) law
theorem Tryz.jf0 : (Rows.trackLoadsRow.wf (OpenSpec.ofChange Rows.trackLoadsSpec) : Bool) = true := by kernel_rfl
theorem Tryz.jf1 : (laidOutB Tryz.pinned.checked.prog : Bool) = true := by kernel_rfl
theorem Tryz.jf2 : (mapsRowed Tryz.pinned.checked.prog : Bool) = true := by kernel_rfl
theorem Tryz.jf3 : (Tryz.f7.params.all (Tryz.pinned.checked.prog.readableRec ·) : Bool) = true := by kernel_rfl
theorem Tryz.jf4 : (namedTie Tryz.pinned.checked.prog Rows.trackLoadsRow.named Rows.trackLoadsSpec.vars : Bool) = true := by kernel_rfl
theorem Tryz.jf5 : ((Rows.trackLoadsRow.stops == []) : Bool) = true := by kernel_rfl
theorem Tryz.jf6 : ((Tryz.pinned.checked.prog.stops == []) : Bool) = true := by kernel_rfl
theorem Tryz.jf7 : ((Rows.trackLoadsRow.knobs == []) : Bool) = true := by kernel_rfl
theorem Tryz.jf8 : ((Tryz.pinned.checked.prog.stopKnobs == []) : Bool) = true := by kernel_rfl
theorem Tryz.jf9 : ((Rows.trackLoadsRow.inPlace == Tryz.pinned.checked.prog.inPlace 7) : Bool) = true := by kernel_rfl
theorem Tryz.jf10 : ((Rows.trackLoadsRow.unfollowed == Tryz.pinned.checked.prog.unfollowed 7) : Bool) = true := by kernel_rfl
theorem Tryz.jf11 : ((Rows.trackLoadsRow.recurses == Tryz.pinned.checked.prog.recurses 7) : Bool) = true := by kernel_rfl
theorem Tryz.jf12 : ((Rows.trackLoadsRow.named == Tryz.pinned.checked.prog.varsNamed 7) : Bool) = true := by kernel_rfl
theorem Tryz.jf13 : ((Rows.trackLoadsRow.maps == (Tryz.f7.params.toList ++ Rows.trackLoadsSpec.plain.varTypes Tryz.pinned.checked.prog).any (Tryz.pinned.checked.prog.mapsRec ·)) : Bool) = true := by kernel_rfl
theorem Tryz.jf14 : ((Rows.trackLoadsRow.ifaces == (Tryz.f7.params.toList ++ Rows.trackLoadsSpec.plain.varTypes Tryz.pinned.checked.prog).any (Tryz.pinned.checked.prog.ifacesRec ·)) : Bool) = true := by kernel_rfl
theorem Tryz.jf15 : ((Rows.trackLoadsRow.mapsOut == Tryz.pinned.checked.prog.mapsAmong Tryz.f7.resultTypes.toList) : Bool) = true := by kernel_rfl
theorem Tryz.jf16 : ((Rows.trackLoadsRow.loops == (Tryz.f7.params.toList ++ Rows.trackLoadsSpec.plain.varTypes Tryz.pinned.checked.prog).any (Tryz.pinned.checked.prog.loopsFrom ·)) : Bool) = true := by kernel_rfl
theorem Tryz.jf17 : ((Rows.trackLoadsRow.wideKeys == (Tryz.f7.params.toList ++ Rows.trackLoadsSpec.plain.varTypes Tryz.pinned.checked.prog ++ Tryz.f7.resultTypes.toList).any (Tryz.pinned.checked.prog.wideKeysFrom ·)) : Bool) = true := by kernel_rfl
theorem Tryz.jf18 : (Rows.trackLoadsSpec.vars.all (Tryz.pinned.checked.prog.varReadable ·) : Bool) = true := by kernel_rfl
theorem Tryz.jf19 : (Tryz.f7.resultTypes.all (fun t => Tryz.pinned.checked.prog.readableRec t && decide (t < Tryz.pinned.checked.prog.types.size)) : Bool) = true := by kernel_rfl
theorem Tryz.jf20 : ((Rows.trackLoadsRow.ifacesOut == Tryz.f7.resultTypes.toList.any (Tryz.pinned.checked.prog.ifacesRec ·)) : Bool) = true := by kernel_rfl
theorem Tryz.jf21 : ((Rows.trackLoadsRow.loopsOut == Tryz.f7.resultTypes.toList.any (Tryz.pinned.checked.prog.loopsFrom ·)) : Bool) = true := by kernel_rfl
theorem Tryz.jf22 : ((Rows.trackLoadsRow.plainKeys == Tryz.pinned.checked.prog.plainKeys) : Bool) = true := by kernel_rfl
theorem Tryz.jf23 : (Rows.trackLoadsRow.shortTexts.isNone : Bool) = true := by kernel_rfl
theorem Tryz.jf24 : (Tryz.pinned.checked.prog.stopsHeard : Bool) = true := by kernel_rfl
theorem Tryz.jf25 : (Tryz.pinned.checked.prog.mayEnter : Bool) = true := by kernel_rfl
theorem Tryz.jf26 : ((Rows.trackLoadsRow.lifted == Tryz.pinned.checked.prog.liftsFinal) : Bool) = true := by kernel_rfl
theorem Tryz.jf27 : ((Tryz.pinned.checked.prog.make == some Rows.trackLoadsRow.make) : Bool) = true := by kernel_rfl
theorem Tryz.jf28 : ((Rows.trackLoadsRow.kinds == (if Rows.trackLoadsRow.domain.isEmpty then [] else Tryz.f7.params.toList.map fun t => match Tryz.pinned.checked.prog.underlying t with | some (.int k) => some k | _ => none)) : Bool) = true := by kernel_rfl
theorem Tryz.jf29 : ((Rows.trackLoadsRow.pinned == Rows.trackLoadsRow.pinnedBy) : Bool) = true := by kernel_rfl
theorem Tryz.jf30 : ((Rows.trackLoadsRow.veiled == (Tryz.f7.params.toList ++ Rows.trackLoadsSpec.plain.varTypes Tryz.pinned.checked.prog ++ Tryz.f7.resultTypes.toList).any (Tryz.pinned.checked.prog.veiledRec ·)) : Bool) = true := by kernel_rfl
theorem Tryz.jf31 : (Rows.trackLoadsRow.veiledFits Tryz.pinned.checked.prog Tryz.f7.params.toList (Tryz.f7.params.toList ++ Rows.trackLoadsSpec.plain.varTypes Tryz.pinned.checked.prog ++ Tryz.f7.resultTypes.toList) : Bool) = true := by kernel_rfl
theorem and_i {a b : Bool} (h : a = true) (k : b = true) : (a && b) = true := by rw [h, k]; rfl
theorem Tryz.jf : joinedFacts Tryz.pinned.checked.prog 7 Tryz.f7 Rows.trackLoadsSpec Rows.trackLoadsRow = true := by
  unfold joinedFacts
  exact and_i (and_i (and_i (and_i (and_i (and_i (and_i (and_i (and_i (and_i (and_i (and_i (and_i (and_i (and_i (and_i (and_i (and_i (and_i (and_i (and_i (and_i (and_i (and_i (and_i (and_i (and_i (and_i (and_i (and_i (and_i (Tryz.jf0) Tryz.jf1) Tryz.jf2) Tryz.jf3) Tryz.jf4) Tryz.jf5) Tryz.jf6) Tryz.jf7) Tryz.jf8) Tryz.jf9) Tryz.jf10) Tryz.jf11) Tryz.jf12) Tryz.jf13) Tryz.jf14) Tryz.jf15) Tryz.jf16) Tryz.jf17) Tryz.jf18) Tryz.jf19) Tryz.jf20) Tryz.jf21) Tryz.jf22) Tryz.jf23) Tryz.jf24) Tryz.jf25) Tryz.jf26) Tryz.jf27) Tryz.jf28) Tryz.jf29) Tryz.jf30) Tryz.jf31
theorem Tryz.row (law : ∀ avs, PArgs 8 lawSh avs → ACalls Tryz.prog 7 avs (.bool true)) : Rows.TrackLoadsSaid :=
  OpenClaim.holds_of_wide (p := Tryz.pinned) (s := Rows.trackLoadsSpec) (c := Rows.trackLoadsRow) 7 Tryz.f7 rfl rfl rfl rfl rfl rfl rfl ⟨rfl, rfl, rfl, rfl, rfl⟩ rfl rfl rfl rfl rfl (by kernel_rfl) Tryz.func7 Tryz.jf
    (of_decide_eq_true (by kernel_rfl)) (by unfold Func.isWrapper; first | (rw [if_pos (by decide +kernel)]; kernel_rfl) | (rw [if_neg (by decide +kernel)]; exact ⟨rfl, rfl⟩))
    (fun os started H enc _ => Tryz.lifted law os started H enc)
theorem pargs_agg {n : Nat} {L : List Sh} {r : List (Bool × List Sh)} {avs : List AV} (h : PArgs n ((true, L) :: r) avs) : ∃ cs q, avs = .agg cs :: q ∧ Fa (ShOK n) L cs ∧ PArgs n r q := by
  match avs, h with
  | _ :: q, h =>
    obtain ⟨⟨cs, rfl, h1⟩, h2⟩ := h
    exact ⟨cs, q, rfl, h1, h2⟩
  | [], h => exact h.elim
theorem pargs_int {n : Nat} {r : List (Bool × List Sh)} {avs : List AV} (h : PArgs (n + 1) ((false, [.int .i64]) :: r) avs) : ∃ z q, avs = .int .i64 z :: q ∧ inI z ∧ PArgs (n + 1) r q := by
  match avs, h with
  | _ :: q, h =>
    obtain ⟨⟨s, e, h1⟩, h2⟩ := h
    cases e
    obtain ⟨z, rfl, hz⟩ := int_inv h1
    exact ⟨z, q, rfl, hz, h2⟩
  | [], h => exact h.elim
theorem pargs_sl {n : Nat} {e : List Sh} {r : List (Bool × List Sh)} {avs : List AV} (h : PArgs n ((false, [.sl e]) :: r) avs) : ∃ z q, avs = z :: q ∧ ShOK n (.sl e) z ∧ PArgs n r q := by
  match avs, h with
  | _ :: q, h =>
    obtain ⟨⟨s, e, h1⟩, h2⟩ := h
    cases e
    exact ⟨_, q, rfl, h1, h2⟩
  | [], h => exact h.elim
theorem pargs_nil {n : Nat} {avs : List AV} (h : PArgs n [] avs) : avs = [] := by
  match avs, h with
  | [], _ => rfl
  | _ :: _, h => exact h.elim
theorem intsL_of {n : Nat} {a : AV} (h : ShOK (n + 2) (.sl [.int .i64]) a) : ∃ z : List Int, (∀ x ∈ z, inI x) ∧ a = intsA z := by
  obtain ⟨xs, rfl, h2⟩ := h
  suffices hs : ∀ l : List (List AV), (∀ x ∈ l, Fa (ShOK (n + 1)) [.int .i64] x) → ∃ z : List Int, (∀ x ∈ z, inI x) ∧ l = z.map fun h => [AV.int .i64 h] by
    obtain ⟨z, g1, g2⟩ := hs xs h2
    exact ⟨z, g1, congrArg (AV.sl .no 1) g2⟩
  intro l
  induction l with
  | nil => exact fun _ => ⟨[], by simp, rfl⟩
  | cons y r ih =>
    intro h
    obtain ⟨z, g1, rfl⟩ := ih (fun x hx => h x (List.mem_cons_of_mem _ hx))
    obtain ⟨b, q, rfl, h0, h'⟩ := Fa.cons_inv (h y List.mem_cons_self)
    obtain rfl := Fa.nil_inv h'
    obtain ⟨w, rfl, hw⟩ := int_inv h0
    exact ⟨w :: z, fun v hv => by rcases List.mem_cons.1 hv with rfl | hv; exact hw; exact g1 v hv, rfl⟩
theorem rows5_of {n : Nat} {a : AV} (h : ShOK (n + 2) (.sl [.int .i64, .int .i64, .int .i64, .int .i64, .int .i64]) a) : ∃ z : List R5, (∀ x ∈ z, inI5 x) ∧ a = .sl .no 5 (z.map row5A) := by
  obtain ⟨xs, rfl, h2⟩ := h
  suffices hs : ∀ l : List (List AV), (∀ x ∈ l, Fa (ShOK (n + 1)) [.int .i64, .int .i64, .int .i64, .int .i64, .int .i64] x) → ∃ z : List R5, (∀ x ∈ z, inI5 x) ∧ l = z.map row5A by
    obtain ⟨z, g1, g2⟩ := hs xs h2
    exact ⟨z, g1, congrArg (AV.sl .no 5) g2⟩
  intro l
  induction l with
  | nil => exact fun _ => ⟨[], by simp, rfl⟩
  | cons y r ih =>
    intro h
    obtain ⟨z, g1, rfl⟩ := ih (fun x hx => h x (List.mem_cons_of_mem _ hx))
    obtain ⟨b0, q, rfl, h0, h'⟩ := Fa.cons_inv (h y List.mem_cons_self)
    obtain ⟨b1, q, rfl, h1, h'⟩ := Fa.cons_inv h'
    obtain ⟨b2, q, rfl, h2, h'⟩ := Fa.cons_inv h'
    obtain ⟨b3, q, rfl, h3, h'⟩ := Fa.cons_inv h'
    obtain ⟨b4, q, rfl, h4, h'⟩ := Fa.cons_inv h'
    obtain rfl := Fa.nil_inv h'
    obtain ⟨z0, rfl, i0⟩ := int_inv h0
    obtain ⟨z1, rfl, i1⟩ := int_inv h1
    obtain ⟨z2, rfl, i2⟩ := int_inv h2
    obtain ⟨z3, rfl, i3⟩ := int_inv h3
    obtain ⟨z4, rfl, i4⟩ := int_inv h4
    exact ⟨⟨z0, z1, z2, z3, z4⟩ :: z, fun w hw => by rcases List.mem_cons.1 hw with rfl | hw; exact ⟨i0, i1, i2, i3, i4⟩; exact g1 w hw, rfl⟩
theorem getD_inI {l : List Int} (h : ∀ y ∈ l, inI y) (i : Nat) : inI (l.getD i 0) := by
  rw [List.getD_eq_getElem?_getD]
  cases hi : l[i]? with
  | none => show inI 0; unfold inI; omega
  | some y => exact h y (List.mem_of_getElem? hi)
theorem case_of {n : Nat} {cs : List AV} (h : Fa (ShOK (n + 2)) caseSh cs) : ∃ c : TCase, cs = caseA c := by
  obtain ⟨b0, q, rfl, h0, h⟩ := Fa.cons_inv h
  obtain ⟨b1, q, rfl, h1, h⟩ := Fa.cons_inv h
  obtain ⟨b2, q, rfl, h2, h⟩ := Fa.cons_inv h
  obtain ⟨b3, q, rfl, h3, h⟩ := Fa.cons_inv h
  obtain ⟨b4, q, rfl, h4, h⟩ := Fa.cons_inv h
  obtain ⟨b5, q, rfl, h5, h⟩ := Fa.cons_inv h
  obtain ⟨b6, q, rfl, h6, h⟩ := Fa.cons_inv h
  obtain ⟨b7, q, rfl, h7, h⟩ := Fa.cons_inv h
  obtain ⟨b8, q, rfl, h8, h⟩ := Fa.cons_inv h
  obtain ⟨b9, q, rfl, h9, h⟩ := Fa.cons_inv h
  obtain ⟨b10, q, rfl, h10, h⟩ := Fa.cons_inv h
  obtain ⟨b11, q, rfl, h11, h⟩ := Fa.cons_inv h
  obtain ⟨b12, q, rfl, h12, h⟩ := Fa.cons_inv h
  obtain ⟨b13, q, rfl, h13, h⟩ := Fa.cons_inv h
  obtain rfl := Fa.nil_inv h
  obtain ⟨z0, rfl, i0⟩ := int_inv h0
  obtain ⟨z1, rfl, i1⟩ := int_inv h1
  obtain ⟨z2, rfl, i2⟩ := int_inv h2
  obtain ⟨z3, rfl, i3⟩ := int_inv h3
  obtain ⟨z4, rfl, i4⟩ := int_inv h4
  obtain ⟨z5, rfl, i5⟩ := int_inv h5
  obtain ⟨z6, rfl, i6⟩ := int_inv h6
  obtain ⟨z7, rfl, i7⟩ := int_inv h7
  obtain ⟨z8, rfl, i8⟩ := int_inv h8
  obtain ⟨z9, rfl, i9⟩ := int_inv h9
  obtain ⟨z10, rfl, i10⟩ := int_inv h10
  obtain ⟨z, hz, rfl⟩ := rows_of h11
  obtain ⟨v, hv, rfl⟩ := rows5_of h12
  obtain ⟨f, rfl, hf⟩ := int_inv h13
  exact ⟨⟨fun i => [z0, z1, z2, z3, z4, z5, z6].getD i 0, fun i => [z7, z8, z9, z10].getD i 0, z, v, f, getD_inI (by simp [*]), getD_inI (by simp [*]), hz, hv, hf⟩, rfl⟩
end Go.Proofs
namespace Go.Proofs.YtehdegggapeihaaGreat
open Go Go.AI
theorem trackLoads : Rows.TrackLoadsSaid := Tryz.row fun avs h => by
  obtain ⟨cs, q, rfl, h1, h⟩ := pargs_agg h
  obtain ⟨z1, q, rfl, i1, h⟩ := pargs_int h
  obtain rfl := pargs_nil h
  obtain ⟨c, rfl⟩ := case_of h1
  exact Go.Proofs.Tryz.x7 c z1
end Go.Proofs.YtehdegggapeihaaGreat
