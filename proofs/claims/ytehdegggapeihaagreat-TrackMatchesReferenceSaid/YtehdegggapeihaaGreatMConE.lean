/- Contracts of the functions and plain facts about what they reckon, part 5: called with arguments that read so, each hands back what is typed. The conditions are those typed. -/
import Derived.Test.YtehdegggapeihaaGreatMConD
set_option linter.unusedSectionVars false
set_option linter.unusedVariables false
set_option linter.unusedSimpArgs false
namespace Go.Proofs
open Go Go.AI
set_option maxRecDepth 10000
theorem rC (n a b : Int) : ae Tryz.prog 99 [.int .i64 n, .int .i64 a, .int .i64 b] (.bool (inS n a b)) := by
 refine ah aa Tryz.func99 rfl (by kernel_rfl) af (Nat.le_of_ble_eq_true rfl) ?_
 intro F n' w0 m0 hG hro h1
 repeat' first|refine Q1 ?_|refine Q2 ?_|refine Q3 hG aa pr ?_|refine Q4 hG aa pr ?_|refine Q5 hG aa ?_|refine Q6 hG aa ?_|refine Q7 hG aa ?_|refine Q8 hG aa ?_|refine Q9 rfl ?_|refine QF rfl ?_|refine QC rfl ⟨fun h => ?_,fun h => ?_⟩|((conv => whnf); first|refine anF ?_|refine anT ?_|refine anK ?_|refine And.intro (fun h => ?_) (fun h => ?_)|refine Or.inl ?_)
 all_goals refine Ends.mk (Or.inl rfl) (ac (congrArg AV.bool ?_))
 all_goals (clear hG; grind [inS])
theorem Bh (a b : Int) : bi a b = (decide (0 ≤ a) && decide (a < b) && decide (b ≤ 1000000)) := by
 rw [Bool.eq_iff_iff, dG]; simp [and_assoc]
theorem kr (a b : Int) : ae Tryz.prog 91 [.agg (ar a b)] (.bool (bi a b)) := by
 rw [Bh]
 refine ah aa Tryz.func91 rfl (by kernel_rfl) af (Nat.le_of_ble_eq_true rfl) ?_
 intro F n' w0 m0 hG hro h1
 repeat' first|refine Q1 ?_|refine Q2 ?_|refine Q3 hG aa py ?_|refine Q4 hG aa py ?_|refine Q5 hG aa ?_|refine Q6 hG aa ?_|refine Q7 hG aa ?_|refine Q8 hG aa ?_|refine Q9 rfl ?_|refine QF rfl ?_|refine QC rfl ⟨fun h => ?_,fun h => ?_⟩|((conv => whnf); first|refine anF ?_|refine anT ?_|refine anK ?_|refine Exists.intro _ (And.intro (rC _ _ _) ?_)|refine And.intro (fun h => ?_) (fun h => ?_)|refine Or.inl ?_)
 all_goals refine Ends.mk (Or.inl rfl) (ac (congrArg AV.bool ?_))
 all_goals (clear hG; grind [inS])
theorem vI (o : Nat → Int) (a b k : Int) : ae Tryz.prog 100 [.agg (iu o), .agg (ar a b), .int .i64 k] (.bool (oq o a b k)) := by
 refine ah aa Tryz.func100 rfl (by kernel_rfl) af (Nat.le_of_ble_eq_true rfl) ?_
 intro F n' w0 m0 hG hro h1
 repeat' first|refine Q1 ?_|refine Q2 ?_|refine Q3 hG aa oc ?_|refine Q4 hG aa oc ?_|refine Q5 hG aa ?_|refine Q6 hG aa ?_|refine Q7 hG aa ?_|refine Q8 hG aa ?_|refine Q9 rfl ?_|refine QF rfl ?_|refine QC rfl ⟨fun h => ?_,fun h => ?_⟩|((conv => whnf); first|refine anF ?_|refine anT ?_|refine anK ?_|refine Exists.intro _ (And.intro (rI o) ?_)|refine And.intro (fun h => ?_) (fun h => ?_)|refine Or.inl ?_)
 all_goals refine Ends.mk (Or.inl rfl) (ac (congrArg AV.bool ?_))
 all_goals (clear hG; grind [oq, uZ, jM, inS, w64])
theorem rA (a b : Int) : ae Tryz.prog 222 [.agg [.int .i64 a, .int .i64 b]] (.bool (spM a b)) := by
 refine ah aa Tryz.func222 rfl (by kernel_rfl) af (Nat.le_of_ble_eq_true rfl) ?_
 intro F n' w0 m0 hG hro h1
 repeat' first|refine Q1 ?_|refine Q2 ?_|refine Q3 hG aa nl ?_|refine Q4 hG aa nl ?_|refine Q5 hG aa ?_|refine Q6 hG aa ?_|refine Q7 hG aa ?_|refine Q8 hG aa ?_|refine Q9 rfl ?_|refine QF rfl ?_|refine QC rfl ⟨fun h => ?_,fun h => ?_⟩|((conv => whnf); first|refine anF ?_|refine anT ?_|refine anK ?_|refine And.intro (fun h => ?_) (fun h => ?_)|refine Or.inl ?_)
 all_goals refine Ends.mk (Or.inl rfl) (ac (congrArg AV.bool ?_))
 all_goals (clear hG; grind [spM])
set_option maxHeartbeats 4000000 in
theorem zH (o : Opt) (hl : o.sl.length ≤ 1000000) : ae Tryz.prog 200 [.agg (aD o)] (.bool (iJ o)) := by
 have hlm : ((o.sl.map aL).length : Int) = (o.sl.length : Int) := by rw [List.length_map]
 refine ah aa Tryz.func200 rfl (by kernel_rfl) af (Nat.le_of_ble_eq_true rfl) ?_
 intro F n' w0 m0 hG hro h1
 repeat' first|refine Q1 ?_|refine Q2 ?_|refine Q3 hG aa d9 ?_|refine Q4 hG aa d9 ?_|refine Q5 hG aa ?_|refine Q6 hG aa ?_|refine Q7 hG aa ?_|refine Q8 hG aa ?_|refine Q9 rfl ?_|refine QF rfl ?_|refine QC rfl ⟨fun h => ?_,fun h => ?_⟩|((conv => whnf); first|refine anF ?_|refine anT ?_|refine anK ?_|refine Exists.intro _ (And.intro (rA _ _) ?_)|refine And.intro (fun h => ?_) (fun h => ?_)|refine Or.inl ?_)
 all_goals first
  |(refine Ends.mk (Or.inl rfl) (ac (congrArg AV.bool ?_))
    clear hG; rw [hlm] at *; grind [iJ, inS, jM, spM])
  | skip
 have hcan : iJ o = fh o.b o.sl ∧ 0 ≤ o.b := by clear hG; rw [hlm] at *; grind [iJ, inS, jM, spM]
 obtain ⟨hcan, hb0⟩ := hcan
 rw [hcan]
 refine ap (X := Nat × Int) (fun x => ⟨[(4, .int .i64 x.1), (3, .int .i64 x.2), (1, .loc 1 0)], [(1, aD o)]⟩) (fun x => x.1 ≤ o.sl.length ∧ 0 ≤ x.2 ∧ fh x.2 (o.sl.drop x.1) = fh o.b o.sl) (fun x => o.sl.length - x.1) (0, o.b) ⟨Nat.zero_le _, hb0, rfl⟩ (ag ?_ ?_) (fun x hx => ?_)
 ·repeat' (first | exact trivial | refine And.intro rfl ?_)
 ·repeat' (first | exact trivial | refine And.intro rfl ?_)
 ·obtain ⟨i, t⟩ := x
  obtain ⟨hi, ht, hf⟩ := hx
  simp only at hi ht hf ⊢
  by_cases hlt_i : i < o.sl.length
  ·have bbk : decide ((i : Int) < ((o.sl.map aL).length : Int)) = false → False := fun h => by have := of_decide_eq_false h; simp at this; omega
   have hx := eq hlt_i
   rw [pj hlt_i] at hf
   generalize o.sl.getD i ⟨0, 0, 0⟩ = x at hx hf
   repeat' first|exact (bbk (by assumption)).elim|refine Q1 ?_|refine Q2 ?_|refine Q3 hG aa d9 ?_|refine Q4 hG aa d9 ?_|refine Q5 hG aa ?_|refine Q6 hG aa ?_|refine Q7 hG aa ?_|refine Q8 hG aa ?_|refine Q9 rfl ?_|refine QF rfl ?_|refine QC rfl ⟨fun h => ?_,fun h => ?_⟩|((conv => whnf); first|refine anF ?_|refine anT ?_|refine anK ?_|refine And.intro (Int.natCast_nonneg i) (Exists.intro _ (And.intro hx ?_))|refine And.intro (fun h => ?_) (fun h => ?_)|refine Or.inl ?_)
   all_goals first
    |(refine Ends.mk (Or.inl rfl) (ac (congrArg AV.bool ?_))
      clear hG; rw [← hf]; grind [jM])
    | skip
   refine Exists.intro (i + 1, x.b) (And.intro ⟨hlt_i, by grind, by clear hG; rw [← hf]; grind [jM]⟩ (And.intro (by show o.sl.length - (i + 1) < o.sl.length - i; omega) (ag ?_ ?_)))
   ·refine And.intro (congrArg some (am (by omega))) ?_
    repeat' (first | exact trivial | refine And.intro rfl ?_)
   ·repeat' (first | exact trivial | refine And.intro rfl ?_)
  ·have bbk : decide ((i : Int) < ((o.sl.map aL).length : Int)) = true → False := fun h => by have := of_decide_eq_true h; simp at this; omega
   rw [List.drop_of_length_le (by omega)] at hf
   repeat' first|exact (bbk (by assumption)).elim|refine Q1 ?_|refine Q2 ?_|refine Q3 hG aa d9 ?_|refine Q4 hG aa d9 ?_|refine Q5 hG aa ?_|refine Q6 hG aa ?_|refine Q7 hG aa ?_|refine Q8 hG aa ?_|refine Q9 rfl ?_|refine QF rfl ?_|refine QC rfl ⟨fun h => ?_,fun h => ?_⟩|((conv => whnf); first|refine anF ?_|refine anT ?_|refine anK ?_|refine And.intro (fun h => ?_) (fun h => ?_)|refine Or.inl ?_)
   exact Ends.mk (Or.inl rfl) (ac (congrArg AV.bool hf))
theorem vJ (o : Opt) (k : Nat) (hl : o.sl.length ≤ 1000000) (hc : iJ o = true) (hk : k < o.sl.length) : ae Tryz.prog 125 [.agg (aD o), .int .i64 k] (.tup [.agg (eD ⟨o.id, o.size, o.a, (o.sl.getD k ⟨0, 0, 0⟩).b⟩), .int .i64 0]) := by
 have cc := zH o hl
 rw [hc] at cc
 have hx := eq hk
 have hlm : ((o.sl.map aL).length : Int) = (o.sl.length : Int) := by rw [List.length_map]
 have b1 : decide ((k : Int) < 0) = true → False := fun h => by have := of_decide_eq_true h; omega
 have b2 : decide ((k : Int) ≥ ((o.sl.map aL).length : Int)) = true → False := fun h => by have := of_decide_eq_true h; omega
 refine ah aa Tryz.func125 rfl (by kernel_rfl) af (Nat.le_of_ble_eq_true rfl) ?_
 intro F n' w0 m0 hG hro h1
 repeat' first|exact (b1 (by assumption)).elim|exact (b2 (by assumption)).elim|refine Q1 ?_|refine Q2 ?_|refine Q3 hG aa n7 ?_|refine Q4 hG aa n7 ?_|refine Q5 hG aa ?_|refine Q6 hG aa ?_|refine Q7 hG aa ?_|refine Q8 hG aa ?_|refine Q9 rfl ?_|refine QF rfl ?_|refine QC rfl ⟨fun h => ?_,fun h => ?_⟩|((conv => whnf); first|refine anF ?_|refine anT ?_|refine anK ?_|refine Exists.intro _ (And.intro (cc) ?_)|refine And.intro (Int.natCast_nonneg k) (Exists.intro _ (And.intro hx ?_))|refine And.intro (fun h => ?_) (fun h => ?_)|refine Or.inl ?_)
 all_goals exact Ends.mk (Or.inl rfl) (ac rfl)
theorem vH (o : Opt) (hl : o.sl.length ≤ 1000000) (hc : iJ o = true) : ae Tryz.prog 150 [.agg (aD o)] (.tup [.agg (eD ⟨o.id, o.size, o.a, dT o⟩), .int .i64 0]) := by
 have hn := yq hc
 have cc := vJ o (o.sl.length - 1) hl hc (by omega)
 rw [show ((o.sl.length - 1 : Nat) : Int) = IntKind.i64.wrap (((o.sl.map aL).length : Int) - 1) by rw [List.length_map]; exact ((ai (by omega) (by omega)).trans (by omega)).symm] at cc
 refine ah aa Tryz.func150 rfl (by kernel_rfl) af (Nat.le_of_ble_eq_true rfl) ?_
 intro F n' w0 m0 hG hro h1
 repeat' first|refine Q1 ?_|refine Q2 ?_|refine Q3 hG aa nS ?_|refine Q4 hG aa nS ?_|refine Q5 hG aa ?_|refine Q6 hG aa ?_|refine Q7 hG aa ?_|refine Q8 hG aa ?_|refine Q9 rfl ?_|refine QF rfl ?_|refine QC rfl ⟨fun h => ?_,fun h => ?_⟩|((conv => whnf); first|refine anF ?_|refine anT ?_|refine anK ?_|refine Exists.intro _ (And.intro (cc) ?_)|refine And.intro (fun h => ?_) (fun h => ?_)|refine Or.inl ?_)
 all_goals exact Ends.mk (Or.inl rfl) (ac rfl)
theorem dC (c n : Int) (hn : n ≠ 0) : ae Tryz.prog 143 [.int .i64 c, .int .i64 n] (.int .i64 (al c n)) := by
 refine ah aa Tryz.func143 rfl (by kernel_rfl) af (Nat.le_of_ble_eq_true rfl) ?_
 intro F n' w0 m0 hG hro h1
 repeat' first|refine Q1 ?_|refine Q2 ?_|refine Q3 hG aa nX ?_|refine Q4 hG aa nX ?_|refine Q5 hG aa ?_|refine Q6 hG aa ?_|refine Q7 hG aa ?_|refine Q8 hG aa ?_|refine Q9 rfl ?_|refine QF rfl ?_|refine QC rfl ⟨fun h => ?_,fun h => ?_⟩|((conv => whnf); first|refine anF ?_|refine anT ?_|refine anK ?_|refine And.intro hn ?_|refine And.intro (fun h => ?_) (fun h => ?_)|refine Or.inl ?_)
 all_goals refine Ends.mk (Or.inl rfl) (ac (congrArg (AV.int .i64) ?_))
 all_goals (simp_all [al, w64] <;> omega)
theorem lJ (c n : Int) (hn : n ≠ 0) : ae Tryz.prog 20 [.int .i64 c, .int .i64 n] (.int .i64 (al c n)) := by
 refine ah aa Tryz.func20 rfl (by kernel_rfl) af (Nat.le_of_ble_eq_true rfl) ?_
 intro F n' w0 m0 hG hro h1
 repeat' first|refine Q1 ?_|refine Q2 ?_|refine Q3 hG aa pM ?_|refine Q4 hG aa pM ?_|refine Q5 hG aa ?_|refine Q6 hG aa ?_|refine Q7 hG aa ?_|refine Q8 hG aa ?_|refine Q9 rfl ?_|refine QF rfl ?_|refine QC rfl ⟨fun h => ?_,fun h => ?_⟩|((conv => whnf); first|refine anF ?_|refine anT ?_|refine anK ?_|refine And.intro hn ?_|refine And.intro (fun h => ?_) (fun h => ?_)|refine Or.inl ?_)
 all_goals refine Ends.mk (Or.inl rfl) (ac (congrArg (AV.int .i64) ?_))
 all_goals (simp_all [al, w64] <;> omega)
end Go.Proofs
namespace Go.Proofs
open Go Go.AI
set_option maxRecDepth 10000
theorem mD {a b : Int} : ei a b < 0 ↔ a < b := by unfold ei; split <;> (try split) <;> omega
theorem tD {a b : Int} : ei a b = 0 ↔ a = b := by unfold ei; split <;> (try split) <;> omega
theorem yo (p q : aG) : decide (pU p q < 0) = if p.ca ≠ q.ca then decide (p.ca < q.ca) else if p.sat ≠ q.sat then decide (p.sat < q.sat) else if p.st ≠ q.st then decide (p.st < q.st) else if p.sa ≠ q.sa then decide (p.sa < q.sa) else decide (p.cb < q.cb) := by
 have e1 := mD (a := p.ca) (b := q.ca); have z1 := tD (a := p.ca) (b := q.ca)
 have e2 := mD (a := p.sat) (b := q.sat); have z2 := tD (a := p.sat) (b := q.sat)
 have e3 := mD (a := p.st) (b := q.st); have z3 := tD (a := p.st) (b := q.st)
 have e4 := mD (a := p.sa) (b := q.sa); have z4 := tD (a := p.sa) (b := q.sa)
 have e5 := mD (a := p.cb) (b := q.cb)
 unfold pU
 generalize ei p.ca q.ca = c1 at *
 generalize ei p.sat q.sat = c2 at *
 generalize ei p.st q.st = c3 at *
 generalize ei p.sa q.sa = c4 at *
 generalize ei p.cb q.cb = c5 at *
 simp only [orS]
 grind
theorem tX (p q : aG) : ae Tryz.prog 165 [.agg (aI p), .agg (aI q)] (.bool (decide (pU p q < 0))) := by
 rw [yo]
 refine ah aa Tryz.func165 rfl (by kernel_rfl) af (Nat.le_of_ble_eq_true rfl) ?_
 intro F n' w0 m0 hG hro h1
 repeat' first|refine Q1 ?_|refine Q2 ?_|refine Q3 hG aa nI ?_|refine Q4 hG aa nI ?_|refine Q5 hG aa ?_|refine Q6 hG aa ?_|refine Q7 hG aa ?_|refine Q8 hG aa ?_|refine Q9 rfl ?_|refine QF rfl ?_|refine QC rfl ⟨fun h => ?_,fun h => ?_⟩|((conv => whnf); first|refine anF ?_|refine anT ?_|refine anK ?_|refine And.intro (fun h => ?_) (fun h => ?_)|refine Or.inl ?_)
 all_goals refine Ends.mk (Or.inl rfl) (ac (congrArg AV.bool ?_))
 all_goals (clear hG; grind [])
theorem j6 {l : List aG} {i : Nat} (h : i < l.length) : (l.map aI)[(i : Int).toNat]? = some (aI (aO l i)) := by rw [Int.toNat_natCast]; exact gz h
theorem dS {l : List aG} {i : Nat} (h : i < l.length) : aO l i = l[i] := by simp [aO, List.getElem?_eq_getElem h]
theorem iB (l : List aG) : dq l = true ↔ l.length ≤ 64 ∧ (∀ j, j < l.length → dA (aO l j) = true) ∧ ∀ j, j + 1 < l.length → decide (pU (aO l (j + 1)) (aO l j) < 0) = false := by
 simp only [dq, AZ, Bool.and_eq_true, Bool.not_eq_true', List.any_eq_false, List.all_eq_true, List.mem_range, decide_eq_true_eq, Bool.not_eq_true', Bool.not_eq_false', Bool.not_eq_true, Bool.not_eq_false, and_assoc]
 refine and_congr Iff.rfl (and_congr ⟨fun h j hj => ?_, fun h x hx => ?_⟩ ⟨fun h j hj => h j (by omega), fun h j hj => h j (by omega)⟩)
 ·rw [dS hj]; exact h _ (List.getElem_mem hj)
 ·obtain ⟨j, hj, rfl⟩ := List.getElem_of_mem hx
  rw [← dS hj]; exact h j hj
set_option maxHeartbeats 8000000 in
theorem mN (l : List aG) (hl : l.length ≤ 1000000) : ae Tryz.prog 90 [aB l] (.bool (dq l)) := by
 have hlm : ((l.map aI).length : Int) = (l.length : Int) := by rw [List.length_map]
 refine ah aa Tryz.func90 rfl (by kernel_rfl) af (Nat.le_of_ble_eq_true rfl) ?_
 intro F n' w0 m0 hG hro h1
 repeat' first|refine Q1 ?_|refine Q2 ?_|refine Q3 hG aa eQ ?_|refine Q4 hG aa eQ ?_|refine Q5 hG aa ?_|refine Q6 hG aa ?_|refine Q7 hG aa ?_|refine Q8 hG aa ?_|refine Q9 rfl ?_|refine QF rfl ?_|refine QC rfl ⟨fun h => ?_,fun h => ?_⟩|((conv => whnf); first|refine anF ?_|refine anT ?_|refine anK ?_|refine And.intro (fun h => ?_) (fun h => ?_)|refine Or.inl ?_)
 all_goals first
  |(refine Ends.mk (Or.inl rfl) (ac (congrArg AV.bool ?_))
    clear hG; rw [hlm] at *; rw [Bool.eq_iff_iff, iB]; grind)
  | skip
 have h64 : l.length ≤ 64 := by clear hG; rw [hlm] at *; grind
 refine ap (X := Nat) (fun x => ⟨[(3, .int .i64 x), (0, aB l)], []⟩) (fun x => x ≤ l.length ∧ (∀ j, j < x → dA (aO l j) = true) ∧ ∀ j, j + 1 < x → decide (pU (aO l (j + 1)) (aO l j) < 0) = false) (fun x => l.length - x) 0 ⟨Nat.zero_le _, fun j h => absurd h (by omega), fun j h => absurd h (by omega)⟩ (ag ?_ ?_) (fun x hx => ?_)
 ·repeat' (first | exact trivial | refine And.intro rfl ?_)
 ·repeat' (first | exact trivial | refine And.intro rfl ?_)
 ·rename Nat => i
  obtain ⟨hi, h1, h2⟩ := hx
  by_cases hlt_i : i < l.length
  ·have bbk : decide ((i : Int) < ((l.map aI).length : Int)) = false → False := fun h => by have := of_decide_eq_false h; simp at this; omega
   have hx := j6 hlt_i
   have hpr : decide ((i : Int) > 0) = true → 0 ≤ IntKind.i64.wrap ((i : Int) - 1) ∧ (l.map aI)[(IntKind.i64.wrap ((i : Int) - 1)).toNat]? = some (aI (aO l (i - 1))) := fun h => by
    have h := of_decide_eq_true h
    have e : IntKind.i64.wrap ((i : Int) - 1) = ((i - 1 : Nat) : Int) := (ai (by omega) (by omega)).trans (by omega)
    rw [e]
    exact ⟨Int.natCast_nonneg _, j6 (by omega)⟩
   have bad1 : dA (aO l i) = false → false = dq l := fun h => by rw [Bool.eq_iff_iff, iB]; simp only [Bool.false_eq_true, false_iff]; exact fun ⟨_, g, _⟩ => tf (g i hlt_i) h
   have bad2 : decide ((i : Int) > 0) = true → decide (pU (aO l i) (aO l (i - 1)) < 0) = true → false = dq l := fun g0 h => by
    rw [Bool.eq_iff_iff, iB]; simp only [Bool.false_eq_true, false_iff]
    have g0 := of_decide_eq_true g0
    exact fun ⟨_, _, g⟩ => tf h (by have := g (i - 1) (by omega); rwa [show i - 1 + 1 = i by omega] at this)
   have hok : dA (aO l i) = true → (decide ((i : Int) > 0) = true → decide (pU (aO l i) (aO l (i - 1)) < 0) = false) → i + 1 ≤ l.length ∧ (∀ j, j < i + 1 → dA (aO l j) = true) ∧ ∀ j, j + 1 < i + 1 → decide (pU (aO l (j + 1)) (aO l j) < 0) = false := fun g1 g2 => by
    refine ⟨hlt_i, fun j hj => ?_, fun j hj => ?_⟩
    ·rcases Nat.lt_or_ge j i with h | h
     ·exact h1 j h
     ·rw [show j = i by omega]; exact g1
    ·rcases Nat.lt_or_ge (j + 1) i with h | h
     ·exact h2 j h
     ·have e : i - 1 = j := by omega
      have := g2 (decide_eq_true (by omega))
      rw [e] at this
      rwa [show j + 1 = i by omega]
   generalize aO l i = p at hx bad1 bad2 hok
   generalize aO l (i - 1) = q at hpr bad2 hok
   repeat' first|exact (bbk (by assumption)).elim|refine Q1 ?_|refine Q2 ?_|refine Q3 hG aa eQ ?_|refine Q4 hG aa eQ ?_|refine Q5 hG aa ?_|refine Q6 hG aa ?_|refine Q7 hG aa ?_|refine Q8 hG aa ?_|refine Q9 rfl ?_|refine QF rfl ?_|refine QC rfl ⟨fun h => ?_,fun h => ?_⟩|((conv => whnf); first|refine anF ?_|refine anT ?_|refine anK ?_|refine And.intro (Int.natCast_nonneg i) (Exists.intro _ (And.intro hx ?_))|refine Exists.intro _ (And.intro (sS _ _ _) ?_)|refine Exists.intro _ (And.intro (tX _ _) ?_)|refine And.intro (hpr (by assumption)).1 (Exists.intro _ (And.intro (hpr (by assumption)).2 ?_))|refine And.intro (fun h => ?_) (fun h => ?_)|refine Or.inl ?_)
   all_goals first
    |(refine Ends.mk (Or.inl rfl) (ac (congrArg AV.bool ?_))
      clear hG hpr hx h1 h2 hok; first | exact bad2 (by assumption) (by assumption) | (refine bad1 ?_; clear bad1 bad2; grind [dA, inS]))
    | skip
   all_goals (refine Exists.intro (i + 1) (And.intro (hok ?_ ?_) (And.intro (by omega) (ag ?_ ?_))))
   all_goals first
    |(clear hG hpr hx h1 h2 hok bad1 bad2; grind [dA, inS])
    |(refine And.intro (congrArg some (am (by omega))) ?_; repeat' (first | exact trivial | refine And.intro rfl ?_))
    |(repeat' (first | exact trivial | refine And.intro rfl ?_))
  ·have bbk : decide ((i : Int) < ((l.map aI).length : Int)) = true → False := fun h => by have := of_decide_eq_true h; simp at this; omega
   have he : i = l.length := by omega
   repeat' first|exact (bbk (by assumption)).elim|refine Q1 ?_|refine Q2 ?_|refine Q3 hG aa eQ ?_|refine Q4 hG aa eQ ?_|refine Q5 hG aa ?_|refine Q6 hG aa ?_|refine Q7 hG aa ?_|refine Q8 hG aa ?_|refine Q9 rfl ?_|refine QF rfl ?_|refine QC rfl ⟨fun h => ?_,fun h => ?_⟩|((conv => whnf); first|refine anF ?_|refine anT ?_|refine anK ?_|refine And.intro (fun h => ?_) (fun h => ?_)|refine Or.inl ?_)
   exact Ends.mk (Or.inl rfl) (ac (congrArg AV.bool (by symm; rw [iB, ← he]; exact ⟨by omega, h1, h2⟩)))
theorem uY {a b c : Int} : decide (c ≥ max a b) = (decide (a ≤ c) && decide (b ≤ c)) := by rw [Bool.eq_iff_iff]; simp; omega
set_option maxHeartbeats 16000000 in
theorem jt (s : Nat → Int) (o : Opt) (ps : List aG) (hl : o.sl.length ≤ 1000000) (hps : ps.length ≤ 1000000) : ae Tryz.prog 31 [.agg (aJ s), .agg (aD o), aB ps] (.bool (dR s && dq ps && cu s o ps)) := by
 have hlm : ((o.sl.map aL).length : Int) = (o.sl.length : Int) := by rw [List.length_map]
 have hpm : ((ps.map aI).length : Int) = (ps.length : Int) := by rw [List.length_map]
 refine ah aa Tryz.func31 rfl (by kernel_rfl) af (Nat.le_of_ble_eq_true rfl) ?_
 intro F n' w0 m0 hG hro h1
 repeat' first|refine Q1 ?_|refine Q2 ?_|refine Q3 hG aa eX ?_|refine Q4 hG aa eX ?_|refine Q5 hG aa ?_|refine Q6 hG aa ?_|refine Q7 hG aa ?_|refine Q8 hG aa ?_|refine Q9 rfl ?_|refine QF rfl ?_|refine QC rfl ⟨fun h => ?_,fun h => ?_⟩|((conv => whnf); first|refine anF ?_|refine anT ?_|refine anK ?_|refine Exists.intro _ (And.intro (mM s) ?_)|refine Exists.intro _ (And.intro (mN ps hps) ?_)|refine Exists.intro _ (And.intro (rC _ _ _) ?_)|refine Exists.intro _ (And.intro (vI (dJ s) _ _ _) ?_)|refine And.intro (fun h => ?_) (fun h => ?_)|refine Or.inl ?_)
 all_goals first
  |(refine Ends.mk (Or.inl rfl) (ac (congrArg AV.bool ?_))
    clear hG; rw [hlm] at *; rw [Bool.eq_iff_iff]; simp only [cu, ms, o0, w64]; grind)
  | skip
 have hfit : (dR s && dq ps && cu s o ps) = bS s ps o.size o.b o.sl := by clear hG; rw [hlm] at *; simp only [cu, ms, o0, w64]; grind
 rw [hfit]
 refine ap (X := Nat × Int) (fun x => ⟨[(8, .int .i64 x.1), (7, .int .i64 x.2), (4, .loc 4 0), (3, .loc 3 0), (2, aB ps)], [(4, aD o), (3, aJ s)]⟩) (fun x => x.1 ≤ o.sl.length ∧ bS s ps o.size x.2 (o.sl.drop x.1) = bS s ps o.size o.b o.sl) (fun x => o.sl.length - x.1) (0, o.b) ⟨Nat.zero_le _, rfl⟩ (ag ?_ ?_) (fun x hx => ?_)
 ·repeat' (first | exact trivial | refine And.intro rfl ?_)
 ·repeat' (first | exact trivial | refine And.intro rfl ?_)
 ·obtain ⟨i, t⟩ := x
  obtain ⟨hi, hf⟩ := hx
  simp only at hi hf ⊢
  by_cases hlt_i : i < o.sl.length
  ·have bbk : decide ((i : Int) < ((o.sl.map aL).length : Int)) = false → False := fun h => by have := of_decide_eq_false h; simp at this; omega
   have hx := eq hlt_i
   rw [lT hlt_i] at hf
   generalize o.sl.getD i ⟨0, 0, 0⟩ = x at hx hf
   have hin : (!inS x.p 0 (IntKind.i64.wrap (((ps.map aI).length : Int) - 1))) = false → 0 ≤ x.p ∧ (ps.map aI)[x.p.toNat]? = some (aI (aO ps x.p.toNat)) := fun h => by
    have h := fR h
    rw [hpm, show IntKind.i64.wrap ((ps.length : Int) - 1) = (ps.length : Int) - 1 from ai (by omega) (by omega)] at h
    simp only [inS, Bool.and_eq_true, decide_eq_true_eq] at h
    exact ⟨h.1, gz (by omega)⟩
   have hpm' : w64 ((ps.length : Int) - 1) = IntKind.i64.wrap (((ps.map aI).length : Int) - 1) := by rw [hpm]; rfl
   repeat' first|exact (bbk (by assumption)).elim|refine Q1 ?_|refine Q2 ?_|refine Q3 hG aa eX ?_|refine Q4 hG aa eX ?_|refine Q5 hG aa ?_|refine Q6 hG aa ?_|refine Q7 hG aa ?_|refine Q8 hG aa ?_|refine Q9 rfl ?_|refine QF rfl ?_|refine QC rfl ⟨fun h => ?_,fun h => ?_⟩|((conv => whnf); first|refine anF ?_|refine anT ?_|refine anK ?_|refine And.intro (Int.natCast_nonneg i) (Exists.intro _ (And.intro hx ?_))|refine Exists.intro _ (And.intro (rC _ _ _) ?_)|refine And.intro (hin (by assumption)).1 (Exists.intro _ (And.intro (hin (by assumption)).2 ?_))|refine And.intro (fun h => ?_) (fun h => ?_)|refine Or.inl ?_)
   all_goals first
    |(refine Ends.mk (Or.inl rfl) (ac (congrArg AV.bool ?_))
      clear hG hx hin; rw [← hf, gm, hpm', uY]; clear hpm' hf hfit; unfold w64; grind)
    | skip
   refine Exists.intro (i + 1, x.b) (And.intro ⟨hlt_i, ?_⟩ (And.intro (by show o.sl.length - (i + 1) < o.sl.length - i; omega) (ag ?_ ?_)))
   ·clear hG hx hin
    rw [← hf]
    have hk : gm s ps o.size t x = true := by rw [gm, hpm', uY]; clear hpm' hf hfit; unfold w64; grind
    rw [hk, Bool.true_and]
   ·refine And.intro (congrArg some (am (by omega))) ?_
    repeat' (first | exact trivial | refine And.intro rfl ?_)
   ·repeat' (first | exact trivial | refine And.intro rfl ?_)
  ·have bbk : decide ((i : Int) < ((o.sl.map aL).length : Int)) = true → False := fun h => by have := of_decide_eq_true h; simp at this; omega
   rw [List.drop_of_length_le (by omega)] at hf
   repeat' first|exact (bbk (by assumption)).elim|refine Q1 ?_|refine Q2 ?_|refine Q3 hG aa eX ?_|refine Q4 hG aa eX ?_|refine Q5 hG aa ?_|refine Q6 hG aa ?_|refine Q7 hG aa ?_|refine Q8 hG aa ?_|refine Q9 rfl ?_|refine QF rfl ?_|refine QC rfl ⟨fun h => ?_,fun h => ?_⟩|((conv => whnf); first|refine anF ?_|refine anT ?_|refine anK ?_|refine And.intro (fun h => ?_) (fun h => ?_)|refine Or.inl ?_)
   exact Ends.mk (Or.inl rfl) (ac (congrArg AV.bool hf))
end Go.Proofs
namespace Go.Proofs
open Go Go.AI
set_option maxRecDepth 10000
theorem iL {l : List Opt} {i : Nat} {p : Opt → Bool} (hi : i ≤ l.length) : (l.take i).any p = true ↔ ∃ j, j < i ∧ p (au l j) = true := by
 rw [List.any_eq_true]
 constructor
 ·rintro ⟨x, hx, h⟩
  obtain ⟨j, hj, rfl⟩ := List.getElem_of_mem hx
  rw [List.length_take] at hj
  refine ⟨j, by omega, ?_⟩
  rw [bj (by omega)]
  rwa [List.getElem_take] at h
 ·rintro ⟨j, hj, h⟩
  rw [bj (by omega)] at h
  exact ⟨_, List.mem_take_iff_getElem.2 ⟨j, by omega, rfl⟩, h⟩
set_option maxHeartbeats 16000000 in
theorem kq (s : Nat → Int) (l : List Opt) (ps : List aG) (a b : Int) (hl : l.length ≤ 1000000) (hs : gV l) (hps : ps.length ≤ 1000000) : ae Tryz.prog 24 [.agg (aJ s), ay l, aB ps, .agg (ar a b)] (.bool (bD s l ps a b)) := by
 have hlm : ((l.map aD).length : Int) = (l.length : Int) := by rw [List.length_map]
 refine ah aa Tryz.func24 rfl (by kernel_rfl) af (Nat.le_of_ble_eq_true rfl) ?_
 intro F n' w0 m0 hG hro h1
 repeat' first|refine Q1 ?_|refine Q2 ?_|refine Q3 hG aa bY ?_|refine Q4 hG aa bY ?_|refine Q5 hG aa ?_|refine Q6 hG aa ?_|refine Q7 hG aa ?_|refine Q8 hG aa ?_|refine Q9 rfl ?_|refine QF rfl ?_|refine QC rfl ⟨fun h => ?_,fun h => ?_⟩|((conv => whnf); first|refine anF ?_|refine anT ?_|refine anK ?_|refine Exists.intro _ (And.intro (mM s) ?_)|refine Exists.intro _ (And.intro (mN ps hps) ?_)|refine Exists.intro _ (And.intro (kr _ _) ?_)|refine And.intro (fun h => ?_) (fun h => ?_)|refine Or.inl ?_)
 all_goals first
  |(refine Ends.mk (Or.inl rfl) (ac (congrArg AV.bool ?_))
    clear hG; rw [hlm] at *; simp only [bD, w64]; grind)
  | skip
 have hv : bD s l ps a b = dh s ps a b [] l ∧ dR s = true ∧ dq ps = true := by clear hG; rw [hlm] at *; simp only [bD, w64]; grind
 obtain ⟨hv, hs1, hp1⟩ := hv
 rw [hv]
 refine ap (X := Nat) (fun x => ⟨[(9, .int .i64 x), (7, .loc 7 0), (4, .loc 4 0), (1, ay l), (2, aB ps)], [(7, ar a b), (4, aJ s)]⟩) (fun x => x ≤ l.length ∧ dh s ps a b (l.take x) (l.drop x) = dh s ps a b [] l) (fun x => l.length - x) 0 ⟨Nat.zero_le _, rfl⟩ (ag ?_ ?_) (fun x hx => ?_)
 ·repeat' (first | exact trivial | refine And.intro rfl ?_)
 ·repeat' (first | exact trivial | refine And.intro rfl ?_)
 ·rename Nat => i
  obtain ⟨hi, hok⟩ := hx
  by_cases hlt_i : i < l.length
  ·have bbk : decide ((i : Int) < ((l.map aD).length : Int)) = false → False := fun h => by have := of_decide_eq_false h; simp at this; omega
   have hx := c8 hlt_i
   rw [o6 hlt_i] at hok
   have hsx : (au l i).sl.length ≤ 1000000 := hs _ (by rw [bj hlt_i]; exact List.getElem_mem hlt_i)
   have iL := @iL l i
   replace iL := fun p => @iL p hi
   obtain ⟨x0, hxe⟩ : ∃ x, x = au l i := ⟨_, rfl⟩
   rw [← hxe] at hx hok hsx
   have cP := jt s x0 ps hsx hps
   rw [hs1, hp1, Bool.true_and, Bool.true_and] at cP
   have hlast : (!cu s x0 ps) = false → 0 ≤ IntKind.i64.wrap (((x0.sl.map aL).length : Int) - 1) ∧ (x0.sl.map aL)[(IntKind.i64.wrap (((x0.sl.map aL).length : Int) - 1)).toNat]? = some [.int .i64 (fM x0 (x0.sl.length - 1)).p, .int .i64 (fM x0 (x0.sl.length - 1)).a, .int .i64 (dT x0)] := fun h => by
    have hn := qY (fR h)
    rw [List.length_map, show IntKind.i64.wrap ((x0.sl.length : Int) - 1) = ((x0.sl.length - 1 : Nat) : Int) from (ai (by omega) (by omega)).trans (by omega)]
    exact ⟨Int.natCast_nonneg _, eq (by omega)⟩
   repeat' first|exact (bbk (by assumption)).elim|refine Q1 ?_|refine Q2 ?_|refine Q3 hG aa bY ?_|refine Q4 hG aa bY ?_|refine Q5 hG aa ?_|refine Q6 hG aa ?_|refine Q7 hG aa ?_|refine Q8 hG aa ?_|refine Q9 rfl ?_|refine QF rfl ?_|refine QC rfl ⟨fun h => ?_,fun h => ?_⟩|((conv => whnf); first|refine anF ?_|refine anT ?_|refine anK ?_|refine And.intro (Int.natCast_nonneg i) (Exists.intro _ (And.intro hx ?_))|refine Exists.intro _ (And.intro (cP) ?_)|refine And.intro (hlast (by assumption)).1 (Exists.intro _ (And.intro (hlast (by assumption)).2 ?_))|refine And.intro (fun h => ?_) (fun h => ?_)|refine Or.inl ?_)
   all_goals first
    |(refine Ends.mk (Or.inl rfl) (ac (congrArg AV.bool ?_))
      clear hG hx hlast; rw [← hok, iD]; grind)
    | skip
   refine ap (X := Nat) (fun x => ⟨[(10, .int .i64 x), (9, .int .i64 i), (7, .loc 7 0), (4, .loc 4 0), (1, ay l), (2, aB ps)], [(7, ar a b), (4, aJ s)]⟩) (fun x => x ≤ i ∧ ∀ j, j < x → ((au l j).id == x0.id) = false) (fun x => i - x) 0 ⟨Nat.zero_le _, fun j h => absurd h (by omega)⟩ (ag ?_ ?_) (fun x hx => ?_)
   ·repeat' (first | exact trivial | refine And.intro rfl ?_)
   ·repeat' (first | exact trivial | refine And.intro rfl ?_)
   ·rename Nat => k
    obtain ⟨hk, hn⟩ := hx
    by_cases hlt_k : k < i
    ·have bbj : decide ((k : Int) < (i : Int)) = false → False := fun h => by have := of_decide_eq_false h; simp at this; omega
     have hy := c8 (show k < l.length by omega)
     have bad : ((au l k).id == x0.id) = true → false = dh s ps a b [] l := fun h => by
      have : ((l.take i).any fun p => p.id == x0.id) = true := (iL _).2 ⟨k, hlt_k, h⟩
      rw [← hok, iD, this]; simp
     obtain ⟨y, hye⟩ : ∃ y, y = au l k := ⟨_, rfl⟩
     rw [← hye] at hy bad
     repeat' first|exact (bbj (by assumption)).elim|refine Q1 ?_|refine Q2 ?_|refine Q3 hG aa bY ?_|refine Q4 hG aa bY ?_|refine Q5 hG aa ?_|refine Q6 hG aa ?_|refine Q7 hG aa ?_|refine Q8 hG aa ?_|refine Q9 rfl ?_|refine QF rfl ?_|refine QC rfl ⟨fun h => ?_,fun h => ?_⟩|((conv => whnf); first|refine anF ?_|refine anT ?_|refine anK ?_|refine And.intro (Int.natCast_nonneg k) (Exists.intro _ (And.intro hy ?_))|refine And.intro (Int.natCast_nonneg i) (Exists.intro _ (And.intro hx ?_))|refine And.intro (fun h => ?_) (fun h => ?_)|refine Or.inl ?_)
     all_goals first
      |(refine Ends.mk (Or.inl rfl) (ac (congrArg AV.bool ?_))
        exact bad (by assumption))
      | skip
     refine Exists.intro (k + 1) (And.intro ⟨hlt_k, fun j hj => ?_⟩ (And.intro (by omega) (ag ?_ ?_)))
     ·rcases Nat.lt_or_ge j k with h | h
      ·exact hn j h
      ·rw [show j = k by omega, ← hye]; assumption
     ·refine And.intro (congrArg some (am (by omega))) ?_
      repeat' (first | exact trivial | refine And.intro rfl ?_)
     ·repeat' (first | exact trivial | refine And.intro rfl ?_)
    ·have bbj : decide ((k : Int) < (i : Int)) = true → False := fun h => by have := of_decide_eq_true h; simp at this; omega
     have hany : ((l.take i).any fun p => p.id == x0.id) = false := by
      rw [← Bool.not_eq_true, iL]
      rintro ⟨j, hj, h⟩
      exact tf h (hn j (by omega))
     repeat' first|exact (bbj (by assumption)).elim|refine Q1 ?_|refine Q2 ?_|refine Q3 hG aa bY ?_|refine Q4 hG aa bY ?_|refine Q5 hG aa ?_|refine Q6 hG aa ?_|refine Q7 hG aa ?_|refine Q8 hG aa ?_|refine Q9 rfl ?_|refine QF rfl ?_|refine QC rfl ⟨fun h => ?_,fun h => ?_⟩|((conv => whnf); first|refine anF ?_|refine anT ?_|refine anK ?_|refine And.intro (fun h => ?_) (fun h => ?_)|refine Or.inl ?_)
     refine Exists.intro (i + 1) (And.intro ⟨hlt_i, ?_⟩ (And.intro (by omega) (ag ?_ ?_)))
     ·rw [← hok]
      have hb : iD s ps a b (l.take i) x0 = true := by clear hG; rw [iD, hany]; grind
      rw [hb, Bool.true_and]
     ·refine And.intro (congrArg some (am (by omega))) ?_
      repeat' (first | exact trivial | refine And.intro rfl ?_)
     ·repeat' (first | exact trivial | refine And.intro rfl ?_)
  ·have bbk : decide ((i : Int) < ((l.map aD).length : Int)) = true → False := fun h => by have := of_decide_eq_true h; simp at this; omega
   rw [List.drop_of_length_le (by omega)] at hok
   repeat' first|exact (bbk (by assumption)).elim|refine Q1 ?_|refine Q2 ?_|refine Q3 hG aa bY ?_|refine Q4 hG aa bY ?_|refine Q5 hG aa ?_|refine Q6 hG aa ?_|refine Q7 hG aa ?_|refine Q8 hG aa ?_|refine Q9 rfl ?_|refine QF rfl ?_|refine QC rfl ⟨fun h => ?_,fun h => ?_⟩|((conv => whnf); first|refine anF ?_|refine anT ?_|refine anK ?_|refine And.intro (fun h => ?_) (fun h => ?_)|refine Or.inl ?_)
   exact Ends.mk (Or.inl rfl) (ac (congrArg AV.bool hok))
theorem qZ (t : Int) : ∀ (l : List Img) (x : Img), bL t (l ++ [x]) = bL t l + if x.a ≤ t ∧ t < x.b then x.u else 0
 | [], x => by simp [bL]
 | y :: r, x => by simp only [List.cons_append, bL, qZ t r x]; omega
theorem qR {l : List Img} {i : Nat} (h : i < l.length) : l.take (i + 1) = l.take i ++ [l.getD i gQ] := by rw [List.take_add_one, List.getD_eq_getElem?_getD, List.getElem?_eq_getElem h]; rfl
theorem yg {l : List Img} {i : Nat} (h : i < l.length) : l.getD i gQ ∈ l := by rw [List.getD_eq_getElem?_getD, List.getElem?_eq_getElem h]; exact List.getElem_mem h
set_option maxHeartbeats 4000000 in
theorem xA (l : List Img) (t : Int) (hl : l.length ≤ 24) (hu : ∀ x ∈ l, 0 ≤ x.u ∧ x.u ≤ 1000000) : ae Tryz.prog 152 [fg l, .int .i64 t] (.int .i64 (bL t l)) := by
  refine ah aa Tryz.func152 rfl (by kernel_rfl) af (Nat.le_of_ble_eq_true rfl) ?_
  intro F n' w0 m0 hG hro h1
  repeat' first|refine Q1 ?_|refine Q2 ?_|refine Q3 hG aa ec ?_|refine Q4 hG aa ec ?_|refine Q5 hG aa ?_|refine Q6 hG aa ?_|refine Q7 hG aa ?_|refine Q8 hG aa ?_|refine Q9 rfl ?_|refine QF rfl ?_|refine QC rfl ⟨fun h => ?_,fun h => ?_⟩|((conv => whnf); first|refine anF ?_|refine anT ?_|refine anK ?_|refine And.intro (fun h => ?_) (fun h => ?_)|refine Or.inl ?_)
  refine ap (X := Nat × Int) (fun x => ⟨[(6, .int .i64 x.1), (5, .int .i64 x.2), (1, .int .i64 t), (0, fg l)], []⟩) (fun x => x.1 ≤ l.length ∧ x.2 = bL t (l.take x.1) ∧ 0 ≤ x.2 ∧ x.2 ≤ (x.1 : Int) * 1000000) (fun x => l.length - x.1) (0, 0) ⟨Nat.zero_le _, rfl, Int.le_refl _, Int.le_refl _⟩ (ag ?_ ?_) (fun x hx => ?_)
  · repeat' (first | exact trivial | refine And.intro rfl ?_)
  · repeat' (first | exact trivial | refine And.intro rfl ?_)
  · obtain ⟨i, n⟩ := x
    obtain ⟨hi, hn, h0, h1⟩ := hx
    simp only at hi hn h0 h1 ⊢
    by_cases hlt_i : i < l.length
    · have bbk : decide ((i : Int) < ((l.map eD).length : Int)) = false → False := fun h => by have := of_decide_eq_false h; simp at this; omega
      have hx := oG hlt_i
      have hsn := qZ t (l.take i) (l.getD i gQ)
      rw [← qR hlt_i, ← hn] at hsn
      have hux := hu _ (yg hlt_i)
      generalize l.getD i gQ = x at hx hsn hux
      repeat' first|exact (bbk (by assumption)).elim|refine Q1 ?_|refine Q2 ?_|refine Q3 hG aa ec ?_|refine Q4 hG aa ec ?_|refine Q5 hG aa ?_|refine Q6 hG aa ?_|refine Q7 hG aa ?_|refine Q8 hG aa ?_|refine Q9 rfl ?_|refine QF rfl ?_|refine QC rfl ⟨fun h => ?_,fun h => ?_⟩|((conv => whnf); first|refine anF ?_|refine anT ?_|refine anK ?_|refine And.intro (Int.natCast_nonneg i) (Exists.intro _ (And.intro hx ?_))|refine And.intro (fun h => ?_) (fun h => ?_)|refine Or.inl ?_)
      all_goals (refine Exists.intro (i + 1, bL t (l.take (i + 1))) (And.intro ⟨hlt_i, rfl, ?_, ?_⟩ (And.intro (by show l.length - (i + 1) < l.length - i; omega) (ag ?_ ?_))))
      all_goals first
        | (clear hG; rw [hsn]; split <;> omega)
        | (refine And.intro (congrArg some (am (by omega))) (And.intro (congrArg (fun z => some (AV.int .i64 z)) ?_) ?_)
           · rw [hsn]
             first
               | (rw [if_pos ⟨of_decide_eq_true (by assumption), of_decide_eq_true (by assumption)⟩]; exact ai (by omega) (by omega))
               | (rw [if_neg (by clear hG; grind)]; exact (Int.add_zero _).symm)
           · repeat' (first | exact trivial | refine And.intro rfl ?_))
        | (repeat' (first | exact trivial | refine And.intro rfl ?_))
    · have bbk : decide ((i : Int) < ((l.map eD).length : Int)) = true → False := fun h => by have := of_decide_eq_true h; simp at this; omega
      have he : l.take i = l := List.take_of_length_le (by omega)
      rw [he] at hn
      repeat' first|exact (bbk (by assumption)).elim|refine Q1 ?_|refine Q2 ?_|refine Q3 hG aa ec ?_|refine Q4 hG aa ec ?_|refine Q5 hG aa ?_|refine Q6 hG aa ?_|refine Q7 hG aa ?_|refine Q8 hG aa ?_|refine Q9 rfl ?_|refine QF rfl ?_|refine QC rfl ⟨fun h => ?_,fun h => ?_⟩|((conv => whnf); first|refine anF ?_|refine anT ?_|refine anK ?_|refine And.intro (fun h => ?_) (fun h => ?_)|refine Or.inl ?_)
      exact Ends.mk (Or.inl rfl) (ac (congrArg (AV.int .i64) hn))
theorem sm {l : List Img} {i : Nat} {z : Int} (hi : i ≤ l.length) : ir (l.take i) z = true ↔ ∃ j, j < i ∧ ((l.getD j gQ).i == z) = true := by
 rw [ir, List.any_eq_true]
 constructor
 ·rintro ⟨x, hx, h⟩
  obtain ⟨j, hj, rfl⟩ := List.getElem_of_mem hx
  rw [List.length_take] at hj
  refine ⟨j, by omega, ?_⟩
  rw [List.getD_eq_getElem?_getD, List.getElem?_eq_getElem (by omega)]
  rwa [List.getElem_take] at h
 ·rintro ⟨j, hj, h⟩
  rw [List.getD_eq_getElem?_getD, List.getElem?_eq_getElem (by omega)] at h
  exact ⟨_, List.mem_take_iff_getElem.2 ⟨j, by omega, rfl⟩, h⟩
set_option maxHeartbeats 8000000 in
theorem rB (l : List Img) (hl : l.length ≤ 1000000) : ae Tryz.prog 151 [fg l] (.bool (dy l)) := by
 have hlm : ((l.map eD).length : Int) = (l.length : Int) := by rw [List.length_map]
 refine ah aa Tryz.func151 rfl (by kernel_rfl) af (Nat.le_of_ble_eq_true rfl) ?_
 intro F n' w0 m0 hG hro h1
 repeat' first|refine Q1 ?_|refine Q2 ?_|refine Q3 hG aa bk ?_|refine Q4 hG aa bk ?_|refine Q5 hG aa ?_|refine Q6 hG aa ?_|refine Q7 hG aa ?_|refine Q8 hG aa ?_|refine Q9 rfl ?_|refine QF rfl ?_|refine QC rfl ⟨fun h => ?_,fun h => ?_⟩|((conv => whnf); first|refine anF ?_|refine anT ?_|refine anK ?_|refine And.intro (fun h => ?_) (fun h => ?_)|refine Or.inl ?_)
 refine ap (X := Nat) (fun x => ⟨[(3, .int .i64 x), (0, fg l)], []⟩) (fun x => x ≤ l.length ∧ x ≤ 25 ∧ dK (l.take x) (l.drop x) = dK [] l) (fun x => l.length - x) 0 ⟨Nat.zero_le _, Nat.zero_le _, rfl⟩ (ag ?_ ?_) (fun i hx => ?_)
 ·repeat' (first | exact trivial | refine And.intro rfl ?_)
 ·repeat' (first | exact trivial | refine And.intro rfl ?_)
 ·obtain ⟨hi, h25, hok⟩ := hx
  by_cases hlt_i : i < l.length
  ·have hdr : l.drop i = l.getD i gQ :: l.drop (i + 1) := by rw [List.getD_eq_getElem?_getD, List.getElem?_eq_getElem hlt_i]; exact List.drop_eq_getElem_cons hlt_i
   by_cases h5 : i < 25
   ·have b1 : decide ((i : Int) < ((l.map eD).length : Int)) = false → False := fun h => by have := of_decide_eq_false h; omega
    have b2 : decide ((i : Int) < 25) = false → False := fun h => by have := of_decide_eq_false h; omega
    have hx := oG hlt_i
    rw [hdr, dK, ← qR hlt_i] at hok
    obtain ⟨x0, hxe⟩ : ∃ x, x = l.getD i gQ := ⟨_, rfl⟩
    rw [← hxe] at hx hok
    repeat' first|exact (b1 (by assumption)).elim|exact (b2 (by assumption)).elim|refine Q1 ?_|refine Q2 ?_|refine Q3 hG aa bk ?_|refine Q4 hG aa bk ?_|refine Q5 hG aa ?_|refine Q6 hG aa ?_|refine Q7 hG aa ?_|refine Q8 hG aa ?_|refine Q9 rfl ?_|refine QF rfl ?_|refine QC rfl ⟨fun h => ?_,fun h => ?_⟩|((conv => whnf); first|refine anF ?_|refine anT ?_|refine anK ?_|refine And.intro (Int.natCast_nonneg i) (Exists.intro _ (And.intro hx ?_))|refine Exists.intro _ (And.intro (rA _ _) ?_)|refine And.intro (fun h => ?_) (fun h => ?_)|refine Or.inl ?_)
    all_goals first
     |(refine Ends.mk (Or.inl rfl) (ac (congrArg AV.bool ?_))
       clear hG hx; rw [dy, ← hok, iE]; grind [inM])
     | skip
    refine ap (X := Nat) (fun x => ⟨[(4, .int .i64 x), (3, .int .i64 i), (0, fg l)], []⟩) (fun x => x ≤ i ∧ ∀ j, j < x → ((l.getD j gQ).i == x0.i) = false) (fun x => i - x) 0 ⟨Nat.zero_le _, fun j h => absurd h (by omega)⟩ (ag ?_ ?_) (fun x hx => ?_)
    ·repeat' (first | exact trivial | refine And.intro rfl ?_)
    ·repeat' (first | exact trivial | refine And.intro rfl ?_)
    ·rename Nat => k
     obtain ⟨hk, hn⟩ := hx
     by_cases hlt_k : k < i
     ·have bbj : decide ((k : Int) < (i : Int)) = false → False := fun h => by have := of_decide_eq_false h; simp at this; omega
      have hy := oG (show k < l.length by omega)
      have bad : ((l.getD k gQ).i == x0.i) = true → false = dy l := fun h => by
       have : ir (l.take i) x0.i = true := (sm hi).2 ⟨k, hlt_k, h⟩
       rw [dy, ← hok, iE, this]; simp
      obtain ⟨y, hye⟩ : ∃ y, y = l.getD k gQ := ⟨_, rfl⟩
      rw [← hye] at hy bad
      repeat' first|exact (bbj (by assumption)).elim|refine Q1 ?_|refine Q2 ?_|refine Q3 hG aa bk ?_|refine Q4 hG aa bk ?_|refine Q5 hG aa ?_|refine Q6 hG aa ?_|refine Q7 hG aa ?_|refine Q8 hG aa ?_|refine Q9 rfl ?_|refine QF rfl ?_|refine QC rfl ⟨fun h => ?_,fun h => ?_⟩|((conv => whnf); first|refine anF ?_|refine anT ?_|refine anK ?_|refine And.intro (Int.natCast_nonneg k) (Exists.intro _ (And.intro hy ?_))|refine And.intro (Int.natCast_nonneg i) (Exists.intro _ (And.intro hx ?_))|refine And.intro (fun h => ?_) (fun h => ?_)|refine Or.inl ?_)
      all_goals first
       |(refine Ends.mk (Or.inl rfl) (ac (congrArg AV.bool ?_))
         exact bad (by assumption))
       | skip
      refine Exists.intro (k + 1) (And.intro ⟨hlt_k, fun j hj => ?_⟩ (And.intro (by omega) (ag ?_ ?_)))
      ·rcases Nat.lt_or_ge j k with h | h
       ·exact hn j h
       ·rw [show j = k by omega, ← hye]; assumption
      ·refine And.intro (congrArg some (am (by omega))) ?_
       repeat' (first | exact trivial | refine And.intro rfl ?_)
      ·repeat' (first | exact trivial | refine And.intro rfl ?_)
     ·have bbj : decide ((k : Int) < (i : Int)) = true → False := fun h => by have := of_decide_eq_true h; simp at this; omega
      have hany : ir (l.take i) x0.i = false := by
       rw [← Bool.not_eq_true, sm hi]
       rintro ⟨j, hj, h⟩
       exact tf h (hn j (by omega))
      repeat' first|exact (bbj (by assumption)).elim|refine Q1 ?_|refine Q2 ?_|refine Q3 hG aa bk ?_|refine Q4 hG aa bk ?_|refine Q5 hG aa ?_|refine Q6 hG aa ?_|refine Q7 hG aa ?_|refine Q8 hG aa ?_|refine Q9 rfl ?_|refine QF rfl ?_|refine QC rfl ⟨fun h => ?_,fun h => ?_⟩|((conv => whnf); first|refine anF ?_|refine anT ?_|refine anK ?_|refine And.intro (fun h => ?_) (fun h => ?_)|refine Or.inl ?_)
      refine Exists.intro (i + 1) (And.intro ⟨hlt_i, by omega, ?_⟩ (And.intro (by omega) (ag ?_ ?_)))
      ·rw [← hok]
       have hb : iE (l.take i) x0 = true := by clear hG; rw [iE, hany]; grind [inM]
       rw [hb, Bool.true_and]
      ·refine And.intro (congrArg some (am (by omega))) ?_
       repeat' (first | exact trivial | refine And.intro rfl ?_)
      ·repeat' (first | exact trivial | refine And.intro rfl ?_)
   ·have b2 : decide ((i : Int) < 25) = true → False := fun h => by have := of_decide_eq_true h; omega
    have b1 : decide ((i : Int) < ((l.map eD).length : Int)) = false → False := fun h => by have := of_decide_eq_false h; omega
    repeat' first|exact (b1 (by assumption)).elim|exact (b2 (by assumption)).elim|refine Q1 ?_|refine Q2 ?_|refine Q3 hG aa bk ?_|refine Q4 hG aa bk ?_|refine Q5 hG aa ?_|refine Q6 hG aa ?_|refine Q7 hG aa ?_|refine Q8 hG aa ?_|refine Q9 rfl ?_|refine QF rfl ?_|refine QC rfl ⟨fun h => ?_,fun h => ?_⟩|((conv => whnf); first|refine anF ?_|refine anT ?_|refine anK ?_|refine And.intro (fun h => ?_) (fun h => ?_)|refine Or.inl ?_)
    refine Ends.mk (Or.inl rfl) (ac (congrArg AV.bool ?_))
    rw [hlm, dy, decide_eq_false (show ¬ l.length ≤ 24 by omega), Bool.and_false]
    exact decide_eq_false (by omega)
  ·have b1 : decide ((i : Int) < ((l.map eD).length : Int)) = true → False := fun h => by have := of_decide_eq_true h; omega
   repeat' first|exact (b1 (by assumption)).elim|refine Q1 ?_|refine Q2 ?_|refine Q3 hG aa bk ?_|refine Q4 hG aa bk ?_|refine Q5 hG aa ?_|refine Q6 hG aa ?_|refine Q7 hG aa ?_|refine Q8 hG aa ?_|refine Q9 rfl ?_|refine QF rfl ?_|refine QC rfl ⟨fun h => ?_,fun h => ?_⟩|((conv => whnf); first|refine anF ?_|refine anT ?_|refine anK ?_|refine And.intro (fun h => ?_) (fun h => ?_)|refine Or.inl ?_)
   refine Ends.mk (Or.inl rfl) (ac (congrArg AV.bool ?_))
   rw [List.drop_of_length_le (by omega), dK] at hok
   rw [hlm, dy, ← hok, Bool.true_and]
   exact decide_eq_decide.2 (by omega)
def OvI (l : List Img) (store : Int) (p : List Img) (f : Int) : Prop := (f = -1 ∧ ∀ x ∈ p, bL x.a l ≤ store) ∨ ((∃ x ∈ p, f = x.a ∧ store < bL x.a l) ∧ ∀ y ∈ p, store < bL y.a l → f ≤ y.a)
theorem OvI.skip {l p : List Img} {store f : Int} {x : Img} (h : OvI l store p f) (hx : bL x.a l ≤ store ∨ (0 ≤ f ∧ f ≤ x.a)) : OvI l store (p ++ [x]) f := by
 rcases h with ⟨h1, h2⟩ | ⟨⟨z, hz, h1, h3⟩, h2⟩
 ·refine .inl ⟨h1, fun y hy => ?_⟩
  rcases List.mem_append.1 hy with hy | hy
  ·exact h2 y hy
  ·rw [List.mem_singleton.1 hy]; omega
 ·refine .inr ⟨⟨z, List.mem_append_left _ hz, h1, h3⟩, fun y hy g => ?_⟩
  rcases List.mem_append.1 hy with hy | hy
  ·exact h2 y hy g
  ·rw [List.mem_singleton.1 hy] at g ⊢; omega
theorem OvI.set {l p : List Img} {store f : Int} {x : Img} (h : OvI l store p f) (hx : store < bL x.a l) (h2 : f < 0 ∨ x.a < f) (hp : ∀ x ∈ p, 0 ≤ x.a) : OvI l store (p ++ [x]) x.a := by
 refine .inr ⟨⟨x, by simp, rfl, hx⟩, fun y hy g => ?_⟩
 rcases List.mem_append.1 hy with hy | hy
 ·rcases h with ⟨h1, h3⟩ | ⟨⟨z, hz, h1, h3⟩, h4⟩
  ·have := h3 y hy; omega
  ·have := h4 y hy g; have := hp z hz; omega
 ·rw [List.mem_singleton.1 hy]; omega
theorem rd {t u : Int} : ∀ {l : List Img}, (∀ x ∈ l, 0 ≤ x.u) → (∀ x ∈ l, x.a ≤ t → t < x.b → x.a ≤ u ∧ u < x.b) → bL t l ≤ bL u l
 | [], _, _ => Int.le_refl _
 | x :: r, h, g => by
  have ih := rd (l := r) (fun y hy => h y (.tail _ hy)) fun y hy => g y (.tail _ hy)
  have h1 := h x (.head _)
  have h2 := g x (.head _)
  simp only [bL]
  split <;> split <;> omega
theorem qD (t : Int) : ∀ l : List Img, (∀ x ∈ l, t < x.a) ∨ ∃ x ∈ l, x.a ≤ t ∧ ∀ y ∈ l, y.a ≤ t → y.a ≤ x.a
 | [] => .inl (by simp)
 | x :: r => by
  rcases qD t r with h | ⟨z, hz, h1, h2⟩
  ·by_cases hx : x.a ≤ t
   ·refine .inr ⟨x, List.mem_cons_self, hx, fun y hy hyt => ?_⟩
    rcases List.mem_cons.1 hy with rfl | hy
    ·exact Int.le_refl _
    ·have := h y hy; omega
   ·refine .inl fun y hy => ?_
    rcases List.mem_cons.1 hy with rfl | hy
    ·omega
    ·exact h y hy
  ·by_cases hx : x.a ≤ t ∧ z.a < x.a
   ·refine .inr ⟨x, List.mem_cons_self, hx.1, fun y hy hyt => ?_⟩
    rcases List.mem_cons.1 hy with rfl | hy
    ·exact Int.le_refl _
    ·have := h2 y hy hyt; omega
   ·refine .inr ⟨z, List.mem_cons_of_mem _ hz, h1, fun y hy hyt => ?_⟩
    rcases List.mem_cons.1 hy with rfl | hy
    ·omega
    ·exact h2 y hy hyt
theorem xd {l : List Img} (h : ∀ x ∈ l, 0 ≤ x.u) (t : Int) : bL t l = 0 ∨ ∃ x ∈ l, x.a ≤ t ∧ bL t l ≤ bL x.a l := by
 rcases qD t l with g | ⟨z, hz, h1, h2⟩
 ·left
  have : ∀ m : List Img, (∀ x ∈ m, t < x.a) → bL t m = 0 := fun m => by
   induction m with
   | nil => intro _; rfl
   | cons x r ih =>
    intro g
    have := g x (.head _)
    simp only [bL]
    rw [ih fun y hy => g y (.tail _ hy), if_neg (by omega)]; rfl
  exact this l g
 ·exact .inr ⟨z, hz, h1, rd h fun x hx g1 g2 => by have := h2 x hx g1; omega⟩
theorem wL {l : List Img} (h : ∀ x ∈ l, 0 ≤ x.a ∧ x.a < x.b) (hu : ∀ x ∈ l, 0 ≤ x.u) {store f : Int} (h0 : 0 ≤ store) (ho : OvI l store l f) : f = fH store (cr l) := by
 refine iQ.unique (f := fun t => bL t l) (s := store) ?_ (wK h h0)
 have key : ∀ t, bL t l ≤ store ∨ ∃ x ∈ l, x.a ≤ t ∧ store < bL x.a l := fun t => by
  rcases xd hu t with g | ⟨x, hx, g1, g2⟩
  ·left; omega
  ·by_cases hc : bL t l ≤ store
   ·exact .inl hc
   ·exact .inr ⟨x, hx, g1, by omega⟩
 rcases ho with ⟨h1, h2⟩ | ⟨⟨x, hx, h1, h2⟩, h3⟩
 ·refine .inl ⟨h1, fun t => ?_⟩
  rcases key t with g | ⟨x, hx, _, g⟩
  ·exact g
  ·have := h2 x hx; omega
 ·refine .inr ⟨by rw [h1]; exact (h x hx).1, by rw [h1]; exact h2, fun t ht => ?_⟩
  rcases key t with g | ⟨y, hy, g1, g2⟩
  ·exact g
  ·have := h3 y hy g2; omega
theorem uu : ∀ (l pre : List Img), dK pre l = true → ∀ x ∈ l, 0 ≤ x.a ∧ x.a < x.b
 | [], _, _, x, hx => nomatch hx
 | y :: r, pre, h, x, hx => by
  simp only [dK, Bool.and_eq_true] at h
  rcases List.mem_cons.1 hx with rfl | hx
  ·have := h.1
   simp only [iE, spM, Bool.and_eq_true, decide_eq_true_eq] at this
   omega
  ·exact uu r _ h.2 x hx
set_option maxHeartbeats 4000000 in
theorem xy (l : List Img) (store : Int) (hl : l.length ≤ 1000000) (hv : dy l = true) (hs : inM store 0 1000000 = true) : ae Tryz.prog 81 [fg l, .int .i64 store] (.tup [.int .i64 (fH store (cr l)), .int .i64 0]) := by
 have cV : ae Tryz.prog 151 [fg l] (.bool true) := by rw [← hv]; exact rB l hl
 obtain ⟨hok, h24⟩ : dK [] l = true ∧ l.length ≤ 24 := by simpa [dy] using hv
 have hu := jQ l [] hok
 have hab := uu l [] hok
 have hst : 0 ≤ store ∧ store ≤ 1000000 := by simpa [inM] using hs
 have b1 : decide (store < 0) = true → False := fun h => by have := of_decide_eq_true h; omega
 have b2 : decide (store > 1000000) = true → False := fun h => by have := of_decide_eq_true h; omega
 refine ah aa Tryz.func81 rfl (by kernel_rfl) af (Nat.le_of_ble_eq_true rfl) ?_
 intro F n' w0 m0 hG hro h1
 repeat' first|exact (b1 (by assumption)).elim|exact (b2 (by assumption)).elim|refine Q1 ?_|refine Q2 ?_|refine Q3 hG aa eS ?_|refine Q4 hG aa eS ?_|refine Q5 hG aa ?_|refine Q6 hG aa ?_|refine Q7 hG aa ?_|refine Q8 hG aa ?_|refine Q9 rfl ?_|refine QF rfl ?_|refine QC rfl ⟨fun h => ?_,fun h => ?_⟩|((conv => whnf); first|refine anF ?_|refine anT ?_|refine anK ?_|refine Exists.intro _ (And.intro (cV) ?_)|refine And.intro (fun h => ?_) (fun h => ?_)|refine Or.inl ?_)
 refine ap (X := Nat × Int) (fun x => ⟨[(7, .int .i64 x.1), (6, .int .i64 x.2), (1, .int .i64 store), (0, fg l)], []⟩) (fun x => x.1 ≤ l.length ∧ OvI l store (l.take x.1) x.2) (fun x => l.length - x.1) (0, -1) ⟨Nat.zero_le _, .inl ⟨rfl, by simp⟩⟩ (ag ?_ ?_) (fun x hx => ?_)
 ·repeat' (first | exact trivial | refine And.intro rfl ?_)
 ·repeat' (first | exact trivial | refine And.intro rfl ?_)
 ·obtain ⟨i, f⟩ := x
  obtain ⟨hi, ho⟩ := hx
  simp only at hi ho ⊢
  by_cases hlt_i : i < l.length
  ·have bbk : decide ((i : Int) < ((l.map eD).length : Int)) = false → False := fun h => by have := of_decide_eq_false h; simp at this; omega
   have hx := oG hlt_i
   have htk := qR hlt_i
   have hxp := hab _ (yg hlt_i)
   have hpp : ∀ x ∈ l.take i, 0 ≤ x.a := fun x hx => (hab x (List.mem_of_mem_take hx)).1
   have hf0 : f < 0 ∨ 0 ≤ f := by omega
   generalize l.getD i gQ = x at hx htk hxp
   repeat' first|exact (bbk (by assumption)).elim|refine Q1 ?_|refine Q2 ?_|refine Q3 hG aa eS ?_|refine Q4 hG aa eS ?_|refine Q5 hG aa ?_|refine Q6 hG aa ?_|refine Q7 hG aa ?_|refine Q8 hG aa ?_|refine Q9 rfl ?_|refine QF rfl ?_|refine QC rfl ⟨fun h => ?_,fun h => ?_⟩|((conv => whnf); first|refine anF ?_|refine anT ?_|refine anK ?_|refine And.intro (Int.natCast_nonneg i) (Exists.intro _ (And.intro hx ?_))|refine Exists.intro _ (And.intro (xA l _ h24 hu) ?_)|refine And.intro (fun h => ?_) (fun h => ?_)|refine Or.inl ?_)
   all_goals first
    |(refine Exists.intro (i + 1, x.a) (And.intro ⟨hlt_i, by rw [htk]; exact ho.set (by clear hG; grind) (by clear hG; grind) hpp⟩ (And.intro (by show l.length - (i + 1) < l.length - i; omega) (ag ?_ ?_)))
      ·refine And.intro (congrArg some (am (by omega))) ?_
       repeat' (first | exact trivial | refine And.intro rfl ?_)
      ·repeat' (first | exact trivial | refine And.intro rfl ?_))
    |(refine Exists.intro (i + 1, f) (And.intro ⟨hlt_i, by rw [htk]; exact ho.skip (by clear hG; grind)⟩ (And.intro (by show l.length - (i + 1) < l.length - i; omega) (ag ?_ ?_)))
      ·refine And.intro (congrArg some (am (by omega))) ?_
       repeat' (first | exact trivial | refine And.intro rfl ?_)
      ·repeat' (first | exact trivial | refine And.intro rfl ?_))
  ·have bbk : decide ((i : Int) < ((l.map eD).length : Int)) = true → False := fun h => by have := of_decide_eq_true h; simp at this; omega
   have he : l.take i = l := List.take_of_length_le (by omega)
   rw [he] at ho
   repeat' first|exact (bbk (by assumption)).elim|refine Q1 ?_|refine Q2 ?_|refine Q3 hG aa eS ?_|refine Q4 hG aa eS ?_|refine Q5 hG aa ?_|refine Q6 hG aa ?_|refine Q7 hG aa ?_|refine Q8 hG aa ?_|refine Q9 rfl ?_|refine QF rfl ?_|refine QC rfl ⟨fun h => ?_,fun h => ?_⟩|((conv => whnf); first|refine anF ?_|refine anT ?_|refine anK ?_|refine And.intro (fun h => ?_) (fun h => ?_)|refine Or.inl ?_)
   rw [← wL hab (fun x hx => (hu x hx).1) hst.1 ho]
   exact Ends.mk (Or.inl rfl) (ac rfl)
end Go.Proofs
namespace Go.Proofs
open Go Go.AI
set_option maxRecDepth 10000
theorem bM {α : Type} {l : List α} {i : Nat} (d : α) (h : i < l.length) : l.take (i + 1) = l.take i ++ [l.getD i d] := by rw [List.take_add_one, List.getD_eq_getElem?_getD, List.getElem?_eq_getElem h]; rfl
theorem gu {α : Type} {l : List α} {i : Nat} {f : α → List AV} (d : α) (h : i < l.length) : (l.map f)[(i : Int).toNat]? = some (f (l.getD i d)) := by simp [List.getElem?_eq_getElem h]
set_option maxHeartbeats 4000000 in
theorem xB (l : List Opt) (hl : l.length ≤ 1000000) : ae Tryz.prog 78 [ay l] (da (aR l)) := by
 refine ah aa Tryz.func78 rfl (by kernel_rfl) af (Nat.le_of_ble_eq_true rfl) ?_
 intro F n' w0 m0 hG hro h1
 repeat' first|refine Q1 ?_|refine Q2 ?_|refine Q3 hG aa eU ?_|refine Q4 hG aa eU ?_|refine Q5 hG aa ?_|refine Q6 hG aa ?_|refine Q7 hG aa ?_|refine Q8 hG aa ?_|refine Q9 rfl ?_|refine QF rfl ?_|refine QC rfl ⟨fun h => ?_,fun h => ?_⟩|((conv => whnf); first|refine anF ?_|refine anT ?_|refine anK ?_|refine And.intro (fun h => ?_) (fun h => ?_)|refine Or.inl ?_)
 refine ap (X := Nat) (fun x => ⟨[(4, .int .i64 x), (3, .sl (.id 3) 3 ((aR (l.take x)).map bP)), (0, ay l)], []⟩) (fun x => x ≤ l.length) (fun x => l.length - x) 0 (Nat.zero_le _) (ag ?_ ?_) (fun x hx => ?_)
 ·repeat' (first | exact trivial | refine And.intro rfl ?_)
 ·repeat' (first | exact trivial | refine And.intro rfl ?_)
 ·rename Nat => i
  have hi := hx
  by_cases hlt_i : i < l.length
  ·have bbk : decide ((i : Int) < ((l.map aD).length : Int)) = false → False := fun h => by have := of_decide_eq_false h; simp at this; omega
   have hx := c8 hlt_i
   have hsn := sM hlt_i
   have hln : ((aR (l.take i)).map bP).length = i := by simp [aR]; omega
   generalize au l i = x at hx hsn
   repeat' first|exact (bbk (by assumption)).elim|refine Q1 ?_|refine Q2 ?_|refine Q3 hG aa eU ?_|refine Q4 hG aa eU ?_|refine Q5 hG aa ?_|refine Q6 hG aa ?_|refine Q7 hG aa ?_|refine Q8 hG aa ?_|refine Q9 rfl ?_|refine QF rfl ?_|refine QC rfl ⟨fun h => ?_,fun h => ?_⟩|((conv => whnf); first|refine anF ?_|refine anT ?_|refine anK ?_|refine And.intro (Int.natCast_nonneg i) (Exists.intro _ (And.intro hx ?_))|refine And.intro (show (((aR (l.take i)).map bP).length + 1) * 24 ≤ 70368744177664 by rw [hln]; omega) (And.intro (show ((aR (l.take i)).map bP).length + 1 ≤ 4611686018427387904 by rw [hln]; omega) ?_)|refine And.intro (fun h => ?_) (fun h => ?_)|refine Or.inl ?_)
   refine Exists.intro (i + 1) (And.intro hlt_i (And.intro (by omega) (ag ?_ ?_)))
   ·refine And.intro (congrArg some (am (by omega))) (And.intro (congrArg (fun z => some (AV.sl (.id 3) 3 z)) ?_) ?_)
    ·rw [hsn, List.map_append]; rfl
    ·repeat' (first | exact trivial | refine And.intro rfl ?_)
   ·repeat' (first | exact trivial | refine And.intro rfl ?_)
  ·have bbk : decide ((i : Int) < ((l.map aD).length : Int)) = true → False := fun h => by have := of_decide_eq_true h; simp at this; omega
   have he : l.take i = l := List.take_of_length_le (by omega)
   rw [he]
   repeat' first|exact (bbk (by assumption)).elim|refine Q1 ?_|refine Q2 ?_|refine Q3 hG aa eU ?_|refine Q4 hG aa eU ?_|refine Q5 hG aa ?_|refine Q6 hG aa ?_|refine Q7 hG aa ?_|refine Q8 hG aa ?_|refine Q9 rfl ?_|refine QF rfl ?_|refine QC rfl ⟨fun h => ?_,fun h => ?_⟩|((conv => whnf); first|refine anF ?_|refine anT ?_|refine anK ?_|refine And.intro (fun h => ?_) (fun h => ?_)|refine Or.inl ?_)
   exact Ends.mk (Or.inl rfl) (ac rfl)
theorem wv {l : List Opt} {i : Nat} (h : i < l.length) : aV (l.take (i + 1)) = aV (l.take i) ++ [⟨(au l i).id, (au l i).size, (au l i).a, dT (au l i)⟩] := by
 rw [List.take_add_one, List.getElem?_eq_getElem h, bj h]; exact List.map_append
set_option maxHeartbeats 4000000 in
theorem tQ (l : List Opt) (hl : l.length ≤ 1000000) (hs : gV l) (hc : ∀ o ∈ l, iJ o = true) : ae Tryz.prog 80 [ay l] (.tup [fg (aV l), .bool true]) := by
 refine ah aa Tryz.func80 rfl (by kernel_rfl) af (Nat.le_of_ble_eq_true rfl) ?_
 intro F n' w0 m0 hG hro h1
 repeat' first|refine Q1 ?_|refine Q2 ?_|refine Q3 hG aa eT ?_|refine Q4 hG aa eT ?_|refine Q5 hG aa ?_|refine Q6 hG aa ?_|refine Q7 hG aa ?_|refine Q8 hG aa ?_|refine Q9 rfl ?_|refine QF rfl ?_|refine QC rfl ⟨fun h => ?_,fun h => ?_⟩|((conv => whnf); first|refine anF ?_|refine anT ?_|refine anK ?_|refine And.intro (fun h => ?_) (fun h => ?_)|refine Or.inl ?_)
 refine ap (X := Nat) (fun x => ⟨[(5, .int .i64 x), (4, .sl (.id 4) 4 ((aV (l.take x)).map eD)), (0, ay l)], []⟩) (fun x => x ≤ l.length) (fun x => l.length - x) 0 (Nat.zero_le _) (ag ?_ ?_) (fun x hx => ?_)
 ·repeat' (first | exact trivial | refine And.intro rfl ?_)
 ·repeat' (first | exact trivial | refine And.intro rfl ?_)
 ·rename Nat => i
  have hi := hx
  by_cases hlt_i : i < l.length
  ·have bbk : decide ((i : Int) < ((l.map aD).length : Int)) = false → False := fun h => by have := of_decide_eq_false h; simp at this; omega
   have hx := c8 hlt_i
   have hsn := wv hlt_i
   have hm : au l i ∈ l := by rw [bj hlt_i]; exact List.getElem_mem hlt_i
   have cW := vH _ (hs _ hm) (hc _ hm)
   have hln : ((aV (l.take i)).map eD).length = i := by simp [aV]; omega
   generalize au l i = x at hx hsn cW
   repeat' first|exact (bbk (by assumption)).elim|refine Q1 ?_|refine Q2 ?_|refine Q3 hG aa eT ?_|refine Q4 hG aa eT ?_|refine Q5 hG aa ?_|refine Q6 hG aa ?_|refine Q7 hG aa ?_|refine Q8 hG aa ?_|refine Q9 rfl ?_|refine QF rfl ?_|refine QC rfl ⟨fun h => ?_,fun h => ?_⟩|((conv => whnf); first|refine anF ?_|refine anT ?_|refine anK ?_|refine And.intro (Int.natCast_nonneg i) (Exists.intro _ (And.intro hx ?_))|refine Exists.intro _ (And.intro (cW) ?_)|refine And.intro (show (((aV (l.take i)).map eD).length + 1) * 32 ≤ 70368744177664 by rw [hln]; omega) (And.intro (show ((aV (l.take i)).map eD).length + 1 ≤ 4611686018427387904 by rw [hln]; omega) ?_)|refine And.intro (fun h => ?_) (fun h => ?_)|refine Or.inl ?_)
   refine Exists.intro (i + 1) (And.intro hlt_i (And.intro (by omega) (ag ?_ ?_)))
   ·refine And.intro (congrArg some (am (by omega))) (And.intro (congrArg (fun z => some (AV.sl (.id 4) 4 z)) ?_) ?_)
    ·rw [hsn, List.map_append]; rfl
    ·repeat' (first | exact trivial | refine And.intro rfl ?_)
   ·repeat' (first | exact trivial | refine And.intro rfl ?_)
  ·have bbk : decide ((i : Int) < ((l.map aD).length : Int)) = true → False := fun h => by have := of_decide_eq_true h; simp at this; omega
   have he : l.take i = l := List.take_of_length_le (by omega)
   rw [he]
   repeat' first|exact (bbk (by assumption)).elim|refine Q1 ?_|refine Q2 ?_|refine Q3 hG aa eT ?_|refine Q4 hG aa eT ?_|refine Q5 hG aa ?_|refine Q6 hG aa ?_|refine Q7 hG aa ?_|refine Q8 hG aa ?_|refine Q9 rfl ?_|refine QF rfl ?_|refine QC rfl ⟨fun h => ?_,fun h => ?_⟩|((conv => whnf); first|refine anF ?_|refine anT ?_|refine anK ?_|refine And.intro (fun h => ?_) (fun h => ?_)|refine Or.inl ?_)
   exact Ends.mk (Or.inl rfl) (ac rfl)
def prL (l : List bl) : List (Int × Int) := l.map fun x => (x.a, x.b)
theorem Bt (a b : Opt) : gZ a b = wT (prL a.sl) (prL b.sl) (-1) := rfl
set_option maxHeartbeats 8000000 in
theorem xz (a b : Opt) (ha : a.sl.length ≤ 1000000) (hb : b.sl.length ≤ 1000000) : ae Tryz.prog 34 [.agg (aD a), .agg (aD b)] (.int .i64 (gZ a b)) := by
 rw [Bt]
 refine ah aa Tryz.func34 rfl (by kernel_rfl) af (Nat.le_of_ble_eq_true rfl) ?_
 intro F n' w0 m0 hG hro h1
 repeat' first|refine Q1 ?_|refine Q2 ?_|refine Q3 hG aa bX ?_|refine Q4 hG aa bX ?_|refine Q5 hG aa ?_|refine Q6 hG aa ?_|refine Q7 hG aa ?_|refine Q8 hG aa ?_|refine Q9 rfl ?_|refine QF rfl ?_|refine QC rfl ⟨fun h => ?_,fun h => ?_⟩|((conv => whnf); first|refine anF ?_|refine anT ?_|refine anK ?_|refine And.intro (fun h => ?_) (fun h => ?_)|refine Or.inl ?_)
 refine ap (X := Nat × Int) (fun x => ⟨[(6, .int .i64 x.1), (5, .int .i64 x.2), (3, .loc 3 0), (2, .loc 2 0)], [(3, aD b), (2, aD a)]⟩) (fun x => x.1 ≤ a.sl.length ∧ x.2 = wT (prL (a.sl.take x.1)) (prL b.sl) (-1)) (fun x => a.sl.length - x.1) (0, -1) ⟨Nat.zero_le _, rfl⟩ (ag ?_ ?_) (fun x hx => ?_)
 ·repeat' (first | exact trivial | refine And.intro rfl ?_)
 ·repeat' (first | exact trivial | refine And.intro rfl ?_)
 ·obtain ⟨i, f⟩ := x
  obtain ⟨hi, hf⟩ := hx
  simp only at hi hf ⊢
  by_cases hlt_i : i < a.sl.length
  ·have bbk : decide ((i : Int) < ((a.sl.map aL).length : Int)) = false → False := fun h => by have := of_decide_eq_false h; simp at this; omega
   have hx := eq hlt_i
   have hx : (a.sl.map aL)[(i : Int).toNat]? = some (aL (a.sl.getD i gU)) := hx
   obtain ⟨u, hu⟩ : ∃ u, u = a.sl.getD i gU := ⟨_, rfl⟩
   rw [← hu] at hx
   repeat' first|exact (bbk (by assumption)).elim|refine Q1 ?_|refine Q2 ?_|refine Q3 hG aa bX ?_|refine Q4 hG aa bX ?_|refine Q5 hG aa ?_|refine Q6 hG aa ?_|refine Q7 hG aa ?_|refine Q8 hG aa ?_|refine Q9 rfl ?_|refine QF rfl ?_|refine QC rfl ⟨fun h => ?_,fun h => ?_⟩|((conv => whnf); first|refine anF ?_|refine anT ?_|refine anK ?_|refine And.intro (Int.natCast_nonneg i) (Exists.intro _ (And.intro hx ?_))|refine And.intro (fun h => ?_) (fun h => ?_)|refine Or.inl ?_)
   refine ap (X := Nat × Int) (fun x => ⟨[(7, .int .i64 x.1), (6, .int .i64 i), (5, .int .i64 x.2), (3, .loc 3 0), (2, .loc 2 0)], [(3, aD b), (2, aD a)]⟩) (fun x => x.1 ≤ b.sl.length ∧ x.2 = mIn (u.a, u.b) (prL (b.sl.take x.1)) f) (fun x => b.sl.length - x.1) (0, f) ⟨Nat.zero_le _, rfl⟩ (ag ?_ ?_) (fun x hx => ?_)
   ·repeat' (first | exact trivial | refine And.intro rfl ?_)
   ·repeat' (first | exact trivial | refine And.intro rfl ?_)
   ·obtain ⟨k, g⟩ := x
    obtain ⟨hk, hg⟩ := hx
    simp only at hk hg ⊢
    by_cases hlt_k : k < b.sl.length
    ·have bbj : decide ((k : Int) < ((b.sl.map aL).length : Int)) = false → False := fun h => by have := of_decide_eq_false h; simp at this; omega
     have hy := eq hlt_k
     have hsn : mIn (u.a, u.b) (prL (b.sl.take (k + 1))) f = iF g (u.a, u.b) ((b.sl.getD k gU).a, (b.sl.getD k gU).b) := by rw [bM gU hlt_k, hg]; simp [mIn, prL]
     have hy : (b.sl.map aL)[(k : Int).toNat]? = some (aL (b.sl.getD k gU)) := hy
     generalize b.sl.getD k gU = v at hy hsn
     simp only [iF] at hsn
     repeat' first|exact (bbj (by assumption)).elim|refine Q1 ?_|refine Q2 ?_|refine Q3 hG aa bX ?_|refine Q4 hG aa bX ?_|refine Q5 hG aa ?_|refine Q6 hG aa ?_|refine Q7 hG aa ?_|refine Q8 hG aa ?_|refine Q9 rfl ?_|refine QF rfl ?_|refine QC rfl ⟨fun h => ?_,fun h => ?_⟩|((conv => whnf); first|refine anF ?_|refine anT ?_|refine anK ?_|refine And.intro (Int.natCast_nonneg i) (Exists.intro _ (And.intro hx ?_))|refine And.intro (Int.natCast_nonneg k) (Exists.intro _ (And.intro hy ?_))|refine And.intro (fun h => ?_) (fun h => ?_)|refine Or.inl ?_)
     all_goals first
      |(refine Exists.intro (k + 1, max u.a v.a) (And.intro ⟨hlt_k, ?_⟩ (And.intro (by show b.sl.length - (k + 1) < b.sl.length - k; omega) (ag ?_ ?_)))
        ·clear hG; rw [hsn]; symm; apply if_pos; grind
        ·refine And.intro (congrArg some (am (by omega))) ?_
         repeat' (first | exact trivial | refine And.intro rfl ?_)
        ·repeat' (first | exact trivial | refine And.intro rfl ?_))
      |(refine Exists.intro (k + 1, g) (And.intro ⟨hlt_k, ?_⟩ (And.intro (by show b.sl.length - (k + 1) < b.sl.length - k; omega) (ag ?_ ?_)))
        ·clear hG; rw [hsn]; symm; apply if_neg; grind
        ·refine And.intro (congrArg some (am (by omega))) ?_
         repeat' (first | exact trivial | refine And.intro rfl ?_)
        ·repeat' (first | exact trivial | refine And.intro rfl ?_))
    ·have bbj : decide ((k : Int) < ((b.sl.map aL).length : Int)) = true → False := fun h => by have := of_decide_eq_true h; simp at this; omega
     have he : b.sl.take k = b.sl := List.take_of_length_le (by omega)
     rw [he] at hg
     repeat' first|exact (bbj (by assumption)).elim|refine Q1 ?_|refine Q2 ?_|refine Q3 hG aa bX ?_|refine Q4 hG aa bX ?_|refine Q5 hG aa ?_|refine Q6 hG aa ?_|refine Q7 hG aa ?_|refine Q8 hG aa ?_|refine Q9 rfl ?_|refine QF rfl ?_|refine QC rfl ⟨fun h => ?_,fun h => ?_⟩|((conv => whnf); first|refine anF ?_|refine anT ?_|refine anK ?_|refine And.intro (fun h => ?_) (fun h => ?_)|refine Or.inl ?_)
     refine Exists.intro (i + 1, g) (And.intro ⟨hlt_i, ?_⟩ (And.intro (by show a.sl.length - (i + 1) < a.sl.length - i; omega) (ag ?_ ?_)))
     ·rw [bM gU hlt_i, ← hu, hg, hf]; simp [wT, prL]
     ·refine And.intro (congrArg some (am (by omega))) ?_
      repeat' (first | exact trivial | refine And.intro rfl ?_)
     ·repeat' (first | exact trivial | refine And.intro rfl ?_)
  ·have bbk : decide ((i : Int) < ((a.sl.map aL).length : Int)) = true → False := fun h => by have := of_decide_eq_true h; simp at this; omega
   have he : a.sl.take i = a.sl := List.take_of_length_le (by omega)
   rw [he] at hf
   repeat' first|exact (bbk (by assumption)).elim|refine Q1 ?_|refine Q2 ?_|refine Q3 hG aa bX ?_|refine Q4 hG aa bX ?_|refine Q5 hG aa ?_|refine Q6 hG aa ?_|refine Q7 hG aa ?_|refine Q8 hG aa ?_|refine Q9 rfl ?_|refine QF rfl ?_|refine QC rfl ⟨fun h => ?_,fun h => ?_⟩|((conv => whnf); first|refine anF ?_|refine anT ?_|refine anK ?_|refine And.intro (fun h => ?_) (fun h => ?_)|refine Or.inl ?_)
   exact Ends.mk (Or.inl rfl) (ac (congrArg (AV.int .i64) hf))
def ve : Flt := ⟨0, 0, 0, 0⟩
def ld0 : aq := ⟨0, 0, 0⟩
set_option maxHeartbeats 4000000 in
theorem jH (l m : List Flt) (hl : l.length ≤ 1000000) : ae Tryz.prog 25 [hU l, hU m] (.bool (decide (l = m))) := by
 have hlm : ((l.map br).length : Int) = (l.length : Int) := by rw [List.length_map]
 have hmm : ((m.map br).length : Int) = (m.length : Int) := by rw [List.length_map]
 refine ah aa Tryz.func25 rfl (by kernel_rfl) af (Nat.le_of_ble_eq_true rfl) ?_
 intro F n' w0 m0 hG hro h1
 repeat' first|refine Q1 ?_|refine Q2 ?_|refine Q3 hG aa e7 ?_|refine Q4 hG aa e7 ?_|refine Q5 hG aa ?_|refine Q6 hG aa ?_|refine Q7 hG aa ?_|refine Q8 hG aa ?_|refine Q9 rfl ?_|refine QF rfl ?_|refine QC rfl ⟨fun h => ?_,fun h => ?_⟩|((conv => whnf); first|refine anF ?_|refine anT ?_|refine anK ?_|refine And.intro (fun h => ?_) (fun h => ?_)|refine Or.inl ?_)
 all_goals first
  |(refine Ends.mk (Or.inl rfl) (ac (congrArg AV.bool ?_))
    have h := (by assumption : (((l.map br).length : Int) != ((m.map br).length : Int)) = true)
    rw [hlm, hmm] at h
    exact (decide_eq_false fun e => by rw [e] at h; simp at h).symm)
  | skip
 have hll : l.length = m.length := by
  have h := (by assumption : (((l.map br).length : Int) != ((m.map br).length : Int)) = false)
  rw [hlm, hmm] at h
  simp at h; omega
 refine ap (X := Nat) (fun x => ⟨[(5, .int .i64 x), (1, hU m), (0, hU l)], []⟩) (fun x => x ≤ l.length ∧ l.take x = m.take x) (fun x => l.length - x) 0 ⟨Nat.zero_le _, rfl⟩ (ag ?_ ?_) (fun x hx => ?_)
 ·repeat' (first | exact trivial | refine And.intro rfl ?_)
 ·repeat' (first | exact trivial | refine And.intro rfl ?_)
 ·rename Nat => i
  obtain ⟨hi, ht⟩ := hx
  by_cases hlt_i : i < l.length
  ·have bbk : decide ((i : Int) < ((l.map br).length : Int)) = false → False := fun h => by have := of_decide_eq_false h; simp at this; omega
   have hx := gu (f := br) ve hlt_i
   have hy := gu (f := br) ve (show i < m.length by omega)
   have hn1 := bM ve hlt_i
   have hn2 := bM ve (show i < m.length by omega)
   have hne : l.getD i ve ≠ m.getD i ve → decide (l = m) = false := fun h => decide_eq_false fun e => h (by rw [e])
   generalize l.getD i ve = u at *
   generalize m.getD i ve = v at *
   repeat' first|exact (bbk (by assumption)).elim|refine Q1 ?_|refine Q2 ?_|refine Q3 hG aa e7 ?_|refine Q4 hG aa e7 ?_|refine Q5 hG aa ?_|refine Q6 hG aa ?_|refine Q7 hG aa ?_|refine Q8 hG aa ?_|refine Q9 rfl ?_|refine QF rfl ?_|refine QC rfl ⟨fun h => ?_,fun h => ?_⟩|((conv => whnf); first|refine anF ?_|refine anT ?_|refine anK ?_|refine And.intro (Int.natCast_nonneg i) (Exists.intro _ (And.intro hx ?_))|refine And.intro (Int.natCast_nonneg i) (Exists.intro _ (And.intro hy ?_))|refine And.intro (fun h => ?_) (fun h => ?_)|refine Or.inl ?_)
   all_goals first
    |(refine Ends.mk (Or.inl rfl) (ac (congrArg AV.bool ?_))
      exact (hne fun e => by subst e; have h := (by assumption : (!_) = true); simp at h).symm)
    | skip
   refine Exists.intro (i + 1) (And.intro ⟨hlt_i, ?_⟩ (And.intro (by omega) (ag ?_ ?_)))
   ·rw [hn1, hn2, ht]
    have e : u = v := by
     have h := fR (by assumption : (!_) = false)
     cases u; cases v; simp at h; simp [h]
    rw [e]
   ·refine And.intro (congrArg some (am (by omega))) ?_
    repeat' (first | exact trivial | refine And.intro rfl ?_)
   ·repeat' (first | exact trivial | refine And.intro rfl ?_)
  ·have bbk : decide ((i : Int) < ((l.map br).length : Int)) = true → False := fun h => by have := of_decide_eq_true h; simp at this; omega
   have he : l.take i = l := List.take_of_length_le (by omega)
   have he2 : m.take i = m := List.take_of_length_le (by omega)
   rw [he, he2] at ht
   repeat' first|exact (bbk (by assumption)).elim|refine Q1 ?_|refine Q2 ?_|refine Q3 hG aa e7 ?_|refine Q4 hG aa e7 ?_|refine Q5 hG aa ?_|refine Q6 hG aa ?_|refine Q7 hG aa ?_|refine Q8 hG aa ?_|refine Q9 rfl ?_|refine QF rfl ?_|refine QC rfl ⟨fun h => ?_,fun h => ?_⟩|((conv => whnf); first|refine anF ?_|refine anT ?_|refine anK ?_|refine And.intro (fun h => ?_) (fun h => ?_)|refine Or.inl ?_)
   exact Ends.mk (Or.inl rfl) (ac (congrArg AV.bool (decide_eq_true ht).symm))
set_option maxHeartbeats 4000000 in
theorem kp (l m : List aq) (hl : l.length ≤ 1000000) : ae Tryz.prog 26 [bn l, bn m] (.bool (decide (l = m))) := by
 have hlm : ((l.map aw).length : Int) = (l.length : Int) := by rw [List.length_map]
 have hmm : ((m.map aw).length : Int) = (m.length : Int) := by rw [List.length_map]
 refine ah aa Tryz.func26 rfl (by kernel_rfl) af (Nat.le_of_ble_eq_true rfl) ?_
 intro F n' w0 m0 hG hro h1
 repeat' first|refine Q1 ?_|refine Q2 ?_|refine Q3 hG aa eZ ?_|refine Q4 hG aa eZ ?_|refine Q5 hG aa ?_|refine Q6 hG aa ?_|refine Q7 hG aa ?_|refine Q8 hG aa ?_|refine Q9 rfl ?_|refine QF rfl ?_|refine QC rfl ⟨fun h => ?_,fun h => ?_⟩|((conv => whnf); first|refine anF ?_|refine anT ?_|refine anK ?_|refine And.intro (fun h => ?_) (fun h => ?_)|refine Or.inl ?_)
 all_goals first
  |(refine Ends.mk (Or.inl rfl) (ac (congrArg AV.bool ?_))
    have h := (by assumption : (((l.map aw).length : Int) != ((m.map aw).length : Int)) = true)
    rw [hlm, hmm] at h
    exact (decide_eq_false fun e => by rw [e] at h; simp at h).symm)
  | skip
 have hll : l.length = m.length := by
  have h := (by assumption : (((l.map aw).length : Int) != ((m.map aw).length : Int)) = false)
  rw [hlm, hmm] at h
  simp at h; omega
 refine ap (X := Nat) (fun x => ⟨[(5, .int .i64 x), (1, bn m), (0, bn l)], []⟩) (fun x => x ≤ l.length ∧ l.take x = m.take x) (fun x => l.length - x) 0 ⟨Nat.zero_le _, rfl⟩ (ag ?_ ?_) (fun x hx => ?_)
 ·repeat' (first | exact trivial | refine And.intro rfl ?_)
 ·repeat' (first | exact trivial | refine And.intro rfl ?_)
 ·rename Nat => i
  obtain ⟨hi, ht⟩ := hx
  by_cases hlt_i : i < l.length
  ·have bbk : decide ((i : Int) < ((l.map aw).length : Int)) = false → False := fun h => by have := of_decide_eq_false h; simp at this; omega
   have hx := gu (f := aw) ld0 hlt_i
   have hy := gu (f := aw) ld0 (show i < m.length by omega)
   have hn1 := bM ld0 hlt_i
   have hn2 := bM ld0 (show i < m.length by omega)
   have hne : l.getD i ld0 ≠ m.getD i ld0 → decide (l = m) = false := fun h => decide_eq_false fun e => h (by rw [e])
   generalize l.getD i ld0 = u at *
   generalize m.getD i ld0 = v at *
   repeat' first|exact (bbk (by assumption)).elim|refine Q1 ?_|refine Q2 ?_|refine Q3 hG aa eZ ?_|refine Q4 hG aa eZ ?_|refine Q5 hG aa ?_|refine Q6 hG aa ?_|refine Q7 hG aa ?_|refine Q8 hG aa ?_|refine Q9 rfl ?_|refine QF rfl ?_|refine QC rfl ⟨fun h => ?_,fun h => ?_⟩|((conv => whnf); first|refine anF ?_|refine anT ?_|refine anK ?_|refine And.intro (Int.natCast_nonneg i) (Exists.intro _ (And.intro hx ?_))|refine And.intro (Int.natCast_nonneg i) (Exists.intro _ (And.intro hy ?_))|refine And.intro (fun h => ?_) (fun h => ?_)|refine Or.inl ?_)
   all_goals first
    |(refine Ends.mk (Or.inl rfl) (ac (congrArg AV.bool ?_))
      exact (hne fun e => by subst e; have h := (by assumption : (!_) = true); simp at h).symm)
    | skip
   refine Exists.intro (i + 1) (And.intro ⟨hlt_i, ?_⟩ (And.intro (by omega) (ag ?_ ?_)))
   ·rw [hn1, hn2, ht]
    have e : u = v := by
     have h := fR (by assumption : (!_) = false)
     cases u; cases v; simp at h; simp [h]
    rw [e]
   ·refine And.intro (congrArg some (am (by omega))) ?_
    repeat' (first | exact trivial | refine And.intro rfl ?_)
   ·repeat' (first | exact trivial | refine And.intro rfl ?_)
  ·have bbk : decide ((i : Int) < ((l.map aw).length : Int)) = true → False := fun h => by have := of_decide_eq_true h; simp at this; omega
   have he : l.take i = l := List.take_of_length_le (by omega)
   have he2 : m.take i = m := List.take_of_length_le (by omega)
   rw [he, he2] at ht
   repeat' first|exact (bbk (by assumption)).elim|refine Q1 ?_|refine Q2 ?_|refine Q3 hG aa eZ ?_|refine Q4 hG aa eZ ?_|refine Q5 hG aa ?_|refine Q6 hG aa ?_|refine Q7 hG aa ?_|refine Q8 hG aa ?_|refine Q9 rfl ?_|refine QF rfl ?_|refine QC rfl ⟨fun h => ?_,fun h => ?_⟩|((conv => whnf); first|refine anF ?_|refine anT ?_|refine anK ?_|refine And.intro (fun h => ?_) (fun h => ?_)|refine Or.inl ?_)
   exact Ends.mk (Or.inl rfl) (ac (congrArg AV.bool (decide_eq_true ht).symm))
def kg (o : Opt) : Opt := { o with sl := o.sl.take 7 }
theorem vS (o : Opt) : ae Tryz.prog 19 [.agg (aD o)] (.agg (aD (kg o))) := by
 have h0 : 0 ≤ min ((o.sl.map aL).length : Int) 7 := by omega
 have h7 : (min ((o.sl.map aL).length : Int) 7).toNat ≤ (o.sl.map aL).length := by omega
 have hr : (((o.sl.map aL).take (min ((o.sl.map aL).length : Int) 7).toNat).drop 0) = (kg o).sl.map aL := by
  rw [List.drop_zero, kg, List.map_take, List.length_map]
  rcases Nat.le_total o.sl.length 7 with h | h
  ·rw [List.take_of_length_le (by simp; omega), List.take_of_length_le (by simp; omega)]
  ·rw [show (min (o.sl.length : Int) 7).toNat = 7 by omega]
 refine ah aa Tryz.func19 rfl (by kernel_rfl) af (Nat.le_of_ble_eq_true rfl) ?_
 intro F n' w0 m0 hG hro h1
 repeat' first|refine Q1 ?_|refine Q2 ?_|refine Q3 hG aa pN ?_|refine Q4 hG aa pN ?_|refine Q5 hG aa ?_|refine Q6 hG aa ?_|refine Q7 hG aa ?_|refine Q8 hG aa ?_|refine Q9 rfl ?_|refine QF rfl ?_|refine QC rfl ⟨fun h => ?_,fun h => ?_⟩|((conv => whnf); first|refine anF ?_|refine anT ?_|refine anK ?_|refine And.intro h0 (And.intro (Nat.zero_le _) (And.intro h7 ?_))|refine And.intro (fun h => ?_) (fun h => ?_)|refine Or.inl ?_)
 all_goals exact Ends.mk (Or.inl rfl) (ac (congrArg (fun z => AV.agg [.int .i64 o.id, .int .i64 o.ord, .int .i64 o.cl, .int .i64 o.sat, .int .i64 o.a, .int .i64 o.b, .int .i64 o.look, .int .i64 o.size, .sl .no 3 z]) hr))
end Go.Proofs
namespace Go.Proofs
open Go Go.AI
set_option maxRecDepth 10000
def DM (k : Nat) (s : St) : St := ⟨gD (AV.dem k) s.t, s.b⟩
theorem vo {Γ : aK} {s : St} {a : Act} {w : World} (k : Nat) (h : Inv Γ s a w) : Inv Γ (DM k s) a w := by
 obtain ⟨⟨cx, hW, ht⟩, h2, h3, h4⟩ := h
 refine ⟨⟨cx, hW, fun d y hy => ?_⟩, h2, h3, h4⟩
 have hy : get (gD (AV.dem k) s.t) d = some y := hy
 rw [dF] at hy
 obtain ⟨z, hz, rfl⟩ := Option.map_eq_some_iff.1 hy
 exact (ht d z hz).dem k
theorem SPB.demT {Γ : aK} {s : St} {c : Code} {K : Exit → St → Prop} (k : Nat) (h : SPB Γ (DM k s) c K) : SPB Γ s c K := ⟨fun a w hI => h.out a w (vo k hI)⟩
theorem SPB.loopD {Γ : aK} {s : St} {K : Exit → St → Prop} {c : Code} {X : Type} (k : Nat) (sh : X → St) (I : X → Prop) (μ : X → Nat) (x0 : X) (h0 : I x0) (hle : s.le (sh x0))
  (body : ∀ x, I x → SPB Γ (sh x) c fun e s' => match e with | .normal => ∃ x', I x' ∧ μ x' < μ x ∧ (DM k s').le (sh x') | e => K e s') : SPB Γ s (.loop c) K := by
 refine ap sh I μ x0 h0 hle fun x hx => ⟨fun a w hI => wpIn_mono ((body x hx).out a w hI) ?_⟩
 rintro e a' w' ⟨hN, hF, s', hI', hK⟩
 cases e with
 | normal => exact ⟨hN, hF, DM k s', vo k hI', hK⟩
 | _ => exact ⟨hN, hF, s', hI', hK⟩
theorem xp {α : Type} {xs ys : List α} {A B : Prop} (h : mL xs ys = true) (hA : A) : (bif mL xs ys then A else B) := by rw [h]; exact hA
theorem Fi {α : Type} {xs ys : List α} {A B : Prop} (h : mL xs ys = false) (h2 : ka ys = false) (hB : B) : (bif mL xs ys then A else bif ka ys then False else B) := by rw [h, h2]; exact hB
def spR (x : Int × Int) : List AV := [.int .i64 x.1, .int .i64 x.2]
theorem sy : ∀ (l : List (Int × Int)) (r : List (Int × Int) × (Int × Int)), (l.foldl fO r).1.length ≤ r.1.length + l.length
 | [], r => by simp
 | x :: l, r => by
  have h := sy l (fO r x)
  have h2 : (fO r x).1.length ≤ r.1.length + 1 := by unfold fO; split <;> simp
  simp only [List.foldl_cons, List.length_cons]; omega
theorem ql {α : Type} (p : α → Bool) : ∀ (l : List α) (q : Nat), q ≤ l.length → (∀ j x, j < q → l[j]? = some x → p x = true) → (∀ x, l[q]? = some x → p x = false) → l.takeWhile p = l.take q ∧ l.dropWhile p = l.drop q
 | [], q, _, _, _ => by simp
 | x :: l, 0, _, _, h => by
  have := h x rfl
  simp [List.takeWhile_cons, List.dropWhile_cons, this]
 | x :: l, q + 1, hq, h1, h2 => by
  have h0 := h1 0 x (by omega) rfl
  obtain ⟨g1, g2⟩ := ql p l q (by simpa using hq) (fun j y hj hy => h1 (j + 1) y (by omega) hy) (fun y hy => h2 y hy)
  simp [List.takeWhile_cons, List.dropWhile_cons, h0, g1, g2]
theorem yf {next : List (Int × Int)} {s : Int × Int} {q : Nat} (hq : q ≤ next.length) (h1 : ∀ j x, j < q → next[j]? = some x → x.1 < s.1) (h2 : ∀ x, next[q]? = some x → ¬ x.1 < s.1) : u7 next s = next.take q ++ s :: next.drop q := by
 obtain ⟨g1, g2⟩ := ql (fun x => decide (x.1 < s.1)) next q hq (fun j x hj hx => decide_eq_true (h1 j x hj hx)) (fun x hx => decide_eq_false (h2 x hx))
 rw [u7, g1, g2]
theorem se (out : List (Int × Int)) (s : Int × Int) : (fm out s).length ≤ out.length + 1 := by
 have h := sy out ([], s)
 have h2 := congrArg List.length (List.takeWhile_append_dropWhile (p := fun x : Int × Int => decide (x.1 < (out.foldl fO ([], s)).2.1)) (l := (out.foldl fO ([], s)).1))
 simp only [List.length_append, List.length_nil, Nat.zero_add] at h h2
 unfold fm u7
 simp only [List.length_append, List.length_cons]
 omega
set_option maxHeartbeats 8000000 in
theorem pQ (l : List (Int × Int)) (hl : l.length ≤ 900000) : ae Tryz.prog 98 [.sl .no 2 (l.map spR)] (.sl .no 2 ((fS l).map spR)) := by
 refine ah aa Tryz.func98 rfl (by kernel_rfl) af (Nat.le_of_ble_eq_true rfl) ?_
 intro F n' w0 m0 hG hro h1
 repeat' first|refine Q1 ?_|refine Q2 ?_|refine Q3 hG aa bg ?_|refine Q4 hG aa bg ?_|refine Q5 hG aa ?_|refine Q6 hG aa ?_|refine Q7 hG aa ?_|refine Q8 hG aa ?_|refine Q9 rfl ?_|refine QF rfl ?_|refine QC rfl ⟨fun h => ?_,fun h => ?_⟩|((conv => whnf); first|refine anF ?_|refine anT ?_|refine anK ?_|refine And.intro (fun h => ?_) (fun h => ?_)|refine Or.inl ?_)
 refine SPB.demT 3 ?_
 refine SPB.loopD 93 (X := Nat × List (Int × Int)) (fun x => ⟨[(4, .int .i64 x.1), (3, .sl .no 2 (x.2.map spR)), (0, .sl .no 2 (l.map spR))], []⟩) (fun x => x.1 ≤ l.length ∧ x.2 = (l.take x.1).foldl fm [] ∧ x.2.length ≤ x.1) (fun x => l.length - x.1) (0, []) ⟨Nat.zero_le _, rfl, Nat.le_refl _⟩ (ag ?_ ?_) (fun x hx => ?_)
 ·repeat' (first | exact trivial | refine And.intro rfl ?_)
 ·repeat' (first | exact trivial | refine And.intro rfl ?_)
 ·obtain ⟨i, out⟩ := x
  obtain ⟨hi, ho, hol⟩ := hx
  simp only at hi ho hol ⊢
  by_cases hlt_i : i < l.length
  ·have bbk : decide ((i : Int) < ((l.map spR).length : Int)) = false → False := fun h => by have := of_decide_eq_false h; simp at this; omega
   have hx := gu (f := spR) ((0 : Int), (0 : Int)) hlt_i
   have hsn := bM ((0 : Int), (0 : Int)) hlt_i
   have hsl : (fm out (l.getD i ((0 : Int), (0 : Int)))).length ≤ i + 1 := by have := se out (l.getD i ((0 : Int), (0 : Int))); omega
   generalize l.getD i ((0 : Int), (0 : Int)) = s at hx hsn hsl
   repeat' first|exact (bbk (by assumption)).elim|refine Q1 ?_|refine Q2 ?_|refine Q3 hG aa bg ?_|refine Q4 hG aa bg ?_|refine Q5 hG aa ?_|refine Q6 hG aa ?_|refine Q7 hG aa ?_|refine Q8 hG aa ?_|refine Q9 rfl ?_|refine QF rfl ?_|refine QC rfl ⟨fun h => ?_,fun h => ?_⟩|((conv => whnf); first|refine anF ?_|refine anT ?_|refine anK ?_|refine And.intro (Int.natCast_nonneg i) (Exists.intro _ (And.intro hx ?_))|refine And.intro (fun h => ?_) (fun h => ?_)|refine Or.inl ?_)
   refine ap (X := Nat × List (Int × Int) × (Int × Int)) (fun x => ⟨[(7, .int .i64 x.1), (6, .sl (.id 6) 2 (x.2.1.map spR)), (5, .loc 5 0), (4, .int .i64 i), (3, .sl .no 2 (out.map spR)), (0, .sl .no 2 (l.map spR))], [(5, spR x.2.2)]⟩) (fun x => x.1 ≤ out.length ∧ x.2 = (out.take x.1).foldl fO ([], s) ∧ x.2.1.length ≤ x.1) (fun x => out.length - x.1) (0, [], s) ⟨Nat.zero_le _, rfl, Nat.le_refl _⟩ (ag ?_ ?_) (fun x hx => ?_)
   ·repeat' (first | exact trivial | refine And.intro rfl ?_)
   ·repeat' (first | exact trivial | refine And.intro rfl ?_)
   ·obtain ⟨k, next, s2⟩ := x
    obtain ⟨hk, hr, hnl⟩ := hx
    simp only at hk hr hnl ⊢
    by_cases hlt_k : k < out.length
    ·have bbk : decide ((k : Int) < ((out.map spR).length : Int)) = false → False := fun h => by have := of_decide_eq_false h; simp at this; omega
     have hy := gu (f := spR) ((0 : Int), (0 : Int)) hlt_k
     have hrn : (out.take (k + 1)).foldl fO ([], s) = fO (next, s2) (out.getD k ((0 : Int), (0 : Int))) := by rw [bM ((0 : Int), (0 : Int)) hlt_k, List.foldl_append, ← hr]; rfl
     generalize out.getD k ((0 : Int), (0 : Int)) = y at hy hrn
     rw [show fO (next, s2) y = if y.2 < s2.1 ∨ y.1 > s2.2 then (next ++ [y], s2) else (next, (min s2.1 y.1, max s2.2 y.2)) from rfl] at hrn
     repeat' first|exact (bbk (by assumption)).elim|refine Q1 ?_|refine Q2 ?_|refine Q3 hG aa bg ?_|refine Q4 hG aa bg ?_|refine Q5 hG aa ?_|refine Q6 hG aa ?_|refine Q7 hG aa ?_|refine Q8 hG aa ?_|refine Q9 rfl ?_|refine QF rfl ?_|refine QC rfl ⟨fun h => ?_,fun h => ?_⟩|((conv => whnf); first|refine anF ?_|refine anT ?_|refine anK ?_|refine And.intro (Int.natCast_nonneg k) (Exists.intro _ (And.intro hy ?_))|refine And.intro (show ((next.map spR).length + 1) * 16 ≤ 70368744177664 by rw [List.length_map]; omega) (And.intro (show (next.map spR).length + 1 ≤ 4611686018427387904 by rw [List.length_map]; omega) ?_)|refine And.intro (fun h => ?_) (fun h => ?_)|refine Or.inl ?_)
     all_goals first
      |(refine Exists.intro (k + 1, next ++ [y], s2) (And.intro ⟨hlt_k, ?_, ?_⟩ (And.intro (by show out.length - (k + 1) < out.length - k; omega) (ag ?_ ?_)))
        ·clear hG; rw [hrn]; symm; apply if_pos; grind
        ·show (next ++ [y]).length ≤ k + 1
         simp; omega
        ·refine And.intro (congrArg some (am (by omega))) (And.intro (congrArg (fun z => some (AV.sl (.id 6) 2 z)) (show next.map spR ++ [spR y] = (next ++ [y]).map spR by simp)) ?_)
         repeat' (first | exact trivial | refine And.intro rfl ?_)
        ·repeat' (first | exact trivial | refine And.intro rfl ?_))
      |(refine Exists.intro (k + 1, next, (min s2.1 y.1, max s2.2 y.2)) (And.intro ⟨hlt_k, ?_, ?_⟩ (And.intro (by show out.length - (k + 1) < out.length - k; omega) (ag ?_ ?_)))
        ·clear hG; rw [hrn]; symm; apply if_neg; grind
        ·show next.length ≤ k + 1
         omega
        ·refine And.intro (congrArg some (am (by omega))) ?_
         repeat' (first | exact trivial | refine And.intro rfl ?_)
        ·repeat' (first | exact trivial | refine And.intro rfl ?_))
    ·have bbk : decide ((k : Int) < ((out.map spR).length : Int)) = true → False := fun h => by have := of_decide_eq_true h; simp at this; omega
     have he : out.take k = out := List.take_of_length_le (by omega)
     rw [he] at hr
     have hst0 : fm out s = u7 next s2 := by rw [fm, ← hr]
     have hnl2 : next.length ≤ 1000000 := by omega
     repeat' first|exact (bbk (by assumption)).elim|refine Q1 ?_|refine Q2 ?_|refine Q3 hG aa bg ?_|refine Q4 hG aa bg ?_|refine Q5 hG aa ?_|refine Q6 hG aa ?_|refine Q7 hG aa ?_|refine Q8 hG aa ?_|refine Q9 rfl ?_|refine QF rfl ?_|refine QC rfl ⟨fun h => ?_,fun h => ?_⟩|((conv => whnf); first|refine anF ?_|refine anT ?_|refine anK ?_|refine And.intro (fun h => ?_) (fun h => ?_)|refine Or.inl ?_)
     refine ap (X := Nat) (fun x => ⟨[(8, .int .i64 x), (6, .sl (.id 6) 2 (next.map spR)), (5, .loc 5 0), (4, .int .i64 i), (0, .sl .no 2 (l.map spR))], [(5, spR s2)]⟩) (fun x => x ≤ next.length ∧ ∀ j x0, j < x → next[j]? = some x0 → x0.1 < s2.1) (fun x => next.length - x) 0 ⟨Nat.zero_le _, fun j x0 hj => absurd hj (Nat.not_lt_zero j)⟩ (ag ?_ ?_) (fun x hx => ?_)
     ·repeat' (first | exact trivial | refine And.intro rfl ?_)
     ·repeat' (first | exact trivial | refine And.intro rfl ?_)
     ·rename Nat => q
      obtain ⟨hq, hw⟩ := hx
      have hqle : (q : Int).toNat ≤ (next.map spR).length := by rw [List.length_map]; exact hq
      have hmap : List.drop 0 (List.take (q : Int).toNat (next.map spR)) ++ ([spR s2] ++ List.drop (q : Int).toNat (List.take (next.map spR).length (next.map spR))) = (next.take q ++ s2 :: next.drop q).map spR := by
       rw [List.take_length, Int.toNat_natCast, List.drop_zero, List.map_append, List.map_cons, List.map_take, List.map_drop]; rfl
      by_cases hlt_q : q < next.length
      ·have bbq : decide ((q : Int) < ((next.map spR).length : Int)) = false → False := fun h => by have := of_decide_eq_false h; simp at this; omega
       have hy := gu (f := spR) ((0 : Int), (0 : Int)) hlt_q
       have hg : next[q]? = some (next.getD q ((0 : Int), (0 : Int))) := by rw [List.getD_eq_getElem?_getD, List.getElem?_eq_getElem hlt_q]; rfl
       have hap : mL [spR s2] (List.drop (q : Int).toNat (List.take (next.map spR).length (next.map spR))) = true := tP (by rw [List.take_length, Int.toNat_natCast, List.drop_eq_getElem_cons (by rw [List.length_map]; exact hlt_q)]; rfl)
       generalize next.getD q ((0 : Int), (0 : Int)) = y at hy hg
       repeat' first|exact (bbq (by assumption)).elim|refine Q1 ?_|refine Q2 ?_|refine Q3 hG aa bg ?_|refine Q4 hG aa bg ?_|refine Q5 hG aa ?_|refine Q6 hG aa ?_|refine Q7 hG aa ?_|refine Q8 hG aa ?_|refine Q9 rfl ?_|refine QF rfl ?_|refine QC rfl ⟨fun h => ?_,fun h => ?_⟩|((conv => whnf); first|refine anF ?_|refine anT ?_|refine anK ?_|refine And.intro (Int.natCast_nonneg q) (Exists.intro _ (And.intro hy ?_))|refine xp hap ?_|refine xp (tP rfl) ?_|refine And.intro (Int.natCast_nonneg q) ?_|refine And.intro (Nat.zero_le _) ?_|refine And.intro hqle ?_|refine And.intro (Nat.le_refl _) ?_|refine And.intro (show _ * 16 ≤ 70368744177664 by simp only [List.length_append, List.length_cons, List.length_nil, List.length_drop, List.length_take, List.length_map]; omega) ?_|refine And.intro (show _ ≤ 4611686018427387904 by simp only [List.length_append, List.length_cons, List.length_nil, List.length_drop, List.length_take, List.length_map]; omega) ?_|refine And.intro (fun h => ?_) (fun h => ?_)|refine Or.inl ?_)
       all_goals first
        |(refine Exists.intro (q + 1) (And.intro ⟨hlt_q, fun j x0 hj hx0 => ?_⟩ (And.intro (by omega) (ag ?_ ?_)))
          ·rcases Nat.lt_or_ge j q with h | h
           ·exact hw j x0 h hx0
           ·have e : j = q := by omega
            rw [e, hg] at hx0
            cases hx0
            exact of_decide_eq_true (by assumption)
          ·refine And.intro (congrArg some (am (by omega))) ?_
           repeat' (first | exact trivial | refine And.intro rfl ?_)
          ·repeat' (first | exact trivial | refine And.intro rfl ?_))
        |(have hst : fm out s = next.take q ++ s2 :: next.drop q := by
           rw [hst0]
           refine yf hq hw fun x0 hx0 => ?_
           rw [hg] at hx0
           cases hx0
           exact of_decide_eq_false (by assumption)
          conv => whnf
          refine Exists.intro (i + 1, next.take q ++ s2 :: next.drop q) (And.intro ⟨hlt_i, ?_, ?_⟩ (And.intro (by show l.length - (i + 1) < l.length - i; omega) (ag ?_ ?_)))
          ·rw [hsn, List.foldl_append, ← ho]; exact hst.symm
          ·rw [← hst]; exact hsl
          ·refine And.intro (congrArg some (am (by omega))) (And.intro (congrArg (fun z => some (AV.sl .no 2 z)) hmap) ?_)
           repeat' (first | exact trivial | refine And.intro rfl ?_)
          ·repeat' (first | exact trivial | refine And.intro rfl ?_))
      ·have bbq : decide ((q : Int) < ((next.map spR).length : Int)) = true → False := fun h => by have := of_decide_eq_true h; simp at this; omega
       have hdr : List.drop (q : Int).toNat (List.take (next.map spR).length (next.map spR)) = [] := by rw [List.take_length, Int.toNat_natCast, List.drop_of_length_le (by rw [List.length_map]; omega)]
       have hap : mL [spR s2] (List.drop (q : Int).toNat (List.take (next.map spR).length (next.map spR))) = false := by rw [hdr]; rfl
       have hnn : ka (List.drop (q : Int).toNat (List.take (next.map spR).length (next.map spR))) = false := by rw [hdr]; rfl
       rw [hdr, List.append_nil] at hmap
       repeat' first|exact (bbq (by assumption)).elim|refine Q1 ?_|refine Q2 ?_|refine Q3 hG aa bg ?_|refine Q4 hG aa bg ?_|refine Q5 hG aa ?_|refine Q6 hG aa ?_|refine Q7 hG aa ?_|refine Q8 hG aa ?_|refine Q9 rfl ?_|refine QF rfl ?_|refine QC rfl ⟨fun h => ?_,fun h => ?_⟩|((conv => whnf); first|refine anF ?_|refine anT ?_|refine anK ?_|refine Fi hap hnn ?_|refine xp (tP rfl) ?_|refine And.intro (Int.natCast_nonneg q) ?_|refine And.intro (Nat.zero_le _) ?_|refine And.intro hqle ?_|refine And.intro (Nat.le_refl _) ?_|refine And.intro (show _ * 16 ≤ 70368744177664 by simp only [List.length_append, List.length_cons, List.length_nil, List.length_drop, List.length_take, List.length_map]; omega) ?_|refine And.intro (show _ ≤ 4611686018427387904 by simp only [List.length_append, List.length_cons, List.length_nil, List.length_drop, List.length_take, List.length_map]; omega) ?_|refine And.intro (fun h => ?_) (fun h => ?_)|refine Or.inl ?_)
       have hst : fm out s = next.take q ++ s2 :: next.drop q := by
        rw [hst0]
        refine yf hq hw fun x0 hx0 => ?_
        rw [List.getElem?_eq_none (by omega)] at hx0
        cases hx0
       conv => whnf
       refine Exists.intro (i + 1, next.take q ++ s2 :: next.drop q) (And.intro ⟨hlt_i, ?_, ?_⟩ (And.intro (by show l.length - (i + 1) < l.length - i; omega) (ag ?_ ?_)))
       ·rw [hsn, List.foldl_append, ← ho]; exact hst.symm
       ·rw [← hst]; exact hsl
       ·refine And.intro (congrArg some (am (by omega))) (And.intro (congrArg (fun z => some (AV.sl .no 2 z)) hmap) ?_)
        repeat' (first | exact trivial | refine And.intro rfl ?_)
       ·repeat' (first | exact trivial | refine And.intro rfl ?_)
  ·have bbk : decide ((i : Int) < ((l.map spR).length : Int)) = true → False := fun h => by have := of_decide_eq_true h; simp at this; omega
   have he : l.take i = l := List.take_of_length_le (by omega)
   rw [he] at ho
   repeat' first|exact (bbk (by assumption)).elim|refine Q1 ?_|refine Q2 ?_|refine Q3 hG aa bg ?_|refine Q4 hG aa bg ?_|refine Q5 hG aa ?_|refine Q6 hG aa ?_|refine Q7 hG aa ?_|refine Q8 hG aa ?_|refine Q9 rfl ?_|refine QF rfl ?_|refine QC rfl ⟨fun h => ?_,fun h => ?_⟩|((conv => whnf); first|refine anF ?_|refine anT ?_|refine anK ?_|refine And.intro (fun h => ?_) (fun h => ?_)|refine Or.inl ?_)
   exact Ends.mk (Or.inl rfl) (ac (by rw [ho]; rfl))
end Go.Proofs
namespace Go.Proofs
open Go Go.AI
set_option maxRecDepth 10000
theorem kF {l : List Opt} (h : ¬ ep l) : aC l = [] := by
 unfold aC
 rw [if_pos]
 cases hb : tL l with
 | true => rfl
 | false => exact absurd (qU.1 hb) h
def okO (o : Opt) : Prop := (0 ≤ o.a ∧ o.a < o.b ∧ o.b ≤ 1000000 ∧ o.sl.length ≤ 6) ∧ ∀ x ∈ o.sl, 0 ≤ x.a ∧ x.a < x.b ∧ x.b ≤ 1000000
theorem wC (l : List Opt) (x : Opt) : bf (l ++ [x]) = bf l ++ prL x.sl := by simp [bf, prL]
theorem wB (l : List Opt) (x : Opt) : fq (l ++ [x]) = fq l ++ [(x.a, x.b)] := by simp [fq]
theorem pg (l : List (Int × Int)) : (fS l).length ≤ l.length := by
 have : ∀ (l out : List (Int × Int)), (l.foldl fm out).length ≤ out.length + l.length := fun l => by
  induction l with
  | nil => intro out; simp
  | cons x l ih =>
   intro out
   have h1 := ih (fm out x)
   have h2 := se out x
   simp only [List.foldl_cons, List.length_cons]; omega
 show (l.foldl fm []).length ≤ l.length
 simpa using this l []
set_option maxHeartbeats 8000000 in
theorem pn (l : List Opt) (hl : l.length ≤ 1000000) (hs : gV l) : ae Tryz.prog 28 [ay l] (bn (aC l)) := by
 have hlm : ((l.map aD).length : Int) = (l.length : Int) := by rw [List.length_map]
 refine ah aa Tryz.func28 rfl (by kernel_rfl) af (Nat.le_of_ble_eq_true rfl) ?_
 intro F n' w0 m0 hG hro h1
 repeat' first|refine Q1 ?_|refine Q2 ?_|refine Q3 hG aa aW ?_|refine Q4 hG aa aW ?_|refine Q5 hG aa ?_|refine Q6 hG aa ?_|refine Q7 hG aa ?_|refine Q8 hG aa ?_|refine Q9 rfl ?_|refine QF rfl ?_|refine QC rfl ⟨fun h => ?_,fun h => ?_⟩|((conv => whnf); first|refine anF ?_|refine anT ?_|refine anK ?_|refine And.intro (fun h => ?_) (fun h => ?_)|refine Or.inl ?_)
 ·have h := of_decide_eq_true (by assumption : decide (((l.map aD).length : Int) > 8) = true)
  refine Ends.mk (Or.inl rfl) (ac ?_)
  rw [kF fun g => by have := g.n; omega]
  rfl
 have h8 : l.length ≤ 8 := by
  have h := of_decide_eq_false (by assumption : decide (((l.map aD).length : Int) > 8) = false)
  omega
 refine ap (X := Nat) (fun x => ⟨[(5, .int .i64 x), (4, .sl (.id 4) 2 ((bf (l.take x)).map spR)), (3, .sl (.id 3) 2 ((fq (l.take x)).map spR)), (0, ay l)], []⟩) (fun x => x ≤ l.length ∧ ∀ z ∈ l.take x, okO z) (fun x => l.length - x) 0 ⟨Nat.zero_le _, by simp⟩ (ag ?_ ?_) (fun x hx => ?_)
 ·repeat' (first | exact trivial | refine And.intro rfl ?_)
 ·repeat' (first | exact trivial | refine And.intro rfl ?_)
 ·rename Nat => i
  obtain ⟨hi, hgi⟩ := hx
  have hsl : (bf (l.take i)).length ≤ 48 := by
   have := ke 6 (l.take i) fun o ho => (hgi o ho).1.2.2.2
   rw [mf, List.length_map, List.length_take] at this
   omega
  have hpl : (fq (l.take i)).length ≤ 8 := by simp [fq]; omega
  by_cases hlt_i : i < l.length
  ·have bbk : decide ((i : Int) < ((l.map aD).length : Int)) = false → False := fun h => by have := of_decide_eq_false h; simp at this; omega
   have hx := c8 hlt_i
   have hxm : au l i ∈ l := by rw [bj hlt_i]; exact List.getElem_mem hlt_i
   have hsn : l.take (i + 1) = l.take i ++ [au l i] := bM oB hlt_i
   obtain ⟨x0, hx0⟩ : ∃ x, x = au l i := ⟨_, rfl⟩
   rw [← hx0] at hx hxm hsn
   have hrow : (fq (l.take i)).map spR ++ [spR (x0.a, x0.b)] = (fq (l.take (i + 1))).map spR := by rw [hsn, wB]; simp
   repeat' first|exact (bbk (by assumption)).elim|refine Q1 ?_|refine Q2 ?_|refine Q3 hG aa aW ?_|refine Q4 hG aa aW ?_|refine Q5 hG aa ?_|refine Q6 hG aa ?_|refine Q7 hG aa ?_|refine Q8 hG aa ?_|refine Q9 rfl ?_|refine QF rfl ?_|refine QC rfl ⟨fun h => ?_,fun h => ?_⟩|((conv => whnf); first|refine anF ?_|refine anT ?_|refine anK ?_|refine And.intro (Int.natCast_nonneg i) (Exists.intro _ (And.intro hx ?_))|refine Exists.intro _ (And.intro (kr _ _) ?_)|refine And.intro (show (((fq (l.take i)).map spR).length + 1) * 16 ≤ 70368744177664 by rw [List.length_map]; omega) (And.intro (show ((fq (l.take i)).map spR).length + 1 ≤ 4611686018427387904 by rw [List.length_map]; omega) ?_)|refine And.intro (fun h => ?_) (fun h => ?_)|refine Or.inl ?_)
   all_goals first
    |(have hb := mm (by assumption : (!bi x0.a x0.b) = true)
      refine Ends.mk (Or.inl rfl) (ac ?_)
      rw [kF fun g => by have := g.shot x0 hxm; rw [dG.2 ⟨this.1, this.2.1, this.2.2.1⟩] at hb; cases hb]
      rfl)
    |(have hb := of_decide_eq_true (by assumption : decide (((x0.sl.map aL).length : Int) > 6) = true)
      rw [List.length_map] at hb
      refine Ends.mk (Or.inl rfl) (ac ?_)
      rw [kF fun g => by have := g.shot x0 hxm; omega]
      rfl)
    | skip
   have hb := dG.1 (fR (by assumption : (!bi x0.a x0.b) = false))
   have hb2 := of_decide_eq_false (by assumption : decide (((x0.sl.map aL).length : Int) > 6) = false)
   rw [List.length_map] at hb2
   have hshot : 0 ≤ x0.a ∧ x0.a < x0.b ∧ x0.b ≤ 1000000 ∧ x0.sl.length ≤ 6 := by omega
   refine ap (X := Nat) (fun x => ⟨[(6, .int .i64 x), (5, .int .i64 i), (4, .sl (.id 4) 2 ((bf (l.take i) ++ prL (x0.sl.take x)).map spR)), (3, .sl (.id 3) 2 ((fq (l.take (i + 1))).map spR)), (0, ay l)], []⟩) (fun x => x ≤ x0.sl.length ∧ ∀ y ∈ x0.sl.take x, 0 ≤ y.a ∧ y.a < y.b ∧ y.b ≤ 1000000) (fun x => x0.sl.length - x) 0 ⟨Nat.zero_le _, by simp⟩ (ag ?_ ?_) (fun x hx => ?_)
   ·refine And.intro rfl (And.intro rfl (And.intro (congrArg (fun z => some (AV.sl (.id 4) 2 z)) (by simp [prL])) (And.intro (congrArg (fun z => some (AV.sl (.id 3) 2 z)) hrow) ?_)))
    repeat' (first | exact trivial | refine And.intro rfl ?_)
   ·repeat' (first | exact trivial | refine And.intro rfl ?_)
   ·rename Nat => k
    obtain ⟨hk, hgk⟩ := hx
    by_cases hlt_k : k < x0.sl.length
    ·have bbk : decide ((k : Int) < ((x0.sl.map aL).length : Int)) = false → False := fun h => by have := of_decide_eq_false h; simp at this; omega
     have hy : (x0.sl.map aL)[(k : Int).toNat]? = some (aL (x0.sl.getD k gU)) := eq hlt_k
     have hym : x0.sl.getD k gU ∈ x0.sl := by rw [List.getD_eq_getElem?_getD, List.getElem?_eq_getElem hlt_k]; exact List.getElem_mem hlt_k
     have hkn := bM gU hlt_k
     have hln : (bf (l.take i) ++ prL (x0.sl.take k)).length ≤ 1000 := by
      have : (prL (x0.sl.take k)).length ≤ 6 := by simp [prL]; omega
      rw [List.length_append]; omega
     generalize x0.sl.getD k gU = y at hy hym hkn
     repeat' first|exact (bbk (by assumption)).elim|refine Q1 ?_|refine Q2 ?_|refine Q3 hG aa aW ?_|refine Q4 hG aa aW ?_|refine Q5 hG aa ?_|refine Q6 hG aa ?_|refine Q7 hG aa ?_|refine Q8 hG aa ?_|refine Q9 rfl ?_|refine QF rfl ?_|refine QC rfl ⟨fun h => ?_,fun h => ?_⟩|((conv => whnf); first|refine anF ?_|refine anT ?_|refine anK ?_|refine And.intro (Int.natCast_nonneg k) (Exists.intro _ (And.intro hy ?_))|refine And.intro (Int.natCast_nonneg i) (Exists.intro _ (And.intro hx ?_))|refine Exists.intro _ (And.intro (kr _ _) ?_)|refine And.intro (show (((bf (l.take i) ++ prL (x0.sl.take k)).map spR).length + 1) * 16 ≤ 70368744177664 by rw [List.length_map]; omega) (And.intro (show ((bf (l.take i) ++ prL (x0.sl.take k)).map spR).length + 1 ≤ 4611686018427387904 by rw [List.length_map]; omega) ?_)|refine And.intro (fun h => ?_) (fun h => ?_)|refine Or.inl ?_)
     all_goals first
      |(have hb := mm (by assumption : (!bi y.a y.b) = true)
        refine Ends.mk (Or.inl rfl) (ac ?_)
        rw [kF fun g => by have := g.slot x0 hxm y hym; rw [dG.2 this] at hb; cases hb]
        rfl)
      | skip
     have hb := dG.1 (fR (by assumption : (!bi y.a y.b) = false))
     refine Exists.intro (k + 1) (And.intro ⟨hlt_k, ?_⟩ (And.intro (by omega) (ag ?_ ?_)))
     ·rw [hkn]; intro z hz
      rcases List.mem_append.1 hz with hz | hz
      ·exact hgk z hz
      ·rw [List.mem_singleton.1 hz]; exact hb
     ·refine And.intro (congrArg some (am (by omega))) (And.intro rfl (And.intro (congrArg (fun z => some (AV.sl (.id 4) 2 z)) (show (bf (l.take i) ++ prL (x0.sl.take k)).map spR ++ [spR (y.a, y.b)] = _ by rw [hkn]; simp [prL])) ?_))
      repeat' (first | exact trivial | refine And.intro rfl ?_)
     ·repeat' (first | exact trivial | refine And.intro rfl ?_)
    ·have bbk : decide ((k : Int) < ((x0.sl.map aL).length : Int)) = true → False := fun h => by have := of_decide_eq_true h; simp at this; omega
     have he : x0.sl.take k = x0.sl := List.take_of_length_le (by omega)
     rw [he] at hgk
     repeat' first|exact (bbk (by assumption)).elim|refine Q1 ?_|refine Q2 ?_|refine Q3 hG aa aW ?_|refine Q4 hG aa aW ?_|refine Q5 hG aa ?_|refine Q6 hG aa ?_|refine Q7 hG aa ?_|refine Q8 hG aa ?_|refine Q9 rfl ?_|refine QF rfl ?_|refine QC rfl ⟨fun h => ?_,fun h => ?_⟩|((conv => whnf); first|refine anF ?_|refine anT ?_|refine anK ?_|refine And.intro (Int.natCast_nonneg i) (Exists.intro _ (And.intro hx ?_))|refine And.intro (fun h => ?_) (fun h => ?_)|refine Or.inl ?_)
     conv => whnf
     refine Exists.intro (i + 1) (And.intro ⟨hlt_i, ?_⟩ (And.intro (by omega) (ag ?_ ?_)))
     ·rw [hsn]; intro z hz
      rcases List.mem_append.1 hz with hz | hz
      ·exact hgi z hz
      ·rw [List.mem_singleton.1 hz]; exact ⟨hshot, hgk⟩
     ·refine And.intro (congrArg some (am (by omega))) (And.intro (congrArg (fun z => some (AV.sl (.id 4) 2 z)) (by rw [he, hsn, wC])) ?_)
      repeat' (first | exact trivial | refine And.intro rfl ?_)
     ·repeat' (first | exact trivial | refine And.intro rfl ?_)
  ·have bbk : decide ((i : Int) < ((l.map aD).length : Int)) = true → False := fun h => by have := of_decide_eq_true h; simp at this; omega
   have he : l.take i = l := List.take_of_length_le (by omega)
   rw [he] at hgi
   have hgood : ep l := ⟨h8, fun o ho => (hgi o ho).1, fun o ho => (hgi o ho).2⟩
   rw [he] at hsl hpl
   rw [he]
   obtain ⟨xs, hxs⟩ : ∃ xs, xs = fS (fq l) := ⟨_, rfl⟩
   obtain ⟨ys, hys⟩ : ∃ ys, ys = fS (bf l) := ⟨_, rfl⟩
   have hxl : xs.length ≤ 8 := by rw [hxs]; exact Nat.le_trans (pg _) hpl
   have hyl : ys.length ≤ 48 := by rw [hys]; exact Nat.le_trans (pg _) hsl
   have c1 := pQ (fq l) (by omega)
   have c2 := pQ (bf l) (by omega)
   have hjl : (fS (fq l)).length ≤ 8 := by rw [← hxs]; exact hxl
   rw [← hxs] at c1
   rw [← hys] at c2
   repeat' first|exact (bbk (by assumption)).elim|refine Q1 ?_|refine Q2 ?_|refine Q3 hG aa aW ?_|refine Q4 hG aa aW ?_|refine Q5 hG aa ?_|refine Q6 hG aa ?_|refine Q7 hG aa ?_|refine Q8 hG aa ?_|refine Q9 rfl ?_|refine QF rfl ?_|refine QC rfl ⟨fun h => ?_,fun h => ?_⟩|((conv => whnf); first|refine anF ?_|refine anT ?_|refine anK ?_|refine Exists.intro _ (And.intro (c1) ?_)|refine Exists.intro _ (And.intro (c2) ?_)|refine And.intro (fun h => ?_) (fun h => ?_)|refine Or.inl ?_)
   refine ap (X := Nat) (fun x => ⟨[(8, .int .i64 x), (7, .sl (.id 7) 3 (((xs.take x).map (mkK 1)).map aw)), (4, .sl .no 2 (ys.map spR)), (3, .sl .no 2 (xs.map spR))], []⟩) (fun x => x ≤ xs.length) (fun x => xs.length - x) 0 (Nat.zero_le _) (ag ?_ ?_) (fun x hx => ?_)
   ·repeat' (first | exact trivial | refine And.intro rfl ?_)
   ·repeat' (first | exact trivial | refine And.intro rfl ?_)
   ·rename Nat => i
    have hi := hx
    by_cases hlt_i : i < xs.length
    ·have bbk : decide ((i : Int) < ((xs.map spR).length : Int)) = false → False := fun h => by have := of_decide_eq_false h; simp at this; omega
     have hx := gu (f := spR) ((0 : Int), (0 : Int)) hlt_i
     have hsn := bM ((0 : Int), (0 : Int)) hlt_i
     have hln : ((xs.take i).map (mkK 1)).length ≤ 1000 := by simp; omega
     generalize xs.getD i ((0 : Int), (0 : Int)) = s at hx hsn
     repeat' first|exact (bbk (by assumption)).elim|refine Q1 ?_|refine Q2 ?_|refine Q3 hG aa aW ?_|refine Q4 hG aa aW ?_|refine Q5 hG aa ?_|refine Q6 hG aa ?_|refine Q7 hG aa ?_|refine Q8 hG aa ?_|refine Q9 rfl ?_|refine QF rfl ?_|refine QC rfl ⟨fun h => ?_,fun h => ?_⟩|((conv => whnf); first|refine anF ?_|refine anT ?_|refine anK ?_|refine And.intro (Int.natCast_nonneg i) (Exists.intro _ (And.intro hx ?_))|refine And.intro (show ((((xs.take i).map (mkK 1)).map aw).length + 1) * 24 ≤ 70368744177664 by rw [List.length_map]; omega) (And.intro (show (((xs.take i).map (mkK 1)).map aw).length + 1 ≤ 4611686018427387904 by rw [List.length_map]; omega) ?_)|refine And.intro (fun h => ?_) (fun h => ?_)|refine Or.inl ?_)
     refine Exists.intro (i + 1) (And.intro hlt_i (And.intro (by omega) (ag ?_ ?_)))
     ·refine And.intro (congrArg some (am (by omega))) (And.intro (congrArg (fun z => some (AV.sl (.id 7) 3 z)) (show ((xs.take i).map (mkK 1)).map aw ++ [aw (mkK 1 s)] = _ by rw [hsn]; simp)) ?_)
      repeat' (first | exact trivial | refine And.intro rfl ?_)
     ·repeat' (first | exact trivial | refine And.intro rfl ?_)
    ·have bbk : decide ((i : Int) < ((xs.map spR).length : Int)) = true → False := fun h => by have := of_decide_eq_true h; simp at this; omega
     have he : xs.take i = xs := List.take_of_length_le (by omega)
     rw [he]
     repeat' first|exact (bbk (by assumption)).elim|refine Q1 ?_|refine Q2 ?_|refine Q3 hG aa aW ?_|refine Q4 hG aa aW ?_|refine Q5 hG aa ?_|refine Q6 hG aa ?_|refine Q7 hG aa ?_|refine Q8 hG aa ?_|refine Q9 rfl ?_|refine QF rfl ?_|refine QC rfl ⟨fun h => ?_,fun h => ?_⟩|((conv => whnf); first|refine anF ?_|refine anT ?_|refine anK ?_|refine And.intro (fun h => ?_) (fun h => ?_)|refine Or.inl ?_)
     refine ap (X := Nat) (fun x => ⟨[(9, .int .i64 x), (7, .sl (.id 7) 3 ((xs.map (mkK 1) ++ (ys.take x).map (mkK 2)).map aw)), (4, .sl .no 2 (ys.map spR))], []⟩) (fun x => x ≤ ys.length) (fun x => ys.length - x) 0 (Nat.zero_le _) (ag (And.intro rfl (And.intro (congrArg (fun z => some (AV.sl (.id 7) 3 z)) (by simp)) ?_)) ?_) (fun x hx => ?_)
     ·repeat' (first | exact trivial | refine And.intro rfl ?_)
     ·repeat' (first | exact trivial | refine And.intro rfl ?_)
     ·rename Nat => i
      have hi := hx
      by_cases hlt_i : i < ys.length
      ·have bbk : decide ((i : Int) < ((ys.map spR).length : Int)) = false → False := fun h => by have := of_decide_eq_false h; simp at this; omega
       have hx := gu (f := spR) ((0 : Int), (0 : Int)) hlt_i
       have hsn := bM ((0 : Int), (0 : Int)) hlt_i
       have hln : (xs.map (mkK 1) ++ (ys.take i).map (mkK 2)).length ≤ 1000 := by simp; omega
       generalize ys.getD i ((0 : Int), (0 : Int)) = s at hx hsn
       repeat' first|exact (bbk (by assumption)).elim|refine Q1 ?_|refine Q2 ?_|refine Q3 hG aa aW ?_|refine Q4 hG aa aW ?_|refine Q5 hG aa ?_|refine Q6 hG aa ?_|refine Q7 hG aa ?_|refine Q8 hG aa ?_|refine Q9 rfl ?_|refine QF rfl ?_|refine QC rfl ⟨fun h => ?_,fun h => ?_⟩|((conv => whnf); first|refine anF ?_|refine anT ?_|refine anK ?_|refine And.intro (Int.natCast_nonneg i) (Exists.intro _ (And.intro hx ?_))|refine And.intro (show (((xs.map (mkK 1) ++ (ys.take i).map (mkK 2)).map aw).length + 1) * 24 ≤ 70368744177664 by rw [List.length_map]; omega) (And.intro (show ((xs.map (mkK 1) ++ (ys.take i).map (mkK 2)).map aw).length + 1 ≤ 4611686018427387904 by rw [List.length_map]; omega) ?_)|refine And.intro (fun h => ?_) (fun h => ?_)|refine Or.inl ?_)
       refine Exists.intro (i + 1) (And.intro hlt_i (And.intro (by omega) (ag ?_ ?_)))
       ·refine And.intro (congrArg some (am (by omega))) (And.intro (congrArg (fun z => some (AV.sl (.id 7) 3 z)) (show (xs.map (mkK 1) ++ (ys.take i).map (mkK 2)).map aw ++ [aw (mkK 2 s)] = _ by rw [hsn]; simp)) ?_)
        repeat' (first | exact trivial | refine And.intro rfl ?_)
       ·repeat' (first | exact trivial | refine And.intro rfl ?_)
      ·have bbk : decide ((i : Int) < ((ys.map spR).length : Int)) = true → False := fun h => by have := of_decide_eq_true h; simp at this; omega
       have he : ys.take i = ys := List.take_of_length_le (by omega)
       repeat' first|exact (bbk (by assumption)).elim|refine Q1 ?_|refine Q2 ?_|refine Q3 hG aa aW ?_|refine Q4 hG aa aW ?_|refine Q5 hG aa ?_|refine Q6 hG aa ?_|refine Q7 hG aa ?_|refine Q8 hG aa ?_|refine Q9 rfl ?_|refine QF rfl ?_|refine QC rfl ⟨fun h => ?_,fun h => ?_⟩|((conv => whnf); first|refine anF ?_|refine anT ?_|refine anK ?_|refine And.intro (fun h => ?_) (fun h => ?_)|refine Or.inl ?_)
       rw [he, hxs, hys, hgood.ref]
       exact Ends.mk (Or.inl rfl) (ac rfl)
end Go.Proofs
namespace Go.Proofs
open Go Go.AI
set_option maxRecDepth 10000
theorem A4 {s : Nat → Int} {l : List a8} : ∃ (i k : Nat) (b : Bool), A6 (gn s l) = [.int .i64 i, .int .i64 k, .bool b, .int .i64 0] ∧ (b = true → gn s l = some (i, k)) ∧ (b = false → gn s l = none) := by
 cases h : gn s l with
 | none => exact ⟨0, 0, false, rfl, fun h => (nomatch h), fun _ => rfl⟩
 | some p => exact ⟨p.1, p.2, true, rfl, fun _ => rfl, fun h => (nomatch h)⟩
theorem A5 {s : Nat → Int} {l : List a8} {i k : Nat} (hs : gn s l = some (i, k)) : i < k ∧ k < l.length := by
 obtain ⟨k', hk', hs'⟩ := List.exists_of_findSome?_eq_some hs
 obtain ⟨i', hi', hs''⟩ := List.exists_of_findSome?_eq_some hs'
 simp only [List.mem_range] at hk' hi'
 have : (i', k') = (i, k) := by
  unfold lX at hs''
  split at hs'' <;> simp at hs'' ⊢
  exact hs''
 cases this
 exact ⟨hi', hk'⟩
theorem qy {s : Nat → Int} {l : List Opt} {a b k t : Int} {i : Nat} (h : (ma s l a b)[i]? = some (yU k (s 0) t)) : ((t != -1) = true → (aU s l a b i).map br ++ [[.int .i64 k, .int .i64 (s 0), .int .i64 0, .int .i64 t]] = (aU s l a b (i + 1)).map br) ∧ ((t != -1) = false → (aU s l a b i).map br = (aU s l a b (i + 1)).map br) := by
 have e := fV h
 rw [pZ] at e
 refine ⟨fun g => ?_, fun g => ?_⟩
 ·rw [e, if_pos g]; simp [br, A7]
 ·rw [e, if_neg (by rw [g]; simp)]; simp
set_option maxHeartbeats 16000000 in
theorem vL (s : Nat → Int) (l : List Opt) (ps : List aG) (a b : Int) (hps : ps.length ≤ 1000000) (hv : bD s l ps a b = true) : ae Tryz.prog 22 [.agg (aJ s), ay l, aB ps, .agg (ar a b)] (.tup [hU (ew s l a b), .int .i64 0]) := by
 obtain ⟨h, hgood, _⟩ := rL.of hv
 have hCsl := h.sl
 have cV := kq s l ps a b h.hl h.sl hps
 rw [hv] at cV
 have hal : (aR l).length ≤ 1000000 := by simpa [aR] using h.hl
 have cA := xB l h.hl
 have cS := Ad s (aR l) hal h.val
 obtain ⟨si, sk, sb, hsr, hst, hsf⟩ := A4 (s := s) (l := aR l)
 rw [hsr] at cS
 have hsx : sb = true → (l.map aD)[(si : Int).toNat]? = some (aD (au l si)) ∧ (l.map aD)[(sk : Int).toNat]? = some (aD (au l sk)) := fun g => by
  have := A5 (hst g)
  rw [show (aR l).length = l.length by simp [aR]] at this
  exact ⟨c8 (by omega), c8 this.2⟩
 have hs0 := fV (s := s) (l := l) (a := a) (b := b) (i := 0) (o := kT s l) rfl
 have hT0 : sb = true → ((aU s l a b 0).map br) ++ [[.int .i64 2, .int .i64 (au l si).id, .int .i64 (au l sk).id, .int .i64 (au l sk).a]] = ((aU s l a b 1).map br) := fun g => by
  rw [hs0, kT, hst g]; rfl
 have hF0 : sb = false → ((aU s l a b 0).map br) = ((aU s l a b 1).map br) := fun g => by
  rw [hs0, kT, hsf g]; rfl
 have cH := Aa s (aR l) a b hal h.span h.val
 obtain ⟨hT1, hF1⟩ := qy (s := s) (l := l) (a := a) (b := b) (i := 1) (k := 3) (t := rT s (aR l) a b) rfl
 have cI := tQ l h.hl h.sl h.can
 have cO := xy (aV l) (s 10) (by simpa [aV] using h.hl) h.mem h.s10
 obtain ⟨hT2, hF2⟩ := qy (s := s) (l := l) (a := a) (b := b) (i := 2) (k := 4) (t := fH (s 10) (cr (aV l))) rfl
 have cL := pn l h.hl h.sl
 have cE := B5 s (aC l) a b h.ll h.bat
 obtain ⟨hT3, hF3⟩ := qy (s := s) (l := l) (a := a) (b := b) (i := 3) (k := 5) (t := gK s (aC l) a b) rfl
 generalize rT s (aR l) a b = hot at *
 generalize fH (s 10) (cr (aV l)) = ov at *
 generalize gK s (aC l) a b = em at *
 generalize aR l = aims at *
 generalize aV l = imgs at *
 generalize aC l = lds at *
 refine ah aa Tryz.func22 rfl (by kernel_rfl) af (Nat.le_of_ble_eq_true rfl) ?_
 intro F n' w0 m0 hG hro h1
 repeat' first|refine Q1 ?_|refine Q2 ?_|refine Q3 hG aa aA ?_|refine Q4 hG aa aA ?_|refine Q5 hG aa ?_|refine Q6 hG aa ?_|refine Q7 hG aa ?_|refine Q8 hG aa ?_|((conv => whnf); first|refine anF ?_|refine anT ?_|refine anK ?_|refine Exists.intro _ (And.intro (cV) ?_)|refine And.intro (fun h => ?_) (fun h => ?_)|refine Or.inl ?_)
 refine QF rfl ?_
 repeat' first|refine Q1 ?_|refine Q2 ?_|refine Q3 hG aa aA ?_|refine Q4 hG aa aA ?_|refine Q5 hG aa ?_|refine Q6 hG aa ?_|refine Q7 hG aa ?_|refine Q8 hG aa ?_|((conv => whnf); first|refine anF ?_|refine anT ?_|refine anK ?_|refine Exists.intro _ (And.intro (cA) ?_)|refine Exists.intro _ (And.intro (cS) ?_)|refine And.intro (fun h => ?_) (fun h => ?_)|refine Or.inl ?_)
 refine SPB.cut (X := Unit) (fun _ => ⟨[(10, .sl (.id 10) 4 ((aU s l a b 1).map br)), (14, .int .i64 0), (7, .loc 7 0), (4, .loc 4 0), (1, ay l)], [(7, ar a b), (4, aJ s)]⟩) (fun _ => True) ?_ (fun _ _ => ?_)
 ·repeat' first|refine Q1 ?_|refine Q2 ?_|refine Q3 hG aa aA ?_|refine Q4 hG aa aA ?_|refine Q5 hG aa ?_|refine Q6 hG aa ?_|refine Q7 hG aa ?_|refine Q8 hG aa ?_|refine Q9 rfl ?_|refine QF rfl ?_|refine QC rfl ⟨fun h => ?_,fun h => ?_⟩|((conv => whnf); first|refine anF ?_|refine anT ?_|refine anK ?_|refine And.intro (Int.natCast_nonneg si) (Exists.intro _ (And.intro (hsx (by assumption)).1 ?_))|refine And.intro (Int.natCast_nonneg sk) (Exists.intro _ (And.intro (hsx (by assumption)).2 ?_))|refine And.intro (show (((aU s l a b 0).map br).length + 1) * 32 ≤ 70368744177664 by have := bK s l a b 0; rw [List.length_map]; omega) (And.intro (show ((aU s l a b 0).map br).length + 1 ≤ 4611686018427387904 by have := bK s l a b 0; rw [List.length_map]; omega) ?_)|refine And.intro (fun h => ?_) (fun h => ?_)|refine Or.inl ?_)
  ·refine Exists.intro () (And.intro trivial (ag (And.intro (congrArg (fun z => some (AV.sl (.id 10) 4 z)) (hT0 (by assumption))) ?_) ?_))
   ·repeat' (first | exact trivial | refine And.intro rfl ?_)
   ·repeat' (first | exact trivial | refine And.intro rfl ?_)
  ·refine Exists.intro () (And.intro trivial (ag (And.intro (congrArg (fun z => some (AV.sl (.id 10) 4 z)) (hF0 (by assumption))) ?_) ?_))
   ·repeat' (first | exact trivial | refine And.intro rfl ?_)
   ·repeat' (first | exact trivial | refine And.intro rfl ?_)
 conv => whnf
 repeat' first|refine Q1 ?_|refine Q2 ?_|refine Q3 hG aa aA ?_|refine Q4 hG aa aA ?_|refine Q5 hG aa ?_|refine Q6 hG aa ?_|refine Q7 hG aa ?_|refine Q8 hG aa ?_|((conv => whnf); first|refine anF ?_|refine anT ?_|refine anK ?_|refine Exists.intro _ (And.intro (cA) ?_)|refine Exists.intro _ (And.intro (cH) ?_)|refine And.intro (fun h => ?_) (fun h => ?_)|refine Or.inl ?_)
 refine SPB.cut (X := Unit) (fun _ => ⟨[(10, .sl (.id 10) 4 ((aU s l a b 2).map br)), (14, .int .i64 0), (16, .int .i64 0), (7, .loc 7 0), (4, .loc 4 0), (1, ay l)], [(7, ar a b), (4, aJ s)]⟩) (fun _ => True) ?_ (fun _ _ => ?_)
 ·repeat' first|refine Q1 ?_|refine Q2 ?_|refine Q3 hG aa aA ?_|refine Q4 hG aa aA ?_|refine Q5 hG aa ?_|refine Q6 hG aa ?_|refine Q7 hG aa ?_|refine Q8 hG aa ?_|refine Q9 rfl ?_|refine QF rfl ?_|refine QC rfl ⟨fun h => ?_,fun h => ?_⟩|((conv => whnf); first|refine anF ?_|refine anT ?_|refine anK ?_|refine And.intro (show (((aU s l a b 1).map br).length + 1) * 32 ≤ 70368744177664 by have := bK s l a b 1; rw [List.length_map]; omega) (And.intro (show ((aU s l a b 1).map br).length + 1 ≤ 4611686018427387904 by have := bK s l a b 1; rw [List.length_map]; omega) ?_)|refine And.intro (fun h => ?_) (fun h => ?_)|refine Or.inl ?_)
  ·refine Exists.intro () (And.intro trivial (ag (And.intro (congrArg (fun z => some (AV.sl (.id 10) 4 z)) (hT1 (by assumption))) ?_) ?_))
   ·repeat' (first | exact trivial | refine And.intro rfl ?_)
   ·repeat' (first | exact trivial | refine And.intro rfl ?_)
  ·refine Exists.intro () (And.intro trivial (ag (And.intro (congrArg (fun z => some (AV.sl (.id 10) 4 z)) (hF1 (by assumption))) ?_) ?_))
   ·repeat' (first | exact trivial | refine And.intro rfl ?_)
   ·repeat' (first | exact trivial | refine And.intro rfl ?_)
 conv => whnf
 repeat' first|refine Q1 ?_|refine Q2 ?_|refine Q3 hG aa aA ?_|refine Q4 hG aa aA ?_|refine Q5 hG aa ?_|refine Q6 hG aa ?_|refine Q7 hG aa ?_|refine Q8 hG aa ?_|((conv => whnf); first|refine anF ?_|refine anT ?_|refine anK ?_|refine Exists.intro _ (And.intro (cI) ?_)|refine Exists.intro _ (And.intro (cO) ?_)|refine And.intro (fun h => ?_) (fun h => ?_)|refine Or.inl ?_)
 refine SPB.cut (X := Unit) (fun _ => ⟨[(10, .sl (.id 10) 4 ((aU s l a b 3).map br)), (14, .int .i64 0), (16, .int .i64 0), (20, .int .i64 0), (18, .bool true), (7, .loc 7 0), (4, .loc 4 0), (1, ay l)], [(7, ar a b), (4, aJ s)]⟩) (fun _ => True) ?_ (fun _ _ => ?_)
 ·repeat' first|refine Q1 ?_|refine Q2 ?_|refine Q3 hG aa aA ?_|refine Q4 hG aa aA ?_|refine Q5 hG aa ?_|refine Q6 hG aa ?_|refine Q7 hG aa ?_|refine Q8 hG aa ?_|refine Q9 rfl ?_|refine QF rfl ?_|refine QC rfl ⟨fun h => ?_,fun h => ?_⟩|((conv => whnf); first|refine anF ?_|refine anT ?_|refine anK ?_|refine And.intro (show (((aU s l a b 2).map br).length + 1) * 32 ≤ 70368744177664 by have := bK s l a b 2; rw [List.length_map]; omega) (And.intro (show ((aU s l a b 2).map br).length + 1 ≤ 4611686018427387904 by have := bK s l a b 2; rw [List.length_map]; omega) ?_)|refine And.intro (fun h => ?_) (fun h => ?_)|refine Or.inl ?_)
  ·refine Exists.intro () (And.intro trivial (ag (And.intro (congrArg (fun z => some (AV.sl (.id 10) 4 z)) (hT2 (by assumption))) ?_) ?_))
   ·repeat' (first | exact trivial | refine And.intro rfl ?_)
   ·repeat' (first | exact trivial | refine And.intro rfl ?_)
  ·refine Exists.intro () (And.intro trivial (ag (And.intro (congrArg (fun z => some (AV.sl (.id 10) 4 z)) (hF2 (by assumption))) ?_) ?_))
   ·repeat' (first | exact trivial | refine And.intro rfl ?_)
   ·repeat' (first | exact trivial | refine And.intro rfl ?_)
 conv => whnf
 repeat' first|refine Q1 ?_|refine Q2 ?_|refine Q3 hG aa aA ?_|refine Q4 hG aa aA ?_|refine Q5 hG aa ?_|refine Q6 hG aa ?_|refine Q7 hG aa ?_|refine Q8 hG aa ?_|((conv => whnf); first|refine anF ?_|refine anT ?_|refine anK ?_|refine Exists.intro _ (And.intro (cL) ?_)|refine Exists.intro _ (And.intro (cE) ?_)|refine And.intro (fun h => ?_) (fun h => ?_)|refine Or.inl ?_)
 refine SPB.cut (X := Unit) (fun _ => ⟨[(10, .sl (.id 10) 4 ((aU s l a b 4).map br)), (14, .int .i64 0), (16, .int .i64 0), (20, .int .i64 0), (22, .int .i64 0), (18, .bool true), (7, .loc 7 0), (4, .loc 4 0), (1, ay l)], [(7, ar a b), (4, aJ s)]⟩) (fun _ => True) ?_ (fun _ _ => ?_)
 ·repeat' first|refine Q1 ?_|refine Q2 ?_|refine Q3 hG aa aA ?_|refine Q4 hG aa aA ?_|refine Q5 hG aa ?_|refine Q6 hG aa ?_|refine Q7 hG aa ?_|refine Q8 hG aa ?_|refine Q9 rfl ?_|refine QF rfl ?_|refine QC rfl ⟨fun h => ?_,fun h => ?_⟩|((conv => whnf); first|refine anF ?_|refine anT ?_|refine anK ?_|refine And.intro (show (((aU s l a b 3).map br).length + 1) * 32 ≤ 70368744177664 by have := bK s l a b 3; rw [List.length_map]; omega) (And.intro (show ((aU s l a b 3).map br).length + 1 ≤ 4611686018427387904 by have := bK s l a b 3; rw [List.length_map]; omega) ?_)|refine And.intro (fun h => ?_) (fun h => ?_)|refine Or.inl ?_)
  ·refine Exists.intro () (And.intro trivial (ag (And.intro (congrArg (fun z => some (AV.sl (.id 10) 4 z)) (hT3 (by assumption))) ?_) ?_))
   ·repeat' (first | exact trivial | refine And.intro rfl ?_)
   ·repeat' (first | exact trivial | refine And.intro rfl ?_)
  ·refine Exists.intro () (And.intro trivial (ag (And.intro (congrArg (fun z => some (AV.sl (.id 10) 4 z)) (hF3 (by assumption))) ?_) ?_))
   ·repeat' (first | exact trivial | refine And.intro rfl ?_)
   ·repeat' (first | exact trivial | refine And.intro rfl ?_)
 conv => whnf
 repeat' first|refine Q1 ?_|refine Q2 ?_|refine Q3 hG aa aA ?_|refine Q4 hG aa aA ?_|refine Q5 hG aa ?_|refine Q6 hG aa ?_|refine Q7 hG aa ?_|refine Q8 hG aa ?_|refine Q9 rfl ?_|refine QF rfl ?_|refine QC rfl ⟨fun h => ?_,fun h => ?_⟩|((conv => whnf); first|refine anF ?_|refine anT ?_|refine anK ?_|refine And.intro (fun h => ?_) (fun h => ?_)|refine Or.inl ?_)
 have hl8 := hgood.n
 have hRA : (ew s l a b).map br = ((aU s l a b 4).map br) ++ (jX l).toList.map br := by
  have e := fV (s := s) (l := l) (a := a) (b := b) (i := 4) (o := jX l) rfl
  rw [show ew s l a b = aU s l a b (4 + 1) from rfl, e, List.map_append]
 have hR4 : ((aU s l a b 4).map br).length ≤ 5 := by have := bK s l a b 4; rw [List.length_map]; exact this
 rw [hU]
 generalize (ew s l a b).map br = RA at *
 generalize ((aU s l a b 4).map br) = R4 at *
 refine ap (X := Nat × Bool × List (List AV)) (fun x => ⟨[(24, .int .i64 x.1), (23, .bool x.2.1), (10, .sl (.id 10) 4 x.2.2), (1, ay l)], []⟩) (fun x => x.1 ≤ l.length ∧ (x.2.1 = false → x.2.2 = R4 ∧ ∀ j, j < x.1 → uC l j = none) ∧ (x.2.1 = true → x.2.2 = RA)) (fun x => l.length - x.1) (0, false, R4) ⟨Nat.zero_le _, fun _ => ⟨rfl, fun j hj => absurd hj (Nat.not_lt_zero j)⟩, (fun h => nomatch h)⟩ (ag ?_ ?_) (fun x hx => ?_)
 ·repeat' (first | exact trivial | refine And.intro rfl ?_)
 ·repeat' (first | exact trivial | refine And.intro rfl ?_)
 ·obtain ⟨k, fd, rows0⟩ := x
  obtain ⟨hk, hf, ht⟩ := hx
  simp only at hk hf ht ⊢
  cases fd with
  | true =>
   have hrow := ht rfl
   subst hrow
   repeat' first|refine Q1 ?_|refine Q2 ?_|refine Q3 hG aa aA ?_|refine Q4 hG aa aA ?_|refine Q5 hG aa ?_|refine Q6 hG aa ?_|refine Q7 hG aa ?_|refine Q8 hG aa ?_|refine Q9 rfl ?_|refine QF rfl ?_|refine QC rfl ⟨fun h => ?_,fun h => ?_⟩|((conv => whnf); first|refine anF ?_|refine anT ?_|refine anK ?_|refine And.intro (fun h => ?_) (fun h => ?_)|refine Or.inl ?_)
   all_goals exact Ends.mk (Or.inl rfl) (ac rfl)
  | false =>
   obtain ⟨hrow, hnk⟩ := hf rfl
   subst hrow
   by_cases hlt_k : k < l.length
   ·have bbk : decide ((k : Int) < ((l.map aD).length : Int)) = false → False := fun h => by have := of_decide_eq_false h; simp at this; omega
    repeat' first|exact (bbk (by assumption)).elim|refine Q1 ?_|refine Q2 ?_|refine Q3 hG aa aA ?_|refine Q4 hG aa aA ?_|refine Q5 hG aa ?_|refine Q6 hG aa ?_|refine Q7 hG aa ?_|refine Q8 hG aa ?_|refine Q9 rfl ?_|refine QF rfl ?_|refine QC rfl ⟨fun h => ?_,fun h => ?_⟩|((conv => whnf); first|refine anF ?_|refine anT ?_|refine anK ?_|refine And.intro (fun h => ?_) (fun h => ?_)|refine Or.inl ?_)
    refine ap (X := Nat × Bool × List (List AV)) (fun x => ⟨[(25, .int .i64 x.1), (24, .int .i64 k), (23, .bool x.2.1), (10, .sl (.id 10) 4 x.2.2), (1, ay l)], []⟩) (fun x => x.1 ≤ k ∧ (x.2.1 = false → x.2.2 = rows0 ∧ ∀ j, j < x.1 → qr l k j = none) ∧ (x.2.1 = true → x.2.2 = RA)) (fun x => k - x.1) (0, false, rows0) ⟨Nat.zero_le _, fun _ => ⟨rfl, fun j hj => absurd hj (Nat.not_lt_zero j)⟩, (fun h => nomatch h)⟩ (ag ?_ ?_) (fun x hx => ?_)
    ·repeat' (first | exact trivial | refine And.intro rfl ?_)
    ·repeat' (first | exact trivial | refine And.intro rfl ?_)
    ·obtain ⟨i, fd, rows⟩ := x
     obtain ⟨hi, hf, ht⟩ := hx
     simp only at hi hf ht ⊢
     cases fd with
     | true =>
      have hrow := ht rfl
      repeat' first|refine Q1 ?_|refine Q2 ?_|refine Q3 hG aa aA ?_|refine Q4 hG aa aA ?_|refine Q5 hG aa ?_|refine Q6 hG aa ?_|refine Q7 hG aa ?_|refine Q8 hG aa ?_|refine Q9 rfl ?_|refine QF rfl ?_|refine QC rfl ⟨fun h => ?_,fun h => ?_⟩|((conv => whnf); first|refine anF ?_|refine anT ?_|refine anK ?_|refine And.intro (fun h => ?_) (fun h => ?_)|refine Or.inl ?_)
      all_goals (refine Exists.intro (k + 1, true, rows) (And.intro ⟨hlt_k, (fun h => nomatch h), fun _ => hrow⟩ (And.intro (by show l.length - (k + 1) < l.length - k; omega) (ag ?_ ?_))))
      all_goals first
       |(refine And.intro (congrArg some (am (by omega))) ?_
         repeat' (first | exact trivial | refine And.intro rfl ?_))
       |(repeat' (first | exact trivial | refine And.intro rfl ?_))
     | false =>
      obtain ⟨hrow, hni⟩ := hf rfl
      by_cases hlt_i : i < k
      ·have bbi : decide ((i : Int) < (k : Int)) = false → False := fun h => by have := of_decide_eq_false h; omega
       have hx := c8 (show i < l.length by omega)
       have hy := c8 hlt_k
       have hsi : (au l i).sl.length ≤ 1000000 := hCsl _ (by rw [bj (show i < l.length by omega)]; exact List.getElem_mem _)
       have hsk : (au l k).sl.length ≤ 1000000 := hCsl _ (by rw [bj hlt_k]; exact List.getElem_mem hlt_k)
       have cM := xz (au l i) (au l k) hsi hsk
       have hfound : gZ (au l i) (au l k) ≥ 0 → rows0 ++ [[.int .i64 6, .int .i64 (au l i).id, .int .i64 (au l k).id, .int .i64 (gZ (au l i) (au l k))]] = RA := fun hm => by
        have hI : qr l k i = some (i, k, gZ (au l i) (au l k)) := if_pos hm
        have hO : qq l = some (i, k, gZ (au l i) (au l k)) := gH hnk hlt_k (gH hni hlt_i hI)
        rw [hRA, jX, hO]; rfl
       have hnot : ¬ gZ (au l i) (au l k) ≥ 0 → qr l k i = none := fun hm => if_neg hm
       have hR4l : rows0.length ≤ 5 := hR4
       subst hrow
       generalize gZ (au l i) (au l k) = mt at *
       generalize au l i = x at *
       generalize au l k = y at *
       repeat' first|exact (bbi (by assumption)).elim|refine Q1 ?_|refine Q2 ?_|refine Q3 hG aa aA ?_|refine Q4 hG aa aA ?_|refine Q5 hG aa ?_|refine Q6 hG aa ?_|refine Q7 hG aa ?_|refine Q8 hG aa ?_|refine Q9 rfl ?_|refine QF rfl ?_|refine QC rfl ⟨fun h => ?_,fun h => ?_⟩|((conv => whnf); first|refine anF ?_|refine anT ?_|refine anK ?_|refine And.intro (Int.natCast_nonneg i) (Exists.intro _ (And.intro hx ?_))|refine And.intro (Int.natCast_nonneg k) (Exists.intro _ (And.intro hy ?_))|refine Exists.intro _ (And.intro (cM) ?_)|refine And.intro (show (rows.length + 1) * 32 ≤ 70368744177664 by omega) (And.intro (show rows.length + 1 ≤ 4611686018427387904 by omega) ?_)|refine And.intro (fun h => ?_) (fun h => ?_)|refine Or.inl ?_)
       ·refine Exists.intro (i + 1, true, RA) (And.intro ⟨hlt_i, (fun h => nomatch h), fun _ => rfl⟩ (And.intro (by show k - (i + 1) < k - i; omega) (ag ?_ ?_)))
        ·refine And.intro (congrArg some (am (by omega))) (And.intro rfl (And.intro rfl (And.intro (congrArg (fun z => some (AV.sl (.id 10) 4 z)) (hfound (of_decide_eq_true (by assumption)))) ?_)))
         repeat' (first | exact trivial | refine And.intro rfl ?_)
        ·repeat' (first | exact trivial | refine And.intro rfl ?_)
       ·refine Exists.intro (i + 1, false, rows) (And.intro ⟨hlt_i, fun _ => ⟨rfl, fun j hj => ?_⟩, (fun h => nomatch h)⟩ (And.intro (by show k - (i + 1) < k - i; omega) (ag ?_ ?_)))
        ·rcases Nat.lt_or_ge j i with g | g
         ·exact hni j g
         ·rw [show j = i by omega]; exact hnot (of_decide_eq_false (by assumption))
        ·refine And.intro (congrArg some (am (by omega))) ?_
         repeat' (first | exact trivial | refine And.intro rfl ?_)
        ·repeat' (first | exact trivial | refine And.intro rfl ?_)
      ·have bbi : decide ((i : Int) < (k : Int)) = true → False := fun h => by have := of_decide_eq_true h; omega
       have hJ : uC l k = none := eu fun j hj => hni j (by omega)
       repeat' first|exact (bbi (by assumption)).elim|refine Q1 ?_|refine Q2 ?_|refine Q3 hG aa aA ?_|refine Q4 hG aa aA ?_|refine Q5 hG aa ?_|refine Q6 hG aa ?_|refine Q7 hG aa ?_|refine Q8 hG aa ?_|refine Q9 rfl ?_|refine QF rfl ?_|refine QC rfl ⟨fun h => ?_,fun h => ?_⟩|((conv => whnf); first|refine anF ?_|refine anT ?_|refine anK ?_|refine And.intro (fun h => ?_) (fun h => ?_)|refine Or.inl ?_)
       refine Exists.intro (k + 1, false, rows) (And.intro ⟨hlt_k, fun _ => ⟨hrow, fun j hj => ?_⟩, (fun h => nomatch h)⟩ (And.intro (by show l.length - (k + 1) < l.length - k; omega) (ag ?_ ?_)))
       ·rcases Nat.lt_or_ge j k with g | g
        ·exact hnk j g
        ·rw [show j = k by omega]; exact hJ
       ·refine And.intro (congrArg some (am (by omega))) ?_
        repeat' (first | exact trivial | refine And.intro rfl ?_)
       ·repeat' (first | exact trivial | refine And.intro rfl ?_)
   ·have bbk : decide ((k : Int) < ((l.map aD).length : Int)) = true → False := fun h => by have := of_decide_eq_true h; simp at this; omega
    have hO : qq l = none := eu fun j hj => hnk j (by omega)
    have hRA2 : RA = rows0 := by rw [hRA, jX, hO]; simp
    repeat' first|exact (bbk (by assumption)).elim|refine Q1 ?_|refine Q2 ?_|refine Q3 hG aa aA ?_|refine Q4 hG aa aA ?_|refine Q5 hG aa ?_|refine Q6 hG aa ?_|refine Q7 hG aa ?_|refine Q8 hG aa ?_|refine Q9 rfl ?_|refine QF rfl ?_|refine QC rfl ⟨fun h => ?_,fun h => ?_⟩|((conv => whnf); first|refine anF ?_|refine anT ?_|refine anK ?_|refine And.intro (fun h => ?_) (fun h => ?_)|refine Or.inl ?_)
    exact Ends.mk (Or.inl rfl) (ac (by rw [hRA2]; rfl))
end Go.Proofs
namespace Go.Proofs
open Go Go.AI
set_option maxRecDepth 10000
def gy (sat : Int) (r : Int × List aG) (x : Int × Int × Int) : Int × List aG :=
 let cf := r.1 + 4 + al x.1 12
 let sf := cf + al (w64 (x.2.2.tdiv 3)) 2
 let st := sf + 3 + al x.2.1 12
 let ct := st + al (w64 (x.2.2.tdiv 3)) 2
 (ct, r.2 ++ [⟨sat, al x.2.2 3, sf, st, cf, ct⟩])
def gY (sat from_ : Int) (z : List (Int × Int × Int)) : Int × List aG := z.foldl (gy sat) (from_, [])
def gX (sat from_ : Int) (z : List (Int × Int × Int)) : List aG := (gY sat from_ (z.take 6)).2
structure ol (sat from_ : Int) (n : Nat) (r : Int × List aG) : Prop where
 at_ : from_ ≤ r.1 ∧ r.1 ≤ from_ + 31 * (n : Int)
 len : r.2.length = n
 all : ∀ p ∈ r.2, dA p = true ∧ from_ ≤ p.sa ∧ p.sa < p.sb ∧ p.sb ≤ r.1 ∧ p.ca < r.1
 srt : r.2.Pairwise fun p q => p.ca < q.ca
theorem ol.step {sat from_ : Int} {n : Nat} {r : Int × List aG} {x : Int × Int × Int} (h : ol sat from_ n r) (hs : 0 ≤ sat ∧ sat ≤ 23) (hf : 0 ≤ from_ ∧ from_ ≤ 900000) (hn : n ≤ 100) (hx : qQ x) : ol sat from_ (n + 1) (gy sat r x) := by
 obtain ⟨h1, h2, h3, h4⟩ := h
 have p1 := aM hx.1 (n := 12) (by omega)
 have p2 := aM (lM (x.2.2.tdiv 3)) (n := 2) (by omega)
 have p3 := aM hx.2.1 (n := 12) (by omega)
 have p4 := aM hx.2.2 (n := 3) (by omega)
 unfold gy
 simp only
 generalize al x.1 12 = q1 at *
 generalize al (w64 (x.2.2.tdiv 3)) 2 = q2 at *
 generalize al x.2.1 12 = q3 at *
 generalize al x.2.2 3 = q4 at *
 refine ⟨by simp only; omega, by simp [h2], fun p hp => ?_, List.pairwise_append.2 ⟨h4, by simp, fun p hp q hq => ?_⟩⟩
 ·rcases List.mem_append.1 hp with hp | hp
  ·have := h3 p hp
   refine ⟨this.1, this.2.1, this.2.2.1, ?_, ?_⟩ <;> (simp only; omega)
  ·rw [List.mem_singleton.1 hp]
   simp only [dA, inS, Bool.and_eq_true, Bool.or_eq_true, decide_eq_true_eq]
   refine ⟨⟨⟨by omega, ⟨by omega, by omega⟩, trivial⟩, ⟨⟨by omega, by omega⟩, by omega⟩, .inr ⟨⟨by omega, by omega⟩, by omega⟩⟩, by omega, by omega, by omega, by omega⟩
 ·rw [List.mem_singleton.1 hq]
  have := h3 p hp
  simp only
  omega
theorem ol.run {sat from_ : Int} (hs : 0 ≤ sat ∧ sat ≤ 23) (hf : 0 ≤ from_ ∧ from_ ≤ 900000) : ∀ (z : List (Int × Int × Int)) (n : Nat) (r : Int × List aG), n + z.length ≤ 100 → (∀ x ∈ z, qQ x) → ol sat from_ n r → ol sat from_ (n + z.length) (z.foldl (gy sat) r)
 | [], n, r, _, _, h => h
 | x :: z, n, r, hn, hz, h => by
  rw [List.length_cons] at hn ⊢
  have := ol.run hs hf z (n + 1) (gy sat r x) (by omega) (fun y hy => hz y (.tail _ hy)) (h.step hs hf (by omega) (hz x (.head _)))
  rwa [show n + (z.length + 1) = n + 1 + z.length by omega]
theorem ol.of {sat from_ : Int} (hs : 0 ≤ sat ∧ sat ≤ 23) (hf : 0 ≤ from_ ∧ from_ ≤ 900000) {z : List (Int × Int × Int)} (hz : ∀ x ∈ z, qQ x) (hl : z.length ≤ 100) : ol sat from_ z.length (gY sat from_ z) := by
 have := ol.run hs hf z 0 (from_, []) (by omega) hz ⟨by simp, rfl, by simp, by simp⟩
 simpa [gY] using this
theorem tk (sat from_ : Int) (z : List (Int × Int × Int)) (x : Int × Int × Int) : gY sat from_ (z ++ [x]) = gy sat (gY sat from_ z) x := by simp [gY, List.foldl_append]
theorem ol.proper {sat from_ : Int} {n : Nat} {r : Int × List aG} (h : ol sat from_ n r) (hn : n ≤ 64) : dq r.2 = true := by
 rw [iB]
 have hl := h.len
 refine ⟨by omega, fun j hj => ?_, fun j hj => ?_⟩
 ·rw [dS hj]; exact (h.all _ (List.getElem_mem hj)).1
 ·rw [yo, dS hj, dS (show j < r.2.length by omega)]
  have := (List.pairwise_iff_getElem.1 h.srt) j (j + 1) (by omega) hj (by omega)
  rw [if_pos (by omega)]
  exact decide_eq_false (by omega)
theorem yL {sat from_ : Int} (hs : 0 ≤ sat ∧ sat ≤ 23) (hf : 0 ≤ from_ ∧ from_ ≤ 900000) {z : List (Int × Int × Int)} (hz : ∀ x ∈ z, qQ x) : dq (gX sat from_ z) = true ∧ (gX sat from_ z).length ≤ 6 ∧ ∀ p ∈ gX sat from_ z, from_ ≤ p.sa ∧ p.sa < p.sb ∧ p.sb ≤ from_ + 186 := by
 have hl : (z.take 6).length ≤ 6 := List.length_take_le _ _
 have h := ol.of hs hf (z := z.take 6) (fun x hx => hz x (List.mem_of_mem_take hx)) (by omega)
 refine ⟨h.proper (by omega), by rw [gX, h.len]; exact hl, fun p hp => ?_⟩
 have h1 := h.all p hp
 have h2 := h.at_
 omega
set_option maxHeartbeats 8000000 in
theorem vN (sat from_ : Int) (z : List (Int × Int × Int)) (hs : 0 ≤ sat ∧ sat ≤ 23) (hf : 0 ≤ from_ ∧ from_ ≤ 900000) (hz : ∀ x ∈ z, qQ x) : ae Tryz.prog 70 [.int .i64 sat, .int .i64 from_, .sl .no 3 (z.map jB)] (aB (gX sat from_ z)) := by
 have hlm : ((z.map jB).length : Int) = (z.length : Int) := by rw [List.length_map]
 refine ah aa Tryz.func70 rfl (by kernel_rfl) af (Nat.le_of_ble_eq_true rfl) ?_
 intro F n' w0 m0 hG hro h1
 repeat' first|refine Q1 ?_|refine Q2 ?_|refine Q3 hG aa du ?_|refine Q4 hG aa du ?_|refine Q5 hG aa ?_|refine Q6 hG aa ?_|refine Q7 hG aa ?_|refine Q8 hG aa ?_|refine Q9 rfl ?_|refine QF rfl ?_|refine QC rfl ⟨fun h => ?_,fun h => ?_⟩|((conv => whnf); first|refine anF ?_|refine anT ?_|refine anK ?_|refine And.intro (fun h => ?_) (fun h => ?_)|refine Or.inl ?_)
 refine ap (X := Nat × Int × List aG) (fun x => ⟨[(9, .int .i64 x.1), (8, .int .i64 x.2.1), (7, .sl (.id 7) 6 (x.2.2.map aI)), (2, .sl .no 3 (z.map jB)), (0, .int .i64 sat)], []⟩) (fun x => x.1 ≤ z.length ∧ x.1 ≤ 6 ∧ x.2 = gY sat from_ (z.take x.1)) (fun x => z.length - x.1) (0, from_, []) ⟨Nat.zero_le _, Nat.zero_le _, rfl⟩ (ag ?_ ?_) (fun x hx => ?_)
 ·repeat' (first | exact trivial | refine And.intro rfl ?_)
 ·repeat' (first | exact trivial | refine And.intro rfl ?_)
 ·obtain ⟨i, at_, out⟩ := x
  obtain ⟨hi, h6, hr⟩ := hx
  simp only at hi h6 hr ⊢
  have hP := ol.of hs hf (z := z.take i) (fun x hx => hz x (List.mem_of_mem_take hx)) (by rw [List.length_take]; omega)
  rw [← hr, List.length_take, Nat.min_eq_left hi] at hP
  have hat := hP.at_
  have hol := hP.len
  simp only at hat hol
  by_cases hlt_i : i < z.length
  ·by_cases h5 : i < 6
   ·have b1 : decide ((i : Int) < ((z.map jB).length : Int)) = false → False := fun h => by have := of_decide_eq_false h; omega
    have b2 : decide ((i : Int) < 6) = false → False := fun h => by have := of_decide_eq_false h; omega
    have hx := gu (f := jB) ((0 : Int), (0 : Int), (0 : Int)) hlt_i
    have hsn := tk sat from_ (z.take i) (z.getD i ((0 : Int), (0 : Int), (0 : Int)))
    rw [← bM ((0 : Int), (0 : Int), (0 : Int)) hlt_i, ← hr] at hsn
    have hxi : qQ (z.getD i ((0 : Int), (0 : Int), (0 : Int))) := hz _ (by rw [List.getD_eq_getElem?_getD, List.getElem?_eq_getElem hlt_i]; exact List.getElem_mem hlt_i)
    generalize z.getD i ((0 : Int), (0 : Int), (0 : Int)) = x at hx hsn hxi
    have p1 := aM hxi.1 (n := 12) (by omega)
    have p2 := aM (lM (x.2.2.tdiv 3)) (n := 2) (by omega)
    have p3 := aM hxi.2.1 (n := 12) (by omega)
    have c2 := dC (w64 (x.2.2.tdiv 3)) 2 (by decide)
    have hol2 : (out.map aI).length ≤ 6 := by rw [List.length_map]; omega
    simp only [gy] at hsn
    obtain ⟨q2, hq2⟩ : ∃ q, q = al (w64 (x.2.2.tdiv 3)) 2 := ⟨_, rfl⟩
    rw [← hq2] at c2 p2 hsn
    have w1 : IntKind.i64.wrap (at_ + 4) = at_ + 4 := ai (by omega) (by omega)
    have w2 : IntKind.i64.wrap (at_ + 4 + al x.1 12) = at_ + 4 + al x.1 12 := ai (by omega) (by omega)
    have w3 : IntKind.i64.wrap (at_ + 4 + al x.1 12 + q2) = at_ + 4 + al x.1 12 + q2 := ai (by omega) (by omega)
    have w4 : IntKind.i64.wrap (at_ + 4 + al x.1 12 + q2 + 3) = at_ + 4 + al x.1 12 + q2 + 3 := ai (by omega) (by omega)
    have w5 : IntKind.i64.wrap (at_ + 4 + al x.1 12 + q2 + 3 + al x.2.1 12) = at_ + 4 + al x.1 12 + q2 + 3 + al x.2.1 12 := ai (by omega) (by omega)
    have w6 : IntKind.i64.wrap (at_ + 4 + al x.1 12 + q2 + 3 + al x.2.1 12 + q2) = at_ + 4 + al x.1 12 + q2 + 3 + al x.2.1 12 + q2 := ai (by omega) (by omega)
    repeat' first|exact (b1 (by assumption)).elim|exact (b2 (by assumption)).elim|refine Q1 ?_|refine Q2 ?_|refine Q3 hG aa du ?_|refine Q4 hG aa du ?_|refine Q5 hG aa ?_|refine Q6 hG aa ?_|refine Q7 hG aa ?_|refine Q8 hG aa ?_|refine Q9 rfl ?_|refine QF rfl ?_|refine QC rfl ⟨fun h => ?_,fun h => ?_⟩|((conv => whnf); first|refine anF ?_|refine anT ?_|refine anK ?_|refine And.intro (Int.natCast_nonneg i) (Exists.intro _ (And.intro hx ?_))|refine Exists.intro _ (And.intro (c2) ?_)|refine Exists.intro _ (And.intro (dC _ _ (by decide)) ?_)|refine And.intro (by decide) ?_|refine And.intro (show ((out.map aI).length + 1) * 48 ≤ 70368744177664 by omega) (And.intro (show (out.map aI).length + 1 ≤ 4611686018427387904 by omega) ?_)|refine And.intro (fun h => ?_) (fun h => ?_)|refine Or.inl ?_)
    refine Exists.intro (i + 1, gY sat from_ (z.take (i + 1))) (And.intro ⟨hlt_i, h5, rfl⟩ (And.intro (by show z.length - (i + 1) < z.length - i; omega) ?_))
    rw [hsn]
    refine ag (And.intro (congrArg some (am (by omega))) (And.intro (congrArg (fun z => some (AV.int .i64 z)) ?_) (And.intro (congrArg (fun z => some (AV.sl (.id 7) 6 z)) ?_) ?_))) ?_
    ·rw [w1, w2, w3, w4, w5, w6]
    ·rw [List.map_append]
     refine congrArg (out.map aI ++ ·) ?_
     rw [w1, w2, w3, w4, w5, w6]; rfl
    ·repeat' (first | exact trivial | refine And.intro rfl ?_)
    ·repeat' (first | exact trivial | refine And.intro rfl ?_)
   ·have b2 : decide ((i : Int) < 6) = true → False := fun h => by have := of_decide_eq_true h; omega
    have b1 : decide ((i : Int) < ((z.map jB).length : Int)) = false → False := fun h => by have := of_decide_eq_false h; omega
    have he : i = 6 := by omega
    subst he
    repeat' first|exact (b1 (by assumption)).elim|exact (b2 (by assumption)).elim|refine Q1 ?_|refine Q2 ?_|refine Q3 hG aa du ?_|refine Q4 hG aa du ?_|refine Q5 hG aa ?_|refine Q6 hG aa ?_|refine Q7 hG aa ?_|refine Q8 hG aa ?_|refine Q9 rfl ?_|refine QF rfl ?_|refine QC rfl ⟨fun h => ?_,fun h => ?_⟩|((conv => whnf); first|refine anF ?_|refine anT ?_|refine anK ?_|refine And.intro (fun h => ?_) (fun h => ?_)|refine Or.inl ?_)
    exact Ends.mk (Or.inl rfl) (ac (by rw [gX, ← hr]; rfl))
  ·have b1 : decide ((i : Int) < ((z.map jB).length : Int)) = true → False := fun h => by have := of_decide_eq_true h; omega
   rw [List.take_of_length_le (by omega)] at hr
   repeat' first|exact (b1 (by assumption)).elim|refine Q1 ?_|refine Q2 ?_|refine Q3 hG aa du ?_|refine Q4 hG aa du ?_|refine Q5 hG aa ?_|refine Q6 hG aa ?_|refine Q7 hG aa ?_|refine Q8 hG aa ?_|refine Q9 rfl ?_|refine QF rfl ?_|refine QC rfl ⟨fun h => ?_,fun h => ?_⟩|((conv => whnf); first|refine anF ?_|refine anT ?_|refine anK ?_|refine And.intro (fun h => ?_) (fun h => ?_)|refine Or.inl ?_)
   exact Ends.mk (Or.inl rfl) (ac (by rw [gX, List.take_of_length_le (by omega), ← hr]; rfl))
end Go.Proofs
namespace Go.Proofs
open Go Go.AI
set_option maxRecDepth 10000
structure R5 where
 a : Int
 b : Int
 c : Int
 d : Int
 e : Int
def jA (x : R5) : List AV := [.int .i64 x.a, .int .i64 x.b, .int .i64 x.c, .int .i64 x.d, .int .i64 x.e]
def r50 : R5 := ⟨0, 0, 0, 0, 0⟩
def u8 (x : R5) : Prop := inI x.a ∧ inI x.b ∧ inI x.c ∧ inI x.d ∧ inI x.e
def lU (s0 m d n : Int) (ps : List aG) (r : Int × List bl) (k : Nat) : Int × List bl :=
 if (r.2.length : Int) < n ∧ (aO ps k).sat = s0 ∧ max r.1 ((aO ps k).sa + d) + m ≤ (aO ps k).sb then
  (max r.1 ((aO ps k).sa + d) + m, r.2 ++ [⟨(k : Int), max r.1 ((aO ps k).sa + d), max r.1 ((aO ps k).sa + d) + m⟩]) else r
def er (s0 m d n : Int) (ps : List aG) (t0 : Int) (k : Nat) : Int × List bl := (List.range k).foldl (lU s0 m d n ps) (t0, [])
theorem iY (s0 m d n : Int) (ps : List aG) (t0 : Int) (k : Nat) : er s0 m d n ps t0 (k + 1) = lU s0 m d n ps (er s0 m d n ps t0 k) k := by simp [er, List.range_succ, List.foldl_append]
theorem lW {s0 m d n : Int} {ps : List aG} {t0 : Int} {k : Nat} (h : ¬ ((er s0 m d n ps t0 k).2.length : Int) < n) : ∀ j, er s0 m d n ps t0 (k + j) = er s0 m d n ps t0 k
 | 0 => rfl
 | j + 1 => by
  rw [show k + (j + 1) = (k + j) + 1 from rfl, iY, lW h j]
  exact if_neg fun g => h g.1
theorem lV {s0 m d n : Int} {ps : List aG} {t0 : Int} {k : Nat} (hk : k ≤ ps.length) (h : ¬ ((er s0 m d n ps t0 k).2.length : Int) < n) : er s0 m d n ps t0 ps.length = er s0 m d n ps t0 k := by
 have := lW h (ps.length - k)
 rwa [show k + (ps.length - k) = ps.length by omega] at this
def mj (s : Nat → Int) (ps : List aG) (from_ id : Int) (x : R5) : Opt :=
 ⟨id, al x.e 4, 0, s 0, from_ + al x.a 40, from_ + al x.a 40 + 1 + al x.b 5, al x.c (2 * s 9 + 1) - s 9, min (s 10) ((1 + al x.d 4) * s 20),
  (er (s 0) (1 + al x.d 4) (al (w64 (x.d.tdiv 4)) 3) (1 + al (w64 (x.e.tdiv 4)) 3) ps (from_ + al x.a 40 + 1 + al x.b 5) ps.length).2⟩
def fG (s : Nat → Int) (ps : List aG) (o : Opt) : Bool := dR s && dq ps && cu s o ps
def dg (s : Nat → Int) (ps : List aG) (from_ id : Int) (z : List R5) : Nat → List Opt
 | 0 => []
 | i + 1 => dg s ps from_ id z i ++ if fG s ps (mj s ps from_ (id + i) (z.getD i r50)) then [mj s ps from_ (id + i) (z.getD i r50)] else []
def x4 (s : Nat → Int) (ps : List aG) (from_ id : Int) (z : List R5) : List Opt := dg s ps from_ id z (min z.length 5)
theorem ls (s : Nat → Int) (ps : List aG) (from_ id : Int) (z : List R5) : ∀ i, (dg s ps from_ id z i).length ≤ i
 | 0 => Nat.le_refl _
 | i + 1 => by
  have := ls s ps from_ id z i
  simp only [dg, List.length_append]
  split <;> simp <;> omega
theorem AV.weak.agg {cs ds : List AV} (h : ig cs ds) (hd : ∀ x ∈ ds, x.isCell = true) : (AV.agg cs).weak (.agg ds) := by
 intro m v hv
 cases hv with
 | agg _ vs hl hc hr =>
  obtain ⟨h1, h2⟩ := h.spec
  refine .agg ds vs (by omega) hd fun i x u g1 g2 => ?_
  have hi : i < cs.length := by rw [h1]; exact (List.getElem?_eq_some_iff.1 g1).1
  exact h2 i _ x (List.getElem?_eq_getElem hi) g1 m u (hr i _ u (List.getElem?_eq_getElem hi) g2)
structure E8 (s : Nat → Int) (ps : List aG) (from_ id : Int) : Prop where
 w : 0 ≤ s 9 ∧ s 9 ≤ 4
 st : 1 ≤ s 10 ∧ s 10 ≤ 1000000
 rt : 1 ≤ s 20 ∧ s 20 ≤ 1000
 f : 0 ≤ from_ ∧ from_ ≤ 900000
 id : 0 ≤ id ∧ id ≤ 50
 pl : ps.length ≤ 64
 p : ∀ p ∈ ps, 0 ≤ p.sa ∧ p.sa ≤ 1000001 ∧ 0 ≤ p.sb ∧ p.sb ≤ 1000001
theorem uK {s : Nat → Int} {ps : List aG} {p : Int} {a b c d e f g : Int} : fG s ps ⟨p, a, b, c, d, e, f, g, []⟩ = false := by
 have : inS (([] : List bl).length : Int) 1 6 = false := by decide
 simp only [fG, cu, this, Bool.and_false, Bool.false_and]
set_option maxHeartbeats 16000000 in
theorem tY (s : Nat → Int) (ps : List aG) (from_ id : Int) (z : List R5) (hH : E8 s ps from_ id) (hz : ∀ x ∈ z, u8 x) : ae Tryz.prog 71 [.agg (aJ s), aB ps, .int .i64 from_, .int .i64 id, .sl .no 5 (z.map jA)] (ay (x4 s ps from_ id z)) := by
 have hlm : ((z.map jA).length : Int) = (z.length : Int) := by rw [List.length_map]
 have hw := hH.w; have hst := hH.st; have hrt := hH.rt; have hf := hH.f; have hid := hH.id; have hpl := hH.pl
 refine ah aa Tryz.func71 rfl (by kernel_rfl) af (Nat.le_of_ble_eq_true rfl) ?_
 intro F n' w0 m0 hG hro h1
 repeat' first|refine Q1 ?_|refine Q2 ?_|refine Q3 hG aa aZ ?_|refine Q4 hG aa aZ ?_|refine Q5 hG aa ?_|refine Q6 hG aa ?_|refine Q7 hG aa ?_|refine Q8 hG aa ?_|refine Q9 rfl ?_|refine QF rfl ?_|refine QC rfl ⟨fun h => ?_,fun h => ?_⟩|((conv => whnf); first|refine anF ?_|refine anT ?_|refine anK ?_|refine And.intro (fun h => ?_) (fun h => ?_)|refine Or.inl ?_)
 refine ap (X := Nat) (fun i => ⟨[(12, .int .i64 i), (11, (.sl (.id 11) 9 ((dg s ps from_ id z i).map aD))), (5, .loc 5 0), (4, .sl .no 5 (z.map jA)), (3, .int .i64 id), (2, .int .i64 from_), (1, aB ps)], [(5, aJ s)]⟩) (fun i => i ≤ z.length ∧ i ≤ 5) (fun i => z.length - i) 0 ⟨Nat.zero_le _, Nat.zero_le _⟩ (ag ?_ ?_) (fun i hx => ?_)
 ·repeat' (first | exact trivial | refine And.intro rfl ?_)
 ·repeat' (first | exact trivial | refine And.intro rfl ?_)
 ·obtain ⟨hi, h6⟩ := hx
  have hol := ls s ps from_ id z i
  by_cases hlt_i : i < z.length
  ·by_cases h5 : i < 5
   ·have b1 : decide ((i : Int) < ((z.map jA).length : Int)) = false → False := fun h => by have := of_decide_eq_false h; omega
    have b2 : decide ((i : Int) < 5) = false → False := fun h => by have := of_decide_eq_false h; omega
    have hx := gu (f := jA) r50 hlt_i
    have hxi : u8 (z.getD i r50) := hz _ (by rw [List.getD_eq_getElem?_getD, List.getElem?_eq_getElem hlt_i]; exact List.getElem_mem hlt_i)
    have hon : dg s ps from_ id z (i + 1) = dg s ps from_ id z i ++ if fG s ps (mj s ps from_ (id + i) (z.getD i r50)) then [mj s ps from_ (id + i) (z.getD i r50)] else [] := rfl
    generalize z.getD i r50 = x at hx hxi hon
    have p1 := aM hxi.1 (n := 40) (by omega)
    have p2 := aM hxi.2.1 (n := 5) (by omega)
    have p3 := aM hxi.2.2.1 (n := 2 * s 9 + 1) (by omega)
    have p4 := aM hxi.2.2.2.1 (n := 4) (by omega)
    have p5 := aM (lM (x.d.tdiv 4)) (n := 3) (by omega)
    have p6 := aM (lM (x.e.tdiv 4)) (n := 3) (by omega)
    have cE := dC (w64 (x.e.tdiv 4)) 3 (by decide)
    have cD := dC (w64 (x.d.tdiv 4)) 3 (by decide)
    have wc : IntKind.i64.wrap (IntKind.i64.wrap (2 * s 9) + 1) = 2 * s 9 + 1 := by rw [show IntKind.i64.wrap (2 * s 9) = 2 * s 9 from ai (by omega) (by omega)]; exact ai (by omega) (by omega)
    have cC : ae Tryz.prog 143 [.int .i64 x.c, .int .i64 (IntKind.i64.wrap (IntKind.i64.wrap (2 * s 9) + 1))] (.int .i64 (al x.c (2 * s 9 + 1))) := by
     have h := dC x.c (IntKind.i64.wrap (IntKind.i64.wrap (2 * s 9) + 1)) (by rw [wc]; omega)
     rw [wc] at h ⊢
     exact h
    have c1 := dC x.a 40 (by decide)
    have c2 := dC x.b 5 (by decide)
    have c4 := dC x.d 4 (by decide)
    have hmkv : mj s ps from_ (id + i) x = ⟨id + i, al x.e 4, 0, s 0, from_ + al x.a 40, from_ + al x.a 40 + 1 + al x.b 5, al x.c (2 * s 9 + 1) - s 9, min (s 10) ((1 + al x.d 4) * s 20),
  (er (s 0) (1 + al x.d 4) (al (w64 (x.d.tdiv 4)) 3) (1 + al (w64 (x.e.tdiv 4)) 3) ps (from_ + al x.a 40 + 1 + al x.b 5) ps.length).2⟩ := rfl
    generalize al x.a 40 = pa at *
    generalize al x.b 5 = pb at *
    generalize al x.c (2 * s 9 + 1) = pc at *
    generalize al x.d 4 = pd at *
    generalize al (w64 (x.d.tdiv 4)) 3 = dd at *
    generalize al (w64 (x.e.tdiv 4)) 3 = nn at *
    have hm0 : 0 ≤ (1 + pd) * s 20 := Int.mul_nonneg (by omega) (by omega)
    have hm1 : (1 + pd) * s 20 ≤ 4 * 1000 := Int.mul_le_mul (by omega) (by omega) (by omega) (by omega)
    have w1 : IntKind.i64.wrap (id + (i : Int)) = id + i := ai (by omega) (by omega)
    have w2 : IntKind.i64.wrap (from_ + pa) = from_ + pa := ai (by omega) (by omega)
    have w3 : IntKind.i64.wrap (from_ + pa + 1) = from_ + pa + 1 := ai (by omega) (by omega)
    have w4 : IntKind.i64.wrap (from_ + pa + 1 + pb) = from_ + pa + 1 + pb := ai (by omega) (by omega)
    have w5 : IntKind.i64.wrap (pc - s 9) = pc - s 9 := ai (by omega) (by omega)
    have w6 : IntKind.i64.wrap (1 + pd) = 1 + pd := ai (by omega) (by omega)
    have w7 : IntKind.i64.wrap ((1 + pd) * s 20) = (1 + pd) * s 20 := ai (by omega) (by omega)
    have w8 : IntKind.i64.wrap (1 + nn) = 1 + nn := ai (by omega) (by omega)
    have hcell : ([.int .i64 (IntKind.i64.wrap (id + (i : Int))), .int .i64 (al x.e 4), .int .i64 0, .int .i64 (s 0), .int .i64 (IntKind.i64.wrap (from_ + pa)), .int .i64 (IntKind.i64.wrap (IntKind.i64.wrap (IntKind.i64.wrap (from_ + pa) + 1) + pb)), .int .i64 (IntKind.i64.wrap (pc - s 9)), .int .i64 (min (s 10) (IntKind.i64.wrap (IntKind.i64.wrap (1 + pd) * s 20))), .sl .full 0 []] : List AV) = [.int .i64 (id + (i : Int)), .int .i64 (al x.e 4), .int .i64 0, .int .i64 (s 0), .int .i64 (from_ + pa), .int .i64 (from_ + pa + 1 + pb), .int .i64 (pc - s 9), .int .i64 (min (s 10) ((1 + pd) * s 20)), .sl .full 0 []] := by rw [w1, w2, w3, w4, w5, w6, w7]
    have h15 : 0 ≤ from_ + pa + 1 + pb ∧ from_ + pa + 1 + pb ≤ 1900000 := by omega
    have he15 : IntKind.i64.wrap (IntKind.i64.wrap (IntKind.i64.wrap (from_ + pa) + 1) + pb) = from_ + pa + 1 + pb := by rw [w2, w3, w4]
    repeat' first|exact (b1 (by assumption)).elim|exact (b2 (by assumption)).elim|refine Q1 ?_|refine Q2 ?_|refine Q3 hG aa aZ ?_|refine Q4 hG aa aZ ?_|refine Q5 hG aa ?_|refine Q6 hG aa ?_|refine Q7 hG aa ?_|refine Q8 hG aa ?_|refine Q9 rfl ?_|refine QF rfl ?_|refine QC rfl ⟨fun h => ?_,fun h => ?_⟩|((conv => whnf); first|refine anF ?_|refine anT ?_|refine anK ?_|refine And.intro (Int.natCast_nonneg i) (Exists.intro _ (And.intro hx ?_))|refine Exists.intro _ (And.intro (cC) ?_)|refine Exists.intro _ (And.intro (c1) ?_)|refine Exists.intro _ (And.intro (c2) ?_)|refine Exists.intro _ (And.intro (c4) ?_)|refine Exists.intro _ (And.intro (dC _ _ (by decide)) ?_)|refine And.intro (by decide) ?_|refine And.intro (fun h => ?_) (fun h => ?_)|refine Or.inl ?_)
    have cPf : ∀ sl : List bl, sl.length ≤ 64 → ae Tryz.prog 31 [.agg (aJ s), .agg [.int .i64 (id + (i : Int)), .int .i64 (al x.e 4), .int .i64 0, .int .i64 (s 0), .int .i64 (from_ + pa), .int .i64 (from_ + pa + 1 + pb), .int .i64 (pc - s 9), .int .i64 (min (s 10) ((1 + pd) * s 20)), td sl], aB ps] (.bool (fG s ps ⟨id + i, al x.e 4, 0, s 0, from_ + pa, from_ + pa + 1 + pb, pc - s 9, min (s 10) ((1 + pd) * s 20), sl⟩)) := fun sl h => jt s ⟨id + (i : Int), al x.e 4, 0, s 0, from_ + pa, from_ + pa + 1 + pb, pc - s 9, min (s 10) ((1 + pd) * s 20), sl⟩ ps (Nat.le_trans h (by decide)) (by omega)
    refine ap (X := Nat × Int × List bl × AV) (fun y => ⟨[(16, .int .i64 y.1), (15, .int .i64 y.2.1), (14, .int .i64 (1 + pd)), (13, .loc 13 0), (12, .int .i64 i), (11, (.sl (.id 11) 9 ((dg s ps from_ id z i).map aD))), (5, .loc 5 0), (4, .sl .no 5 (z.map jA)), (3, .int .i64 id), (2, .int .i64 from_), (1, aB ps)], [(13, [.int .i64 (id + (i : Int)), .int .i64 (al x.e 4), .int .i64 0, .int .i64 (s 0), .int .i64 (from_ + pa), .int .i64 (from_ + pa + 1 + pb), .int .i64 (pc - s 9), .int .i64 (min (s 10) ((1 + pd) * s 20)), y.2.2.2]), (5, aJ s)]⟩) (fun y => y.1 ≤ ps.length ∧ (y.2.1, y.2.2.1) = er (s 0) (1 + pd) dd (1 + nn) ps (from_ + pa + 1 + pb) y.1 ∧ (0 ≤ y.2.1 ∧ y.2.1 ≤ 1900000) ∧ y.2.2.1.length ≤ y.1 ∧ ((y.2.2.1 = [] ∧ y.2.2.2 = .sl .full 0 []) ∨ y.2.2.2 = .sl (.id 160) 3 (y.2.2.1.map aL))) (fun y => ps.length - y.1) (0, from_ + pa + 1 + pb, [], .sl .full 0 []) ⟨Nat.zero_le _, rfl, h15, Nat.le_refl _, .inl ⟨rfl, rfl⟩⟩ (ag ?_ ?_) (fun y hy => ?_)
    ·refine And.intro rfl (And.intro (congrArg (fun z => some (AV.int .i64 z)) he15) (And.intro (congrArg (fun z => some (AV.int .i64 z)) w6) ?_))
     repeat' (first | exact trivial | refine And.intro rfl ?_)
    ·refine And.intro (congrArg some hcell) ?_
     repeat' (first | exact trivial | refine And.intro rfl ?_)
    ·obtain ⟨k, en, sl, cell⟩ := y
     obtain ⟨hk, hr, hen, hsl, hc⟩ := hy
     simp only at hk hr hen hsl hc ⊢
     rcases hc with ⟨rfl, rfl⟩ | rfl
     ·have cP : ae Tryz.prog 31 [.agg (aJ s), .agg [.int .i64 (id + (i : Int)), .int .i64 (al x.e 4), .int .i64 0, .int .i64 (s 0), .int .i64 (from_ + pa), .int .i64 (from_ + pa + 1 + pb), .int .i64 (pc - s 9), .int .i64 (min (s 10) ((1 + pd) * s 20)), .sl .full 0 []], aB ps] (.bool (fG s ps ⟨id + (i : Int), al x.e 4, 0, s 0, from_ + pa, from_ + pa + 1 + pb, pc - s 9, min (s 10) ((1 + pd) * s 20), ([] : List bl)⟩)) := (cPf [] (by simp)).weak (.cons (.refl _) (.cons (AV.weak.agg (.cons (.refl _) (.cons (.refl _) (.cons (.refl _) (.cons (.refl _) (.cons (.refl _) (.cons (.refl _) (.cons (.refl _) (.cons (.refl _) (.cons AV.weak.slnil .nil))))))))) (by intro y hy; simp at hy; rcases hy with rfl | rfl | rfl | rfl | rfl | rfl | rfl | rfl | rfl <;> rfl)) (.refl _)))
      by_cases hlt_k : k < ps.length
      ·have bbk : decide ((k : Int) < ((ps.map aI).length : Int)) = false → False := fun h => by have := of_decide_eq_false h; simp at this; omega
       have hy := j6 hlt_k
       have hqb := hH.p (aO ps k) (by rw [dS hlt_k]; exact List.getElem_mem hlt_k)
       have hrn := iY (s 0) (1 + pd) dd (1 + nn) ps (from_ + pa + 1 + pb) k
       rw [← hr, lU] at hrn
       simp only at hrn
       have hstop : ¬ ((([] : List bl) : List bl).length : Int) < 1 + nn → mj s ps from_ (id + i) x = ⟨id + (i : Int), al x.e 4, 0, s 0, from_ + pa, from_ + pa + 1 + pb, pc - s 9, min (s 10) ((1 + pd) * s 20), ([] : List bl)⟩ := fun h => by
        have h2 := lV hk (s0 := s 0) (m := 1 + pd) (d := dd) (n := 1 + nn) (t0 := from_ + pa + 1 + pb) (by rw [← hr]; exact h)
        rw [hmkv, h2, ← hr]
       generalize aO ps k = q at hy hqb hrn
       have v1 : IntKind.i64.wrap (q.sa + dd) = q.sa + dd := ai (by omega) (by omega)
       have v2 : IntKind.i64.wrap (max en (q.sa + dd) + (1 + pd)) = max en (q.sa + dd) + (1 + pd) := ai (by omega) (by omega)
       have e15 : IntKind.i64.wrap (max en (IntKind.i64.wrap (q.sa + dd)) + (1 + pd)) = max en (q.sa + dd) + (1 + pd) := by rw [v1, v2]
       have e13 : ([] : List (List AV)) ++ [[.int .i64 (k : Int), .int .i64 (max en (IntKind.i64.wrap (q.sa + dd))), .int .i64 (IntKind.i64.wrap (max en (IntKind.i64.wrap (q.sa + dd)) + (1 + pd)))]] = (([] : List bl) ++ [(⟨(k : Int), max en (q.sa + dd), max en (q.sa + dd) + (1 + pd)⟩ : bl)]).map aL := by rw [v1, v2]; simp [aL]
       repeat' first|exact (bbk (by assumption)).elim|refine Q1 ?_|refine Q2 ?_|refine Q3 hG aa aZ ?_|refine Q4 hG aa aZ ?_|refine Q5 hG aa ?_|refine Q6 hG aa ?_|refine Q7 hG aa ?_|refine Q8 hG aa ?_|refine Q9 rfl ?_|refine QF rfl ?_|refine QC rfl ⟨fun h => ?_,fun h => ?_⟩|((conv => whnf); first|refine anF ?_|refine anT ?_|refine anK ?_|refine And.intro (Int.natCast_nonneg k) (Exists.intro _ (And.intro hy ?_))|refine And.intro (Int.natCast_nonneg i) (Exists.intro _ (And.intro hx ?_))|refine Exists.intro _ (And.intro (cE) ?_)|refine Exists.intro _ (And.intro (cD) ?_)|refine And.intro (by decide) ?_|refine And.intro (Nat.le_of_ble_eq_true rfl) (And.intro (Nat.le_of_ble_eq_true rfl) ?_)|refine Exists.intro _ (And.intro (cP) ?_)|refine And.intro (show (((dg s ps from_ id z i).map aD).length + 1) * 88 ≤ 70368744177664 by rw [List.length_map]; omega) (And.intro (show ((dg s ps from_ id z i).map aD).length + 1 ≤ 4611686018427387904 by rw [List.length_map]; omega) ?_)|refine And.intro (fun h => ?_) (fun h => ?_)|refine Or.inl ?_)
       all_goals first
        |(conv => whnf
          refine Exists.intro (k + 1, max en (q.sa + dd) + (1 + pd), ([] : List bl) ++ [(⟨(k : Int), max en (q.sa + dd), max en (q.sa + dd) + (1 + pd)⟩ : bl)], AV.sl (.id 160) 3 ((([] : List bl) ++ [(⟨(k : Int), max en (q.sa + dd), max en (q.sa + dd) + (1 + pd)⟩ : bl)]).map aL)) (And.intro ⟨hlt_k, ?_, ?_, ?_, .inr rfl⟩ (And.intro (by show ps.length - (k + 1) < ps.length - k; omega) (ag ?_ ?_)))
          ·rw [hrn]; symm; apply if_pos; clear hG hcell hmkv hon hx hy cP cPf hstop e13 cE cD cC c1 c2 c4 w1 w2 w3 w4 w5 w6 w7 wc he15 hm0 hm1 hH hz hxi hlm; (try simp only [cond_true, cond_false] at *); grind
          ·clear hG hcell hmkv hon hx hy cP cPf hstop e13 cE cD cC c1 c2 c4 w1 w2 w3 w4 w5 w6 w7 wc he15 hm0 hm1 hH hz hxi hlm; (try simp only [cond_true, cond_false] at *); grind
          ·simp <;> omega
          ·refine And.intro (congrArg some (am (by omega))) (And.intro (congrArg (fun z => some (AV.int .i64 z)) e15) ?_)
           repeat' (first | exact trivial | refine And.intro rfl ?_)
          ·refine And.intro (congrArg (fun z => some ([.int .i64 (id + (i : Int)), .int .i64 (al x.e 4), .int .i64 0, .int .i64 (s 0), .int .i64 (from_ + pa), .int .i64 (from_ + pa + 1 + pb), .int .i64 (pc - s 9), .int .i64 (min (s 10) ((1 + pd) * s 20)), AV.sl (.id 160) 3 z] : List AV)) e13) ?_
           repeat' (first | exact trivial | refine And.intro rfl ?_))
        |(conv => whnf
          refine Exists.intro (k + 1, en, ([] : List bl), .sl .full 0 []) (And.intro ⟨hlt_k, ?_, hen, ?_, .inl ⟨rfl, rfl⟩⟩ (And.intro (by show ps.length - (k + 1) < ps.length - k; omega) (ag ?_ ?_)))
          ·rw [hrn]; symm; apply if_neg; clear hG hcell hmkv hon hx hy cP cPf hstop e13 cE cD cC c1 c2 c4 w1 w2 w3 w4 w5 w6 w7 wc he15 hm0 hm1 hH hz hxi hlm; (try simp only [cond_true, cond_false] at *); grind
          ·exact Nat.le_succ_of_le hsl
          ·refine And.intro (congrArg some (am (by omega))) ?_
           repeat' (first | exact trivial | refine And.intro rfl ?_)
          ·repeat' (first | exact trivial | refine And.intro rfl ?_))
        | skip
       all_goals have hmk := hstop (by clear hG hcell hmkv hon hx hy cP cPf hstop e13 cE cD cC c1 c2 c4 w1 w2 w3 w4 w5 w6 w7 wc he15 hm0 hm1 hH hz hxi hlm; (try simp only [cond_true, cond_false] at *); grind)
       all_goals first
        |(exact absurd (by assumption : fG s ps _ = true) (by rw [uK]; simp))
        |(have hpr := (by assumption : fG s ps _ = false)
          conv => whnf
          refine Exists.intro (i + 1) (And.intro ⟨hlt_i, h5⟩ (And.intro (by omega) (ag ?_ ?_)))
          ·refine And.intro (congrArg some (am (by omega))) (And.intro (congrArg (fun z => some (AV.sl (.id 11) 9 z)) ?_) ?_)
           ·rw [hon, hmk, if_neg (by rw [hpr]; simp), List.append_nil]
           ·repeat' (first | exact trivial | refine And.intro rfl ?_)
          ·repeat' (first | exact trivial | refine And.intro rfl ?_))
      ·have bbk : decide ((k : Int) < ((ps.map aI).length : Int)) = true → False := fun h => by have := of_decide_eq_true h; simp at this; omega
       have he : k = ps.length := by omega
       have hmk : mj s ps from_ (id + i) x = ⟨id + (i : Int), al x.e 4, 0, s 0, from_ + pa, from_ + pa + 1 + pb, pc - s 9, min (s 10) ((1 + pd) * s 20), ([] : List bl)⟩ := by rw [hmkv, ← he, ← hr]
       repeat' first|exact (bbk (by assumption)).elim|refine Q1 ?_|refine Q2 ?_|refine Q3 hG aa aZ ?_|refine Q4 hG aa aZ ?_|refine Q5 hG aa ?_|refine Q6 hG aa ?_|refine Q7 hG aa ?_|refine Q8 hG aa ?_|refine Q9 rfl ?_|refine QF rfl ?_|refine QC rfl ⟨fun h => ?_,fun h => ?_⟩|((conv => whnf); first|refine anF ?_|refine anT ?_|refine anK ?_|refine Exists.intro _ (And.intro (cP) ?_)|refine And.intro (show (((dg s ps from_ id z i).map aD).length + 1) * 88 ≤ 70368744177664 by rw [List.length_map]; omega) (And.intro (show ((dg s ps from_ id z i).map aD).length + 1 ≤ 4611686018427387904 by rw [List.length_map]; omega) ?_)|refine And.intro (fun h => ?_) (fun h => ?_)|refine Or.inl ?_)
       all_goals first
        |(exact absurd (by assumption : fG s ps _ = true) (by rw [uK]; simp))
        |(have hpr := (by assumption : fG s ps _ = false)
          conv => whnf
          refine Exists.intro (i + 1) (And.intro ⟨hlt_i, h5⟩ (And.intro (by omega) (ag ?_ ?_)))
          ·refine And.intro (congrArg some (am (by omega))) (And.intro (congrArg (fun z => some (AV.sl (.id 11) 9 z)) ?_) ?_)
           ·rw [hon, hmk, if_neg (by rw [hpr]; simp), List.append_nil]
           ·repeat' (first | exact trivial | refine And.intro rfl ?_)
          ·repeat' (first | exact trivial | refine And.intro rfl ?_))
     ·have cP : ae Tryz.prog 31 [.agg (aJ s), .agg [.int .i64 (id + (i : Int)), .int .i64 (al x.e 4), .int .i64 0, .int .i64 (s 0), .int .i64 (from_ + pa), .int .i64 (from_ + pa + 1 + pb), .int .i64 (pc - s 9), .int .i64 (min (s 10) ((1 + pd) * s 20)), .sl .no 3 (sl.map aL)], aB ps] (.bool (fG s ps ⟨id + (i : Int), al x.e 4, 0, s 0, from_ + pa, from_ + pa + 1 + pb, pc - s 9, min (s 10) ((1 + pd) * s 20), sl⟩)) := cPf sl (by omega)
      by_cases hlt_k : k < ps.length
      ·have bbk : decide ((k : Int) < ((ps.map aI).length : Int)) = false → False := fun h => by have := of_decide_eq_false h; simp at this; omega
       have hy := j6 hlt_k
       have hqb := hH.p (aO ps k) (by rw [dS hlt_k]; exact List.getElem_mem hlt_k)
       have hrn := iY (s 0) (1 + pd) dd (1 + nn) ps (from_ + pa + 1 + pb) k
       rw [← hr, lU] at hrn
       simp only at hrn
       have hstop : ¬ ((sl : List bl).length : Int) < 1 + nn → mj s ps from_ (id + i) x = ⟨id + (i : Int), al x.e 4, 0, s 0, from_ + pa, from_ + pa + 1 + pb, pc - s 9, min (s 10) ((1 + pd) * s 20), sl⟩ := fun h => by
        have h2 := lV hk (s0 := s 0) (m := 1 + pd) (d := dd) (n := 1 + nn) (t0 := from_ + pa + 1 + pb) (by rw [← hr]; exact h)
        rw [hmkv, h2, ← hr]
       generalize aO ps k = q at hy hqb hrn
       have v1 : IntKind.i64.wrap (q.sa + dd) = q.sa + dd := ai (by omega) (by omega)
       have v2 : IntKind.i64.wrap (max en (q.sa + dd) + (1 + pd)) = max en (q.sa + dd) + (1 + pd) := ai (by omega) (by omega)
       have e15 : IntKind.i64.wrap (max en (IntKind.i64.wrap (q.sa + dd)) + (1 + pd)) = max en (q.sa + dd) + (1 + pd) := by rw [v1, v2]
       have e13 : sl.map aL ++ [[.int .i64 (k : Int), .int .i64 (max en (IntKind.i64.wrap (q.sa + dd))), .int .i64 (IntKind.i64.wrap (max en (IntKind.i64.wrap (q.sa + dd)) + (1 + pd)))]] = (sl ++ [(⟨(k : Int), max en (q.sa + dd), max en (q.sa + dd) + (1 + pd)⟩ : bl)]).map aL := by rw [v1, v2]; simp [aL]
       repeat' first|exact (bbk (by assumption)).elim|refine Q1 ?_|refine Q2 ?_|refine Q3 hG aa aZ ?_|refine Q4 hG aa aZ ?_|refine Q5 hG aa ?_|refine Q6 hG aa ?_|refine Q7 hG aa ?_|refine Q8 hG aa ?_|refine Q9 rfl ?_|refine QF rfl ?_|refine QC rfl ⟨fun h => ?_,fun h => ?_⟩|((conv => whnf); first|refine anF ?_|refine anT ?_|refine anK ?_|refine And.intro (Int.natCast_nonneg k) (Exists.intro _ (And.intro hy ?_))|refine And.intro (Int.natCast_nonneg i) (Exists.intro _ (And.intro hx ?_))|refine Exists.intro _ (And.intro (cE) ?_)|refine Exists.intro _ (And.intro (cD) ?_)|refine And.intro (by decide) ?_|refine And.intro (show ((sl.map aL).length + 1) * 24 ≤ 70368744177664 by rw [List.length_map]; omega) (And.intro (show (sl.map aL).length + 1 ≤ 4611686018427387904 by rw [List.length_map]; omega) ?_)|refine Exists.intro _ (And.intro (cP) ?_)|refine And.intro (show (((dg s ps from_ id z i).map aD).length + 1) * 88 ≤ 70368744177664 by rw [List.length_map]; omega) (And.intro (show ((dg s ps from_ id z i).map aD).length + 1 ≤ 4611686018427387904 by rw [List.length_map]; omega) ?_)|refine And.intro (fun h => ?_) (fun h => ?_)|refine Or.inl ?_)
       all_goals first
        |(conv => whnf
          refine Exists.intro (k + 1, max en (q.sa + dd) + (1 + pd), sl ++ [(⟨(k : Int), max en (q.sa + dd), max en (q.sa + dd) + (1 + pd)⟩ : bl)], AV.sl (.id 160) 3 ((sl ++ [(⟨(k : Int), max en (q.sa + dd), max en (q.sa + dd) + (1 + pd)⟩ : bl)]).map aL)) (And.intro ⟨hlt_k, ?_, ?_, ?_, .inr rfl⟩ (And.intro (by show ps.length - (k + 1) < ps.length - k; omega) (ag ?_ ?_)))
          ·rw [hrn]; symm; apply if_pos; clear hG hcell hmkv hon hx hy cP cPf hstop e13 cE cD cC c1 c2 c4 w1 w2 w3 w4 w5 w6 w7 wc he15 hm0 hm1 hH hz hxi hlm; (try simp only [cond_true, cond_false] at *); grind
          ·clear hG hcell hmkv hon hx hy cP cPf hstop e13 cE cD cC c1 c2 c4 w1 w2 w3 w4 w5 w6 w7 wc he15 hm0 hm1 hH hz hxi hlm; (try simp only [cond_true, cond_false] at *); grind
          ·simp <;> omega
          ·refine And.intro (congrArg some (am (by omega))) (And.intro (congrArg (fun z => some (AV.int .i64 z)) e15) ?_)
           repeat' (first | exact trivial | refine And.intro rfl ?_)
          ·refine And.intro (congrArg (fun z => some ([.int .i64 (id + (i : Int)), .int .i64 (al x.e 4), .int .i64 0, .int .i64 (s 0), .int .i64 (from_ + pa), .int .i64 (from_ + pa + 1 + pb), .int .i64 (pc - s 9), .int .i64 (min (s 10) ((1 + pd) * s 20)), AV.sl (.id 160) 3 z] : List AV)) e13) ?_
           repeat' (first | exact trivial | refine And.intro rfl ?_))
        |(conv => whnf
          refine Exists.intro (k + 1, en, sl, .sl (.id 160) 3 (sl.map aL)) (And.intro ⟨hlt_k, ?_, hen, ?_, .inr rfl⟩ (And.intro (by show ps.length - (k + 1) < ps.length - k; omega) (ag ?_ ?_)))
          ·rw [hrn]; symm; apply if_neg; clear hG hcell hmkv hon hx hy cP cPf hstop e13 cE cD cC c1 c2 c4 w1 w2 w3 w4 w5 w6 w7 wc he15 hm0 hm1 hH hz hxi hlm; (try simp only [cond_true, cond_false] at *); grind
          ·exact Nat.le_succ_of_le hsl
          ·refine And.intro (congrArg some (am (by omega))) ?_
           repeat' (first | exact trivial | refine And.intro rfl ?_)
          ·repeat' (first | exact trivial | refine And.intro rfl ?_))
        | skip
       all_goals have hmk := hstop (by clear hG hcell hmkv hon hx hy cP cPf hstop e13 cE cD cC c1 c2 c4 w1 w2 w3 w4 w5 w6 w7 wc he15 hm0 hm1 hH hz hxi hlm; (try simp only [cond_true, cond_false] at *); grind)
       all_goals first
        |(have hpr := (by assumption : fG s ps ⟨id + (i : Int), al x.e 4, 0, s 0, from_ + pa, from_ + pa + 1 + pb, pc - s 9, min (s 10) ((1 + pd) * s 20), sl⟩ = true)
          conv => whnf
          refine Exists.intro (i + 1) (And.intro ⟨hlt_i, h5⟩ (And.intro (by omega) (ag ?_ ?_)))
          ·refine And.intro (congrArg some (am (by omega))) (And.intro (congrArg (fun z => some (AV.sl (.id 11) 9 z)) ?_) ?_)
           ·rw [hon, hmk, if_pos hpr, List.map_append]; rfl
           ·repeat' (first | exact trivial | refine And.intro rfl ?_)
          ·repeat' (first | exact trivial | refine And.intro rfl ?_))
        |(have hpr := (by assumption : fG s ps _ = false)
          conv => whnf
          refine Exists.intro (i + 1) (And.intro ⟨hlt_i, h5⟩ (And.intro (by omega) (ag ?_ ?_)))
          ·refine And.intro (congrArg some (am (by omega))) (And.intro (congrArg (fun z => some (AV.sl (.id 11) 9 z)) ?_) ?_)
           ·rw [hon, hmk, if_neg (by rw [hpr]; simp), List.append_nil]
           ·repeat' (first | exact trivial | refine And.intro rfl ?_)
          ·repeat' (first | exact trivial | refine And.intro rfl ?_))
      ·have bbk : decide ((k : Int) < ((ps.map aI).length : Int)) = true → False := fun h => by have := of_decide_eq_true h; simp at this; omega
       have he : k = ps.length := by omega
       have hmk : mj s ps from_ (id + i) x = ⟨id + (i : Int), al x.e 4, 0, s 0, from_ + pa, from_ + pa + 1 + pb, pc - s 9, min (s 10) ((1 + pd) * s 20), sl⟩ := by rw [hmkv, ← he, ← hr]
       repeat' first|exact (bbk (by assumption)).elim|refine Q1 ?_|refine Q2 ?_|refine Q3 hG aa aZ ?_|refine Q4 hG aa aZ ?_|refine Q5 hG aa ?_|refine Q6 hG aa ?_|refine Q7 hG aa ?_|refine Q8 hG aa ?_|refine Q9 rfl ?_|refine QF rfl ?_|refine QC rfl ⟨fun h => ?_,fun h => ?_⟩|((conv => whnf); first|refine anF ?_|refine anT ?_|refine anK ?_|refine Exists.intro _ (And.intro (cP) ?_)|refine And.intro (show (((dg s ps from_ id z i).map aD).length + 1) * 88 ≤ 70368744177664 by rw [List.length_map]; omega) (And.intro (show ((dg s ps from_ id z i).map aD).length + 1 ≤ 4611686018427387904 by rw [List.length_map]; omega) ?_)|refine And.intro (fun h => ?_) (fun h => ?_)|refine Or.inl ?_)
       all_goals first
        |(have hpr := (by assumption : fG s ps ⟨id + (i : Int), al x.e 4, 0, s 0, from_ + pa, from_ + pa + 1 + pb, pc - s 9, min (s 10) ((1 + pd) * s 20), sl⟩ = true)
          conv => whnf
          refine Exists.intro (i + 1) (And.intro ⟨hlt_i, h5⟩ (And.intro (by omega) (ag ?_ ?_)))
          ·refine And.intro (congrArg some (am (by omega))) (And.intro (congrArg (fun z => some (AV.sl (.id 11) 9 z)) ?_) ?_)
           ·rw [hon, hmk, if_pos hpr, List.map_append]; rfl
           ·repeat' (first | exact trivial | refine And.intro rfl ?_)
          ·repeat' (first | exact trivial | refine And.intro rfl ?_))
        |(have hpr := (by assumption : fG s ps _ = false)
          conv => whnf
          refine Exists.intro (i + 1) (And.intro ⟨hlt_i, h5⟩ (And.intro (by omega) (ag ?_ ?_)))
          ·refine And.intro (congrArg some (am (by omega))) (And.intro (congrArg (fun z => some (AV.sl (.id 11) 9 z)) ?_) ?_)
           ·rw [hon, hmk, if_neg (by rw [hpr]; simp), List.append_nil]
           ·repeat' (first | exact trivial | refine And.intro rfl ?_)
          ·repeat' (first | exact trivial | refine And.intro rfl ?_))
   ·have b2 : decide ((i : Int) < 5) = true → False := fun h => by have := of_decide_eq_true h; omega
    have b1 : decide ((i : Int) < ((z.map jA).length : Int)) = false → False := fun h => by have := of_decide_eq_false h; omega
    have he : i = 5 := by omega
    subst he
    repeat' first|exact (b1 (by assumption)).elim|exact (b2 (by assumption)).elim|refine Q1 ?_|refine Q2 ?_|refine Q3 hG aa aZ ?_|refine Q4 hG aa aZ ?_|refine Q5 hG aa ?_|refine Q6 hG aa ?_|refine Q7 hG aa ?_|refine Q8 hG aa ?_|refine Q9 rfl ?_|refine QF rfl ?_|refine QC rfl ⟨fun h => ?_,fun h => ?_⟩|((conv => whnf); first|refine anF ?_|refine anT ?_|refine anK ?_|refine And.intro (fun h => ?_) (fun h => ?_)|refine Or.inl ?_)
    exact Ends.mk (Or.inl rfl) (ac (by rw [x4, Nat.min_eq_right (by omega)]; rfl))
  ·have b1 : decide ((i : Int) < ((z.map jA).length : Int)) = true → False := fun h => by have := of_decide_eq_true h; omega
   have he : i = z.length := by omega
   repeat' first|exact (b1 (by assumption)).elim|refine Q1 ?_|refine Q2 ?_|refine Q3 hG aa aZ ?_|refine Q4 hG aa aZ ?_|refine Q5 hG aa ?_|refine Q6 hG aa ?_|refine Q7 hG aa ?_|refine Q8 hG aa ?_|refine Q9 rfl ?_|refine QF rfl ?_|refine QC rfl ⟨fun h => ?_,fun h => ?_⟩|((conv => whnf); first|refine anF ?_|refine anT ?_|refine anK ?_|refine And.intro (fun h => ?_) (fun h => ?_)|refine Or.inl ?_)
   exact Ends.mk (Or.inl rfl) (ac (by rw [x4, Nat.min_eq_left (by omega), ← he]; rfl))
end Go.Proofs
namespace Go.Proofs
open Go Go.AI
structure bR where
 x : Nat → Int
 y : Nat → Int
 z : List (Int × Int × Int)
 v : List R5
 from_ : Int
 hx : ∀ i, inI (x i)
 hy : ∀ i, inI (y i)
 hz : ∀ r ∈ z, qQ r
 hv : ∀ r ∈ v, u8 r
 hf : inI from_
namespace bR
def s (c : bR) : Nat → Int := Ek c.x c.y
def a (c : bR) : Int := al c.from_ 5000
def b (c : bR) : Int := c.a + 200
def ps (c : bR) : List aG := gX (c.s 0) c.a c.z
def l (c : bR) : List Opt := x4 c.s c.ps c.a 10 c.v
def bc (c : bR) : jJ := ⟨c.x, c.y, [], c.from_, 0, c.hx, c.hy, by simp, c.hf, by unfold inI; omega⟩
end bR
theorem bR.sat (c : bR) : dR c.s = true := c.bc.sat
theorem bR.s0 (c : bR) : c.s 0 = 3 := by show al 3 24 = 3; decide
theorem bR.rng (c : bR) : 0 ≤ c.a ∧ c.a < 5000 := aM c.hf (n := 5000) (by omega)
theorem bR.passes (c : bR) : dq c.ps = true ∧ c.ps.length ≤ 6 ∧ ∀ p ∈ c.ps, c.a ≤ p.sa ∧ p.sa < p.sb ∧ p.sb ≤ c.a + 186 :=
 yL (by rw [c.s0]; omega) (by have := c.rng; omega) c.hz
theorem EY {s : Nat → Int} (h : dR s = true) : (0 ≤ s 9 ∧ s 9 ≤ 4) ∧ (1 ≤ s 10 ∧ s 10 ≤ 1000000) ∧ (1 ≤ s 20 ∧ s 20 ≤ 1000) ∧ (0 ≤ s 19 ∧ s 19 ≤ 60) ∧ (1 ≤ s 11 ∧ s 11 ≤ 1000000) ∧ (1 ≤ s 18 ∧ s 18 ≤ 1000000) ∧ (0 ≤ s 17 ∧ s 17 ≤ 10000) ∧ (0 ≤ s 16 ∧ s 16 ≤ 10000) := by
 simp only [dR, inS, Bool.and_eq_true, decide_eq_true_eq] at h
 omega
theorem bR.optH (c : bR) : E8 c.s c.ps c.a 10 := by
 obtain ⟨h1, h2, h3, _⟩ := EY c.sat
 have hr := c.rng
 obtain ⟨p1, p2, p3⟩ := c.passes
 exact ⟨h1, h2, h3, by omega, by omega, by omega, fun p hp => by have := p3 p hp; omega⟩
theorem lv {s : Nat → Int} {ps : List aG} {a b : Int} : ∀ (l pre : List Opt), dh s ps a b pre l = true ↔ (∀ o ∈ l, cu s o ps = true ∧ a ≤ o.a ∧ dT o ≤ b) ∧ l.Pairwise (fun x y => x.id ≠ y.id) ∧ ∀ p ∈ pre, ∀ o ∈ l, p.id ≠ o.id
 | [], pre => by simp [dh]
 | x :: r, pre => by
  rw [dh, Bool.and_eq_true, lv r (pre ++ [x]), iD]
  simp only [Bool.and_eq_true, Bool.not_eq_true', decide_eq_false_iff_not, List.any_eq_false, beq_iff_eq, List.mem_cons, List.pairwise_cons, forall_eq_or_imp, List.mem_append, List.not_mem_nil, or_false]
  constructor
  ·rintro ⟨⟨⟨⟨g1, g2⟩, g3⟩, g4⟩, g5, g6, g7⟩
   exact ⟨⟨⟨g1, by omega, by omega⟩, g5⟩, ⟨fun y hy => g7 x (.inr rfl) y hy, g6⟩, fun p hp => ⟨fun e => g4 p hp e, fun y hy => g7 p (.inl hp) y hy⟩⟩
  ·rintro ⟨⟨⟨g1, g2, g3⟩, g5⟩, ⟨g6, g7⟩, g8⟩
   refine ⟨⟨⟨⟨g1, by omega⟩, by omega⟩, fun p hp e => (g8 p hp).1 e⟩, g5, g7, fun p hp y hy => ?_⟩
   rcases hp with hp | rfl
   ·exact (g8 p hp).2 y hy
   ·exact g6 y hy
theorem yE {s : Nat → Int} {l : List Opt} {ps : List aG} {a b : Int} : bD s l ps a b = true ↔ l.length ≤ 8 ∧ (0 ≤ a ∧ a < b ∧ b ≤ 1000000) ∧ b - a ≤ 3000 ∧ dR s = true ∧ dq ps = true ∧ (∀ o ∈ l, cu s o ps = true ∧ a ≤ o.a ∧ dT o ≤ b) ∧ l.Pairwise fun x y => x.id ≠ y.id := by
 constructor
 ·intro h
  obtain ⟨h1, h2, h3, h4, h5, h6⟩ := s9 h
  obtain ⟨g1, g2, _⟩ := (lv l []).1 h6
  exact ⟨h1, h2, h3, h4, h5, g1, g2⟩
 ·rintro ⟨h1, h2, h3, h4, h5, h6, h7⟩
  simp only [bD, Bool.and_eq_true, decide_eq_true_eq, Bool.not_eq_true', decide_eq_false_iff_not]
  rw [ai (by omega) (by omega)]
  exact ⟨⟨⟨⟨⟨h1, dG.2 h2⟩, by omega⟩, h4⟩, h5⟩, (lv l []).2 ⟨h6, h7, fun p hp => nomatch hp⟩⟩
theorem qo {s : Nat → Int} {ps : List aG} {z m : Int} (hp : ∀ p ∈ ps, p.sb ≤ m) (hl : ps.length ≤ 64) : ∀ (l : List bl) (t : Int), bS s ps z t l = true → ∀ x ∈ l, x.b ≤ m
 | [], _, _, x, hx => nomatch hx
 | y :: r, t, h, x, hx => by
  simp only [bS, gm, Bool.and_eq_true, inS, decide_eq_true_eq] at h
  rcases List.mem_cons.1 hx with rfl | hx
  ·have h1 := h.1.1
   rw [ai (by omega) (by omega)] at h1
   have hlt : x.p.toNat < ps.length := by omega
   have h2 := h.1.2.1.1.2
   rw [dS hlt] at h2
   have := hp _ (List.getElem_mem hlt)
   omega
  ·exact qo hp hl r _ h.2 x hx
theorem zj {s : Nat → Int} {o : Opt} {ps : List aG} {m : Int} (hp : ∀ p ∈ ps, p.sb ≤ m) (hl : ps.length ≤ 64) (h : cu s o ps = true) : dT o ≤ m := by
 have hn := qY h
 have hs : bS s ps o.size o.b o.sl = true := by simp only [cu, Bool.and_eq_true] at h; exact h.2
 refine qo hp hl o.sl _ hs _ ?_
 unfold fM
 rw [List.getD_eq_getElem?_getD, List.getElem?_eq_getElem (by omega)]
 exact List.getElem_mem _
theorem lr {s : Nat → Int} {ps : List aG} {from_ id : Int} {z : List R5} (hz : ∀ x ∈ z, u8 x) : ∀ i, i ≤ z.length → ∀ o ∈ dg s ps from_ id z i, fG s ps o = true ∧ from_ ≤ o.a ∧ id ≤ o.id ∧ o.id < id + i
 | 0, _, o, ho => nomatch ho
 | i + 1, hi, o, ho => by
  rw [dg, List.mem_append] at ho
  rcases ho with ho | ho
  ·have := lr hz i (by omega) o ho
   exact ⟨this.1, this.2.1, this.2.2.1, by omega⟩
  ·split at ho
   ·rename_i hp
    rw [List.mem_singleton.1 ho]
    have hx : u8 (z.getD i r50) := hz _ (by rw [List.getD_eq_getElem?_getD, List.getElem?_eq_getElem (show i < z.length by omega)]; exact List.getElem_mem _)
    have p1 := aM hx.1 (n := 40) (by omega)
    exact ⟨hp, by show from_ ≤ from_ + _; omega, by show id ≤ id + (i : Int); omega, by show id + (i : Int) < _; omega⟩
   ·cases ho
theorem qv {s : Nat → Int} {ps : List aG} {from_ id : Int} {z : List R5} (hz : ∀ x ∈ z, u8 x) : ∀ i, i ≤ z.length → (dg s ps from_ id z i).Pairwise fun x y => x.id ≠ y.id
 | 0, _ => .nil
 | i + 1, hi => by
  rw [dg, List.pairwise_append]
  refine ⟨qv hz i (by omega), by split <;> simp, fun x hx y hy => ?_⟩
  have := lr hz i (by omega) x hx
  split at hy
  ·rw [List.mem_singleton.1 hy]
   show x.id ≠ id + (i : Int)
   omega
  ·cases hy
theorem bR.len (c : bR) : c.l.length ≤ 5 := Nat.le_trans (ls _ _ _ _ _ _) (Nat.min_le_right _ _)
theorem bR.valid (c : bR) : bD c.s c.l c.ps c.a c.b = true := by
 obtain ⟨p1, p2, p3⟩ := c.passes
 have hr := c.rng
 have hl := c.len
 refine yE.2 ⟨by omega, by unfold bR.b; omega, by unfold bR.b; omega, c.sat, p1, fun o ho => ?_, qv c.hv _ (Nat.min_le_left _ _)⟩
 obtain ⟨h1, h2, _⟩ := lr c.hv _ (Nat.min_le_left _ _) o ho
 have hf : cu c.s o c.ps = true := by simp only [fG, Bool.and_eq_true] at h1; exact h1.2
 refine ⟨hf, h2, zj (fun p hp => ?_) (by omega) hf⟩
 have := p3 p hp
 unfold bR.b; omega
end Go.Proofs
namespace Go.Proofs
open Go Go.AI
structure wk (s : Nat → Int) (l : List Opt) (a b : Int) : Prop where
 good : ep l
 fit : ∀ o ∈ l, DU s o b
 chk : rL s l a b
 sat : dR s = true
 rng : (0 ≤ a ∧ a < b ∧ b ≤ 1000000) ∧ b - a ≤ 3000
theorem wk.of {s : Nat → Int} {l : List Opt} {ps : List aG} {a b : Int} (h : bD s l ps a b = true) : wk s l a b := by
 obtain ⟨h1, h2, h3⟩ := rL.of h
 obtain ⟨g1, g2, g3, g4, _⟩ := s9 h
 exact ⟨h2, h3, h1, g4, g2, g3⟩
theorem wk.span {s : Nat → Int} {l : List Opt} {a b : Int} (h : wk s l a b) : ∀ o ∈ l, 0 ≤ o.a ∧ o.a < dT o := fun o ho => by
 have := h.fit o ho
 have h1 := this.shot
 have h2 := this.last
 omega
end Go.Proofs
namespace Go.Proofs
open Go Go.AI
set_option maxRecDepth 10000
def vv (c : bR) : List AV := [.int .i64 (c.x 0), .int .i64 (c.x 1), .int .i64 (c.x 2), .int .i64 (c.x 3), .int .i64 (c.x 4), .int .i64 (c.x 5), .int .i64 (c.x 6), .int .i64 (c.y 0), .int .i64 (c.y 1), .int .i64 (c.y 2), .int .i64 (c.y 3), .sl .no 3 (c.z.map jB), .sl .no 5 (c.v.map jA), .int .i64 c.from_]
theorem Ah (c : bR) : ae Tryz.prog 18 [.agg (vv c)] (.tup [.agg (aJ c.s), aB c.ps, ay c.l, .agg (ar c.a c.b)]) := by
 have cA : ae Tryz.prog 20 [.int .i64 c.from_, .int .i64 5000] (.int .i64 c.a) := lJ _ _ (by decide)
 have cS : ae Tryz.prog 69 [.int .i64 3, .agg (iu c.x), .agg (i4A c.y)] (.agg (aJ c.s)) := CK c.x c.y (Dz c.hx)
 have hr := c.rng
 have cP : ae Tryz.prog 70 [.int .i64 (c.s 0), .int .i64 c.a, .sl .no 3 (c.z.map jB)] (aB c.ps) := vN _ _ _ (by rw [c.s0]; omega) (by omega) c.hz
 have cO : ae Tryz.prog 71 [.agg (aJ c.s), aB c.ps, .int .i64 c.a, .int .i64 10, .sl .no 5 (c.v.map jA)] (ay c.l) := tY c.s c.ps c.a 10 c.v c.optH c.hv
 have hb : IntKind.i64.wrap (c.a + 200) = c.b := ai (by omega) (by omega)
 generalize c.b = b at *
 generalize c.a = a at *
 generalize c.s = s at *
 generalize c.ps = ps at *
 generalize c.l = l at *
 refine ah aa Tryz.func18 rfl (by kernel_rfl) af (Nat.le_of_ble_eq_true rfl) ?_
 intro F n' w0 m0 hG hro h1
 repeat' first|refine Q1 ?_|refine Q2 ?_|refine Q3 hG aa pO ?_|refine Q4 hG aa pO ?_|refine Q5 hG aa ?_|refine Q6 hG aa ?_|refine Q7 hG aa ?_|refine Q8 hG aa ?_|refine Q9 rfl ?_|refine QF rfl ?_|refine QC rfl ⟨fun h => ?_,fun h => ?_⟩|((conv => whnf); first|refine anF ?_|refine anT ?_|refine anK ?_|refine Exists.intro _ (And.intro (cA) ?_)|refine Exists.intro _ (And.intro (cS) ?_)|refine Exists.intro _ (And.intro (cP) ?_)|refine Exists.intro _ (And.intro (cO) ?_)|refine And.intro (fun h => ?_) (fun h => ?_)|refine Or.inl ?_)
 all_goals exact Ends.mk (Or.inl rfl) (ac (congrArg (fun z => AV.tup [.agg (aJ s), aB ps, ay l, .agg (ar a z)]) hb))
theorem AV.weak.tup {cs ds : List AV} (h : ig cs ds) : (AV.tup cs).weak (.tup ds) := by
 intro m v hv
 cases hv with
 | tup _ vs hl hr =>
  obtain ⟨h1, h2⟩ := h.spec
  refine .tup ds vs (by omega) fun i x u g1 g2 => ?_
  have hi : i < cs.length := by rw [h1]; exact (List.getElem?_eq_some_iff.1 g1).1
  exact h2 i _ x (List.getElem?_eq_getElem hi) g1 m u (hr i _ u (List.getElem?_eq_getElem hi) g2)
inductive sO : List (List AV) → List (List AV) → Prop
 | nil : sO [] []
 | cons {x y : List AV} {xs ys : List (List AV)} (h : ig x y) (t : sO xs ys) : sO (x :: xs) (y :: ys)
theorem sO.spec {xs ys : List (List AV)} (h : sO xs ys) : xs.length = ys.length ∧ ∀ (i : Nat) (y : List AV), ys[i]? = some y → ∃ x, xs[i]? = some x ∧ ig x y := by
 induction h with
 | nil => exact ⟨rfl, by simp⟩
 | cons h t ih =>
  refine ⟨by simp [ih.1], fun i y hy => ?_⟩
  cases i with
  | zero => simp at hy; subst hy; exact ⟨_, rfl, h⟩
  | succ i => obtain ⟨x, h1, h2⟩ := ih.2 i y (by simpa using hy); exact ⟨x, by simpa using h1, h2⟩
theorem AV.weak.rows {o : Go.AI.Own} {sz : Nat} {xs ys : List (List AV)} (h : sO xs ys) (hc : ∀ y ∈ ys, ∀ c ∈ y, AV.isCell c = true) : (AV.sl o sz xs).weak (.sl .no sz ys) := by
 intro m v hv
 cases hv with
 | sl _ _ _ base len cap ho hf hl hcap hsz hcell b off hb g hm hr =>
  obtain ⟨e1, e2⟩ := h.spec
  have key : ∀ {i : Nat} {y : List AV} {j : Nat} {c : AV}, ys[i]? = some y → y[j]? = some c → ∃ x d, xs[i]? = some x ∧ x[j]? = some d ∧ d.weak c := by
   intro i y j c h1 h2
   obtain ⟨x, h3, h4⟩ := e2 i y h1
   obtain ⟨q1, q2⟩ := h4.spec
   have hj : j < x.length := by rw [q1]; exact (List.getElem?_eq_some_iff.1 h2).1
   exact ⟨x, _, h3, List.getElem?_eq_getElem hj, q2 j _ c (List.getElem?_eq_getElem hj) h2⟩
  refine .sl _ _ _ base len cap (by intro k hk; cases hk) (by intro hk; cases hk) (by omega) hcap (fun y hy => ?_) hc b off hb g (fun i y j c h1 h2 => ?_) (fun i y j c h1 h2 => ?_)
  ·obtain ⟨i, hi⟩ := List.mem_iff_getElem?.1 hy
   obtain ⟨x, h3, h4⟩ := e2 i y hi
   rw [← h4.spec.1]
   exact hsz x (List.mem_of_getElem? h3)
  ·obtain ⟨x, d, h3, h4, _⟩ := key h1 h2
   exact hm i x j d h3 h4
  ·obtain ⟨x, d, h3, h4, h5⟩ := key h1 h2
   exact h5 m _ (hr i x j d h3 h4)
def txS (i : Nat) : Int := match i with
 | 2 => 2000 | 4 => 11000 | 5 => 13000 | 7 => -33 | 9 => 2 | 10 => 10 | 11 => 1000 | 12 => 10 | 13 => 4 | 14 => 20 | 15 => 9 | 16 => 5 | 17 => 1 | 18 => 100 | 19 => 3 | 20 => 2 | _ => 0
def txP : List aG := [⟨0, 0, 20, 30, 20, 30⟩, ⟨0, 0, 50, 60, 50, 60⟩]
def ww : List bl := [⟨0, 20, 23⟩, ⟨1, 50, 53⟩]
def tx1 : Opt := ⟨4, 0, 0, 0, 5, 8, 1, 6, ww⟩
def tx2 : Opt := ⟨5, 0, 0, 0, 10, 12, 2, 6, ww⟩
def txF : List Flt := [⟨2, 4, 5, 10⟩, ⟨4, 0, 0, 10⟩, ⟨6, 4, 5, 20⟩]
def txD : List aq := [⟨1, 5, 8⟩, ⟨1, 10, 12⟩, ⟨2, 20, 23⟩, ⟨2, 50, 53⟩]
set_option maxHeartbeats 4000000 in
theorem rF : ae Tryz.prog 68 [] (.tup [.agg (aJ txS), aB txP, ay [tx1, tx2]]) := by
 refine ah aa Tryz.func68 rfl (by kernel_rfl) af (Nat.le_of_ble_eq_true rfl) ?_
 intro F n' w0 m0 hG hro h1
 repeat' first|refine Q1 ?_|refine Q2 ?_|refine Q3 hG aa dv ?_|refine Q4 hG aa dv ?_|refine Q5 hG aa ?_|refine Q6 hG aa ?_|refine Q7 hG aa ?_|refine Q8 hG aa ?_|refine Q9 rfl ?_|refine QF rfl ?_|refine QC rfl ⟨fun h => ?_,fun h => ?_⟩|((conv => whnf); first|refine anF ?_|refine anT ?_|refine anK ?_|refine And.intro (Nat.le_of_ble_eq_true rfl) (And.intro (Nat.le_of_ble_eq_true rfl) ?_)|refine And.intro (fun h => ?_) (fun h => ?_)|refine Or.inl ?_)
 refine ap (X := Nat) (fun j => ⟨[(14, .int .i64 j), (13, .int .i64 2), (12, .sl .full 1 [[.int .i64 20], [.int .i64 50]]), (4, .sl (.id 4) 6 ((txP.take j).map aI)), (3, .loc 3 0), (0, .loc 0 0)], [(3, aJ txS), (0, aJ fun _ => 0)]⟩) (fun j => j ≤ 2) (fun j => 2 - j) 0 (Nat.zero_le _) (ag ?_ ?_) (fun j hj => ?_)
 ·repeat' (first | exact trivial | refine And.intro rfl ?_)
 ·repeat' (first | exact trivial | refine And.intro rfl ?_)
 ·obtain rfl | rfl | rfl : j = 0 ∨ j = 1 ∨ j = 2 := by omega
  ·have b : decide (((0 : Nat) : Int) < 2) = false → False := fun h => by simp at h
   repeat' first|exact (b (by assumption)).elim|refine Q1 ?_|refine Q2 ?_|refine Q3 hG aa dv ?_|refine Q4 hG aa dv ?_|refine Q5 hG aa ?_|refine Q6 hG aa ?_|refine Q7 hG aa ?_|refine Q8 hG aa ?_|refine Q9 rfl ?_|refine QF rfl ?_|refine QC rfl ⟨fun h => ?_,fun h => ?_⟩|((conv => whnf); first|refine anF ?_|refine anT ?_|refine anK ?_|refine And.intro (of_decide_eq_true (Eq.refl true)) (Exists.intro _ (And.intro rfl ?_))|refine And.intro (Nat.le_of_ble_eq_true rfl) (And.intro (Nat.le_of_ble_eq_true rfl) ?_)|refine And.intro (fun h => ?_) (fun h => ?_)|refine Or.inl ?_)
   refine Exists.intro 1 (And.intro (by decide) (And.intro (by decide) (ag ?_ ?_)))
   ·repeat' (first | exact trivial | refine And.intro rfl ?_)
   ·repeat' (first | exact trivial | refine And.intro rfl ?_)
  ·have b : decide (((1 : Nat) : Int) < 2) = false → False := fun h => by simp at h
   repeat' first|exact (b (by assumption)).elim|refine Q1 ?_|refine Q2 ?_|refine Q3 hG aa dv ?_|refine Q4 hG aa dv ?_|refine Q5 hG aa ?_|refine Q6 hG aa ?_|refine Q7 hG aa ?_|refine Q8 hG aa ?_|refine Q9 rfl ?_|refine QF rfl ?_|refine QC rfl ⟨fun h => ?_,fun h => ?_⟩|((conv => whnf); first|refine anF ?_|refine anT ?_|refine anK ?_|refine And.intro (of_decide_eq_true (Eq.refl true)) (Exists.intro _ (And.intro rfl ?_))|refine And.intro (Nat.le_of_ble_eq_true rfl) (And.intro (Nat.le_of_ble_eq_true rfl) ?_)|refine And.intro (fun h => ?_) (fun h => ?_)|refine Or.inl ?_)
   refine Exists.intro 2 (And.intro (by decide) (And.intro (by decide) (ag ?_ ?_)))
   ·repeat' (first | exact trivial | refine And.intro rfl ?_)
   ·repeat' (first | exact trivial | refine And.intro rfl ?_)
  ·have b : decide (((2 : Nat) : Int) < 2) = true → False := fun h => by simp at h
   repeat' first|exact (b (by assumption)).elim|refine Q1 ?_|refine Q2 ?_|refine Q3 hG aa dv ?_|refine Q4 hG aa dv ?_|refine Q5 hG aa ?_|refine Q6 hG aa ?_|refine Q7 hG aa ?_|refine Q8 hG aa ?_|refine Q9 rfl ?_|refine QF rfl ?_|refine QC rfl ⟨fun h => ?_,fun h => ?_⟩|((conv => whnf); first|refine anF ?_|refine anT ?_|refine anK ?_|refine And.intro (Nat.le_of_ble_eq_true rfl) (And.intro (Nat.le_of_ble_eq_true rfl) ?_)|refine And.intro (fun h => ?_) (fun h => ?_)|refine Or.inl ?_)
   have hs : ∀ (l : List AV), ig (l ++ [.sl .full 3 (ww.map aL)]) (l ++ [.sl .no 3 (ww.map aL)]) := fun l => by
    induction l with
    | nil => exact .cons AV.weak.sl .nil
    | cons x r ih => exact .cons (.refl _) ih
   have hw : (AV.tup [.agg (aJ txS), aB txP, .sl .full 9 [[.int .i64 tx1.id, .int .i64 tx1.ord, .int .i64 tx1.cl, .int .i64 tx1.sat, .int .i64 tx1.a, .int .i64 tx1.b, .int .i64 tx1.look, .int .i64 tx1.size, .sl .full 3 (ww.map aL)], [.int .i64 tx2.id, .int .i64 tx2.ord, .int .i64 tx2.cl, .int .i64 tx2.sat, .int .i64 tx2.a, .int .i64 tx2.b, .int .i64 tx2.look, .int .i64 tx2.size, .sl .full 3 (ww.map aL)]]]).weak (.tup [.agg (aJ txS), aB txP, ay [tx1, tx2]]) := by
    refine AV.weak.tup (.cons (.refl _) (.cons (.refl _) (.cons (AV.weak.rows (ys := [aD tx1, aD tx2]) (.cons (hs [_, _, _, _, _, _, _, _]) (.cons (hs [_, _, _, _, _, _, _, _]) .nil)) ?_) .nil)))
    intro y hy c hc
    simp only [List.mem_cons, List.not_mem_nil, or_false] at hy
    rcases hy with rfl | rfl <;> (simp only [aD, List.mem_cons, List.not_mem_nil, or_false] at hc; rcases hc with rfl | rfl | rfl | rfl | rfl | rfl | rfl | rfl | rfl <;> rfl)
   refine Ends.mk (Or.inl rfl) ?_
   exact hw
end Go.Proofs
namespace Go.Proofs
open Go Go.AI
set_option maxRecDepth 10000
def Ev (o : Nat → Int) (t : Int) : Bool := atS o t 0 && !kh (fa o (w64 t)) t
theorem sA {s : Nat → Int} (h : dJ s 6 = 0) (l : List aq) (a b : Int) : ek s l a b = dI a (fun i => Br s l (Ev (dJ s) (a + (i : Int))) (a + (i : Int))) (b - a).toNat := by
 unfold ek
 have e : (fun i : Nat => jL s l (a + (i : Int))) = fun i : Nat => Br s l (Ev (dJ s) (a + (i : Int))) (a + (i : Int)) := funext fun i => by
  unfold jL Ev; rw [Bv h]
 show dI a (fun i : Nat => jL s l (a + (i : Int))) _ = _
 rw [e]
def EU : List aq := [⟨1, 5, 8⟩, ⟨2, 20, 23⟩, ⟨2, 50, 53⟩]
theorem AU : bD txS [tx1] txP 0 100 = true := by kernel_rfl
theorem uv : bD txS [tx1, tx2] txP 0 100 = true := by kernel_rfl
theorem EM : bD txS [tx1, tx2] [] 0 100 = false := by kernel_rfl
theorem EL : bD txS [tx1, tx1] txP 0 100 = false := by kernel_rfl
theorem EP : aC [tx1] = EU := (rL.of AU).2.1.ref.symm.trans (by kernel_rfl)
theorem DY : aC [tx1, tx2] = txD := (rL.of uv).2.1.ref.symm.trans (by kernel_rfl)
theorem ET : gK txS EU 0 100 = -1 := by
 unfold gK; rw [sA rfl]; kernel_rfl
theorem ES : gK txS txD 0 100 = -1 := by
 unfold gK; rw [sA rfl]; kernel_rfl
theorem EO : tc txS [tx1] = -1 := by
 have h := wk.of AU
 refine (wL (By h.span) (fun x hx => ?_) (store := txS 10) (f := -1) (by decide) (.inl ⟨rfl, fun x hx => ?_⟩)).symm
 ·rw [List.mem_singleton.1 hx]; decide
 ·rw [List.mem_singleton.1 hx]; exact of_decide_eq_true (by kernel_rfl)
theorem EN : tc txS [tx1, tx2] = 10 := by
 have h := wk.of uv
 have hm : ∀ x ∈ aV [tx1, tx2], x = ⟨4, 6, 5, 53⟩ ∨ x = ⟨5, 6, 10, 53⟩ := fun x hx => by
  rcases List.mem_cons.1 hx with rfl | hx
  ·exact .inl rfl
  ·exact .inr (List.mem_singleton.1 hx)
 refine (wL (By h.span) (fun x hx => ?_) (store := txS 10) (f := 10) (by decide) (.inr ⟨⟨⟨5, 6, 10, 53⟩, by simp [aV, tx1, tx2, ww, dT, fM], rfl, of_decide_eq_true (by kernel_rfl)⟩, fun y hy hg => ?_⟩)).symm
 ·rcases hm x hx with rfl | rfl <;> decide
 ·rcases hm y hy with rfl | rfl
  ·exact absurd hg (of_decide_eq_false (by kernel_rfl))
  ·exact Int.le_refl _
theorem ER : ew txS [tx1] 0 100 = [] := by
 rw [sF, show kT txS [tx1] = none from by kernel_rfl, show va txS [tx1] 0 100 = none from by kernel_rfl, show jX [tx1] = none from by kernel_rfl, qn, EO, mJ, EP, ET]
 rfl
theorem EQ : ew txS [tx1, tx2] 0 100 = txF := by
 rw [sF, show kT txS [tx1, tx2] = some ⟨2, 4, 5, 10⟩ from by kernel_rfl, show va txS [tx1, tx2] 0 100 = none from by kernel_rfl, show jX [tx1, tx2] = some ⟨6, 4, 5, 20⟩ from by kernel_rfl, qn, EN, mJ, DY, ES]
 rfl
set_option maxHeartbeats 8000000 in
theorem vG : ae Tryz.prog 17 [] (.bool true) := by
 have q1 := jx txS [tx1] txP 0 100 (Nat.le_of_ble_eq_true rfl) AU
 rw [ER, show ay [tx1] = .sl .no 9 (List.drop 0 (List.take (Int.toNat 1) (List.map aD [tx1, tx2]))) from rfl] at q1
 have q2 := jx txS [tx1, tx2] txP 0 100 (Nat.le_of_ble_eq_true rfl) uv
 rw [EQ] at q2
 have hsl : gV [tx1, tx2] := (rL.of uv).1.sl
 have q3 : ae Tryz.prog 21 [.agg (aJ txS), ay [tx1, tx2], .sl .full 0 [], .agg (ar 0 100)] (.tup [hU [], .int .i64 190]) := (ld txS [tx1, tx2] [] 0 100 (Nat.le_of_ble_eq_true rfl) hsl (Nat.le_of_ble_eq_true rfl) EM).weak (.cons (.refl _) (.cons (.refl _) (.cons AV.weak.slnil (.refl _))))
 have q4 : ae Tryz.prog 25 [hU txF, .sl .full 4 (txF.map br)] (.bool true) := by
  have h := (jH txF txF (Nat.le_of_ble_eq_true rfl)).sl1 (o := .full)
  rw [decide_eq_true rfl] at h
  exact h
 have q5 := lK [tx1, tx2] (Nat.le_of_ble_eq_true rfl) hsl (Nat.le_of_ble_eq_true rfl)
 rw [DY] at q5
 have q6 : ae Tryz.prog 26 [bn txD, .sl .full 3 (txD.map aw)] (.bool true) := by
  have h := (kp txD txD (Nat.le_of_ble_eq_true rfl)).sl1 (o := .full)
  rw [decide_eq_true rfl] at h
  exact h
 have q7 := iO [tx1, tx2] (Nat.le_of_ble_eq_true rfl)
 have q8 := ku txS tx1 txP (Nat.le_of_ble_eq_true rfl) (Nat.le_of_ble_eq_true rfl)
 rw [show (dR txS && dq txP && cu txS tx1 txP) = true from by kernel_rfl] at q8
 have q9 := ku txS tx1 (txP.take 1) (Nat.le_of_ble_eq_true rfl) (Nat.le_of_ble_eq_true rfl)
 rw [show (dR txS && dq (txP.take 1) && cu txS tx1 (txP.take 1)) = false from by kernel_rfl, show aB (txP.take 1) = .sl .no 6 (List.drop 0 (List.take (Int.toNat 1) (List.map aI txP))) from rfl] at q9
 have q10 := gM txS [tx1, tx2] txP 0 100 (Nat.le_of_ble_eq_true rfl) hsl (Nat.le_of_ble_eq_true rfl)
 rw [uv] at q10
 have q11 : ae Tryz.prog 23 [.agg (aJ txS), .sl .full 9 ([tx1, tx1].map aD), aB txP, .agg (ar 0 100)] (.bool false) := by
  have h := (gM txS [tx1, tx1] txP 0 100 (Nat.le_of_ble_eq_true rfl) (fun o ho => by rcases List.mem_cons.1 ho with rfl | ho; exact (Nat.le_of_ble_eq_true rfl); rw [List.mem_singleton.1 ho]; exact (Nat.le_of_ble_eq_true rfl)) (Nat.le_of_ble_eq_true rfl)).sl1 (o := .full)
  rw [EL] at h
  exact h
 refine ah aa Tryz.func17 rfl (by kernel_rfl) af (Nat.le_of_ble_eq_true rfl) ?_
 intro F n' w0 m0 hG hro h1
 repeat' first|refine Q1 ?_|refine Q2 ?_|refine Q3 hG aa pP ?_|refine Q4 hG aa pP ?_|refine Q5 hG aa ?_|refine Q6 hG aa ?_|refine Q7 hG aa ?_|refine Q8 hG aa ?_|refine Q9 rfl ?_|refine QF rfl ?_|refine QC rfl ⟨fun h => ?_,fun h => ?_⟩|((conv => whnf); first|refine anF ?_|refine anT ?_|refine anK ?_|refine And.intro (of_decide_eq_true (Eq.refl true)) (Exists.intro _ (And.intro rfl ?_))|refine Exists.intro _ (And.intro (rF) ?_)|refine Exists.intro _ (And.intro (q1) ?_)|refine Exists.intro _ (And.intro (q2) ?_)|refine Exists.intro _ (And.intro (q3) ?_)|refine Exists.intro _ (And.intro (q4) ?_)|refine Exists.intro _ (And.intro (q5) ?_)|refine Exists.intro _ (And.intro (q6) ?_)|refine Exists.intro _ (And.intro (q7) ?_)|refine Exists.intro _ (And.intro (q8) ?_)|refine Exists.intro _ (And.intro (q9) ?_)|refine Exists.intro _ (And.intro (q10) ?_)|refine Exists.intro _ (And.intro (q11) ?_)|refine And.intro (of_decide_eq_true (Eq.refl true)) (And.intro (of_decide_eq_true (Eq.refl true)) (And.intro (of_decide_eq_true (Eq.refl true)) ?_))|refine And.intro (of_decide_eq_true (Eq.refl true)) (And.intro (of_decide_eq_true (Eq.refl true)) ?_)|refine And.intro (of_decide_eq_true (Eq.refl true)) ?_|refine And.intro (fun h => ?_) (fun h => ?_)|refine Or.inl ?_)
 all_goals exact Ends.mk (Or.inl rfl) (ac rfl)
end Go.Proofs
