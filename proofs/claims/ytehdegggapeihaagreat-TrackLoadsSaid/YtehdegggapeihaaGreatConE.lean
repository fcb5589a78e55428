/- Contracts of the functions and plain facts about what they reckon, part 5: called with arguments that read so, each hands back what is typed. The conditions are those typed. -/
import Derived.Test.YtehdegggapeihaaGreatConD
set_option linter.unusedSectionVars false
set_option linter.unusedVariables false
set_option linter.unusedSimpArgs false
namespace Go.Proofs
open Go Go.AI
set_option maxRecDepth 10000
theorem Tryz.rin (n a b : Int) : ACalls Tryz.prog 99 [.int .i64 n, .int .i64 a, .int .i64 b] (.bool (inS n a b)) := by
  refine ACalls.ofB Tryz.T Tryz.func99 rfl (by kernel_rfl) Tryz.mixed (Nat.le_of_ble_eq_true rfl) ?_
  intro F n' w0 m0 hG hro h1
  repeat' first|refine Q1 ?_|refine Q2 ?_|refine Q3 hG Tryz.T Tryz.keep99 (by kernel_rfl) ?_|refine Q4 hG Tryz.T Tryz.keep99 (by kernel_rfl) ?_|refine Q5 hG Tryz.T ?_|refine Q6 hG Tryz.T ?_|refine Q7 hG Tryz.T ?_|refine Q8 hG Tryz.T ?_|refine Q9 rfl ?_|refine QF rfl ?_|refine QC rfl (And.intro (fun h => ?_) (fun h => ?_))|((conv => whnf); first|refine anF ?_|refine anT ?_|refine And.intro (by kernel_rfl) ?_|refine And.intro (fun h => ?_) (fun h => ?_)|refine Or.inl ?_|fail)
  all_goals refine Ends.mk (Or.inl rfl) (AV.weak.of_eq (congrArg AV.bool ?_))
  all_goals (clear hG; grind [inS])
theorem Tryz.rswath (o : Nat → Int) (a b k : Int) : ACalls Tryz.prog 100 [.agg (orbA o), .agg (spellA a b), .int .i64 k] (.bool (swathS o a b k)) := by
  refine ACalls.ofB Tryz.T Tryz.func100 rfl (by kernel_rfl) Tryz.mixed (Nat.le_of_ble_eq_true rfl) ?_
  intro F n' w0 m0 hG hro h1
  repeat' first|refine Q1 ?_|refine Q2 ?_|refine Q3 hG Tryz.T Tryz.keep100 (by kernel_rfl) ?_|refine Q4 hG Tryz.T Tryz.keep100 (by kernel_rfl) ?_|refine Q5 hG Tryz.T ?_|refine Q6 hG Tryz.T ?_|refine Q7 hG Tryz.T ?_|refine Q8 hG Tryz.T ?_|refine Q9 rfl ?_|refine QF rfl ?_|refine QC rfl (And.intro (fun h => ?_) (fun h => ?_))|((conv => whnf); first|refine anF ?_|refine anT ?_|refine And.intro (by kernel_rfl) ?_|refine Exists.intro _ (And.intro (Tryz.c18 o) ?_)|refine And.intro (fun h => ?_) (fun h => ?_)|refine Or.inl ?_|fail)
  all_goals refine Ends.mk (Or.inl rfl) (AV.weak.of_eq (congrArg AV.bool ?_))
  all_goals (clear hG; grind [swathS, isSpM, isSp, inS, w64])
theorem Tryz.rpick (c n : Int) (hn : n ≠ 0) : ACalls Tryz.prog 143 [.int .i64 c, .int .i64 n] (.int .i64 (pickS c n)) := by
  refine ACalls.ofB Tryz.T Tryz.func143 rfl (by kernel_rfl) Tryz.mixed (Nat.le_of_ble_eq_true rfl) ?_
  intro F n' w0 m0 hG hro h1
  repeat' first|refine Q1 ?_|refine Q2 ?_|refine Q3 hG Tryz.T Tryz.keep143 (by kernel_rfl) ?_|refine Q4 hG Tryz.T Tryz.keep143 (by kernel_rfl) ?_|refine Q5 hG Tryz.T ?_|refine Q6 hG Tryz.T ?_|refine Q7 hG Tryz.T ?_|refine Q8 hG Tryz.T ?_|refine Q9 rfl ?_|refine QF rfl ?_|refine QC rfl (And.intro (fun h => ?_) (fun h => ?_))|((conv => whnf); first|refine anF ?_|refine anT ?_|refine And.intro (by kernel_rfl) ?_|refine And.intro hn ?_|refine And.intro (fun h => ?_) (fun h => ?_)|refine Or.inl ?_|fail)
  all_goals refine Ends.mk (Or.inl rfl) (AV.weak.of_eq (congrArg (AV.int .i64) ?_))
  all_goals (simp_all [pickS, w64] <;> omega)
theorem Tryz.lpick (c n : Int) (hn : n ≠ 0) : ACalls Tryz.prog 20 [.int .i64 c, .int .i64 n] (.int .i64 (pickS c n)) := by
  refine ACalls.ofB Tryz.T Tryz.func20 rfl (by kernel_rfl) Tryz.mixed (Nat.le_of_ble_eq_true rfl) ?_
  intro F n' w0 m0 hG hro h1
  repeat' first|refine Q1 ?_|refine Q2 ?_|refine Q3 hG Tryz.T Tryz.keep20 (by kernel_rfl) ?_|refine Q4 hG Tryz.T Tryz.keep20 (by kernel_rfl) ?_|refine Q5 hG Tryz.T ?_|refine Q6 hG Tryz.T ?_|refine Q7 hG Tryz.T ?_|refine Q8 hG Tryz.T ?_|refine Q9 rfl ?_|refine QF rfl ?_|refine QC rfl (And.intro (fun h => ?_) (fun h => ?_))|((conv => whnf); first|refine anF ?_|refine anT ?_|refine And.intro (by kernel_rfl) ?_|refine And.intro hn ?_|refine And.intro (fun h => ?_) (fun h => ?_)|refine Or.inl ?_|fail)
  all_goals refine Ends.mk (Or.inl rfl) (AV.weak.of_eq (congrArg (AV.int .i64) ?_))
  all_goals (simp_all [pickS, w64] <;> omega)
end Go.Proofs
namespace Go.Proofs
open Go Go.AI
set_option maxRecDepth 10000
theorem cmpI_lt {a b : Int} : cmpI a b < 0 ↔ a < b := by unfold cmpI; split <;> (try split) <;> omega
theorem cmpI_z {a b : Int} : cmpI a b = 0 ↔ a = b := by unfold cmpI; split <;> (try split) <;> omega
theorem cmpP_lt (p q : PassT) : decide (cmpP p q < 0) = if p.ca ≠ q.ca then decide (p.ca < q.ca) else if p.sat ≠ q.sat then decide (p.sat < q.sat) else if p.st ≠ q.st then decide (p.st < q.st) else if p.sa ≠ q.sa then decide (p.sa < q.sa) else decide (p.cb < q.cb) := by
  have e1 := cmpI_lt (a := p.ca) (b := q.ca); have z1 := cmpI_z (a := p.ca) (b := q.ca)
  have e2 := cmpI_lt (a := p.sat) (b := q.sat); have z2 := cmpI_z (a := p.sat) (b := q.sat)
  have e3 := cmpI_lt (a := p.st) (b := q.st); have z3 := cmpI_z (a := p.st) (b := q.st)
  have e4 := cmpI_lt (a := p.sa) (b := q.sa); have z4 := cmpI_z (a := p.sa) (b := q.sa)
  have e5 := cmpI_lt (a := p.cb) (b := q.cb)
  unfold cmpP
  generalize cmpI p.ca q.ca = c1 at *
  generalize cmpI p.sat q.sat = c2 at *
  generalize cmpI p.st q.st = c3 at *
  generalize cmpI p.sa q.sa = c4 at *
  generalize cmpI p.cb q.cb = c5 at *
  simp only [orS]
  grind
theorem Tryz.rbefore (p q : PassT) : ACalls Tryz.prog 165 [.agg (passA p), .agg (passA q)] (.bool (decide (cmpP p q < 0))) := by
  rw [cmpP_lt]
  refine ACalls.ofB Tryz.T Tryz.func165 rfl (by kernel_rfl) Tryz.mixed (Nat.le_of_ble_eq_true rfl) ?_
  intro F n' w0 m0 hG hro h1
  repeat' first|refine Q1 ?_|refine Q2 ?_|refine Q3 hG Tryz.T Tryz.keep165 (by kernel_rfl) ?_|refine Q4 hG Tryz.T Tryz.keep165 (by kernel_rfl) ?_|refine Q5 hG Tryz.T ?_|refine Q6 hG Tryz.T ?_|refine Q7 hG Tryz.T ?_|refine Q8 hG Tryz.T ?_|refine Q9 rfl ?_|refine QF rfl ?_|refine QC rfl (And.intro (fun h => ?_) (fun h => ?_))|((conv => whnf); first|refine anF ?_|refine anT ?_|refine And.intro (by kernel_rfl) ?_|refine And.intro (fun h => ?_) (fun h => ?_)|refine Or.inl ?_|fail)
  all_goals refine Ends.mk (Or.inl rfl) (AV.weak.of_eq (congrArg AV.bool ?_))
  all_goals (clear hG; grind [])
theorem passAt_i {l : List PassT} {i : Nat} (h : i < l.length) : (l.map passA)[(i : Int).toNat]? = some (passA (passAt l i)) := by rw [Int.toNat_natCast]; exact passAt_get h
theorem passAt_mem {l : List PassT} {i : Nat} (h : i < l.length) : passAt l i = l[i] := by simp [passAt, List.getElem?_eq_getElem h]
theorem passS_iff (l : List PassT) : passS l = true ↔ l.length ≤ 64 ∧ (∀ j, j < l.length → isPassS (passAt l j) = true) ∧ ∀ j, j + 1 < l.length → decide (cmpP (passAt l (j + 1)) (passAt l j) < 0) = false := by
  simp only [passS, srtB, Bool.and_eq_true, Bool.not_eq_true', List.any_eq_false, List.all_eq_true, List.mem_range, decide_eq_true_eq, Bool.not_eq_true', Bool.not_eq_false', Bool.not_eq_true, Bool.not_eq_false, and_assoc]
  refine and_congr Iff.rfl (and_congr ⟨fun h j hj => ?_, fun h x hx => ?_⟩ ⟨fun h j hj => h j (by omega), fun h j hj => h j (by omega)⟩)
  · rw [passAt_mem hj]; exact h _ (List.getElem_mem hj)
  · obtain ⟨j, hj, rfl⟩ := List.getElem_of_mem hx
    rw [← passAt_mem hj]; exact h j hj
set_option maxHeartbeats 8000000 in
theorem Tryz.rpasses (l : List PassT) (hl : l.length ≤ 1000000) : ACalls Tryz.prog 90 [passesA l] (.bool (passS l)) := by
  have hlm : ((l.map passA).length : Int) = (l.length : Int) := by rw [List.length_map]
  refine ACalls.ofB Tryz.T Tryz.func90 rfl (by kernel_rfl) Tryz.mixed (Nat.le_of_ble_eq_true rfl) ?_
  intro F n' w0 m0 hG hro h1
  repeat' first|refine Q1 ?_|refine Q2 ?_|refine Q3 hG Tryz.T Tryz.keep90 (by kernel_rfl) ?_|refine Q4 hG Tryz.T Tryz.keep90 (by kernel_rfl) ?_|refine Q5 hG Tryz.T ?_|refine Q6 hG Tryz.T ?_|refine Q7 hG Tryz.T ?_|refine Q8 hG Tryz.T ?_|refine Q9 rfl ?_|refine QF rfl ?_|refine QC rfl (And.intro (fun h => ?_) (fun h => ?_))|((conv => whnf); first|refine anF ?_|refine anT ?_|refine And.intro (by kernel_rfl) ?_|refine And.intro (fun h => ?_) (fun h => ?_)|refine Or.inl ?_|fail)
  all_goals first
    | (refine Ends.mk (Or.inl rfl) (AV.weak.of_eq (congrArg AV.bool ?_))
       clear hG; rw [hlm] at *; rw [Bool.eq_iff_iff, passS_iff]; grind)
    | skip
  have h64 : l.length ≤ 64 := by clear hG; rw [hlm] at *; grind
  refine SPB.loop (X := Nat) (fun x => ⟨[(3, .int .i64 x), (0, passesA l)], []⟩) (fun x => x ≤ l.length ∧ (∀ j, j < x → isPassS (passAt l j) = true) ∧ ∀ j, j + 1 < x → decide (cmpP (passAt l (j + 1)) (passAt l j) < 0) = false) (fun x => l.length - x) 0 ⟨Nat.zero_le _, fun j h => absurd h (by omega), fun j h => absurd h (by omega)⟩ (St.le.of ?_ ?_) (fun x hx => ?_)
  · repeat' (first | exact trivial | refine And.intro rfl ?_)
  · repeat' (first | exact trivial | refine And.intro rfl ?_)
  · rename Nat => i
    obtain ⟨hi, h1, h2⟩ := hx
    by_cases hlt_i : i < l.length
    · have bbk : decide ((i : Int) < ((l.map passA).length : Int)) = false → False := fun h => by have := of_decide_eq_false h; simp at this; omega
      have hx := passAt_i hlt_i
      have hpr : decide ((i : Int) > 0) = true → 0 ≤ IntKind.i64.wrap ((i : Int) - 1) ∧ (l.map passA)[(IntKind.i64.wrap ((i : Int) - 1)).toNat]? = some (passA (passAt l (i - 1))) := fun h => by
        have h := of_decide_eq_true h
        have e : IntKind.i64.wrap ((i : Int) - 1) = ((i - 1 : Nat) : Int) := (w64_in (by omega) (by omega)).trans (by omega)
        rw [e]
        exact ⟨Int.natCast_nonneg _, passAt_i (by omega)⟩
      have bad1 : isPassS (passAt l i) = false → false = passS l := fun h => by rw [Bool.eq_iff_iff, passS_iff]; simp only [Bool.false_eq_true, false_iff]; exact fun ⟨_, g, _⟩ => tf (g i hlt_i) h
      have bad2 : decide ((i : Int) > 0) = true → decide (cmpP (passAt l i) (passAt l (i - 1)) < 0) = true → false = passS l := fun g0 h => by
        rw [Bool.eq_iff_iff, passS_iff]; simp only [Bool.false_eq_true, false_iff]
        have g0 := of_decide_eq_true g0
        exact fun ⟨_, _, g⟩ => tf h (by have := g (i - 1) (by omega); rwa [show i - 1 + 1 = i by omega] at this)
      have hok : isPassS (passAt l i) = true → (decide ((i : Int) > 0) = true → decide (cmpP (passAt l i) (passAt l (i - 1)) < 0) = false) → i + 1 ≤ l.length ∧ (∀ j, j < i + 1 → isPassS (passAt l j) = true) ∧ ∀ j, j + 1 < i + 1 → decide (cmpP (passAt l (j + 1)) (passAt l j) < 0) = false := fun g1 g2 => by
        refine ⟨hlt_i, fun j hj => ?_, fun j hj => ?_⟩
        · rcases Nat.lt_or_ge j i with h | h
          · exact h1 j h
          · rw [show j = i by omega]; exact g1
        · rcases Nat.lt_or_ge (j + 1) i with h | h
          · exact h2 j h
          · have e : i - 1 = j := by omega
            have := g2 (decide_eq_true (by omega))
            rw [e] at this
            rwa [show j + 1 = i by omega]
      generalize passAt l i = p at hx bad1 bad2 hok
      generalize passAt l (i - 1) = q at hpr bad2 hok
      repeat' first|exact (bbk (by assumption)).elim|refine Q1 ?_|refine Q2 ?_|refine Q3 hG Tryz.T Tryz.keep90 (by kernel_rfl) ?_|refine Q4 hG Tryz.T Tryz.keep90 (by kernel_rfl) ?_|refine Q5 hG Tryz.T ?_|refine Q6 hG Tryz.T ?_|refine Q7 hG Tryz.T ?_|refine Q8 hG Tryz.T ?_|refine Q9 rfl ?_|refine QF rfl ?_|refine QC rfl (And.intro (fun h => ?_) (fun h => ?_))|((conv => whnf); first|refine anF ?_|refine anT ?_|refine And.intro (by kernel_rfl) ?_|refine And.intro (Int.natCast_nonneg i) (Exists.intro _ (And.intro hx ?_))|refine Exists.intro _ (And.intro (Tryz.z117 _ _ _) ?_)|refine Exists.intro _ (And.intro (Tryz.rbefore _ _) ?_)|refine And.intro (hpr (by assumption)).1 (Exists.intro _ (And.intro (hpr (by assumption)).2 ?_))|refine And.intro (fun h => ?_) (fun h => ?_)|refine Or.inl ?_|fail)
      all_goals first
        | (refine Ends.mk (Or.inl rfl) (AV.weak.of_eq (congrArg AV.bool ?_))
           clear hG hpr hx h1 h2 hok; first | exact bad2 (by assumption) (by assumption) | (refine bad1 ?_; clear bad1 bad2; grind [isPassS, inS]))
        | skip
      all_goals (refine Exists.intro (i + 1) (And.intro (hok ?_ ?_) (And.intro (by omega) (St.le.of ?_ ?_))))
      all_goals first
        | (clear hG hpr hx h1 h2 hok bad1 bad2; grind [isPassS, inS])
        | (refine And.intro (congrArg some (le_next (by omega))) ?_; repeat' (first | exact trivial | refine And.intro rfl ?_))
        | (repeat' (first | exact trivial | refine And.intro rfl ?_))
    · have bbk : decide ((i : Int) < ((l.map passA).length : Int)) = true → False := fun h => by have := of_decide_eq_true h; simp at this; omega
      have he : i = l.length := by omega
      repeat' first|exact (bbk (by assumption)).elim|refine Q1 ?_|refine Q2 ?_|refine Q3 hG Tryz.T Tryz.keep90 (by kernel_rfl) ?_|refine Q4 hG Tryz.T Tryz.keep90 (by kernel_rfl) ?_|refine Q5 hG Tryz.T ?_|refine Q6 hG Tryz.T ?_|refine Q7 hG Tryz.T ?_|refine Q8 hG Tryz.T ?_|refine Q9 rfl ?_|refine QF rfl ?_|refine QC rfl (And.intro (fun h => ?_) (fun h => ?_))|((conv => whnf); first|refine anF ?_|refine anT ?_|refine And.intro (by kernel_rfl) ?_|refine And.intro (fun h => ?_) (fun h => ?_)|refine Or.inl ?_|fail)
      exact Ends.mk (Or.inl rfl) (AV.weak.of_eq (congrArg AV.bool (by symm; rw [passS_iff, ← he]; exact ⟨by omega, h1, h2⟩)))
theorem max_le_i {a b c : Int} : decide (c ≥ max a b) = (decide (a ≤ c) && decide (b ≤ c)) := by rw [Bool.eq_iff_iff]; simp; omega
set_option maxHeartbeats 16000000 in
theorem Tryz.rproper (s : Nat → Int) (o : Opt) (ps : List PassT) (hl : o.sl.length ≤ 1000000) (hps : ps.length ≤ 1000000) : ACalls Tryz.prog 31 [.agg (satA s), .agg (optA o), passesA ps] (.bool (satS s && passS ps && fitsS s o ps)) := by
  have hlm : ((o.sl.map slotA).length : Int) = (o.sl.length : Int) := by rw [List.length_map]
  have hpm : ((ps.map passA).length : Int) = (ps.length : Int) := by rw [List.length_map]
  refine ACalls.ofB Tryz.T Tryz.func31 rfl (by kernel_rfl) Tryz.mixed (Nat.le_of_ble_eq_true rfl) ?_
  intro F n' w0 m0 hG hro h1
  repeat' first|refine Q1 ?_|refine Q2 ?_|refine Q3 hG Tryz.T Tryz.keep31 (by kernel_rfl) ?_|refine Q4 hG Tryz.T Tryz.keep31 (by kernel_rfl) ?_|refine Q5 hG Tryz.T ?_|refine Q6 hG Tryz.T ?_|refine Q7 hG Tryz.T ?_|refine Q8 hG Tryz.T ?_|refine Q9 rfl ?_|refine QF rfl ?_|refine QC rfl (And.intro (fun h => ?_) (fun h => ?_))|((conv => whnf); first|refine anF ?_|refine anT ?_|refine And.intro (by kernel_rfl) ?_|refine Exists.intro _ (And.intro (Tryz.z61 s) ?_)|refine Exists.intro _ (And.intro (Tryz.rpasses ps hps) ?_)|refine Exists.intro _ (And.intro (Tryz.rin _ _ _) ?_)|refine Exists.intro _ (And.intro (Tryz.rswath (orbO s) _ _ _) ?_)|refine And.intro (fun h => ?_) (fun h => ?_)|refine Or.inl ?_|fail)
  all_goals first
    | (refine Ends.mk (Or.inl rfl) (AV.weak.of_eq (congrArg AV.bool ?_))
       clear hG; rw [hlm] at *; rw [Bool.eq_iff_iff]; simp only [fitsS, headS, shotS, w64]; grind)
    | skip
  have hfit : (satS s && passS ps && fitsS s o ps) = slotsOK s ps o.size o.b o.sl := by clear hG; rw [hlm] at *; simp only [fitsS, headS, shotS, w64]; grind
  rw [hfit]
  refine SPB.loop (X := Nat × Int) (fun x => ⟨[(8, .int .i64 x.1), (7, .int .i64 x.2), (4, .loc 4 0), (3, .loc 3 0), (2, passesA ps)], [(4, optA o), (3, satA s)]⟩) (fun x => x.1 ≤ o.sl.length ∧ slotsOK s ps o.size x.2 (o.sl.drop x.1) = slotsOK s ps o.size o.b o.sl) (fun x => o.sl.length - x.1) (0, o.b) ⟨Nat.zero_le _, rfl⟩ (St.le.of ?_ ?_) (fun x hx => ?_)
  · repeat' (first | exact trivial | refine And.intro rfl ?_)
  · repeat' (first | exact trivial | refine And.intro rfl ?_)
  · obtain ⟨i, t⟩ := x
    obtain ⟨hi, hf⟩ := hx
    simp only at hi hf ⊢
    by_cases hlt_i : i < o.sl.length
    · have bbk : decide ((i : Int) < ((o.sl.map slotA).length : Int)) = false → False := fun h => by have := of_decide_eq_false h; simp at this; omega
      have hx := slot_at hlt_i
      rw [slotsOK_step hlt_i] at hf
      generalize o.sl.getD i ⟨0, 0, 0⟩ = x at hx hf
      have hin : (!inS x.p 0 (IntKind.i64.wrap (((ps.map passA).length : Int) - 1))) = false → 0 ≤ x.p ∧ (ps.map passA)[x.p.toNat]? = some (passA (passAt ps x.p.toNat)) := fun h => by
        have h := notF h
        rw [hpm, show IntKind.i64.wrap ((ps.length : Int) - 1) = (ps.length : Int) - 1 from w64_in (by omega) (by omega)] at h
        simp only [inS, Bool.and_eq_true, decide_eq_true_eq] at h
        exact ⟨h.1, passAt_get (by omega)⟩
      have hpm' : w64 ((ps.length : Int) - 1) = IntKind.i64.wrap (((ps.map passA).length : Int) - 1) := by rw [hpm]; rfl
      repeat' first|exact (bbk (by assumption)).elim|refine Q1 ?_|refine Q2 ?_|refine Q3 hG Tryz.T Tryz.keep31 (by kernel_rfl) ?_|refine Q4 hG Tryz.T Tryz.keep31 (by kernel_rfl) ?_|refine Q5 hG Tryz.T ?_|refine Q6 hG Tryz.T ?_|refine Q7 hG Tryz.T ?_|refine Q8 hG Tryz.T ?_|refine Q9 rfl ?_|refine QF rfl ?_|refine QC rfl (And.intro (fun h => ?_) (fun h => ?_))|((conv => whnf); first|refine anF ?_|refine anT ?_|refine And.intro (by kernel_rfl) ?_|refine And.intro (Int.natCast_nonneg i) (Exists.intro _ (And.intro hx ?_))|refine Exists.intro _ (And.intro (Tryz.rin _ _ _) ?_)|refine And.intro (hin (by assumption)).1 (Exists.intro _ (And.intro (hin (by assumption)).2 ?_))|refine And.intro (fun h => ?_) (fun h => ?_)|refine Or.inl ?_|fail)
      all_goals first
        | (refine Ends.mk (Or.inl rfl) (AV.weak.of_eq (congrArg AV.bool ?_))
           clear hG hx hin; rw [← hf, slotOK, hpm', max_le_i]; clear hpm' hf hfit; unfold w64; grind)
        | skip
      refine Exists.intro (i + 1, x.b) (And.intro ⟨hlt_i, ?_⟩ (And.intro (by show o.sl.length - (i + 1) < o.sl.length - i; omega) (St.le.of ?_ ?_)))
      · clear hG hx hin
        rw [← hf]
        have hk : slotOK s ps o.size t x = true := by rw [slotOK, hpm', max_le_i]; clear hpm' hf hfit; unfold w64; grind
        rw [hk, Bool.true_and]
      · refine And.intro (congrArg some (le_next (by omega))) ?_
        repeat' (first | exact trivial | refine And.intro rfl ?_)
      · repeat' (first | exact trivial | refine And.intro rfl ?_)
    · have bbk : decide ((i : Int) < ((o.sl.map slotA).length : Int)) = true → False := fun h => by have := of_decide_eq_true h; simp at this; omega
      rw [List.drop_of_length_le (by omega)] at hf
      repeat' first|exact (bbk (by assumption)).elim|refine Q1 ?_|refine Q2 ?_|refine Q3 hG Tryz.T Tryz.keep31 (by kernel_rfl) ?_|refine Q4 hG Tryz.T Tryz.keep31 (by kernel_rfl) ?_|refine Q5 hG Tryz.T ?_|refine Q6 hG Tryz.T ?_|refine Q7 hG Tryz.T ?_|refine Q8 hG Tryz.T ?_|refine Q9 rfl ?_|refine QF rfl ?_|refine QC rfl (And.intro (fun h => ?_) (fun h => ?_))|((conv => whnf); first|refine anF ?_|refine anT ?_|refine And.intro (by kernel_rfl) ?_|refine And.intro (fun h => ?_) (fun h => ?_)|refine Or.inl ?_|fail)
      exact Ends.mk (Or.inl rfl) (AV.weak.of_eq (congrArg AV.bool hf))
end Go.Proofs
namespace Go.Proofs
open Go Go.AI
set_option maxRecDepth 10000
def OvI (l : List Img) (store : Int) (p : List Img) (f : Int) : Prop := (f = -1 ∧ ∀ x ∈ p, fillA x.a l ≤ store) ∨ ((∃ x ∈ p, f = x.a ∧ store < fillA x.a l) ∧ ∀ y ∈ p, store < fillA y.a l → f ≤ y.a)
theorem fillA_mono {t u : Int} : ∀ {l : List Img}, (∀ x ∈ l, 0 ≤ x.u) → (∀ x ∈ l, x.a ≤ t → t < x.b → x.a ≤ u ∧ u < x.b) → fillA t l ≤ fillA u l
  | [], _, _ => Int.le_refl _
  | x :: r, h, g => by
    have ih := fillA_mono (l := r) (fun y hy => h y (.tail _ hy)) fun y hy => g y (.tail _ hy)
    have h1 := h x (.head _)
    have h2 := g x (.head _)
    simp only [fillA]
    split <;> split <;> omega
theorem last_start (t : Int) : ∀ l : List Img, (∀ x ∈ l, t < x.a) ∨ ∃ x ∈ l, x.a ≤ t ∧ ∀ y ∈ l, y.a ≤ t → y.a ≤ x.a
  | [] => .inl (by simp)
  | x :: r => by
    rcases last_start t r with h | ⟨z, hz, h1, h2⟩
    · by_cases hx : x.a ≤ t
      · refine .inr ⟨x, List.mem_cons_self, hx, fun y hy hyt => ?_⟩
        rcases List.mem_cons.1 hy with rfl | hy
        · exact Int.le_refl _
        · have := h y hy; omega
      · refine .inl fun y hy => ?_
        rcases List.mem_cons.1 hy with rfl | hy
        · omega
        · exact h y hy
    · by_cases hx : x.a ≤ t ∧ z.a < x.a
      · refine .inr ⟨x, List.mem_cons_self, hx.1, fun y hy hyt => ?_⟩
        rcases List.mem_cons.1 hy with rfl | hy
        · exact Int.le_refl _
        · have := h2 y hy hyt; omega
      · refine .inr ⟨z, List.mem_cons_of_mem _ hz, h1, fun y hy hyt => ?_⟩
        rcases List.mem_cons.1 hy with rfl | hy
        · omega
        · exact h2 y hy hyt
theorem fill_start {l : List Img} (h : ∀ x ∈ l, 0 ≤ x.u) (t : Int) : fillA t l = 0 ∨ ∃ x ∈ l, x.a ≤ t ∧ fillA t l ≤ fillA x.a l := by
  rcases last_start t l with g | ⟨z, hz, h1, h2⟩
  · left
    have : ∀ m : List Img, (∀ x ∈ m, t < x.a) → fillA t m = 0 := fun m => by
      induction m with
      | nil => intro _; rfl
      | cons x r ih =>
        intro g
        have := g x (.head _)
        simp only [fillA]
        rw [ih fun y hy => g y (.tail _ hy), if_neg (by omega)]; rfl
    exact this l g
  · exact .inr ⟨z, hz, h1, fillA_mono h fun x hx g1 g2 => by have := h2 x hx g1; omega⟩
theorem ovI_eq {l : List Img} (h : ∀ x ∈ l, 0 ≤ x.a ∧ x.a < x.b) (hu : ∀ x ∈ l, 0 ≤ x.u) {store f : Int} (h0 : 0 ≤ store) (ho : OvI l store l f) : f = overL store (fillsL l) := by
  refine FirstOver.unique (f := fun t => fillA t l) (s := store) ?_ (over_first h h0)
  have key : ∀ t, fillA t l ≤ store ∨ ∃ x ∈ l, x.a ≤ t ∧ store < fillA x.a l := fun t => by
    rcases fill_start hu t with g | ⟨x, hx, g1, g2⟩
    · left; omega
    · by_cases hc : fillA t l ≤ store
      · exact .inl hc
      · exact .inr ⟨x, hx, g1, by omega⟩
  rcases ho with ⟨h1, h2⟩ | ⟨⟨x, hx, h1, h2⟩, h3⟩
  · refine .inl ⟨h1, fun t => ?_⟩
    rcases key t with g | ⟨x, hx, _, g⟩
    · exact g
    · have := h2 x hx; omega
  · refine .inr ⟨by rw [h1]; exact (h x hx).1, by rw [h1]; exact h2, fun t ht => ?_⟩
    rcases key t with g | ⟨y, hy, g1, g2⟩
    · exact g
    · have := h3 y hy g2; omega
end Go.Proofs
namespace Go.Proofs
open Go Go.AI
set_option maxRecDepth 10000
theorem take_next {α : Type} {l : List α} {i : Nat} (d : α) (h : i < l.length) : l.take (i + 1) = l.take i ++ [l.getD i d] := by rw [List.take_add_one, List.getD_eq_getElem?_getD, List.getElem?_eq_getElem h]; rfl
theorem row_at {α : Type} {l : List α} {i : Nat} {f : α → List AV} (d : α) (h : i < l.length) : (l.map f)[(i : Int).toNat]? = some (f (l.getD i d)) := by simp [List.getElem?_eq_getElem h]
def prL (l : List SlotT) : List (Int × Int) := l.map fun x => (x.a, x.b)
theorem meetL_eq (a b : Opt) : meetL a b = mOut (prL a.sl) (prL b.sl) (-1) := rfl
set_option maxHeartbeats 8000000 in
theorem Tryz.rmeet (a b : Opt) (ha : a.sl.length ≤ 1000000) (hb : b.sl.length ≤ 1000000) : ACalls Tryz.prog 34 [.agg (optA a), .agg (optA b)] (.int .i64 (meetL a b)) := by
  rw [meetL_eq]
  refine ACalls.ofB Tryz.T Tryz.func34 rfl (by kernel_rfl) Tryz.mixed (Nat.le_of_ble_eq_true rfl) ?_
  intro F n' w0 m0 hG hro h1
  repeat' first|refine Q1 ?_|refine Q2 ?_|refine Q3 hG Tryz.T Tryz.keep34 (by kernel_rfl) ?_|refine Q4 hG Tryz.T Tryz.keep34 (by kernel_rfl) ?_|refine Q5 hG Tryz.T ?_|refine Q6 hG Tryz.T ?_|refine Q7 hG Tryz.T ?_|refine Q8 hG Tryz.T ?_|refine Q9 rfl ?_|refine QF rfl ?_|refine QC rfl (And.intro (fun h => ?_) (fun h => ?_))|((conv => whnf); first|refine anF ?_|refine anT ?_|refine And.intro (by kernel_rfl) ?_|refine And.intro (fun h => ?_) (fun h => ?_)|refine Or.inl ?_|fail)
  refine SPB.loop (X := Nat × Int) (fun x => ⟨[(6, .int .i64 x.1), (5, .int .i64 x.2), (3, .loc 3 0), (2, .loc 2 0)], [(3, optA b), (2, optA a)]⟩) (fun x => x.1 ≤ a.sl.length ∧ x.2 = mOut (prL (a.sl.take x.1)) (prL b.sl) (-1)) (fun x => a.sl.length - x.1) (0, -1) ⟨Nat.zero_le _, rfl⟩ (St.le.of ?_ ?_) (fun x hx => ?_)
  · repeat' (first | exact trivial | refine And.intro rfl ?_)
  · repeat' (first | exact trivial | refine And.intro rfl ?_)
  · obtain ⟨i, f⟩ := x
    obtain ⟨hi, hf⟩ := hx
    simp only at hi hf ⊢
    by_cases hlt_i : i < a.sl.length
    · have bbk : decide ((i : Int) < ((a.sl.map slotA).length : Int)) = false → False := fun h => by have := of_decide_eq_false h; simp at this; omega
      have hx := slot_at hlt_i
      have hx : (a.sl.map slotA)[(i : Int).toNat]? = some (slotA (a.sl.getD i slot0)) := hx
      obtain ⟨u, hu⟩ : ∃ u, u = a.sl.getD i slot0 := ⟨_, rfl⟩
      rw [← hu] at hx
      repeat' first|exact (bbk (by assumption)).elim|refine Q1 ?_|refine Q2 ?_|refine Q3 hG Tryz.T Tryz.keep34 (by kernel_rfl) ?_|refine Q4 hG Tryz.T Tryz.keep34 (by kernel_rfl) ?_|refine Q5 hG Tryz.T ?_|refine Q6 hG Tryz.T ?_|refine Q7 hG Tryz.T ?_|refine Q8 hG Tryz.T ?_|refine Q9 rfl ?_|refine QF rfl ?_|refine QC rfl (And.intro (fun h => ?_) (fun h => ?_))|((conv => whnf); first|refine anF ?_|refine anT ?_|refine And.intro (by kernel_rfl) ?_|refine And.intro (Int.natCast_nonneg i) (Exists.intro _ (And.intro hx ?_))|refine And.intro (fun h => ?_) (fun h => ?_)|refine Or.inl ?_|fail)
      refine SPB.loop (X := Nat × Int) (fun x => ⟨[(7, .int .i64 x.1), (6, .int .i64 i), (5, .int .i64 x.2), (3, .loc 3 0), (2, .loc 2 0)], [(3, optA b), (2, optA a)]⟩) (fun x => x.1 ≤ b.sl.length ∧ x.2 = mIn (u.a, u.b) (prL (b.sl.take x.1)) f) (fun x => b.sl.length - x.1) (0, f) ⟨Nat.zero_le _, rfl⟩ (St.le.of ?_ ?_) (fun x hx => ?_)
      · repeat' (first | exact trivial | refine And.intro rfl ?_)
      · repeat' (first | exact trivial | refine And.intro rfl ?_)
      · obtain ⟨k, g⟩ := x
        obtain ⟨hk, hg⟩ := hx
        simp only at hk hg ⊢
        by_cases hlt_k : k < b.sl.length
        · have bbj : decide ((k : Int) < ((b.sl.map slotA).length : Int)) = false → False := fun h => by have := of_decide_eq_false h; simp at this; omega
          have hy := slot_at hlt_k
          have hsn : mIn (u.a, u.b) (prL (b.sl.take (k + 1))) f = meetStep g (u.a, u.b) ((b.sl.getD k slot0).a, (b.sl.getD k slot0).b) := by rw [take_next slot0 hlt_k, hg]; simp [mIn, prL]
          have hy : (b.sl.map slotA)[(k : Int).toNat]? = some (slotA (b.sl.getD k slot0)) := hy
          generalize b.sl.getD k slot0 = v at hy hsn
          simp only [meetStep] at hsn
          repeat' first|exact (bbj (by assumption)).elim|refine Q1 ?_|refine Q2 ?_|refine Q3 hG Tryz.T Tryz.keep34 (by kernel_rfl) ?_|refine Q4 hG Tryz.T Tryz.keep34 (by kernel_rfl) ?_|refine Q5 hG Tryz.T ?_|refine Q6 hG Tryz.T ?_|refine Q7 hG Tryz.T ?_|refine Q8 hG Tryz.T ?_|refine Q9 rfl ?_|refine QF rfl ?_|refine QC rfl (And.intro (fun h => ?_) (fun h => ?_))|((conv => whnf); first|refine anF ?_|refine anT ?_|refine And.intro (by kernel_rfl) ?_|refine And.intro (Int.natCast_nonneg i) (Exists.intro _ (And.intro hx ?_))|refine And.intro (Int.natCast_nonneg k) (Exists.intro _ (And.intro hy ?_))|refine And.intro (fun h => ?_) (fun h => ?_)|refine Or.inl ?_|fail)
          all_goals first
            | (refine Exists.intro (k + 1, max u.a v.a) (And.intro ⟨hlt_k, ?_⟩ (And.intro (by show b.sl.length - (k + 1) < b.sl.length - k; omega) (St.le.of ?_ ?_)))
               · clear hG; rw [hsn]; symm; apply if_pos; grind
               · refine And.intro (congrArg some (le_next (by omega))) ?_
                 repeat' (first | exact trivial | refine And.intro rfl ?_)
               · repeat' (first | exact trivial | refine And.intro rfl ?_))
            | (refine Exists.intro (k + 1, g) (And.intro ⟨hlt_k, ?_⟩ (And.intro (by show b.sl.length - (k + 1) < b.sl.length - k; omega) (St.le.of ?_ ?_)))
               · clear hG; rw [hsn]; symm; apply if_neg; grind
               · refine And.intro (congrArg some (le_next (by omega))) ?_
                 repeat' (first | exact trivial | refine And.intro rfl ?_)
               · repeat' (first | exact trivial | refine And.intro rfl ?_))
        · have bbj : decide ((k : Int) < ((b.sl.map slotA).length : Int)) = true → False := fun h => by have := of_decide_eq_true h; simp at this; omega
          have he : b.sl.take k = b.sl := List.take_of_length_le (by omega)
          rw [he] at hg
          repeat' first|exact (bbj (by assumption)).elim|refine Q1 ?_|refine Q2 ?_|refine Q3 hG Tryz.T Tryz.keep34 (by kernel_rfl) ?_|refine Q4 hG Tryz.T Tryz.keep34 (by kernel_rfl) ?_|refine Q5 hG Tryz.T ?_|refine Q6 hG Tryz.T ?_|refine Q7 hG Tryz.T ?_|refine Q8 hG Tryz.T ?_|refine Q9 rfl ?_|refine QF rfl ?_|refine QC rfl (And.intro (fun h => ?_) (fun h => ?_))|((conv => whnf); first|refine anF ?_|refine anT ?_|refine And.intro (by kernel_rfl) ?_|refine And.intro (fun h => ?_) (fun h => ?_)|refine Or.inl ?_|fail)
          refine Exists.intro (i + 1, g) (And.intro ⟨hlt_i, ?_⟩ (And.intro (by show a.sl.length - (i + 1) < a.sl.length - i; omega) (St.le.of ?_ ?_)))
          · rw [take_next slot0 hlt_i, ← hu, hg, hf]; simp [mOut, prL]
          · refine And.intro (congrArg some (le_next (by omega))) ?_
            repeat' (first | exact trivial | refine And.intro rfl ?_)
          · repeat' (first | exact trivial | refine And.intro rfl ?_)
    · have bbk : decide ((i : Int) < ((a.sl.map slotA).length : Int)) = true → False := fun h => by have := of_decide_eq_true h; simp at this; omega
      have he : a.sl.take i = a.sl := List.take_of_length_le (by omega)
      rw [he] at hf
      repeat' first|exact (bbk (by assumption)).elim|refine Q1 ?_|refine Q2 ?_|refine Q3 hG Tryz.T Tryz.keep34 (by kernel_rfl) ?_|refine Q4 hG Tryz.T Tryz.keep34 (by kernel_rfl) ?_|refine Q5 hG Tryz.T ?_|refine Q6 hG Tryz.T ?_|refine Q7 hG Tryz.T ?_|refine Q8 hG Tryz.T ?_|refine Q9 rfl ?_|refine QF rfl ?_|refine QC rfl (And.intro (fun h => ?_) (fun h => ?_))|((conv => whnf); first|refine anF ?_|refine anT ?_|refine And.intro (by kernel_rfl) ?_|refine And.intro (fun h => ?_) (fun h => ?_)|refine Or.inl ?_|fail)
      exact Ends.mk (Or.inl rfl) (AV.weak.of_eq (congrArg (AV.int .i64) hf))
def flt0 : Flt := ⟨0, 0, 0, 0⟩
def ld0 : Load3 := ⟨0, 0, 0⟩
set_option maxHeartbeats 4000000 in
theorem Tryz.sameFaults (l m : List Flt) (hl : l.length ≤ 1000000) : ACalls Tryz.prog 25 [fltsA l, fltsA m] (.bool (decide (l = m))) := by
  have hlm : ((l.map fltA).length : Int) = (l.length : Int) := by rw [List.length_map]
  have hmm : ((m.map fltA).length : Int) = (m.length : Int) := by rw [List.length_map]
  refine ACalls.ofB Tryz.T Tryz.func25 rfl (by kernel_rfl) Tryz.mixed (Nat.le_of_ble_eq_true rfl) ?_
  intro F n' w0 m0 hG hro h1
  repeat' first|refine Q1 ?_|refine Q2 ?_|refine Q3 hG Tryz.T Tryz.keep25 (by kernel_rfl) ?_|refine Q4 hG Tryz.T Tryz.keep25 (by kernel_rfl) ?_|refine Q5 hG Tryz.T ?_|refine Q6 hG Tryz.T ?_|refine Q7 hG Tryz.T ?_|refine Q8 hG Tryz.T ?_|refine Q9 rfl ?_|refine QF rfl ?_|refine QC rfl (And.intro (fun h => ?_) (fun h => ?_))|((conv => whnf); first|refine anF ?_|refine anT ?_|refine And.intro (by kernel_rfl) ?_|refine And.intro (fun h => ?_) (fun h => ?_)|refine Or.inl ?_|fail)
  all_goals first
    | (refine Ends.mk (Or.inl rfl) (AV.weak.of_eq (congrArg AV.bool ?_))
       have h := (by assumption : (((l.map fltA).length : Int) != ((m.map fltA).length : Int)) = true)
       rw [hlm, hmm] at h
       exact (decide_eq_false fun e => by rw [e] at h; simp at h).symm)
    | skip
  have hll : l.length = m.length := by
    have h := (by assumption : (((l.map fltA).length : Int) != ((m.map fltA).length : Int)) = false)
    rw [hlm, hmm] at h
    simp at h; omega
  refine SPB.loop (X := Nat) (fun x => ⟨[(5, .int .i64 x), (1, fltsA m), (0, fltsA l)], []⟩) (fun x => x ≤ l.length ∧ l.take x = m.take x) (fun x => l.length - x) 0 ⟨Nat.zero_le _, rfl⟩ (St.le.of ?_ ?_) (fun x hx => ?_)
  · repeat' (first | exact trivial | refine And.intro rfl ?_)
  · repeat' (first | exact trivial | refine And.intro rfl ?_)
  · rename Nat => i
    obtain ⟨hi, ht⟩ := hx
    by_cases hlt_i : i < l.length
    · have bbk : decide ((i : Int) < ((l.map fltA).length : Int)) = false → False := fun h => by have := of_decide_eq_false h; simp at this; omega
      have hx := row_at (f := fltA) flt0 hlt_i
      have hy := row_at (f := fltA) flt0 (show i < m.length by omega)
      have hn1 := take_next flt0 hlt_i
      have hn2 := take_next flt0 (show i < m.length by omega)
      have hne : l.getD i flt0 ≠ m.getD i flt0 → decide (l = m) = false := fun h => decide_eq_false fun e => h (by rw [e])
      generalize l.getD i flt0 = u at *
      generalize m.getD i flt0 = v at *
      repeat' first|exact (bbk (by assumption)).elim|refine Q1 ?_|refine Q2 ?_|refine Q3 hG Tryz.T Tryz.keep25 (by kernel_rfl) ?_|refine Q4 hG Tryz.T Tryz.keep25 (by kernel_rfl) ?_|refine Q5 hG Tryz.T ?_|refine Q6 hG Tryz.T ?_|refine Q7 hG Tryz.T ?_|refine Q8 hG Tryz.T ?_|refine Q9 rfl ?_|refine QF rfl ?_|refine QC rfl (And.intro (fun h => ?_) (fun h => ?_))|((conv => whnf); first|refine anF ?_|refine anT ?_|refine And.intro (by kernel_rfl) ?_|refine And.intro (Int.natCast_nonneg i) (Exists.intro _ (And.intro hx ?_))|refine And.intro (Int.natCast_nonneg i) (Exists.intro _ (And.intro hy ?_))|refine And.intro (fun h => ?_) (fun h => ?_)|refine Or.inl ?_|fail)
      all_goals first
        | (refine Ends.mk (Or.inl rfl) (AV.weak.of_eq (congrArg AV.bool ?_))
           exact (hne fun e => by subst e; have h := (by assumption : (!_) = true); simp at h).symm)
        | skip
      refine Exists.intro (i + 1) (And.intro ⟨hlt_i, ?_⟩ (And.intro (by omega) (St.le.of ?_ ?_)))
      · rw [hn1, hn2, ht]
        have e : u = v := by
          have h := notF (by assumption : (!_) = false)
          cases u; cases v; simp at h; simp [h]
        rw [e]
      · refine And.intro (congrArg some (le_next (by omega))) ?_
        repeat' (first | exact trivial | refine And.intro rfl ?_)
      · repeat' (first | exact trivial | refine And.intro rfl ?_)
    · have bbk : decide ((i : Int) < ((l.map fltA).length : Int)) = true → False := fun h => by have := of_decide_eq_true h; simp at this; omega
      have he : l.take i = l := List.take_of_length_le (by omega)
      have he2 : m.take i = m := List.take_of_length_le (by omega)
      rw [he, he2] at ht
      repeat' first|exact (bbk (by assumption)).elim|refine Q1 ?_|refine Q2 ?_|refine Q3 hG Tryz.T Tryz.keep25 (by kernel_rfl) ?_|refine Q4 hG Tryz.T Tryz.keep25 (by kernel_rfl) ?_|refine Q5 hG Tryz.T ?_|refine Q6 hG Tryz.T ?_|refine Q7 hG Tryz.T ?_|refine Q8 hG Tryz.T ?_|refine Q9 rfl ?_|refine QF rfl ?_|refine QC rfl (And.intro (fun h => ?_) (fun h => ?_))|((conv => whnf); first|refine anF ?_|refine anT ?_|refine And.intro (by kernel_rfl) ?_|refine And.intro (fun h => ?_) (fun h => ?_)|refine Or.inl ?_|fail)
      exact Ends.mk (Or.inl rfl) (AV.weak.of_eq (congrArg AV.bool (decide_eq_true ht).symm))
set_option maxHeartbeats 4000000 in
theorem Tryz.sameLoads (l m : List Load3) (hl : l.length ≤ 1000000) : ACalls Tryz.prog 26 [loadsA l, loadsA m] (.bool (decide (l = m))) := by
  have hlm : ((l.map loadA).length : Int) = (l.length : Int) := by rw [List.length_map]
  have hmm : ((m.map loadA).length : Int) = (m.length : Int) := by rw [List.length_map]
  refine ACalls.ofB Tryz.T Tryz.func26 rfl (by kernel_rfl) Tryz.mixed (Nat.le_of_ble_eq_true rfl) ?_
  intro F n' w0 m0 hG hro h1
  repeat' first|refine Q1 ?_|refine Q2 ?_|refine Q3 hG Tryz.T Tryz.keep26 (by kernel_rfl) ?_|refine Q4 hG Tryz.T Tryz.keep26 (by kernel_rfl) ?_|refine Q5 hG Tryz.T ?_|refine Q6 hG Tryz.T ?_|refine Q7 hG Tryz.T ?_|refine Q8 hG Tryz.T ?_|refine Q9 rfl ?_|refine QF rfl ?_|refine QC rfl (And.intro (fun h => ?_) (fun h => ?_))|((conv => whnf); first|refine anF ?_|refine anT ?_|refine And.intro (by kernel_rfl) ?_|refine And.intro (fun h => ?_) (fun h => ?_)|refine Or.inl ?_|fail)
  all_goals first
    | (refine Ends.mk (Or.inl rfl) (AV.weak.of_eq (congrArg AV.bool ?_))
       have h := (by assumption : (((l.map loadA).length : Int) != ((m.map loadA).length : Int)) = true)
       rw [hlm, hmm] at h
       exact (decide_eq_false fun e => by rw [e] at h; simp at h).symm)
    | skip
  have hll : l.length = m.length := by
    have h := (by assumption : (((l.map loadA).length : Int) != ((m.map loadA).length : Int)) = false)
    rw [hlm, hmm] at h
    simp at h; omega
  refine SPB.loop (X := Nat) (fun x => ⟨[(5, .int .i64 x), (1, loadsA m), (0, loadsA l)], []⟩) (fun x => x ≤ l.length ∧ l.take x = m.take x) (fun x => l.length - x) 0 ⟨Nat.zero_le _, rfl⟩ (St.le.of ?_ ?_) (fun x hx => ?_)
  · repeat' (first | exact trivial | refine And.intro rfl ?_)
  · repeat' (first | exact trivial | refine And.intro rfl ?_)
  · rename Nat => i
    obtain ⟨hi, ht⟩ := hx
    by_cases hlt_i : i < l.length
    · have bbk : decide ((i : Int) < ((l.map loadA).length : Int)) = false → False := fun h => by have := of_decide_eq_false h; simp at this; omega
      have hx := row_at (f := loadA) ld0 hlt_i
      have hy := row_at (f := loadA) ld0 (show i < m.length by omega)
      have hn1 := take_next ld0 hlt_i
      have hn2 := take_next ld0 (show i < m.length by omega)
      have hne : l.getD i ld0 ≠ m.getD i ld0 → decide (l = m) = false := fun h => decide_eq_false fun e => h (by rw [e])
      generalize l.getD i ld0 = u at *
      generalize m.getD i ld0 = v at *
      repeat' first|exact (bbk (by assumption)).elim|refine Q1 ?_|refine Q2 ?_|refine Q3 hG Tryz.T Tryz.keep26 (by kernel_rfl) ?_|refine Q4 hG Tryz.T Tryz.keep26 (by kernel_rfl) ?_|refine Q5 hG Tryz.T ?_|refine Q6 hG Tryz.T ?_|refine Q7 hG Tryz.T ?_|refine Q8 hG Tryz.T ?_|refine Q9 rfl ?_|refine QF rfl ?_|refine QC rfl (And.intro (fun h => ?_) (fun h => ?_))|((conv => whnf); first|refine anF ?_|refine anT ?_|refine And.intro (by kernel_rfl) ?_|refine And.intro (Int.natCast_nonneg i) (Exists.intro _ (And.intro hx ?_))|refine And.intro (Int.natCast_nonneg i) (Exists.intro _ (And.intro hy ?_))|refine And.intro (fun h => ?_) (fun h => ?_)|refine Or.inl ?_|fail)
      all_goals first
        | (refine Ends.mk (Or.inl rfl) (AV.weak.of_eq (congrArg AV.bool ?_))
           exact (hne fun e => by subst e; have h := (by assumption : (!_) = true); simp at h).symm)
        | skip
      refine Exists.intro (i + 1) (And.intro ⟨hlt_i, ?_⟩ (And.intro (by omega) (St.le.of ?_ ?_)))
      · rw [hn1, hn2, ht]
        have e : u = v := by
          have h := notF (by assumption : (!_) = false)
          cases u; cases v; simp at h; simp [h]
        rw [e]
      · refine And.intro (congrArg some (le_next (by omega))) ?_
        repeat' (first | exact trivial | refine And.intro rfl ?_)
      · repeat' (first | exact trivial | refine And.intro rfl ?_)
    · have bbk : decide ((i : Int) < ((l.map loadA).length : Int)) = true → False := fun h => by have := of_decide_eq_true h; simp at this; omega
      have he : l.take i = l := List.take_of_length_le (by omega)
      have he2 : m.take i = m := List.take_of_length_le (by omega)
      rw [he, he2] at ht
      repeat' first|exact (bbk (by assumption)).elim|refine Q1 ?_|refine Q2 ?_|refine Q3 hG Tryz.T Tryz.keep26 (by kernel_rfl) ?_|refine Q4 hG Tryz.T Tryz.keep26 (by kernel_rfl) ?_|refine Q5 hG Tryz.T ?_|refine Q6 hG Tryz.T ?_|refine Q7 hG Tryz.T ?_|refine Q8 hG Tryz.T ?_|refine Q9 rfl ?_|refine QF rfl ?_|refine QC rfl (And.intro (fun h => ?_) (fun h => ?_))|((conv => whnf); first|refine anF ?_|refine anT ?_|refine And.intro (by kernel_rfl) ?_|refine And.intro (fun h => ?_) (fun h => ?_)|refine Or.inl ?_|fail)
      exact Ends.mk (Or.inl rfl) (AV.weak.of_eq (congrArg AV.bool (decide_eq_true ht).symm))
theorem Tryz.has (l : List Flt) (k : Int) (hl : l.length ≤ 1000000) : ACalls Tryz.prog 33 [fltsA l, .int .i64 k] (.bool (hasF l k)) := by
  refine ACalls.ofB Tryz.T Tryz.func33 rfl (by kernel_rfl) Tryz.mixed (Nat.le_of_ble_eq_true rfl) ?_
  intro F n' w0 m0 hG hro h1
  repeat' first|refine Q1 ?_|refine Q2 ?_|refine Q3 hG Tryz.T Tryz.keep33 (by kernel_rfl) ?_|refine Q4 hG Tryz.T Tryz.keep33 (by kernel_rfl) ?_|refine Q5 hG Tryz.T ?_|refine Q6 hG Tryz.T ?_|refine Q7 hG Tryz.T ?_|refine Q8 hG Tryz.T ?_|refine Q9 rfl ?_|refine QF rfl ?_|refine QC rfl (And.intro (fun h => ?_) (fun h => ?_))|((conv => whnf); first|refine anF ?_|refine anT ?_|refine And.intro (by kernel_rfl) ?_|refine And.intro (fun h => ?_) (fun h => ?_)|refine Or.inl ?_|fail)
  refine SPB.loop (X := Nat) (fun x => ⟨[(5, .int .i64 x), (1, .int .i64 k), (0, fltsA l)], []⟩) (fun x => x ≤ l.length ∧ hasF (l.take x) k = false) (fun x => l.length - x) 0 ⟨Nat.zero_le _, rfl⟩ (St.le.of ?_ ?_) (fun x hx => ?_)
  · repeat' (first | exact trivial | refine And.intro rfl ?_)
  · repeat' (first | exact trivial | refine And.intro rfl ?_)
  · rename Nat => i
    obtain ⟨hi, ht⟩ := hx
    by_cases hlt_i : i < l.length
    · have bbk : decide ((i : Int) < ((l.map fltA).length : Int)) = false → False := fun h => by have := of_decide_eq_false h; simp at this; omega
      have hx := row_at (f := fltA) flt0 hlt_i
      have hn1 := take_next flt0 hlt_i
      have hm : l.getD i flt0 ∈ l := by rw [List.getD_eq_getElem?_getD, List.getElem?_eq_getElem hlt_i]; exact List.getElem_mem hlt_i
      generalize l.getD i flt0 = u at *
      repeat' first|exact (bbk (by assumption)).elim|refine Q1 ?_|refine Q2 ?_|refine Q3 hG Tryz.T Tryz.keep33 (by kernel_rfl) ?_|refine Q4 hG Tryz.T Tryz.keep33 (by kernel_rfl) ?_|refine Q5 hG Tryz.T ?_|refine Q6 hG Tryz.T ?_|refine Q7 hG Tryz.T ?_|refine Q8 hG Tryz.T ?_|refine Q9 rfl ?_|refine QF rfl ?_|refine QC rfl (And.intro (fun h => ?_) (fun h => ?_))|((conv => whnf); first|refine anF ?_|refine anT ?_|refine And.intro (by kernel_rfl) ?_|refine And.intro (Int.natCast_nonneg i) (Exists.intro _ (And.intro hx ?_))|refine And.intro (fun h => ?_) (fun h => ?_)|refine Or.inl ?_|fail)
      all_goals first
        | (refine Ends.mk (Or.inl rfl) (AV.weak.of_eq (congrArg AV.bool ?_))
           exact (List.any_eq_true.2 ⟨u, hm, decide_eq_true (eq_of_beq (by assumption))⟩).symm)
        | skip
      refine Exists.intro (i + 1) (And.intro ⟨hlt_i, ?_⟩ (And.intro (by omega) (St.le.of ?_ ?_)))
      · rw [hn1, hasF, List.any_append, show (l.take i).any (fun x => decide (x.k = k)) = false from ht]
        have h := (by assumption : (u.k == k) = false)
        simp at h
        simp [h]
      · refine And.intro (congrArg some (le_next (by omega))) ?_
        repeat' (first | exact trivial | refine And.intro rfl ?_)
      · repeat' (first | exact trivial | refine And.intro rfl ?_)
    · have bbk : decide ((i : Int) < ((l.map fltA).length : Int)) = true → False := fun h => by have := of_decide_eq_true h; simp at this; omega
      have he : l.take i = l := List.take_of_length_le (by omega)
      rw [he] at ht
      repeat' first|exact (bbk (by assumption)).elim|refine Q1 ?_|refine Q2 ?_|refine Q3 hG Tryz.T Tryz.keep33 (by kernel_rfl) ?_|refine Q4 hG Tryz.T Tryz.keep33 (by kernel_rfl) ?_|refine Q5 hG Tryz.T ?_|refine Q6 hG Tryz.T ?_|refine Q7 hG Tryz.T ?_|refine Q8 hG Tryz.T ?_|refine Q9 rfl ?_|refine QF rfl ?_|refine QC rfl (And.intro (fun h => ?_) (fun h => ?_))|((conv => whnf); first|refine anF ?_|refine anT ?_|refine And.intro (by kernel_rfl) ?_|refine And.intro (fun h => ?_) (fun h => ?_)|refine Or.inl ?_|fail)
      exact Ends.mk (Or.inl rfl) (AV.weak.of_eq (congrArg AV.bool ht.symm))
end Go.Proofs
namespace Go.Proofs
open Go Go.AI
set_option maxRecDepth 10000
def demS (k : Nat) (s : St) : St := ⟨mapT (AV.dem k) s.t, s.b⟩
theorem demS_inv {Γ : Base} {s : St} {a : Act} {w : World} (k : Nat) (h : Inv Γ s a w) : Inv Γ (demS k s) a w := by
  obtain ⟨⟨cx, hW, ht⟩, h2, h3, h4⟩ := h
  refine ⟨⟨cx, hW, fun d y hy => ?_⟩, h2, h3, h4⟩
  have hy : get (mapT (AV.dem k) s.t) d = some y := hy
  rw [get_mapT] at hy
  obtain ⟨z, hz, rfl⟩ := Option.map_eq_some_iff.1 hy
  exact (ht d z hz).dem k
theorem SPB.demT {Γ : Base} {s : St} {c : Code} {K : Exit → St → Prop} (k : Nat) (h : SPB Γ (demS k s) c K) : SPB Γ s c K := ⟨fun a w hI => h.out a w (demS_inv k hI)⟩
end Go.Proofs
namespace Go.Proofs
open Go Go.AI
set_option maxRecDepth 10000
theorem slew_row {s : Nat → Int} {l : List Aim3} : ∃ (i k : Nat) (b : Bool), slewA (slewO s l) = [.int .i64 i, .int .i64 k, .bool b, .int .i64 0] ∧ (b = true → slewO s l = some (i, k)) ∧ (b = false → slewO s l = none) := by
  cases h : slewO s l with
  | none => exact ⟨0, 0, false, rfl, fun h => (nomatch h), fun _ => rfl⟩
  | some p => exact ⟨p.1, p.2, true, rfl, fun _ => rfl, fun h => (nomatch h)⟩
end Go.Proofs
namespace Go.Proofs
open Go Go.AI
set_option maxRecDepth 10000
def passStep (sat : Int) (r : Int × List PassT) (x : Int × Int × Int) : Int × List PassT :=
  let cf := r.1 + 4 + pickS x.1 12
  let sf := cf + pickS (w64 (x.2.2.tdiv 3)) 2
  let st := sf + 3 + pickS x.2.1 12
  let ct := st + pickS (w64 (x.2.2.tdiv 3)) 2
  (ct, r.2 ++ [⟨sat, pickS x.2.2 3, sf, st, cf, ct⟩])
def passRun (sat from_ : Int) (z : List (Int × Int × Int)) : Int × List PassT := z.foldl (passStep sat) (from_, [])
def passesL (sat from_ : Int) (z : List (Int × Int × Int)) : List PassT := (passRun sat from_ (z.take 6)).2
structure PInv (sat from_ : Int) (n : Nat) (r : Int × List PassT) : Prop where
  at_ : from_ ≤ r.1 ∧ r.1 ≤ from_ + 31 * (n : Int)
  len : r.2.length = n
  all : ∀ p ∈ r.2, isPassS p = true ∧ from_ ≤ p.sa ∧ p.sa < p.sb ∧ p.sb ≤ r.1 ∧ p.ca < r.1
  srt : r.2.Pairwise fun p q => p.ca < q.ca
theorem PInv.step {sat from_ : Int} {n : Nat} {r : Int × List PassT} {x : Int × Int × Int} (h : PInv sat from_ n r) (hs : 0 ≤ sat ∧ sat ≤ 23) (hf : 0 ≤ from_ ∧ from_ ≤ 5000) (hn : n ≤ 100) (hx : inI3 x) : PInv sat from_ (n + 1) (passStep sat r x) := by
  obtain ⟨h1, h2, h3, h4⟩ := h
  have p1 := pick_rng hx.1 (n := 12) (by omega)
  have p2 := pick_rng (w64_inI (x.2.2.tdiv 3)) (n := 2) (by omega)
  have p3 := pick_rng hx.2.1 (n := 12) (by omega)
  have p4 := pick_rng hx.2.2 (n := 3) (by omega)
  unfold passStep
  simp only
  generalize pickS x.1 12 = q1 at *
  generalize pickS (w64 (x.2.2.tdiv 3)) 2 = q2 at *
  generalize pickS x.2.1 12 = q3 at *
  generalize pickS x.2.2 3 = q4 at *
  refine ⟨by simp only; omega, by simp [h2], fun p hp => ?_, List.pairwise_append.2 ⟨h4, by simp, fun p hp q hq => ?_⟩⟩
  · rcases List.mem_append.1 hp with hp | hp
    · have := h3 p hp
      refine ⟨this.1, this.2.1, this.2.2.1, ?_, ?_⟩ <;> (simp only; omega)
    · rw [List.mem_singleton.1 hp]
      simp only [isPassS, inS, Bool.and_eq_true, Bool.or_eq_true, decide_eq_true_eq]
      refine ⟨⟨⟨by omega, ⟨by omega, by omega⟩, trivial⟩, ⟨⟨by omega, by omega⟩, by omega⟩, .inr ⟨⟨by omega, by omega⟩, by omega⟩⟩, by omega, by omega, by omega, by omega⟩
  · rw [List.mem_singleton.1 hq]
    have := h3 p hp
    simp only
    omega
theorem PInv.run {sat from_ : Int} (hs : 0 ≤ sat ∧ sat ≤ 23) (hf : 0 ≤ from_ ∧ from_ ≤ 5000) : ∀ (z : List (Int × Int × Int)) (n : Nat) (r : Int × List PassT), n + z.length ≤ 100 → (∀ x ∈ z, inI3 x) → PInv sat from_ n r → PInv sat from_ (n + z.length) (z.foldl (passStep sat) r)
  | [], n, r, _, _, h => h
  | x :: z, n, r, hn, hz, h => by
    rw [List.length_cons] at hn ⊢
    have := PInv.run hs hf z (n + 1) (passStep sat r x) (by omega) (fun y hy => hz y (.tail _ hy)) (h.step hs hf (by omega) (hz x (.head _)))
    rwa [show n + (z.length + 1) = n + 1 + z.length by omega]
theorem PInv.of {sat from_ : Int} (hs : 0 ≤ sat ∧ sat ≤ 23) (hf : 0 ≤ from_ ∧ from_ ≤ 5000) {z : List (Int × Int × Int)} (hz : ∀ x ∈ z, inI3 x) (hl : z.length ≤ 100) : PInv sat from_ z.length (passRun sat from_ z) := by
  have := PInv.run hs hf z 0 (from_, []) (by omega) hz ⟨by simp, rfl, by simp, by simp⟩
  simpa [passRun] using this
theorem passRun_snoc (sat from_ : Int) (z : List (Int × Int × Int)) (x : Int × Int × Int) : passRun sat from_ (z ++ [x]) = passStep sat (passRun sat from_ z) x := by simp [passRun, List.foldl_append]
theorem PInv.proper {sat from_ : Int} {n : Nat} {r : Int × List PassT} (h : PInv sat from_ n r) (hn : n ≤ 64) : passS r.2 = true := by
  rw [passS_iff]
  have hl := h.len
  refine ⟨by omega, fun j hj => ?_, fun j hj => ?_⟩
  · rw [passAt_mem hj]; exact (h.all _ (List.getElem_mem hj)).1
  · rw [cmpP_lt, passAt_mem hj, passAt_mem (show j < r.2.length by omega)]
    have := (List.pairwise_iff_getElem.1 h.srt) j (j + 1) (by omega) hj (by omega)
    rw [if_pos (by omega)]
    exact decide_eq_false (by omega)
theorem passes_ok {sat from_ : Int} (hs : 0 ≤ sat ∧ sat ≤ 23) (hf : 0 ≤ from_ ∧ from_ ≤ 5000) {z : List (Int × Int × Int)} (hz : ∀ x ∈ z, inI3 x) : passS (passesL sat from_ z) = true ∧ (passesL sat from_ z).length ≤ 6 ∧ ∀ p ∈ passesL sat from_ z, from_ ≤ p.sa ∧ p.sa < p.sb ∧ p.sb ≤ from_ + 186 := by
  have hl : (z.take 6).length ≤ 6 := List.length_take_le _ _
  have h := PInv.of hs hf (z := z.take 6) (fun x hx => hz x (List.mem_of_mem_take hx)) (by omega)
  refine ⟨h.proper (by omega), by rw [passesL, h.len]; exact hl, fun p hp => ?_⟩
  have h1 := h.all p hp
  have h2 := h.at_
  omega
set_option maxHeartbeats 8000000 in
theorem Tryz.passes (sat from_ : Int) (z : List (Int × Int × Int)) (hs : 0 ≤ sat ∧ sat ≤ 23) (hf : 0 ≤ from_ ∧ from_ ≤ 5000) (hz : ∀ x ∈ z, inI3 x) : ACalls Tryz.prog 70 [.int .i64 sat, .int .i64 from_, .sl .no 3 (z.map row3A)] (passesA (passesL sat from_ z)) := by
  have hlm : ((z.map row3A).length : Int) = (z.length : Int) := by rw [List.length_map]
  refine ACalls.ofB Tryz.T Tryz.func70 rfl (by kernel_rfl) Tryz.mixed (Nat.le_of_ble_eq_true rfl) ?_
  intro F n' w0 m0 hG hro h1
  repeat' first|refine Q1 ?_|refine Q2 ?_|refine Q3 hG Tryz.T Tryz.keep70 (by kernel_rfl) ?_|refine Q4 hG Tryz.T Tryz.keep70 (by kernel_rfl) ?_|refine Q5 hG Tryz.T ?_|refine Q6 hG Tryz.T ?_|refine Q7 hG Tryz.T ?_|refine Q8 hG Tryz.T ?_|refine Q9 rfl ?_|refine QF rfl ?_|refine QC rfl (And.intro (fun h => ?_) (fun h => ?_))|((conv => whnf); first|refine anF ?_|refine anT ?_|refine And.intro (by kernel_rfl) ?_|refine And.intro (fun h => ?_) (fun h => ?_)|refine Or.inl ?_|fail)
  refine SPB.loop (X := Nat × Int × List PassT) (fun x => ⟨[(9, .int .i64 x.1), (8, .int .i64 x.2.1), (7, .sl (.id 7) 6 (x.2.2.map passA)), (2, .sl .no 3 (z.map row3A)), (0, .int .i64 sat)], []⟩) (fun x => x.1 ≤ z.length ∧ x.1 ≤ 6 ∧ x.2 = passRun sat from_ (z.take x.1)) (fun x => z.length - x.1) (0, from_, []) ⟨Nat.zero_le _, Nat.zero_le _, rfl⟩ (St.le.of ?_ ?_) (fun x hx => ?_)
  · repeat' (first | exact trivial | refine And.intro rfl ?_)
  · repeat' (first | exact trivial | refine And.intro rfl ?_)
  · obtain ⟨i, at_, out⟩ := x
    obtain ⟨hi, h6, hr⟩ := hx
    simp only at hi h6 hr ⊢
    have hP := PInv.of hs hf (z := z.take i) (fun x hx => hz x (List.mem_of_mem_take hx)) (by rw [List.length_take]; omega)
    rw [← hr, List.length_take, Nat.min_eq_left hi] at hP
    have hat := hP.at_
    have hol := hP.len
    simp only at hat hol
    by_cases hlt_i : i < z.length
    · by_cases h5 : i < 6
      · have b1 : decide ((i : Int) < ((z.map row3A).length : Int)) = false → False := fun h => by have := of_decide_eq_false h; omega
        have b2 : decide ((i : Int) < 6) = false → False := fun h => by have := of_decide_eq_false h; omega
        have hx := row_at (f := row3A) ((0 : Int), (0 : Int), (0 : Int)) hlt_i
        have hsn := passRun_snoc sat from_ (z.take i) (z.getD i ((0 : Int), (0 : Int), (0 : Int)))
        rw [← take_next ((0 : Int), (0 : Int), (0 : Int)) hlt_i, ← hr] at hsn
        have hxi : inI3 (z.getD i ((0 : Int), (0 : Int), (0 : Int))) := hz _ (by rw [List.getD_eq_getElem?_getD, List.getElem?_eq_getElem hlt_i]; exact List.getElem_mem hlt_i)
        generalize z.getD i ((0 : Int), (0 : Int), (0 : Int)) = x at hx hsn hxi
        have p1 := pick_rng hxi.1 (n := 12) (by omega)
        have p2 := pick_rng (w64_inI (x.2.2.tdiv 3)) (n := 2) (by omega)
        have p3 := pick_rng hxi.2.1 (n := 12) (by omega)
        have c2 := Tryz.rpick (w64 (x.2.2.tdiv 3)) 2 (by decide)
        have hol2 : (out.map passA).length ≤ 6 := by rw [List.length_map]; omega
        simp only [passStep] at hsn
        obtain ⟨q2, hq2⟩ : ∃ q, q = pickS (w64 (x.2.2.tdiv 3)) 2 := ⟨_, rfl⟩
        rw [← hq2] at c2 p2 hsn
        have w1 : IntKind.i64.wrap (at_ + 4) = at_ + 4 := w64_in (by omega) (by omega)
        have w2 : IntKind.i64.wrap (at_ + 4 + pickS x.1 12) = at_ + 4 + pickS x.1 12 := w64_in (by omega) (by omega)
        have w3 : IntKind.i64.wrap (at_ + 4 + pickS x.1 12 + q2) = at_ + 4 + pickS x.1 12 + q2 := w64_in (by omega) (by omega)
        have w4 : IntKind.i64.wrap (at_ + 4 + pickS x.1 12 + q2 + 3) = at_ + 4 + pickS x.1 12 + q2 + 3 := w64_in (by omega) (by omega)
        have w5 : IntKind.i64.wrap (at_ + 4 + pickS x.1 12 + q2 + 3 + pickS x.2.1 12) = at_ + 4 + pickS x.1 12 + q2 + 3 + pickS x.2.1 12 := w64_in (by omega) (by omega)
        have w6 : IntKind.i64.wrap (at_ + 4 + pickS x.1 12 + q2 + 3 + pickS x.2.1 12 + q2) = at_ + 4 + pickS x.1 12 + q2 + 3 + pickS x.2.1 12 + q2 := w64_in (by omega) (by omega)
        repeat' first|exact (b1 (by assumption)).elim|exact (b2 (by assumption)).elim|refine Q1 ?_|refine Q2 ?_|refine Q3 hG Tryz.T Tryz.keep70 (by kernel_rfl) ?_|refine Q4 hG Tryz.T Tryz.keep70 (by kernel_rfl) ?_|refine Q5 hG Tryz.T ?_|refine Q6 hG Tryz.T ?_|refine Q7 hG Tryz.T ?_|refine Q8 hG Tryz.T ?_|refine Q9 rfl ?_|refine QF rfl ?_|refine QC rfl (And.intro (fun h => ?_) (fun h => ?_))|((conv => whnf); first|refine anF ?_|refine anT ?_|refine And.intro (by kernel_rfl) ?_|refine And.intro (Int.natCast_nonneg i) (Exists.intro _ (And.intro hx ?_))|refine Exists.intro _ (And.intro (c2) ?_)|refine Exists.intro _ (And.intro (Tryz.rpick _ _ (by decide)) ?_)|refine And.intro (by decide) ?_|refine And.intro (show ((out.map passA).length + 1) * 48 ≤ 70368744177664 by omega) (And.intro (show (out.map passA).length + 1 ≤ 4611686018427387904 by omega) ?_)|refine And.intro (fun h => ?_) (fun h => ?_)|refine Or.inl ?_|fail)
        refine Exists.intro (i + 1, passRun sat from_ (z.take (i + 1))) (And.intro ⟨hlt_i, h5, rfl⟩ (And.intro (by show z.length - (i + 1) < z.length - i; omega) ?_))
        rw [hsn]
        refine St.le.of (And.intro (congrArg some (le_next (by omega))) (And.intro (congrArg (fun z => some (AV.int .i64 z)) ?_) (And.intro (congrArg (fun z => some (AV.sl (.id 7) 6 z)) ?_) ?_))) ?_
        · rw [w1, w2, w3, w4, w5, w6]
        · rw [List.map_append]
          refine congrArg (out.map passA ++ ·) ?_
          rw [w1, w2, w3, w4, w5, w6]; rfl
        · repeat' (first | exact trivial | refine And.intro rfl ?_)
        · repeat' (first | exact trivial | refine And.intro rfl ?_)
      · have b2 : decide ((i : Int) < 6) = true → False := fun h => by have := of_decide_eq_true h; omega
        have b1 : decide ((i : Int) < ((z.map row3A).length : Int)) = false → False := fun h => by have := of_decide_eq_false h; omega
        have he : i = 6 := by omega
        subst he
        repeat' first|exact (b1 (by assumption)).elim|exact (b2 (by assumption)).elim|refine Q1 ?_|refine Q2 ?_|refine Q3 hG Tryz.T Tryz.keep70 (by kernel_rfl) ?_|refine Q4 hG Tryz.T Tryz.keep70 (by kernel_rfl) ?_|refine Q5 hG Tryz.T ?_|refine Q6 hG Tryz.T ?_|refine Q7 hG Tryz.T ?_|refine Q8 hG Tryz.T ?_|refine Q9 rfl ?_|refine QF rfl ?_|refine QC rfl (And.intro (fun h => ?_) (fun h => ?_))|((conv => whnf); first|refine anF ?_|refine anT ?_|refine And.intro (by kernel_rfl) ?_|refine And.intro (fun h => ?_) (fun h => ?_)|refine Or.inl ?_|fail)
        exact Ends.mk (Or.inl rfl) (AV.weak.of_eq (by rw [passesL, ← hr]; rfl))
    · have b1 : decide ((i : Int) < ((z.map row3A).length : Int)) = true → False := fun h => by have := of_decide_eq_true h; omega
      rw [List.take_of_length_le (by omega)] at hr
      repeat' first|exact (b1 (by assumption)).elim|refine Q1 ?_|refine Q2 ?_|refine Q3 hG Tryz.T Tryz.keep70 (by kernel_rfl) ?_|refine Q4 hG Tryz.T Tryz.keep70 (by kernel_rfl) ?_|refine Q5 hG Tryz.T ?_|refine Q6 hG Tryz.T ?_|refine Q7 hG Tryz.T ?_|refine Q8 hG Tryz.T ?_|refine Q9 rfl ?_|refine QF rfl ?_|refine QC rfl (And.intro (fun h => ?_) (fun h => ?_))|((conv => whnf); first|refine anF ?_|refine anT ?_|refine And.intro (by kernel_rfl) ?_|refine And.intro (fun h => ?_) (fun h => ?_)|refine Or.inl ?_|fail)
      exact Ends.mk (Or.inl rfl) (AV.weak.of_eq (by rw [passesL, List.take_of_length_le (by omega), ← hr]; rfl))
end Go.Proofs
namespace Go.Proofs
open Go Go.AI
set_option maxRecDepth 10000
structure R5 where
  a : Int
  b : Int
  c : Int
  d : Int
  e : Int
def row5A (x : R5) : List AV := [.int .i64 x.a, .int .i64 x.b, .int .i64 x.c, .int .i64 x.d, .int .i64 x.e]
def r50 : R5 := ⟨0, 0, 0, 0, 0⟩
def inI5 (x : R5) : Prop := inI x.a ∧ inI x.b ∧ inI x.c ∧ inI x.d ∧ inI x.e
def slotStep (s0 m d n : Int) (ps : List PassT) (r : Int × List SlotT) (k : Nat) : Int × List SlotT :=
  if (r.2.length : Int) < n ∧ (passAt ps k).sat = s0 ∧ max r.1 ((passAt ps k).sa + d) + m ≤ (passAt ps k).sb then
    (max r.1 ((passAt ps k).sa + d) + m, r.2 ++ [⟨(k : Int), max r.1 ((passAt ps k).sa + d), max r.1 ((passAt ps k).sa + d) + m⟩]) else r
def slotRun (s0 m d n : Int) (ps : List PassT) (t0 : Int) (k : Nat) : Int × List SlotT := (List.range k).foldl (slotStep s0 m d n ps) (t0, [])
theorem slotRun_succ (s0 m d n : Int) (ps : List PassT) (t0 : Int) (k : Nat) : slotRun s0 m d n ps t0 (k + 1) = slotStep s0 m d n ps (slotRun s0 m d n ps t0 k) k := by simp [slotRun, List.range_succ, List.foldl_append]
theorem slotRun_full {s0 m d n : Int} {ps : List PassT} {t0 : Int} {k : Nat} (h : ¬ ((slotRun s0 m d n ps t0 k).2.length : Int) < n) : ∀ j, slotRun s0 m d n ps t0 (k + j) = slotRun s0 m d n ps t0 k
  | 0 => rfl
  | j + 1 => by
    rw [show k + (j + 1) = (k + j) + 1 from rfl, slotRun_succ, slotRun_full h j]
    exact if_neg fun g => h g.1
theorem slotRun_stop {s0 m d n : Int} {ps : List PassT} {t0 : Int} {k : Nat} (hk : k ≤ ps.length) (h : ¬ ((slotRun s0 m d n ps t0 k).2.length : Int) < n) : slotRun s0 m d n ps t0 ps.length = slotRun s0 m d n ps t0 k := by
  have := slotRun_full h (ps.length - k)
  rwa [show k + (ps.length - k) = ps.length by omega] at this
def optMk (s : Nat → Int) (ps : List PassT) (from_ id : Int) (x : R5) : Opt :=
  ⟨id, pickS x.e 4, 0, s 0, from_ + pickS x.a 40, from_ + pickS x.a 40 + 1 + pickS x.b 5, pickS x.c (2 * s 9 + 1) - s 9, min (s 10) ((1 + pickS x.d 4) * s 20),
    (slotRun (s 0) (1 + pickS x.d 4) (pickS (w64 (x.d.tdiv 4)) 3) (1 + pickS (w64 (x.e.tdiv 4)) 3) ps (from_ + pickS x.a 40 + 1 + pickS x.b 5) ps.length).2⟩
def propS (s : Nat → Int) (ps : List PassT) (o : Opt) : Bool := satS s && passS ps && fitsS s o ps
def optsTo (s : Nat → Int) (ps : List PassT) (from_ id : Int) (z : List R5) : Nat → List Opt
  | 0 => []
  | i + 1 => optsTo s ps from_ id z i ++ if propS s ps (optMk s ps from_ (id + i) (z.getD i r50)) then [optMk s ps from_ (id + i) (z.getD i r50)] else []
def optsL (s : Nat → Int) (ps : List PassT) (from_ id : Int) (z : List R5) : List Opt := optsTo s ps from_ id z (min z.length 5)
theorem optsTo_len (s : Nat → Int) (ps : List PassT) (from_ id : Int) (z : List R5) : ∀ i, (optsTo s ps from_ id z i).length ≤ i
  | 0 => Nat.le_refl _
  | i + 1 => by
    have := optsTo_len s ps from_ id z i
    simp only [optsTo, List.length_append]
    split <;> simp <;> omega
theorem AV.weak.agg {cs ds : List AV} (h : WeakL cs ds) (hd : ∀ x ∈ ds, x.isCell = true) : (AV.agg cs).weak (.agg ds) := by
  intro m v hv
  cases hv with
  | agg _ vs hl hc hr =>
    obtain ⟨h1, h2⟩ := h.spec
    refine .agg ds vs (by omega) hd fun i x u g1 g2 => ?_
    have hi : i < cs.length := by rw [h1]; exact (List.getElem?_eq_some_iff.1 g1).1
    exact h2 i _ x (List.getElem?_eq_getElem hi) g1 m u (hr i _ u (List.getElem?_eq_getElem hi) g2)
structure OptH (s : Nat → Int) (ps : List PassT) (from_ id : Int) : Prop where
  w : 0 ≤ s 9 ∧ s 9 ≤ 4
  st : 1 ≤ s 10 ∧ s 10 ≤ 1000000
  rt : 1 ≤ s 20 ∧ s 20 ≤ 1000
  f : 0 ≤ from_ ∧ from_ ≤ 5000
  id : 0 ≤ id ∧ id ≤ 50
  pl : ps.length ≤ 64
  p : ∀ p ∈ ps, 0 ≤ p.sa ∧ p.sa ≤ 1000001 ∧ 0 ≤ p.sb ∧ p.sb ≤ 1000001
theorem prop_nil {s : Nat → Int} {ps : List PassT} {p : Int} {a b c d e f g : Int} : propS s ps ⟨p, a, b, c, d, e, f, g, []⟩ = false := by
  have : inS (([] : List SlotT).length : Int) 1 6 = false := by decide
  simp only [propS, fitsS, this, Bool.and_false, Bool.false_and]
set_option maxHeartbeats 16000000 in
theorem Tryz.options (s : Nat → Int) (ps : List PassT) (from_ id : Int) (z : List R5) (hH : OptH s ps from_ id) (hz : ∀ x ∈ z, inI5 x) : ACalls Tryz.prog 71 [.agg (satA s), passesA ps, .int .i64 from_, .int .i64 id, .sl .no 5 (z.map row5A)] (optsA (optsL s ps from_ id z)) := by
  have hlm : ((z.map row5A).length : Int) = (z.length : Int) := by rw [List.length_map]
  have hw := hH.w; have hst := hH.st; have hrt := hH.rt; have hf := hH.f; have hid := hH.id; have hpl := hH.pl
  refine ACalls.ofB Tryz.T Tryz.func71 rfl (by kernel_rfl) Tryz.mixed (Nat.le_of_ble_eq_true rfl) ?_
  intro F n' w0 m0 hG hro h1
  repeat' first|refine Q1 ?_|refine Q2 ?_|refine Q3 hG Tryz.T Tryz.keep71 (by kernel_rfl) ?_|refine Q4 hG Tryz.T Tryz.keep71 (by kernel_rfl) ?_|refine Q5 hG Tryz.T ?_|refine Q6 hG Tryz.T ?_|refine Q7 hG Tryz.T ?_|refine Q8 hG Tryz.T ?_|refine Q9 rfl ?_|refine QF rfl ?_|refine QC rfl (And.intro (fun h => ?_) (fun h => ?_))|((conv => whnf); first|refine anF ?_|refine anT ?_|refine And.intro (by kernel_rfl) ?_|refine And.intro (fun h => ?_) (fun h => ?_)|refine Or.inl ?_|fail)
  refine SPB.loop (X := Nat) (fun i => ⟨[(12, .int .i64 i), (11, (.sl (.id 11) 9 ((optsTo s ps from_ id z i).map optA))), (5, .loc 5 0), (4, .sl .no 5 (z.map row5A)), (3, .int .i64 id), (2, .int .i64 from_), (1, passesA ps)], [(5, satA s)]⟩) (fun i => i ≤ z.length ∧ i ≤ 5) (fun i => z.length - i) 0 ⟨Nat.zero_le _, Nat.zero_le _⟩ (St.le.of ?_ ?_) (fun i hx => ?_)
  · repeat' (first | exact trivial | refine And.intro rfl ?_)
  · repeat' (first | exact trivial | refine And.intro rfl ?_)
  · obtain ⟨hi, h6⟩ := hx
    have hol := optsTo_len s ps from_ id z i
    by_cases hlt_i : i < z.length
    · by_cases h5 : i < 5
      · have b1 : decide ((i : Int) < ((z.map row5A).length : Int)) = false → False := fun h => by have := of_decide_eq_false h; omega
        have b2 : decide ((i : Int) < 5) = false → False := fun h => by have := of_decide_eq_false h; omega
        have hx := row_at (f := row5A) r50 hlt_i
        have hxi : inI5 (z.getD i r50) := hz _ (by rw [List.getD_eq_getElem?_getD, List.getElem?_eq_getElem hlt_i]; exact List.getElem_mem hlt_i)
        have hon : optsTo s ps from_ id z (i + 1) = optsTo s ps from_ id z i ++ if propS s ps (optMk s ps from_ (id + i) (z.getD i r50)) then [optMk s ps from_ (id + i) (z.getD i r50)] else [] := rfl
        generalize z.getD i r50 = x at hx hxi hon
        have p1 := pick_rng hxi.1 (n := 40) (by omega)
        have p2 := pick_rng hxi.2.1 (n := 5) (by omega)
        have p3 := pick_rng hxi.2.2.1 (n := 2 * s 9 + 1) (by omega)
        have p4 := pick_rng hxi.2.2.2.1 (n := 4) (by omega)
        have p5 := pick_rng (w64_inI (x.d.tdiv 4)) (n := 3) (by omega)
        have p6 := pick_rng (w64_inI (x.e.tdiv 4)) (n := 3) (by omega)
        have cE := Tryz.rpick (w64 (x.e.tdiv 4)) 3 (by decide)
        have cD := Tryz.rpick (w64 (x.d.tdiv 4)) 3 (by decide)
        have wc : IntKind.i64.wrap (IntKind.i64.wrap (2 * s 9) + 1) = 2 * s 9 + 1 := by rw [show IntKind.i64.wrap (2 * s 9) = 2 * s 9 from w64_in (by omega) (by omega)]; exact w64_in (by omega) (by omega)
        have cC : ACalls Tryz.prog 143 [.int .i64 x.c, .int .i64 (IntKind.i64.wrap (IntKind.i64.wrap (2 * s 9) + 1))] (.int .i64 (pickS x.c (2 * s 9 + 1))) := by
          have h := Tryz.rpick x.c (IntKind.i64.wrap (IntKind.i64.wrap (2 * s 9) + 1)) (by rw [wc]; omega)
          rw [wc] at h ⊢
          exact h
        have c1 := Tryz.rpick x.a 40 (by decide)
        have c2 := Tryz.rpick x.b 5 (by decide)
        have c4 := Tryz.rpick x.d 4 (by decide)
        have hmkv : optMk s ps from_ (id + i) x = ⟨id + i, pickS x.e 4, 0, s 0, from_ + pickS x.a 40, from_ + pickS x.a 40 + 1 + pickS x.b 5, pickS x.c (2 * s 9 + 1) - s 9, min (s 10) ((1 + pickS x.d 4) * s 20),
    (slotRun (s 0) (1 + pickS x.d 4) (pickS (w64 (x.d.tdiv 4)) 3) (1 + pickS (w64 (x.e.tdiv 4)) 3) ps (from_ + pickS x.a 40 + 1 + pickS x.b 5) ps.length).2⟩ := rfl
        generalize pickS x.a 40 = pa at *
        generalize pickS x.b 5 = pb at *
        generalize pickS x.c (2 * s 9 + 1) = pc at *
        generalize pickS x.d 4 = pd at *
        generalize pickS (w64 (x.d.tdiv 4)) 3 = dd at *
        generalize pickS (w64 (x.e.tdiv 4)) 3 = nn at *
        have hm0 : 0 ≤ (1 + pd) * s 20 := Int.mul_nonneg (by omega) (by omega)
        have hm1 : (1 + pd) * s 20 ≤ 4 * 1000 := Int.mul_le_mul (by omega) (by omega) (by omega) (by omega)
        have w1 : IntKind.i64.wrap (id + (i : Int)) = id + i := w64_in (by omega) (by omega)
        have w2 : IntKind.i64.wrap (from_ + pa) = from_ + pa := w64_in (by omega) (by omega)
        have w3 : IntKind.i64.wrap (from_ + pa + 1) = from_ + pa + 1 := w64_in (by omega) (by omega)
        have w4 : IntKind.i64.wrap (from_ + pa + 1 + pb) = from_ + pa + 1 + pb := w64_in (by omega) (by omega)
        have w5 : IntKind.i64.wrap (pc - s 9) = pc - s 9 := w64_in (by omega) (by omega)
        have w6 : IntKind.i64.wrap (1 + pd) = 1 + pd := w64_in (by omega) (by omega)
        have w7 : IntKind.i64.wrap ((1 + pd) * s 20) = (1 + pd) * s 20 := w64_in (by omega) (by omega)
        have w8 : IntKind.i64.wrap (1 + nn) = 1 + nn := w64_in (by omega) (by omega)
        have hcell : ([.int .i64 (IntKind.i64.wrap (id + (i : Int))), .int .i64 (pickS x.e 4), .int .i64 0, .int .i64 (s 0), .int .i64 (IntKind.i64.wrap (from_ + pa)), .int .i64 (IntKind.i64.wrap (IntKind.i64.wrap (IntKind.i64.wrap (from_ + pa) + 1) + pb)), .int .i64 (IntKind.i64.wrap (pc - s 9)), .int .i64 (min (s 10) (IntKind.i64.wrap (IntKind.i64.wrap (1 + pd) * s 20))), .sl .full 0 []] : List AV) = [.int .i64 (id + (i : Int)), .int .i64 (pickS x.e 4), .int .i64 0, .int .i64 (s 0), .int .i64 (from_ + pa), .int .i64 (from_ + pa + 1 + pb), .int .i64 (pc - s 9), .int .i64 (min (s 10) ((1 + pd) * s 20)), .sl .full 0 []] := by rw [w1, w2, w3, w4, w5, w6, w7]
        have h15 : 0 ≤ from_ + pa + 1 + pb ∧ from_ + pa + 1 + pb ≤ 1100000 := by omega
        have he15 : IntKind.i64.wrap (IntKind.i64.wrap (IntKind.i64.wrap (from_ + pa) + 1) + pb) = from_ + pa + 1 + pb := by rw [w2, w3, w4]
        repeat' first|exact (b1 (by assumption)).elim|exact (b2 (by assumption)).elim|refine Q1 ?_|refine Q2 ?_|refine Q3 hG Tryz.T Tryz.keep71 (by kernel_rfl) ?_|refine Q4 hG Tryz.T Tryz.keep71 (by kernel_rfl) ?_|refine Q5 hG Tryz.T ?_|refine Q6 hG Tryz.T ?_|refine Q7 hG Tryz.T ?_|refine Q8 hG Tryz.T ?_|refine Q9 rfl ?_|refine QF rfl ?_|refine QC rfl (And.intro (fun h => ?_) (fun h => ?_))|((conv => whnf); first|refine anF ?_|refine anT ?_|refine And.intro (by kernel_rfl) ?_|refine And.intro (Int.natCast_nonneg i) (Exists.intro _ (And.intro hx ?_))|refine Exists.intro _ (And.intro (cC) ?_)|refine Exists.intro _ (And.intro (c1) ?_)|refine Exists.intro _ (And.intro (c2) ?_)|refine Exists.intro _ (And.intro (c4) ?_)|refine Exists.intro _ (And.intro (Tryz.rpick _ _ (by decide)) ?_)|refine And.intro (by decide) ?_|refine And.intro (fun h => ?_) (fun h => ?_)|refine Or.inl ?_|fail)
        have cPf : ∀ sl : List SlotT, sl.length ≤ 64 → ACalls Tryz.prog 31 [.agg (satA s), .agg [.int .i64 (id + (i : Int)), .int .i64 (pickS x.e 4), .int .i64 0, .int .i64 (s 0), .int .i64 (from_ + pa), .int .i64 (from_ + pa + 1 + pb), .int .i64 (pc - s 9), .int .i64 (min (s 10) ((1 + pd) * s 20)), slotsA sl], passesA ps] (.bool (propS s ps ⟨id + i, pickS x.e 4, 0, s 0, from_ + pa, from_ + pa + 1 + pb, pc - s 9, min (s 10) ((1 + pd) * s 20), sl⟩)) := fun sl h => Tryz.rproper s ⟨id + (i : Int), pickS x.e 4, 0, s 0, from_ + pa, from_ + pa + 1 + pb, pc - s 9, min (s 10) ((1 + pd) * s 20), sl⟩ ps (Nat.le_trans h (by decide)) (by omega)
        refine SPB.loop (X := Nat × Int × List SlotT × AV) (fun y => ⟨[(16, .int .i64 y.1), (15, .int .i64 y.2.1), (14, .int .i64 (1 + pd)), (13, .loc 13 0), (12, .int .i64 i), (11, (.sl (.id 11) 9 ((optsTo s ps from_ id z i).map optA))), (5, .loc 5 0), (4, .sl .no 5 (z.map row5A)), (3, .int .i64 id), (2, .int .i64 from_), (1, passesA ps)], [(13, [.int .i64 (id + (i : Int)), .int .i64 (pickS x.e 4), .int .i64 0, .int .i64 (s 0), .int .i64 (from_ + pa), .int .i64 (from_ + pa + 1 + pb), .int .i64 (pc - s 9), .int .i64 (min (s 10) ((1 + pd) * s 20)), y.2.2.2]), (5, satA s)]⟩) (fun y => y.1 ≤ ps.length ∧ (y.2.1, y.2.2.1) = slotRun (s 0) (1 + pd) dd (1 + nn) ps (from_ + pa + 1 + pb) y.1 ∧ (0 ≤ y.2.1 ∧ y.2.1 ≤ 1100000) ∧ y.2.2.1.length ≤ y.1 ∧ ((y.2.2.1 = [] ∧ y.2.2.2 = .sl .full 0 []) ∨ y.2.2.2 = .sl (.id 160) 3 (y.2.2.1.map slotA))) (fun y => ps.length - y.1) (0, from_ + pa + 1 + pb, [], .sl .full 0 []) ⟨Nat.zero_le _, rfl, h15, Nat.le_refl _, .inl ⟨rfl, rfl⟩⟩ (St.le.of ?_ ?_) (fun y hy => ?_)
        · refine And.intro rfl (And.intro (congrArg (fun z => some (AV.int .i64 z)) he15) (And.intro (congrArg (fun z => some (AV.int .i64 z)) w6) ?_))
          repeat' (first | exact trivial | refine And.intro rfl ?_)
        · refine And.intro (congrArg some hcell) ?_
          repeat' (first | exact trivial | refine And.intro rfl ?_)
        · obtain ⟨k, en, sl, cell⟩ := y
          obtain ⟨hk, hr, hen, hsl, hc⟩ := hy
          simp only at hk hr hen hsl hc ⊢
          rcases hc with ⟨rfl, rfl⟩ | rfl
          · have cP : ACalls Tryz.prog 31 [.agg (satA s), .agg [.int .i64 (id + (i : Int)), .int .i64 (pickS x.e 4), .int .i64 0, .int .i64 (s 0), .int .i64 (from_ + pa), .int .i64 (from_ + pa + 1 + pb), .int .i64 (pc - s 9), .int .i64 (min (s 10) ((1 + pd) * s 20)), .sl .full 0 []], passesA ps] (.bool (propS s ps ⟨id + (i : Int), pickS x.e 4, 0, s 0, from_ + pa, from_ + pa + 1 + pb, pc - s 9, min (s 10) ((1 + pd) * s 20), ([] : List SlotT)⟩)) := (cPf [] (by simp)).weak (.cons (.refl _) (.cons (AV.weak.agg (.cons (.refl _) (.cons (.refl _) (.cons (.refl _) (.cons (.refl _) (.cons (.refl _) (.cons (.refl _) (.cons (.refl _) (.cons (.refl _) (.cons AV.weak.slnil .nil))))))))) (by intro y hy; simp at hy; rcases hy with rfl | rfl | rfl | rfl | rfl | rfl | rfl | rfl | rfl <;> rfl)) (.refl _)))
            by_cases hlt_k : k < ps.length
            · have bbk : decide ((k : Int) < ((ps.map passA).length : Int)) = false → False := fun h => by have := of_decide_eq_false h; simp at this; omega
              have hy := passAt_i hlt_k
              have hqb := hH.p (passAt ps k) (by rw [passAt_mem hlt_k]; exact List.getElem_mem hlt_k)
              have hrn := slotRun_succ (s 0) (1 + pd) dd (1 + nn) ps (from_ + pa + 1 + pb) k
              rw [← hr, slotStep] at hrn
              simp only at hrn
              have hstop : ¬ ((([] : List SlotT) : List SlotT).length : Int) < 1 + nn → optMk s ps from_ (id + i) x = ⟨id + (i : Int), pickS x.e 4, 0, s 0, from_ + pa, from_ + pa + 1 + pb, pc - s 9, min (s 10) ((1 + pd) * s 20), ([] : List SlotT)⟩ := fun h => by
                have h2 := slotRun_stop hk (s0 := s 0) (m := 1 + pd) (d := dd) (n := 1 + nn) (t0 := from_ + pa + 1 + pb) (by rw [← hr]; exact h)
                rw [hmkv, h2, ← hr]
              generalize passAt ps k = q at hy hqb hrn
              have v1 : IntKind.i64.wrap (q.sa + dd) = q.sa + dd := w64_in (by omega) (by omega)
              have v2 : IntKind.i64.wrap (max en (q.sa + dd) + (1 + pd)) = max en (q.sa + dd) + (1 + pd) := w64_in (by omega) (by omega)
              have e15 : IntKind.i64.wrap (max en (IntKind.i64.wrap (q.sa + dd)) + (1 + pd)) = max en (q.sa + dd) + (1 + pd) := by rw [v1, v2]
              have e13 : ([] : List (List AV)) ++ [[.int .i64 (k : Int), .int .i64 (max en (IntKind.i64.wrap (q.sa + dd))), .int .i64 (IntKind.i64.wrap (max en (IntKind.i64.wrap (q.sa + dd)) + (1 + pd)))]] = (([] : List SlotT) ++ [(⟨(k : Int), max en (q.sa + dd), max en (q.sa + dd) + (1 + pd)⟩ : SlotT)]).map slotA := by rw [v1, v2]; simp [slotA]
              repeat' first|exact (bbk (by assumption)).elim|refine Q1 ?_|refine Q2 ?_|refine Q3 hG Tryz.T Tryz.keep71 (by kernel_rfl) ?_|refine Q4 hG Tryz.T Tryz.keep71 (by kernel_rfl) ?_|refine Q5 hG Tryz.T ?_|refine Q6 hG Tryz.T ?_|refine Q7 hG Tryz.T ?_|refine Q8 hG Tryz.T ?_|refine Q9 rfl ?_|refine QF rfl ?_|refine QC rfl (And.intro (fun h => ?_) (fun h => ?_))|((conv => whnf); first|refine anF ?_|refine anT ?_|refine And.intro (by kernel_rfl) ?_|refine And.intro (Int.natCast_nonneg k) (Exists.intro _ (And.intro hy ?_))|refine And.intro (Int.natCast_nonneg i) (Exists.intro _ (And.intro hx ?_))|refine Exists.intro _ (And.intro (cE) ?_)|refine Exists.intro _ (And.intro (cD) ?_)|refine And.intro (by decide) ?_|refine And.intro (Nat.le_of_ble_eq_true rfl) (And.intro (Nat.le_of_ble_eq_true rfl) ?_)|refine Exists.intro _ (And.intro (cP) ?_)|refine And.intro (show (((optsTo s ps from_ id z i).map optA).length + 1) * 88 ≤ 70368744177664 by rw [List.length_map]; omega) (And.intro (show ((optsTo s ps from_ id z i).map optA).length + 1 ≤ 4611686018427387904 by rw [List.length_map]; omega) ?_)|refine And.intro (fun h => ?_) (fun h => ?_)|refine Or.inl ?_|fail)
              all_goals first
                | (conv => whnf
                   refine Exists.intro (k + 1, max en (q.sa + dd) + (1 + pd), ([] : List SlotT) ++ [(⟨(k : Int), max en (q.sa + dd), max en (q.sa + dd) + (1 + pd)⟩ : SlotT)], AV.sl (.id 160) 3 ((([] : List SlotT) ++ [(⟨(k : Int), max en (q.sa + dd), max en (q.sa + dd) + (1 + pd)⟩ : SlotT)]).map slotA)) (And.intro ⟨hlt_k, ?_, ?_, ?_, .inr rfl⟩ (And.intro (by show ps.length - (k + 1) < ps.length - k; omega) (St.le.of ?_ ?_)))
                   · rw [hrn]; symm; apply if_pos; clear hG hcell hmkv hon hx hy cP cPf hstop e13 cE cD cC c1 c2 c4 w1 w2 w3 w4 w5 w6 w7 wc he15 hm0 hm1 hH hz hxi hlm; (try simp only [cond_true, cond_false] at *); grind
                   · clear hG hcell hmkv hon hx hy cP cPf hstop e13 cE cD cC c1 c2 c4 w1 w2 w3 w4 w5 w6 w7 wc he15 hm0 hm1 hH hz hxi hlm; (try simp only [cond_true, cond_false] at *); grind
                   · simp <;> omega
                   · refine And.intro (congrArg some (le_next (by omega))) (And.intro (congrArg (fun z => some (AV.int .i64 z)) e15) ?_)
                     repeat' (first | exact trivial | refine And.intro rfl ?_)
                   · refine And.intro (congrArg (fun z => some ([.int .i64 (id + (i : Int)), .int .i64 (pickS x.e 4), .int .i64 0, .int .i64 (s 0), .int .i64 (from_ + pa), .int .i64 (from_ + pa + 1 + pb), .int .i64 (pc - s 9), .int .i64 (min (s 10) ((1 + pd) * s 20)), AV.sl (.id 160) 3 z] : List AV)) e13) ?_
                     repeat' (first | exact trivial | refine And.intro rfl ?_))
                | (conv => whnf
                   refine Exists.intro (k + 1, en, ([] : List SlotT), .sl .full 0 []) (And.intro ⟨hlt_k, ?_, hen, ?_, .inl ⟨rfl, rfl⟩⟩ (And.intro (by show ps.length - (k + 1) < ps.length - k; omega) (St.le.of ?_ ?_)))
                   · rw [hrn]; symm; apply if_neg; clear hG hcell hmkv hon hx hy cP cPf hstop e13 cE cD cC c1 c2 c4 w1 w2 w3 w4 w5 w6 w7 wc he15 hm0 hm1 hH hz hxi hlm; (try simp only [cond_true, cond_false] at *); grind
                   · exact Nat.le_succ_of_le hsl
                   · refine And.intro (congrArg some (le_next (by omega))) ?_
                     repeat' (first | exact trivial | refine And.intro rfl ?_)
                   · repeat' (first | exact trivial | refine And.intro rfl ?_))
                | skip
              all_goals have hmk := hstop (by clear hG hcell hmkv hon hx hy cP cPf hstop e13 cE cD cC c1 c2 c4 w1 w2 w3 w4 w5 w6 w7 wc he15 hm0 hm1 hH hz hxi hlm; (try simp only [cond_true, cond_false] at *); grind)
              all_goals first
                | (exact absurd (by assumption : propS s ps _ = true) (by rw [prop_nil]; simp))
                | (have hpr := (by assumption : propS s ps _ = false)
                   conv => whnf
                   refine Exists.intro (i + 1) (And.intro ⟨hlt_i, h5⟩ (And.intro (by omega) (St.le.of ?_ ?_)))
                   · refine And.intro (congrArg some (le_next (by omega))) (And.intro (congrArg (fun z => some (AV.sl (.id 11) 9 z)) ?_) ?_)
                     · rw [hon, hmk, if_neg (by rw [hpr]; simp), List.append_nil]
                     · repeat' (first | exact trivial | refine And.intro rfl ?_)
                   · repeat' (first | exact trivial | refine And.intro rfl ?_))
            · have bbk : decide ((k : Int) < ((ps.map passA).length : Int)) = true → False := fun h => by have := of_decide_eq_true h; simp at this; omega
              have he : k = ps.length := by omega
              have hmk : optMk s ps from_ (id + i) x = ⟨id + (i : Int), pickS x.e 4, 0, s 0, from_ + pa, from_ + pa + 1 + pb, pc - s 9, min (s 10) ((1 + pd) * s 20), ([] : List SlotT)⟩ := by rw [hmkv, ← he, ← hr]
              repeat' first|exact (bbk (by assumption)).elim|refine Q1 ?_|refine Q2 ?_|refine Q3 hG Tryz.T Tryz.keep71 (by kernel_rfl) ?_|refine Q4 hG Tryz.T Tryz.keep71 (by kernel_rfl) ?_|refine Q5 hG Tryz.T ?_|refine Q6 hG Tryz.T ?_|refine Q7 hG Tryz.T ?_|refine Q8 hG Tryz.T ?_|refine Q9 rfl ?_|refine QF rfl ?_|refine QC rfl (And.intro (fun h => ?_) (fun h => ?_))|((conv => whnf); first|refine anF ?_|refine anT ?_|refine And.intro (by kernel_rfl) ?_|refine Exists.intro _ (And.intro (cP) ?_)|refine And.intro (show (((optsTo s ps from_ id z i).map optA).length + 1) * 88 ≤ 70368744177664 by rw [List.length_map]; omega) (And.intro (show ((optsTo s ps from_ id z i).map optA).length + 1 ≤ 4611686018427387904 by rw [List.length_map]; omega) ?_)|refine And.intro (fun h => ?_) (fun h => ?_)|refine Or.inl ?_|fail)
              all_goals first
                | (exact absurd (by assumption : propS s ps _ = true) (by rw [prop_nil]; simp))
                | (have hpr := (by assumption : propS s ps _ = false)
                   conv => whnf
                   refine Exists.intro (i + 1) (And.intro ⟨hlt_i, h5⟩ (And.intro (by omega) (St.le.of ?_ ?_)))
                   · refine And.intro (congrArg some (le_next (by omega))) (And.intro (congrArg (fun z => some (AV.sl (.id 11) 9 z)) ?_) ?_)
                     · rw [hon, hmk, if_neg (by rw [hpr]; simp), List.append_nil]
                     · repeat' (first | exact trivial | refine And.intro rfl ?_)
                   · repeat' (first | exact trivial | refine And.intro rfl ?_))
          · have cP : ACalls Tryz.prog 31 [.agg (satA s), .agg [.int .i64 (id + (i : Int)), .int .i64 (pickS x.e 4), .int .i64 0, .int .i64 (s 0), .int .i64 (from_ + pa), .int .i64 (from_ + pa + 1 + pb), .int .i64 (pc - s 9), .int .i64 (min (s 10) ((1 + pd) * s 20)), .sl .no 3 (sl.map slotA)], passesA ps] (.bool (propS s ps ⟨id + (i : Int), pickS x.e 4, 0, s 0, from_ + pa, from_ + pa + 1 + pb, pc - s 9, min (s 10) ((1 + pd) * s 20), sl⟩)) := cPf sl (by omega)
            by_cases hlt_k : k < ps.length
            · have bbk : decide ((k : Int) < ((ps.map passA).length : Int)) = false → False := fun h => by have := of_decide_eq_false h; simp at this; omega
              have hy := passAt_i hlt_k
              have hqb := hH.p (passAt ps k) (by rw [passAt_mem hlt_k]; exact List.getElem_mem hlt_k)
              have hrn := slotRun_succ (s 0) (1 + pd) dd (1 + nn) ps (from_ + pa + 1 + pb) k
              rw [← hr, slotStep] at hrn
              simp only at hrn
              have hstop : ¬ ((sl : List SlotT).length : Int) < 1 + nn → optMk s ps from_ (id + i) x = ⟨id + (i : Int), pickS x.e 4, 0, s 0, from_ + pa, from_ + pa + 1 + pb, pc - s 9, min (s 10) ((1 + pd) * s 20), sl⟩ := fun h => by
                have h2 := slotRun_stop hk (s0 := s 0) (m := 1 + pd) (d := dd) (n := 1 + nn) (t0 := from_ + pa + 1 + pb) (by rw [← hr]; exact h)
                rw [hmkv, h2, ← hr]
              generalize passAt ps k = q at hy hqb hrn
              have v1 : IntKind.i64.wrap (q.sa + dd) = q.sa + dd := w64_in (by omega) (by omega)
              have v2 : IntKind.i64.wrap (max en (q.sa + dd) + (1 + pd)) = max en (q.sa + dd) + (1 + pd) := w64_in (by omega) (by omega)
              have e15 : IntKind.i64.wrap (max en (IntKind.i64.wrap (q.sa + dd)) + (1 + pd)) = max en (q.sa + dd) + (1 + pd) := by rw [v1, v2]
              have e13 : sl.map slotA ++ [[.int .i64 (k : Int), .int .i64 (max en (IntKind.i64.wrap (q.sa + dd))), .int .i64 (IntKind.i64.wrap (max en (IntKind.i64.wrap (q.sa + dd)) + (1 + pd)))]] = (sl ++ [(⟨(k : Int), max en (q.sa + dd), max en (q.sa + dd) + (1 + pd)⟩ : SlotT)]).map slotA := by rw [v1, v2]; simp [slotA]
              repeat' first|exact (bbk (by assumption)).elim|refine Q1 ?_|refine Q2 ?_|refine Q3 hG Tryz.T Tryz.keep71 (by kernel_rfl) ?_|refine Q4 hG Tryz.T Tryz.keep71 (by kernel_rfl) ?_|refine Q5 hG Tryz.T ?_|refine Q6 hG Tryz.T ?_|refine Q7 hG Tryz.T ?_|refine Q8 hG Tryz.T ?_|refine Q9 rfl ?_|refine QF rfl ?_|refine QC rfl (And.intro (fun h => ?_) (fun h => ?_))|((conv => whnf); first|refine anF ?_|refine anT ?_|refine And.intro (by kernel_rfl) ?_|refine And.intro (Int.natCast_nonneg k) (Exists.intro _ (And.intro hy ?_))|refine And.intro (Int.natCast_nonneg i) (Exists.intro _ (And.intro hx ?_))|refine Exists.intro _ (And.intro (cE) ?_)|refine Exists.intro _ (And.intro (cD) ?_)|refine And.intro (by decide) ?_|refine And.intro (show ((sl.map slotA).length + 1) * 24 ≤ 70368744177664 by rw [List.length_map]; omega) (And.intro (show (sl.map slotA).length + 1 ≤ 4611686018427387904 by rw [List.length_map]; omega) ?_)|refine Exists.intro _ (And.intro (cP) ?_)|refine And.intro (show (((optsTo s ps from_ id z i).map optA).length + 1) * 88 ≤ 70368744177664 by rw [List.length_map]; omega) (And.intro (show ((optsTo s ps from_ id z i).map optA).length + 1 ≤ 4611686018427387904 by rw [List.length_map]; omega) ?_)|refine And.intro (fun h => ?_) (fun h => ?_)|refine Or.inl ?_|fail)
              all_goals first
                | (conv => whnf
                   refine Exists.intro (k + 1, max en (q.sa + dd) + (1 + pd), sl ++ [(⟨(k : Int), max en (q.sa + dd), max en (q.sa + dd) + (1 + pd)⟩ : SlotT)], AV.sl (.id 160) 3 ((sl ++ [(⟨(k : Int), max en (q.sa + dd), max en (q.sa + dd) + (1 + pd)⟩ : SlotT)]).map slotA)) (And.intro ⟨hlt_k, ?_, ?_, ?_, .inr rfl⟩ (And.intro (by show ps.length - (k + 1) < ps.length - k; omega) (St.le.of ?_ ?_)))
                   · rw [hrn]; symm; apply if_pos; clear hG hcell hmkv hon hx hy cP cPf hstop e13 cE cD cC c1 c2 c4 w1 w2 w3 w4 w5 w6 w7 wc he15 hm0 hm1 hH hz hxi hlm; (try simp only [cond_true, cond_false] at *); grind
                   · clear hG hcell hmkv hon hx hy cP cPf hstop e13 cE cD cC c1 c2 c4 w1 w2 w3 w4 w5 w6 w7 wc he15 hm0 hm1 hH hz hxi hlm; (try simp only [cond_true, cond_false] at *); grind
                   · simp <;> omega
                   · refine And.intro (congrArg some (le_next (by omega))) (And.intro (congrArg (fun z => some (AV.int .i64 z)) e15) ?_)
                     repeat' (first | exact trivial | refine And.intro rfl ?_)
                   · refine And.intro (congrArg (fun z => some ([.int .i64 (id + (i : Int)), .int .i64 (pickS x.e 4), .int .i64 0, .int .i64 (s 0), .int .i64 (from_ + pa), .int .i64 (from_ + pa + 1 + pb), .int .i64 (pc - s 9), .int .i64 (min (s 10) ((1 + pd) * s 20)), AV.sl (.id 160) 3 z] : List AV)) e13) ?_
                     repeat' (first | exact trivial | refine And.intro rfl ?_))
                | (conv => whnf
                   refine Exists.intro (k + 1, en, sl, .sl (.id 160) 3 (sl.map slotA)) (And.intro ⟨hlt_k, ?_, hen, ?_, .inr rfl⟩ (And.intro (by show ps.length - (k + 1) < ps.length - k; omega) (St.le.of ?_ ?_)))
                   · rw [hrn]; symm; apply if_neg; clear hG hcell hmkv hon hx hy cP cPf hstop e13 cE cD cC c1 c2 c4 w1 w2 w3 w4 w5 w6 w7 wc he15 hm0 hm1 hH hz hxi hlm; (try simp only [cond_true, cond_false] at *); grind
                   · exact Nat.le_succ_of_le hsl
                   · refine And.intro (congrArg some (le_next (by omega))) ?_
                     repeat' (first | exact trivial | refine And.intro rfl ?_)
                   · repeat' (first | exact trivial | refine And.intro rfl ?_))
                | skip
              all_goals have hmk := hstop (by clear hG hcell hmkv hon hx hy cP cPf hstop e13 cE cD cC c1 c2 c4 w1 w2 w3 w4 w5 w6 w7 wc he15 hm0 hm1 hH hz hxi hlm; (try simp only [cond_true, cond_false] at *); grind)
              all_goals first
                | (have hpr := (by assumption : propS s ps ⟨id + (i : Int), pickS x.e 4, 0, s 0, from_ + pa, from_ + pa + 1 + pb, pc - s 9, min (s 10) ((1 + pd) * s 20), sl⟩ = true)
                   conv => whnf
                   refine Exists.intro (i + 1) (And.intro ⟨hlt_i, h5⟩ (And.intro (by omega) (St.le.of ?_ ?_)))
                   · refine And.intro (congrArg some (le_next (by omega))) (And.intro (congrArg (fun z => some (AV.sl (.id 11) 9 z)) ?_) ?_)
                     · rw [hon, hmk, if_pos hpr, List.map_append]; rfl
                     · repeat' (first | exact trivial | refine And.intro rfl ?_)
                   · repeat' (first | exact trivial | refine And.intro rfl ?_))
                | (have hpr := (by assumption : propS s ps _ = false)
                   conv => whnf
                   refine Exists.intro (i + 1) (And.intro ⟨hlt_i, h5⟩ (And.intro (by omega) (St.le.of ?_ ?_)))
                   · refine And.intro (congrArg some (le_next (by omega))) (And.intro (congrArg (fun z => some (AV.sl (.id 11) 9 z)) ?_) ?_)
                     · rw [hon, hmk, if_neg (by rw [hpr]; simp), List.append_nil]
                     · repeat' (first | exact trivial | refine And.intro rfl ?_)
                   · repeat' (first | exact trivial | refine And.intro rfl ?_))
            · have bbk : decide ((k : Int) < ((ps.map passA).length : Int)) = true → False := fun h => by have := of_decide_eq_true h; simp at this; omega
              have he : k = ps.length := by omega
              have hmk : optMk s ps from_ (id + i) x = ⟨id + (i : Int), pickS x.e 4, 0, s 0, from_ + pa, from_ + pa + 1 + pb, pc - s 9, min (s 10) ((1 + pd) * s 20), sl⟩ := by rw [hmkv, ← he, ← hr]
              repeat' first|exact (bbk (by assumption)).elim|refine Q1 ?_|refine Q2 ?_|refine Q3 hG Tryz.T Tryz.keep71 (by kernel_rfl) ?_|refine Q4 hG Tryz.T Tryz.keep71 (by kernel_rfl) ?_|refine Q5 hG Tryz.T ?_|refine Q6 hG Tryz.T ?_|refine Q7 hG Tryz.T ?_|refine Q8 hG Tryz.T ?_|refine Q9 rfl ?_|refine QF rfl ?_|refine QC rfl (And.intro (fun h => ?_) (fun h => ?_))|((conv => whnf); first|refine anF ?_|refine anT ?_|refine And.intro (by kernel_rfl) ?_|refine Exists.intro _ (And.intro (cP) ?_)|refine And.intro (show (((optsTo s ps from_ id z i).map optA).length + 1) * 88 ≤ 70368744177664 by rw [List.length_map]; omega) (And.intro (show ((optsTo s ps from_ id z i).map optA).length + 1 ≤ 4611686018427387904 by rw [List.length_map]; omega) ?_)|refine And.intro (fun h => ?_) (fun h => ?_)|refine Or.inl ?_|fail)
              all_goals first
                | (have hpr := (by assumption : propS s ps ⟨id + (i : Int), pickS x.e 4, 0, s 0, from_ + pa, from_ + pa + 1 + pb, pc - s 9, min (s 10) ((1 + pd) * s 20), sl⟩ = true)
                   conv => whnf
                   refine Exists.intro (i + 1) (And.intro ⟨hlt_i, h5⟩ (And.intro (by omega) (St.le.of ?_ ?_)))
                   · refine And.intro (congrArg some (le_next (by omega))) (And.intro (congrArg (fun z => some (AV.sl (.id 11) 9 z)) ?_) ?_)
                     · rw [hon, hmk, if_pos hpr, List.map_append]; rfl
                     · repeat' (first | exact trivial | refine And.intro rfl ?_)
                   · repeat' (first | exact trivial | refine And.intro rfl ?_))
                | (have hpr := (by assumption : propS s ps _ = false)
                   conv => whnf
                   refine Exists.intro (i + 1) (And.intro ⟨hlt_i, h5⟩ (And.intro (by omega) (St.le.of ?_ ?_)))
                   · refine And.intro (congrArg some (le_next (by omega))) (And.intro (congrArg (fun z => some (AV.sl (.id 11) 9 z)) ?_) ?_)
                     · rw [hon, hmk, if_neg (by rw [hpr]; simp), List.append_nil]
                     · repeat' (first | exact trivial | refine And.intro rfl ?_)
                   · repeat' (first | exact trivial | refine And.intro rfl ?_))
      · have b2 : decide ((i : Int) < 5) = true → False := fun h => by have := of_decide_eq_true h; omega
        have b1 : decide ((i : Int) < ((z.map row5A).length : Int)) = false → False := fun h => by have := of_decide_eq_false h; omega
        have he : i = 5 := by omega
        subst he
        repeat' first|exact (b1 (by assumption)).elim|exact (b2 (by assumption)).elim|refine Q1 ?_|refine Q2 ?_|refine Q3 hG Tryz.T Tryz.keep71 (by kernel_rfl) ?_|refine Q4 hG Tryz.T Tryz.keep71 (by kernel_rfl) ?_|refine Q5 hG Tryz.T ?_|refine Q6 hG Tryz.T ?_|refine Q7 hG Tryz.T ?_|refine Q8 hG Tryz.T ?_|refine Q9 rfl ?_|refine QF rfl ?_|refine QC rfl (And.intro (fun h => ?_) (fun h => ?_))|((conv => whnf); first|refine anF ?_|refine anT ?_|refine And.intro (by kernel_rfl) ?_|refine And.intro (fun h => ?_) (fun h => ?_)|refine Or.inl ?_|fail)
        exact Ends.mk (Or.inl rfl) (AV.weak.of_eq (by rw [optsL, Nat.min_eq_right (by omega)]; rfl))
    · have b1 : decide ((i : Int) < ((z.map row5A).length : Int)) = true → False := fun h => by have := of_decide_eq_true h; omega
      have he : i = z.length := by omega
      repeat' first|exact (b1 (by assumption)).elim|refine Q1 ?_|refine Q2 ?_|refine Q3 hG Tryz.T Tryz.keep71 (by kernel_rfl) ?_|refine Q4 hG Tryz.T Tryz.keep71 (by kernel_rfl) ?_|refine Q5 hG Tryz.T ?_|refine Q6 hG Tryz.T ?_|refine Q7 hG Tryz.T ?_|refine Q8 hG Tryz.T ?_|refine Q9 rfl ?_|refine QF rfl ?_|refine QC rfl (And.intro (fun h => ?_) (fun h => ?_))|((conv => whnf); first|refine anF ?_|refine anT ?_|refine And.intro (by kernel_rfl) ?_|refine And.intro (fun h => ?_) (fun h => ?_)|refine Or.inl ?_|fail)
      exact Ends.mk (Or.inl rfl) (AV.weak.of_eq (by rw [optsL, Nat.min_eq_left (by omega), ← he]; rfl))
end Go.Proofs
namespace Go.Proofs
open Go Go.AI
structure TCase where
  x : Nat → Int
  y : Nat → Int
  z : List (Int × Int × Int)
  v : List R5
  from_ : Int
  hx : ∀ i, inI (x i)
  hy : ∀ i, inI (y i)
  hz : ∀ r ∈ z, inI3 r
  hv : ∀ r ∈ v, inI5 r
  hf : inI from_
namespace TCase
def s (c : TCase) : Nat → Int := satM c.x c.y
def a (c : TCase) : Int := pickS c.from_ 5000
def b (c : TCase) : Int := c.a + 200
def ps (c : TCase) : List PassT := passesL (c.s 0) c.a c.z
def l (c : TCase) : List Opt := optsL c.s c.ps c.a 10 c.v
def bc (c : TCase) : BCase := ⟨c.x, c.y, [], c.from_, 0, c.hx, c.hy, by simp, c.hf, by unfold inI; omega⟩
end TCase
theorem TCase.sat (c : TCase) : satS c.s = true := c.bc.sat
theorem TCase.s0 (c : TCase) : c.s 0 = 3 := by show pickS 3 24 = 3; decide
theorem TCase.rng (c : TCase) : 0 ≤ c.a ∧ c.a < 5000 := pick_rng c.hf (n := 5000) (by omega)
theorem TCase.passes (c : TCase) : passS c.ps = true ∧ c.ps.length ≤ 6 ∧ ∀ p ∈ c.ps, c.a ≤ p.sa ∧ p.sa < p.sb ∧ p.sb ≤ c.a + 186 :=
  passes_ok (by rw [c.s0]; omega) (by have := c.rng; omega) c.hz
theorem sat_h {s : Nat → Int} (h : satS s = true) : (0 ≤ s 9 ∧ s 9 ≤ 4) ∧ (1 ≤ s 10 ∧ s 10 ≤ 1000000) ∧ (1 ≤ s 20 ∧ s 20 ≤ 1000) ∧ (0 ≤ s 19 ∧ s 19 ≤ 60) ∧ (1 ≤ s 11 ∧ s 11 ≤ 1000000) ∧ (1 ≤ s 18 ∧ s 18 ≤ 1000000) ∧ (0 ≤ s 17 ∧ s 17 ≤ 10000) ∧ (0 ≤ s 16 ∧ s 16 ≤ 10000) := by
  simp only [satS, inS, Bool.and_eq_true, decide_eq_true_eq] at h
  omega
theorem TCase.optH (c : TCase) : OptH c.s c.ps c.a 10 := by
  obtain ⟨h1, h2, h3, _⟩ := sat_h c.sat
  have hr := c.rng
  obtain ⟨p1, p2, p3⟩ := c.passes
  exact ⟨h1, h2, h3, by omega, by omega, by omega, fun p hp => by have := p3 p hp; omega⟩
theorem optsOK_iff {s : Nat → Int} {ps : List PassT} {a b : Int} : ∀ (l pre : List Opt), optsOK s ps a b pre l = true ↔ (∀ o ∈ l, fitsS s o ps = true ∧ a ≤ o.a ∧ lastB o ≤ b) ∧ l.Pairwise (fun x y => x.id ≠ y.id) ∧ ∀ p ∈ pre, ∀ o ∈ l, p.id ≠ o.id
  | [], pre => by simp [optsOK]
  | x :: r, pre => by
    rw [optsOK, Bool.and_eq_true, optsOK_iff r (pre ++ [x]), okOpt]
    simp only [Bool.and_eq_true, Bool.not_eq_true', decide_eq_false_iff_not, List.any_eq_false, beq_iff_eq, List.mem_cons, List.pairwise_cons, forall_eq_or_imp, List.mem_append, List.not_mem_nil, or_false]
    constructor
    · rintro ⟨⟨⟨⟨g1, g2⟩, g3⟩, g4⟩, g5, g6, g7⟩
      exact ⟨⟨⟨g1, by omega, by omega⟩, g5⟩, ⟨fun y hy => g7 x (.inr rfl) y hy, g6⟩, fun p hp => ⟨fun e => g4 p hp e, fun y hy => g7 p (.inl hp) y hy⟩⟩
    · rintro ⟨⟨⟨g1, g2, g3⟩, g5⟩, ⟨g6, g7⟩, g8⟩
      refine ⟨⟨⟨⟨g1, by omega⟩, by omega⟩, fun p hp e => (g8 p hp).1 e⟩, g5, g7, fun p hp y hy => ?_⟩
      rcases hp with hp | rfl
      · exact (g8 p hp).2 y hy
      · exact g6 y hy
theorem track_iff {s : Nat → Int} {l : List Opt} {ps : List PassT} {a b : Int} : trackS s l ps a b = true ↔ l.length ≤ 8 ∧ (0 ≤ a ∧ a < b ∧ b ≤ 1000000) ∧ b - a ≤ 3000 ∧ satS s = true ∧ passS ps = true ∧ (∀ o ∈ l, fitsS s o ps = true ∧ a ≤ o.a ∧ lastB o ≤ b) ∧ l.Pairwise fun x y => x.id ≠ y.id := by
  constructor
  · intro h
    obtain ⟨h1, h2, h3, h4, h5, h6⟩ := track_h h
    obtain ⟨g1, g2, _⟩ := (optsOK_iff l []).1 h6
    exact ⟨h1, h2, h3, h4, h5, g1, g2⟩
  · rintro ⟨h1, h2, h3, h4, h5, h6, h7⟩
    simp only [trackS, Bool.and_eq_true, decide_eq_true_eq, Bool.not_eq_true', decide_eq_false_iff_not]
    rw [w64_in (by omega) (by omega)]
    exact ⟨⟨⟨⟨⟨h1, right_iff.2 h2⟩, by omega⟩, h4⟩, h5⟩, (optsOK_iff l []).2 ⟨h6, h7, fun p hp => nomatch hp⟩⟩
theorem track_sub {s : Nat → Int} {l l' : List Opt} {ps : List PassT} {a b : Int} (h : trackS s l ps a b = true) (hs : l'.Sublist l) : trackS s l' ps a b = true := by
  rw [track_iff] at *
  exact ⟨Nat.le_trans hs.length_le h.1, h.2.1, h.2.2.1, h.2.2.2.1, h.2.2.2.2.1, fun o ho => h.2.2.2.2.2.1 o (hs.subset ho), h.2.2.2.2.2.2.sublist hs⟩
theorem track_perm {s : Nat → Int} {l l' : List Opt} {ps : List PassT} {a b : Int} (h : trackS s l ps a b = true) (hp : l'.Perm l) : trackS s l' ps a b = true := by
  rw [track_iff] at *
  exact ⟨by rw [hp.length_eq]; exact h.1, h.2.1, h.2.2.1, h.2.2.2.1, h.2.2.2.2.1, fun o ho => h.2.2.2.2.2.1 o (hp.mem_iff.1 ho), (hp.pairwise_iff fun h g => h g.symm).2 h.2.2.2.2.2.2⟩
theorem slots_pass {s : Nat → Int} {ps : List PassT} {z m : Int} (hp : ∀ p ∈ ps, p.sb ≤ m) (hl : ps.length ≤ 64) : ∀ (l : List SlotT) (t : Int), slotsOK s ps z t l = true → ∀ x ∈ l, x.b ≤ m
  | [], _, _, x, hx => nomatch hx
  | y :: r, t, h, x, hx => by
    simp only [slotsOK, slotOK, Bool.and_eq_true, inS, decide_eq_true_eq] at h
    rcases List.mem_cons.1 hx with rfl | hx
    · have h1 := h.1.1
      rw [w64_in (by omega) (by omega)] at h1
      have hlt : x.p.toNat < ps.length := by omega
      have h2 := h.1.2.1.1.2
      rw [passAt_mem hlt] at h2
      have := hp _ (List.getElem_mem hlt)
      omega
    · exact slots_pass hp hl r _ h.2 x hx
theorem fits_last {s : Nat → Int} {o : Opt} {ps : List PassT} {m : Int} (hp : ∀ p ∈ ps, p.sb ≤ m) (hl : ps.length ≤ 64) (h : fitsS s o ps = true) : lastB o ≤ m := by
  have hn := fits_len h
  have hs : slotsOK s ps o.size o.b o.sl = true := by simp only [fitsS, Bool.and_eq_true] at h; exact h.2
  refine slots_pass hp hl o.sl _ hs _ ?_
  unfold slotAt
  rw [List.getD_eq_getElem?_getD, List.getElem?_eq_getElem (by omega)]
  exact List.getElem_mem _
theorem optsTo_mem {s : Nat → Int} {ps : List PassT} {from_ id : Int} {z : List R5} (hz : ∀ x ∈ z, inI5 x) : ∀ i, i ≤ z.length → ∀ o ∈ optsTo s ps from_ id z i, propS s ps o = true ∧ from_ ≤ o.a ∧ id ≤ o.id ∧ o.id < id + i
  | 0, _, o, ho => nomatch ho
  | i + 1, hi, o, ho => by
    rw [optsTo, List.mem_append] at ho
    rcases ho with ho | ho
    · have := optsTo_mem hz i (by omega) o ho
      exact ⟨this.1, this.2.1, this.2.2.1, by omega⟩
    · split at ho
      · rename_i hp
        rw [List.mem_singleton.1 ho]
        have hx : inI5 (z.getD i r50) := hz _ (by rw [List.getD_eq_getElem?_getD, List.getElem?_eq_getElem (show i < z.length by omega)]; exact List.getElem_mem _)
        have p1 := pick_rng hx.1 (n := 40) (by omega)
        exact ⟨hp, by show from_ ≤ from_ + _; omega, by show id ≤ id + (i : Int); omega, by show id + (i : Int) < _; omega⟩
      · cases ho
theorem optsTo_ids {s : Nat → Int} {ps : List PassT} {from_ id : Int} {z : List R5} (hz : ∀ x ∈ z, inI5 x) : ∀ i, i ≤ z.length → (optsTo s ps from_ id z i).Pairwise fun x y => x.id ≠ y.id
  | 0, _ => .nil
  | i + 1, hi => by
    rw [optsTo, List.pairwise_append]
    refine ⟨optsTo_ids hz i (by omega), by split <;> simp, fun x hx y hy => ?_⟩
    have := optsTo_mem hz i (by omega) x hx
    split at hy
    · rw [List.mem_singleton.1 hy]
      show x.id ≠ id + (i : Int)
      omega
    · cases hy
theorem TCase.len (c : TCase) : c.l.length ≤ 5 := Nat.le_trans (optsTo_len _ _ _ _ _ _) (Nat.min_le_right _ _)
theorem TCase.valid (c : TCase) : trackS c.s c.l c.ps c.a c.b = true := by
  obtain ⟨p1, p2, p3⟩ := c.passes
  have hr := c.rng
  have hl := c.len
  refine track_iff.2 ⟨by omega, by unfold TCase.b; omega, by unfold TCase.b; omega, c.sat, p1, fun o ho => ?_, optsTo_ids c.hv _ (Nat.min_le_left _ _)⟩
  obtain ⟨h1, h2, _⟩ := optsTo_mem c.hv _ (Nat.min_le_left _ _) o ho
  have hf : fitsS c.s o c.ps = true := by simp only [propS, Bool.and_eq_true] at h1; exact h1.2
  refine ⟨hf, h2, fits_last (fun p hp => ?_) (by omega) hf⟩
  have := p3 p hp
  unfold TCase.b; omega
def pairL (l : List Opt) (k i : Nat) : List Opt := [optAt l k, optAt l i]
theorem pair_sub {l : List Opt} {k i : Nat} (h : k < i) (hi : i < l.length) : (pairL l k i).Sublist l := by
  have e : l = l.take i ++ optAt l i :: l.drop (i + 1) := by
    rw [optAt_eq hi, ← List.drop_eq_getElem_cons hi, List.take_append_drop]
  have h1 : [optAt l k].Sublist (l.take i) := by
    rw [List.singleton_sublist, optAt_eq (by omega)]
    exact List.mem_take_iff_getElem.2 ⟨k, by omega, rfl⟩
  have h2 : [optAt l i].Sublist (optAt l i :: l.drop (i + 1)) := List.singleton_sublist.2 (by simp)
  have := h1.append h2
  rw [← e] at this
  exact this
theorem pairs_any {l : List Opt} {R : Opt → Opt → Prop} [∀ x y, Decidable (R x y)] {f : Nat → Nat → Bool} (hf : ∀ k i, k < i → i < l.length → (f k i = false ↔ R (optAt l k) (optAt l i))) :
    ((List.range l.length).any fun i => (List.range i).any fun k => f k i) = false ↔ l.Pairwise R := by
  rw [List.pairwise_iff_getElem]
  simp only [List.any_eq_false, List.mem_range, Bool.not_eq_true]
  constructor
  · intro h k i hk hi hki
    have := (hf k i hki hi).1 (h i hi k hki)
    rwa [optAt_eq hk, optAt_eq hi] at this
  · intro h i hi k hki
    refine (hf k i hki hi).2 ?_
    rw [optAt_eq (show k < l.length by omega), optAt_eq hi]
    exact h k i (by omega) hi hki
end Go.Proofs
namespace Go.Proofs
open Go Go.AI
def aimOf (o : Opt) : Aim3 := ⟨o.a, o.b, o.look⟩
theorem slew_pair {s : Nat → Int} {l : List Opt} {k i : Nat} : (slewF s (pairL l k i)).isSome = false ↔ fitP s (aimOf (optAt l k)) (aimOf (optAt l i)) = true := by
  rw [slewF_none]
  simp [pairL, aimsOf, aimOf]
theorem send_pair {l : List Opt} {k i : Nat} : (sendF (pairL l k i)).isSome = false ↔ ¬ meetL (optAt l k) (optAt l i) ≥ 0 := by
  rw [sendF_none]
  simp [pairL]
theorem slew_pairs {s : Nat → Int} {l : List Opt} : (slewF s l).isSome = (List.range l.length).any fun i => (List.range i).any fun k => (slewF s (pairL l k i)).isSome := by
  refine bool_eq ((slewF_none.trans ?_).trans (pairs_any (R := fun x y => fitP s (aimOf x) (aimOf y) = true) fun k i _ _ => slew_pair).symm)
  rw [show aimsOf l = l.map aimOf from rfl, List.pairwise_map]
theorem send_pairs {l : List Opt} : (sendF l).isSome = (List.range l.length).any fun i => (List.range i).any fun k => (sendF (pairL l k i)).isSome :=
  bool_eq (sendF_none.trans (pairs_any (R := fun x y => ¬ meetL x y ≥ 0) fun k i _ _ => send_pair).symm)
theorem isSome_not {α : Type} {o : Option α} {p : Prop} [Decidable p] (h : o.isSome = false ↔ ¬ p) : o.isSome = decide p := by
  cases hs : o.isSome with
  | false => exact (decide_eq_false (h.1 hs)).symm
  | true => exact (decide_eq_true (Classical.byContradiction fun g => by rw [h.2 g] at hs; cases hs)).symm
theorem slewO_isSome (s : Nat → Int) (l : List Opt) : (slewF s l).isSome = (slewO s (aimsOf l)).isSome := by
  unfold slewF
  cases slewO s (aimsOf l) with
  | none => rfl
  | some p => rfl
structure TrkH (s : Nat → Int) (l : List Opt) (a b : Int) : Prop where
  good : GoodL l
  fit : ∀ o ∈ l, FitH s o b
  chk : ChkH s l a b
  sat : satS s = true
  rng : (0 ≤ a ∧ a < b ∧ b ≤ 1000000) ∧ b - a ≤ 3000
theorem TrkH.of {s : Nat → Int} {l : List Opt} {ps : List PassT} {a b : Int} (h : trackS s l ps a b = true) : TrkH s l a b := by
  obtain ⟨h1, h2, h3⟩ := ChkH.of h
  obtain ⟨g1, g2, g3, g4, _⟩ := track_h h
  exact ⟨h2, h3, h1, g4, g2, g3⟩
theorem TrkH.span {s : Nat → Int} {l : List Opt} {a b : Int} (h : TrkH s l a b) : ∀ o ∈ l, 0 ≤ o.a ∧ o.a < lastB o := fun o ho => by
  have := h.fit o ho
  have h1 := this.shot
  have h2 := this.last
  omega
theorem TrkH.aimB {s : Nat → Int} {l : List Opt} {a b : Int} (h : TrkH s l a b) : ∀ x ∈ aimsOf l, AimB x := fun x hx => by
  obtain ⟨o, ho, rfl⟩ := List.mem_map.1 hx
  have := h.fit o ho
  have h1 := this.shot
  have h2 := inS_inv this.look
  have h3 := (sat_h h.sat).1
  rw [w64_in (by omega) (by omega)] at h2
  exact ⟨h1.1, h1.2.1, h1.2.2.1, by show -4 ≤ o.look; omega, by show o.look ≤ 4; omega⟩
theorem TrkH.satB {s : Nat → Int} {l : List Opt} {a b : Int} (h : TrkH s l a b) : SatB s := by
  obtain ⟨h1, _, _, h2, _⟩ := sat_h h.sat
  exact ⟨h1.1, h1.2, h2.1, h2.2⟩
theorem TrkH.sub {s : Nat → Int} {l l' : List Opt} {a b : Int} (h : TrkH s l a b) (h' : TrkH s l' a b) (hs : l'.Sublist l) : ∀ x ∈ faultsL s l' a b, hasF (faultsL s l a b) x.k = true := by
  have hr := h.rng
  have h10 := (sat_h h.sat).2.1
  refine sub_faults (slew_sub hs) (heat_le (by omega) hr.2 (HotOK.of h.chk.val) (HotOK.of h'.chk.val) (gS_sub (HotOK.of h.chk.val) (HotOK.of h'.chk.val) (hs.map _)) (Int.le_refl _)) (store_le h.span h'.span (by omega) (Int.le_refl _) fun t => ?_) (charge_sub (sat_fedZ h.sat) h.good hs (by omega) hr.2) (send_sub hs)
  refine fillA_sub (hs.map _) fun x hx => ?_
  obtain ⟨o, ho, rfl⟩ := List.mem_map.1 hx
  have := (h.fit o ho).size
  show 0 ≤ o.size
  omega
def SameK (x y : Flt) : Prop := x.k = y.k ∧ (3 ≤ x.k ∧ x.k ≤ 5 → x = y)
def AllK : List Flt → List Flt → Prop
  | [], [] => True
  | x :: l, y :: m => SameK x y ∧ AllK l m
  | _, _ => False
theorem AllK.refl : ∀ l : List Flt, AllK l l
  | [] => trivial
  | x :: l => ⟨⟨rfl, fun _ => rfl⟩, AllK.refl l⟩
theorem AllK.app : ∀ {l m l' m' : List Flt}, AllK l m → AllK l' m' → AllK (l ++ l') (m ++ m')
  | [], [], _, _, _, h => h
  | _ :: _, _ :: _, _, _, h, h' => ⟨h.1, AllK.app h.2 h'⟩
theorem AllK.len : ∀ {l m : List Flt}, AllK l m → l.length = m.length
  | [], [], _ => rfl
  | _ :: _, _ :: _, h => congrArg (· + 1) (AllK.len h.2)
theorem AllK.get : ∀ {l m : List Flt}, AllK l m → ∀ i, SameK (l.getD i flt0) (m.getD i flt0)
  | [], [], _, i => by simp [SameK]
  | x :: l, y :: m, h, 0 => h.1
  | x :: l, y :: m, h, i + 1 => by simpa using AllK.get h.2 i
theorem TrkH.turn {s : Nat → Int} {l l' : List Opt} {a b : Int} (h : TrkH s l a b) (hp : l'.Perm l) : AllK (faultsL s l a b) (faultsL s l' a b) := by
  have hr := h.rng
  have h10 := (sat_h h.sat).2.1
  have e3 := heat_eq (b := b) (a := a) hr.2 (HotOK.of h.chk.val) hp
  have e4 := store_eq (s := s) h.span (by omega) hp
  have e5 : chargeF s l' a b = chargeF s l a b := by unfold chargeF; rw [loads_perm h.good hp]
  have e2 := slew_perm h.satB h.aimB hp
  have e6 := send_perm (fun o ho x hx => ((h.fit o ho).slot x hx).1) hp
  have kk : ∀ {p q : Option Flt} {k : Int}, q.isSome = p.isSome → (∀ x, p = some x → x.k = k) → (∀ x, q = some x → x.k = k) → (k < 3 ∨ 5 < k) → AllK p.toList q.toList := by
    intro p q k e hp hq hk
    cases p with
    | none => cases q with
      | none => trivial
      | some y => cases e
    | some x => cases q with
      | none => cases e
      | some y => exact ⟨⟨by rw [hp x rfl, hq y rfl], fun g => by rw [hp x rfl] at g; omega⟩, trivial⟩
  rw [faults_eq, faults_eq, e3, e4, e5]
  exact (kk e2 (fun _ => slewF_k) (fun _ => slewF_k) (by omega)).app ((AllK.refl _).app ((AllK.refl _).app ((AllK.refl _).app (kk e6 (fun _ => sendF_k) (fun _ => sendF_k) (by omega)))))
end Go.Proofs
namespace Go.Proofs
open Go Go.AI
set_option maxRecDepth 10000
def caseA (c : TCase) : List AV := [.int .i64 (c.x 0), .int .i64 (c.x 1), .int .i64 (c.x 2), .int .i64 (c.x 3), .int .i64 (c.x 4), .int .i64 (c.x 5), .int .i64 (c.x 6), .int .i64 (c.y 0), .int .i64 (c.y 1), .int .i64 (c.y 2), .int .i64 (c.y 3), .sl .no 3 (c.z.map row3A), .sl .no 5 (c.v.map row5A), .int .i64 c.from_]
theorem Tryz.made (c : TCase) : ACalls Tryz.prog 18 [.agg (caseA c)] (.tup [.agg (satA c.s), passesA c.ps, optsA c.l, .agg (spellA c.a c.b)]) := by
  have cA : ACalls Tryz.prog 20 [.int .i64 c.from_, .int .i64 5000] (.int .i64 c.a) := Tryz.lpick _ _ (by decide)
  have cS : ACalls Tryz.prog 69 [.int .i64 3, .agg (orbA c.x), .agg (i4A c.y)] (.agg (satA c.s)) := Tryz.c61 c.x c.y (made_ne c.hx)
  have hr := c.rng
  have cP : ACalls Tryz.prog 70 [.int .i64 (c.s 0), .int .i64 c.a, .sl .no 3 (c.z.map row3A)] (passesA c.ps) := Tryz.passes _ _ _ (by rw [c.s0]; omega) (by omega) c.hz
  have cO : ACalls Tryz.prog 71 [.agg (satA c.s), passesA c.ps, .int .i64 c.a, .int .i64 10, .sl .no 5 (c.v.map row5A)] (optsA c.l) := Tryz.options c.s c.ps c.a 10 c.v c.optH c.hv
  have hb : IntKind.i64.wrap (c.a + 200) = c.b := w64_in (by omega) (by omega)
  generalize c.b = b at *
  generalize c.a = a at *
  generalize c.s = s at *
  generalize c.ps = ps at *
  generalize c.l = l at *
  refine ACalls.ofB Tryz.T Tryz.func18 rfl (by kernel_rfl) Tryz.mixed (Nat.le_of_ble_eq_true rfl) ?_
  intro F n' w0 m0 hG hro h1
  repeat' first|refine Q1 ?_|refine Q2 ?_|refine Q3 hG Tryz.T Tryz.keep18 (by kernel_rfl) ?_|refine Q4 hG Tryz.T Tryz.keep18 (by kernel_rfl) ?_|refine Q5 hG Tryz.T ?_|refine Q6 hG Tryz.T ?_|refine Q7 hG Tryz.T ?_|refine Q8 hG Tryz.T ?_|refine Q9 rfl ?_|refine QF rfl ?_|refine QC rfl (And.intro (fun h => ?_) (fun h => ?_))|((conv => whnf); first|refine anF ?_|refine anT ?_|refine And.intro (by kernel_rfl) ?_|refine Exists.intro _ (And.intro (cA) ?_)|refine Exists.intro _ (And.intro (cS) ?_)|refine Exists.intro _ (And.intro (cP) ?_)|refine Exists.intro _ (And.intro (cO) ?_)|refine And.intro (fun h => ?_) (fun h => ?_)|refine Or.inl ?_|fail)
  all_goals exact Ends.mk (Or.inl rfl) (AV.weak.of_eq (congrArg (fun z => AV.tup [.agg (satA s), passesA ps, optsA l, .agg (spellA a z)]) hb))
theorem AV.weak.tup {cs ds : List AV} (h : WeakL cs ds) : (AV.tup cs).weak (.tup ds) := by
  intro m v hv
  cases hv with
  | tup _ vs hl hr =>
    obtain ⟨h1, h2⟩ := h.spec
    refine .tup ds vs (by omega) fun i x u g1 g2 => ?_
    have hi : i < cs.length := by rw [h1]; exact (List.getElem?_eq_some_iff.1 g1).1
    exact h2 i _ x (List.getElem?_eq_getElem hi) g1 m u (hr i _ u (List.getElem?_eq_getElem hi) g2)
inductive WeakR : List (List AV) → List (List AV) → Prop
  | nil : WeakR [] []
  | cons {x y : List AV} {xs ys : List (List AV)} (h : WeakL x y) (t : WeakR xs ys) : WeakR (x :: xs) (y :: ys)
theorem WeakR.spec {xs ys : List (List AV)} (h : WeakR xs ys) : xs.length = ys.length ∧ ∀ (i : Nat) (y : List AV), ys[i]? = some y → ∃ x, xs[i]? = some x ∧ WeakL x y := by
  induction h with
  | nil => exact ⟨rfl, by simp⟩
  | cons h t ih =>
    refine ⟨by simp [ih.1], fun i y hy => ?_⟩
    cases i with
    | zero => simp at hy; subst hy; exact ⟨_, rfl, h⟩
    | succ i => obtain ⟨x, h1, h2⟩ := ih.2 i y (by simpa using hy); exact ⟨x, by simpa using h1, h2⟩
theorem AV.weak.rows {o : Go.AI.Own} {sz : Nat} {xs ys : List (List AV)} (h : WeakR xs ys) (hc : ∀ y ∈ ys, ∀ c ∈ y, AV.isCell c = true) : (AV.sl o sz xs).weak (.sl .no sz ys) := by
  intro m v hv
  cases hv with
  | sl _ _ _ base len cap ho hf hl hcap hsz hcell b off hb g hm hr =>
    obtain ⟨e1, e2⟩ := h.spec
    have key : ∀ {i : Nat} {y : List AV} {j : Nat} {c : AV}, ys[i]? = some y → y[j]? = some c → ∃ x d, xs[i]? = some x ∧ x[j]? = some d ∧ d.weak c := by
      intro i y j c h1 h2
      obtain ⟨x, h3, h4⟩ := e2 i y h1
      obtain ⟨q1, q2⟩ := h4.spec
      have hj : j < x.length := by rw [q1]; exact (List.getElem?_eq_some_iff.1 h2).1
      exact ⟨x, _, h3, List.getElem?_eq_getElem hj, q2 j _ c (List.getElem?_eq_getElem hj) h2⟩
    refine .sl _ _ _ base len cap (by intro k hk; cases hk) (by intro hk; cases hk) (by omega) hcap (fun y hy => ?_) hc b off hb g (fun i y j c h1 h2 => ?_) (fun i y j c h1 h2 => ?_)
    · obtain ⟨i, hi⟩ := List.mem_iff_getElem?.1 hy
      obtain ⟨x, h3, h4⟩ := e2 i y hi
      rw [← h4.spec.1]
      exact hsz x (List.mem_of_getElem? h3)
    · obtain ⟨x, d, h3, h4, _⟩ := key h1 h2
      exact hm i x j d h3 h4
    · obtain ⟨x, d, h3, h4, h5⟩ := key h1 h2
      exact h5 m _ (hr i x j d h3 h4)
def txS (i : Nat) : Int := match i with
  | 2 => 2000 | 4 => 11000 | 5 => 13000 | 7 => -33 | 9 => 2 | 10 => 10 | 11 => 1000 | 12 => 10 | 13 => 4 | 14 => 20 | 15 => 9 | 16 => 5 | 17 => 1 | 18 => 100 | 19 => 3 | 20 => 2 | _ => 0
def txP : List PassT := [⟨0, 0, 20, 30, 20, 30⟩, ⟨0, 0, 50, 60, 50, 60⟩]
def txSl : List SlotT := [⟨0, 20, 23⟩, ⟨1, 50, 53⟩]
def tx1 : Opt := ⟨4, 0, 0, 0, 5, 8, 1, 6, txSl⟩
def tx2 : Opt := ⟨5, 0, 0, 0, 10, 12, 2, 6, txSl⟩
def txF : List Flt := [⟨2, 4, 5, 10⟩, ⟨4, 0, 0, 10⟩, ⟨6, 4, 5, 20⟩]
def txD : List Load3 := [⟨1, 5, 8⟩, ⟨1, 10, 12⟩, ⟨2, 20, 23⟩, ⟨2, 50, 53⟩]
set_option maxHeartbeats 4000000 in
theorem Tryz.example19 : ACalls Tryz.prog 68 [] (.tup [.agg (satA txS), passesA txP, optsA [tx1, tx2]]) := by
  refine ACalls.ofB Tryz.T Tryz.func68 rfl (by kernel_rfl) Tryz.mixed (Nat.le_of_ble_eq_true rfl) ?_
  intro F n' w0 m0 hG hro h1
  repeat' first|refine Q1 ?_|refine Q2 ?_|refine Q3 hG Tryz.T Tryz.keep68 (by kernel_rfl) ?_|refine Q4 hG Tryz.T Tryz.keep68 (by kernel_rfl) ?_|refine Q5 hG Tryz.T ?_|refine Q6 hG Tryz.T ?_|refine Q7 hG Tryz.T ?_|refine Q8 hG Tryz.T ?_|refine Q9 rfl ?_|refine QF rfl ?_|refine QC rfl (And.intro (fun h => ?_) (fun h => ?_))|((conv => whnf); first|refine anF ?_|refine anT ?_|refine And.intro (by kernel_rfl) ?_|refine And.intro (Nat.le_of_ble_eq_true rfl) (And.intro (Nat.le_of_ble_eq_true rfl) ?_)|refine And.intro (fun h => ?_) (fun h => ?_)|refine Or.inl ?_|fail)
  refine SPB.loop (X := Nat) (fun j => ⟨[(14, .int .i64 j), (13, .int .i64 2), (12, .sl .full 1 [[.int .i64 20], [.int .i64 50]]), (4, .sl (.id 4) 6 ((txP.take j).map passA)), (3, .loc 3 0), (0, .loc 0 0)], [(3, satA txS), (0, satA fun _ => 0)]⟩) (fun j => j ≤ 2) (fun j => 2 - j) 0 (Nat.zero_le _) (St.le.of ?_ ?_) (fun j hj => ?_)
  · repeat' (first | exact trivial | refine And.intro rfl ?_)
  · repeat' (first | exact trivial | refine And.intro rfl ?_)
  · obtain rfl | rfl | rfl : j = 0 ∨ j = 1 ∨ j = 2 := by omega
    · have b : decide (((0 : Nat) : Int) < 2) = false → False := fun h => by simp at h
      repeat' first|exact (b (by assumption)).elim|refine Q1 ?_|refine Q2 ?_|refine Q3 hG Tryz.T Tryz.keep68 (by kernel_rfl) ?_|refine Q4 hG Tryz.T Tryz.keep68 (by kernel_rfl) ?_|refine Q5 hG Tryz.T ?_|refine Q6 hG Tryz.T ?_|refine Q7 hG Tryz.T ?_|refine Q8 hG Tryz.T ?_|refine Q9 rfl ?_|refine QF rfl ?_|refine QC rfl (And.intro (fun h => ?_) (fun h => ?_))|((conv => whnf); first|refine anF ?_|refine anT ?_|refine And.intro (by kernel_rfl) ?_|refine And.intro (of_decide_eq_true (Eq.refl true)) (Exists.intro _ (And.intro rfl ?_))|refine And.intro (Nat.le_of_ble_eq_true rfl) (And.intro (Nat.le_of_ble_eq_true rfl) ?_)|refine And.intro (fun h => ?_) (fun h => ?_)|refine Or.inl ?_|fail)
      refine Exists.intro 1 (And.intro (by decide) (And.intro (by decide) (St.le.of ?_ ?_)))
      · repeat' (first | exact trivial | refine And.intro rfl ?_)
      · repeat' (first | exact trivial | refine And.intro rfl ?_)
    · have b : decide (((1 : Nat) : Int) < 2) = false → False := fun h => by simp at h
      repeat' first|exact (b (by assumption)).elim|refine Q1 ?_|refine Q2 ?_|refine Q3 hG Tryz.T Tryz.keep68 (by kernel_rfl) ?_|refine Q4 hG Tryz.T Tryz.keep68 (by kernel_rfl) ?_|refine Q5 hG Tryz.T ?_|refine Q6 hG Tryz.T ?_|refine Q7 hG Tryz.T ?_|refine Q8 hG Tryz.T ?_|refine Q9 rfl ?_|refine QF rfl ?_|refine QC rfl (And.intro (fun h => ?_) (fun h => ?_))|((conv => whnf); first|refine anF ?_|refine anT ?_|refine And.intro (by kernel_rfl) ?_|refine And.intro (of_decide_eq_true (Eq.refl true)) (Exists.intro _ (And.intro rfl ?_))|refine And.intro (Nat.le_of_ble_eq_true rfl) (And.intro (Nat.le_of_ble_eq_true rfl) ?_)|refine And.intro (fun h => ?_) (fun h => ?_)|refine Or.inl ?_|fail)
      refine Exists.intro 2 (And.intro (by decide) (And.intro (by decide) (St.le.of ?_ ?_)))
      · repeat' (first | exact trivial | refine And.intro rfl ?_)
      · repeat' (first | exact trivial | refine And.intro rfl ?_)
    · have b : decide (((2 : Nat) : Int) < 2) = true → False := fun h => by simp at h
      repeat' first|exact (b (by assumption)).elim|refine Q1 ?_|refine Q2 ?_|refine Q3 hG Tryz.T Tryz.keep68 (by kernel_rfl) ?_|refine Q4 hG Tryz.T Tryz.keep68 (by kernel_rfl) ?_|refine Q5 hG Tryz.T ?_|refine Q6 hG Tryz.T ?_|refine Q7 hG Tryz.T ?_|refine Q8 hG Tryz.T ?_|refine Q9 rfl ?_|refine QF rfl ?_|refine QC rfl (And.intro (fun h => ?_) (fun h => ?_))|((conv => whnf); first|refine anF ?_|refine anT ?_|refine And.intro (by kernel_rfl) ?_|refine And.intro (Nat.le_of_ble_eq_true rfl) (And.intro (Nat.le_of_ble_eq_true rfl) ?_)|refine And.intro (fun h => ?_) (fun h => ?_)|refine Or.inl ?_|fail)
      have hs : ∀ (l : List AV), WeakL (l ++ [.sl .full 3 (txSl.map slotA)]) (l ++ [.sl .no 3 (txSl.map slotA)]) := fun l => by
        induction l with
        | nil => exact .cons AV.weak.sl .nil
        | cons x r ih => exact .cons (.refl _) ih
      have hw : (AV.tup [.agg (satA txS), passesA txP, .sl .full 9 [[.int .i64 tx1.id, .int .i64 tx1.ord, .int .i64 tx1.cl, .int .i64 tx1.sat, .int .i64 tx1.a, .int .i64 tx1.b, .int .i64 tx1.look, .int .i64 tx1.size, .sl .full 3 (txSl.map slotA)], [.int .i64 tx2.id, .int .i64 tx2.ord, .int .i64 tx2.cl, .int .i64 tx2.sat, .int .i64 tx2.a, .int .i64 tx2.b, .int .i64 tx2.look, .int .i64 tx2.size, .sl .full 3 (txSl.map slotA)]]]).weak (.tup [.agg (satA txS), passesA txP, optsA [tx1, tx2]]) := by
        refine AV.weak.tup (.cons (.refl _) (.cons (.refl _) (.cons (AV.weak.rows (ys := [optA tx1, optA tx2]) (.cons (hs [_, _, _, _, _, _, _, _]) (.cons (hs [_, _, _, _, _, _, _, _]) .nil)) ?_) .nil)))
        intro y hy c hc
        simp only [List.mem_cons, List.not_mem_nil, or_false] at hy
        rcases hy with rfl | rfl <;> (simp only [optA, List.mem_cons, List.not_mem_nil, or_false] at hc; rcases hc with rfl | rfl | rfl | rfl | rfl | rfl | rfl | rfl | rfl <;> rfl)
      refine Ends.mk (Or.inl rfl) ?_
      exact hw
end Go.Proofs
namespace Go.Proofs
open Go Go.AI
set_option maxRecDepth 10000
def litC (o : Nat → Int) (t : Int) : Bool := atS o t 0 && !darkS (celW o (w64 t)) t
theorem nets_calm {s : Nat → Int} (h : orbO s 6 = 0) (l : List Load3) (a b : Int) : netsL s l a b = pairsF a (fun i => netW s l (litC (orbO s) (a + (i : Int))) (a + (i : Int))) (b - a).toNat := by
  unfold netsL
  have e : (fun i : Nat => netS s l (a + (i : Int))) = fun i : Nat => netW s l (litC (orbO s) (a + (i : Int))) (a + (i : Int)) := funext fun i => by
    unfold netS litC; rw [lit_calm h]
  show pairsF a (fun i : Nat => netS s l (a + (i : Int))) _ = _
  rw [e]
def txD1 : List Load3 := [⟨1, 5, 8⟩, ⟨2, 20, 23⟩, ⟨2, 50, 53⟩]
theorem tx_v1 : trackS txS [tx1] txP 0 100 = true := by kernel_rfl
theorem tx_v2 : trackS txS [tx1, tx2] txP 0 100 = true := by kernel_rfl
theorem tx_v3 : trackS txS [tx1, tx2] [] 0 100 = false := by kernel_rfl
theorem tx_v4 : trackS txS [tx1, tx1] txP 0 100 = false := by kernel_rfl
theorem tx_l1 : optLoads [tx1] = txD1 := (ChkH.of tx_v1).2.1.ref.symm.trans (by kernel_rfl)
theorem tx_l2 : optLoads [tx1, tx2] = txD := (ChkH.of tx_v2).2.1.ref.symm.trans (by kernel_rfl)
theorem tx_e1 : emptyS txS txD1 0 100 = -1 := by
  unfold emptyS; rw [nets_calm rfl]; kernel_rfl
theorem tx_e2 : emptyS txS txD 0 100 = -1 := by
  unfold emptyS; rw [nets_calm rfl]; kernel_rfl
theorem tx_s1 : storeT txS [tx1] = -1 := by
  have h := TrkH.of tx_v1
  refine (ovI_eq (isp_of h.span) (fun x hx => ?_) (store := txS 10) (f := -1) (by decide) (.inl ⟨rfl, fun x hx => ?_⟩)).symm
  · rw [List.mem_singleton.1 hx]; decide
  · rw [List.mem_singleton.1 hx]; exact of_decide_eq_true (by kernel_rfl)
theorem tx_s2 : storeT txS [tx1, tx2] = 10 := by
  have h := TrkH.of tx_v2
  have hm : ∀ x ∈ worstL [tx1, tx2], x = ⟨4, 6, 5, 53⟩ ∨ x = ⟨5, 6, 10, 53⟩ := fun x hx => by
    rcases List.mem_cons.1 hx with rfl | hx
    · exact .inl rfl
    · exact .inr (List.mem_singleton.1 hx)
  refine (ovI_eq (isp_of h.span) (fun x hx => ?_) (store := txS 10) (f := 10) (by decide) (.inr ⟨⟨⟨5, 6, 10, 53⟩, by simp [worstL, tx1, tx2, txSl, lastB, slotAt], rfl, of_decide_eq_true (by kernel_rfl)⟩, fun y hy hg => ?_⟩)).symm
  · rcases hm x hx with rfl | rfl <;> decide
  · rcases hm y hy with rfl | rfl
    · exact absurd hg (of_decide_eq_false (by kernel_rfl))
    · exact Int.le_refl _
theorem tx_f1 : faultsL txS [tx1] 0 100 = [] := by
  rw [faults_eq, show slewF txS [tx1] = none from by kernel_rfl, show heatF txS [tx1] 0 100 = none from by kernel_rfl, show sendF [tx1] = none from by kernel_rfl, storeF, tx_s1, chargeF, tx_l1, tx_e1]
  rfl
theorem tx_f2 : faultsL txS [tx1, tx2] 0 100 = txF := by
  rw [faults_eq, show slewF txS [tx1, tx2] = some ⟨2, 4, 5, 10⟩ from by kernel_rfl, show heatF txS [tx1, tx2] 0 100 = none from by kernel_rfl, show sendF [tx1, tx2] = some ⟨6, 4, 5, 20⟩ from by kernel_rfl, storeF, tx_s2, chargeF, tx_l2, tx_e2]
  rfl
set_option maxHeartbeats 8000000 in
theorem Tryz.sane19 : ACalls Tryz.prog 17 [] (.bool true) := by
  have q1 := Tryz.checkOf txS [tx1] txP 0 100 (Nat.le_of_ble_eq_true rfl) tx_v1
  rw [tx_f1, show optsA [tx1] = .sl .no 9 (List.drop 0 (List.take (Int.toNat 1) (List.map optA [tx1, tx2]))) from rfl] at q1
  have q2 := Tryz.checkOf txS [tx1, tx2] txP 0 100 (Nat.le_of_ble_eq_true rfl) tx_v2
  rw [tx_f2] at q2
  have hsl : slens [tx1, tx2] := (ChkH.of tx_v2).1.sl
  have q3 : ACalls Tryz.prog 21 [.agg (satA txS), optsA [tx1, tx2], .sl .full 0 [], .agg (spellA 0 100)] (.tup [fltsA [], .int .i64 190]) := (Tryz.checkNot txS [tx1, tx2] [] 0 100 (Nat.le_of_ble_eq_true rfl) hsl (Nat.le_of_ble_eq_true rfl) tx_v3).weak (.cons (.refl _) (.cons (.refl _) (.cons AV.weak.slnil (.refl _))))
  have q4 : ACalls Tryz.prog 25 [fltsA txF, .sl .full 4 (txF.map fltA)] (.bool true) := by
    have h := (Tryz.sameFaults txF txF (Nat.le_of_ble_eq_true rfl)).sl1 (o := .full)
    rw [decide_eq_true rfl] at h
    exact h
  have q5 := Tryz.loads [tx1, tx2] (Nat.le_of_ble_eq_true rfl) hsl (Nat.le_of_ble_eq_true rfl)
  rw [tx_l2] at q5
  have q6 : ACalls Tryz.prog 26 [loadsA txD, .sl .full 3 (txD.map loadA)] (.bool true) := by
    have h := (Tryz.sameLoads txD txD (Nat.le_of_ble_eq_true rfl)).sl1 (o := .full)
    rw [decide_eq_true rfl] at h
    exact h
  have q7 := Tryz.aims [tx1, tx2] (Nat.le_of_ble_eq_true rfl)
  have q8 := Tryz.proper txS tx1 txP (Nat.le_of_ble_eq_true rfl) (Nat.le_of_ble_eq_true rfl)
  rw [show (satS txS && passS txP && fitsS txS tx1 txP) = true from by kernel_rfl] at q8
  have q9 := Tryz.proper txS tx1 (txP.take 1) (Nat.le_of_ble_eq_true rfl) (Nat.le_of_ble_eq_true rfl)
  rw [show (satS txS && passS (txP.take 1) && fitsS txS tx1 (txP.take 1)) = false from by kernel_rfl, show passesA (txP.take 1) = .sl .no 6 (List.drop 0 (List.take (Int.toNat 1) (List.map passA txP))) from rfl] at q9
  have q10 := Tryz.valid txS [tx1, tx2] txP 0 100 (Nat.le_of_ble_eq_true rfl) hsl (Nat.le_of_ble_eq_true rfl)
  rw [tx_v2] at q10
  have q11 : ACalls Tryz.prog 23 [.agg (satA txS), .sl .full 9 ([tx1, tx1].map optA), passesA txP, .agg (spellA 0 100)] (.bool false) := by
    have h := (Tryz.valid txS [tx1, tx1] txP 0 100 (Nat.le_of_ble_eq_true rfl) (fun o ho => by rcases List.mem_cons.1 ho with rfl | ho; exact (Nat.le_of_ble_eq_true rfl); rw [List.mem_singleton.1 ho]; exact (Nat.le_of_ble_eq_true rfl)) (Nat.le_of_ble_eq_true rfl)).sl1 (o := .full)
    rw [tx_v4] at h
    exact h
  refine ACalls.ofB Tryz.T Tryz.func17 rfl (by kernel_rfl) Tryz.mixed (Nat.le_of_ble_eq_true rfl) ?_
  intro F n' w0 m0 hG hro h1
  repeat' first|refine Q1 ?_|refine Q2 ?_|refine Q3 hG Tryz.T Tryz.keep17 (by kernel_rfl) ?_|refine Q4 hG Tryz.T Tryz.keep17 (by kernel_rfl) ?_|refine Q5 hG Tryz.T ?_|refine Q6 hG Tryz.T ?_|refine Q7 hG Tryz.T ?_|refine Q8 hG Tryz.T ?_|refine Q9 rfl ?_|refine QF rfl ?_|refine QC rfl (And.intro (fun h => ?_) (fun h => ?_))|((conv => whnf); first|refine anF ?_|refine anT ?_|refine And.intro (by kernel_rfl) ?_|refine And.intro (of_decide_eq_true (Eq.refl true)) (Exists.intro _ (And.intro rfl ?_))|refine Exists.intro _ (And.intro (Tryz.example19) ?_)|refine Exists.intro _ (And.intro (q1) ?_)|refine Exists.intro _ (And.intro (q2) ?_)|refine Exists.intro _ (And.intro (q3) ?_)|refine Exists.intro _ (And.intro (q4) ?_)|refine Exists.intro _ (And.intro (q5) ?_)|refine Exists.intro _ (And.intro (q6) ?_)|refine Exists.intro _ (And.intro (q7) ?_)|refine Exists.intro _ (And.intro (q8) ?_)|refine Exists.intro _ (And.intro (q9) ?_)|refine Exists.intro _ (And.intro (q10) ?_)|refine Exists.intro _ (And.intro (q11) ?_)|refine And.intro (of_decide_eq_true (Eq.refl true)) (And.intro (of_decide_eq_true (Eq.refl true)) (And.intro (of_decide_eq_true (Eq.refl true)) ?_))|refine And.intro (of_decide_eq_true (Eq.refl true)) (And.intro (of_decide_eq_true (Eq.refl true)) ?_)|refine And.intro (of_decide_eq_true (Eq.refl true)) ?_|refine And.intro (fun h => ?_) (fun h => ?_)|refine Or.inl ?_|fail)
  all_goals exact Ends.mk (Or.inl rfl) (AV.weak.of_eq rfl)
end Go.Proofs
