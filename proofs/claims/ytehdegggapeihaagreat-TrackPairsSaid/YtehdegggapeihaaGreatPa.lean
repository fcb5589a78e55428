/- TrackPairs answers true, whatever the input; no condition. -/
import Derived.Test.YtehdegggapeihaaGreatConE
import Derived.Test.YtehdegggapeihaaGreatRows
set_option linter.unusedSectionVars false
set_option linter.unusedVariables false
set_option linter.unusedSimpArgs false
namespace Go.Proofs
open Go Go.AI
set_option maxRecDepth 10000
def anyTo (f : Nat → Nat → Bool) (n : Nat) : Bool := (List.range n).any fun i => (List.range i).any fun k => f k i
theorem anyTo_succ (f : Nat → Nat → Bool) (n : Nat) : anyTo f (n + 1) = (anyTo f n || (List.range n).any fun k => f k n) := by
  unfold anyTo; rw [List.range_succ, List.any_append]; simp
set_option maxHeartbeats 8000000 in
theorem Tryz.y4 (c : TCase) (s : Nat → Int) (l : List Opt) (ps : List PassT) (a b : Int) (A : List Flt) (hl : l.length ≤ 8)
    (k17 : ACalls Tryz.prog 17 [] (.bool true)) (k18 : ACalls Tryz.prog 18 [.agg (caseA c)] (.tup [.agg (satA s), passesA ps, optsA l, .agg (spellA a b)]))
    (kA : ACalls Tryz.prog 21 [.agg (satA s), optsA l, passesA ps, .agg (spellA a b)] (.tup [fltsA A, .int .i64 0]))
    (B : Nat → Nat → List Flt) (M : Nat → Nat → List Aim3) (bad mee : Nat → Nat → Bool) (mt : Nat → Nat → Int)
    (hp : ∀ k i, k < i → i < l.length → ∃ p q : Int, ACalls Tryz.prog 21 [.agg (satA s), .sl .full 9 [optA (optAt l k), optA (optAt l i)], passesA ps, .agg (spellA a b)] (.tup [fltsA (B k i), .int .i64 0]) ∧ ACalls Tryz.prog 29 [.sl .full 9 [optA (optAt l k), optA (optAt l i)]] (aimsA (M k i)) ∧
      ACalls Tryz.prog 32 [.agg (satA s), aimsA (M k i)] (.tup [.int .i64 p, .int .i64 q, .bool (bad k i), .int .i64 0]) ∧ ACalls Tryz.prog 33 [fltsA (B k i), .int .i64 2] (.bool (bad k i)) ∧ ACalls Tryz.prog 33 [fltsA (B k i), .int .i64 6] (.bool (mee k i)) ∧
      ACalls Tryz.prog 34 [.agg (optA (optAt l k)), .agg (optA (optAt l i))] (.int .i64 (mt k i)) ∧ decide (mt k i ≥ 0) = mee k i)
    (k2 : ACalls Tryz.prog 33 [fltsA A, .int .i64 2] (.bool (anyTo bad l.length))) (k6 : ACalls Tryz.prog 33 [fltsA A, .int .i64 6] (.bool (anyTo mee l.length))) :
    ACalls Tryz.prog 4 [.agg (caseA c)] (.bool true) := by
  refine ACalls.ofB Tryz.T Tryz.func4 rfl (by kernel_rfl) Tryz.mixed (Nat.le_of_ble_eq_true rfl) ?_
  intro F n' w0 m0 hG hro h1
  repeat' first|refine Q1 ?_|refine Q2 ?_|refine Q3 hG Tryz.T Tryz.keep4 (by kernel_rfl) ?_|refine Q4 hG Tryz.T Tryz.keep4 (by kernel_rfl) ?_|refine Q5 hG Tryz.T ?_|refine Q6 hG Tryz.T ?_|refine Q7 hG Tryz.T ?_|refine Q8 hG Tryz.T ?_|refine Q9 rfl ?_|refine QF rfl ?_|refine QC rfl (And.intro (fun h => ?_) (fun h => ?_))|((conv => whnf); first|refine anF ?_|refine anT ?_|refine And.intro (by kernel_rfl) ?_|refine And.intro (fun h => ?_) (fun h => ?_)|refine Or.inl ?_|fail)
  conv => whnf
  refine Exists.intro _ (And.intro (k17) ?_)
  repeat' first|refine Q1 ?_|refine Q2 ?_|refine Q3 hG Tryz.T Tryz.keep4 (by kernel_rfl) ?_|refine Q4 hG Tryz.T Tryz.keep4 (by kernel_rfl) ?_|refine Q5 hG Tryz.T ?_|refine Q6 hG Tryz.T ?_|refine Q7 hG Tryz.T ?_|refine Q8 hG Tryz.T ?_|refine Q9 rfl ?_|refine QF rfl ?_|refine QC rfl (And.intro (fun h => ?_) (fun h => ?_))|((conv => whnf); first|refine anF ?_|refine anT ?_|refine And.intro (by kernel_rfl) ?_|refine And.intro (fun h => ?_) (fun h => ?_)|refine Or.inl ?_|fail)
  conv => whnf
  refine Exists.intro _ (And.intro (k18) ?_)
  repeat' first|refine Q1 ?_|refine Q2 ?_|refine Q3 hG Tryz.T Tryz.keep4 (by kernel_rfl) ?_|refine Q4 hG Tryz.T Tryz.keep4 (by kernel_rfl) ?_|refine Q5 hG Tryz.T ?_|refine Q6 hG Tryz.T ?_|refine Q7 hG Tryz.T ?_|refine Q8 hG Tryz.T ?_|refine Q9 rfl ?_|refine QF rfl ?_|refine QC rfl (And.intro (fun h => ?_) (fun h => ?_))|((conv => whnf); first|refine anF ?_|refine anT ?_|refine And.intro (by kernel_rfl) ?_|refine And.intro (fun h => ?_) (fun h => ?_)|refine Or.inl ?_|fail)
  conv => whnf
  refine Exists.intro _ (And.intro (kA) ?_)
  repeat' first|refine Q1 ?_|refine Q2 ?_|refine Q3 hG Tryz.T Tryz.keep4 (by kernel_rfl) ?_|refine Q4 hG Tryz.T Tryz.keep4 (by kernel_rfl) ?_|refine Q5 hG Tryz.T ?_|refine Q6 hG Tryz.T ?_|refine Q7 hG Tryz.T ?_|refine Q8 hG Tryz.T ?_|refine Q9 rfl ?_|refine QF rfl ?_|refine QC rfl (And.intro (fun h => ?_) (fun h => ?_))|((conv => whnf); first|refine anF ?_|refine anT ?_|refine And.intro (by kernel_rfl) ?_|refine And.intro (fun h => ?_) (fun h => ?_)|refine Or.inl ?_|fail)
  refine SPB.loop (X := Nat × Bool × Bool) (fun x => ⟨[(11, .int .i64 x.1), (10, .bool x.2.2), (9, .bool x.2.1), (7, fltsA A), (6, .loc 6 0), (5, optsA l), (4, passesA ps), (3, .loc 3 0)], [(6, spellA a b), (3, satA s)]⟩) (fun x => x.1 ≤ l.length ∧ x.2.1 = anyTo bad x.1 ∧ x.2.2 = anyTo mee x.1) (fun x => l.length - x.1) (0, false, false) ⟨Nat.zero_le _, rfl, rfl⟩ (St.le.of ?_ ?_) (fun x hx => ?_)
  · repeat' (first | exact trivial | refine And.intro rfl ?_)
  · repeat' (first | exact trivial | refine And.intro rfl ?_)
  · obtain ⟨i, sl, se⟩ := x
    obtain ⟨hi, hsl, hse⟩ := hx
    simp only at hi hsl hse ⊢
    by_cases hlt_i : i < l.length
    · have bbk : decide ((i : Int) < ((l.map optA).length : Int)) = false → False := fun h => by have := of_decide_eq_false h; simp at this; omega
      repeat' first|exact (bbk (by assumption)).elim|refine Q1 ?_|refine Q2 ?_|refine Q3 hG Tryz.T Tryz.keep4 (by kernel_rfl) ?_|refine Q4 hG Tryz.T Tryz.keep4 (by kernel_rfl) ?_|refine Q5 hG Tryz.T ?_|refine Q6 hG Tryz.T ?_|refine Q7 hG Tryz.T ?_|refine Q8 hG Tryz.T ?_|refine Q9 rfl ?_|refine QF rfl ?_|refine QC rfl (And.intro (fun h => ?_) (fun h => ?_))|((conv => whnf); first|refine anF ?_|refine anT ?_|refine And.intro (by kernel_rfl) ?_|refine And.intro (fun h => ?_) (fun h => ?_)|refine Or.inl ?_|fail)
      refine SPB.loop (X := Nat × Bool × Bool) (fun x => ⟨[(12, .int .i64 x.1), (11, .int .i64 i), (10, .bool x.2.2), (9, .bool x.2.1), (7, fltsA A), (6, .loc 6 0), (5, optsA l), (4, passesA ps), (3, .loc 3 0)], [(6, spellA a b), (3, satA s)]⟩) (fun x => x.1 ≤ i ∧ x.2.1 = (anyTo bad i || (List.range x.1).any fun k => bad k i) ∧ x.2.2 = (anyTo mee i || (List.range x.1).any fun k => mee k i)) (fun x => i - x.1) (0, sl, se) ⟨Nat.zero_le _, by rw [hsl]; simp, by rw [hse]; simp⟩ (St.le.of ?_ ?_) (fun x hx => ?_)
      · repeat' (first | exact trivial | refine And.intro rfl ?_)
      · repeat' (first | exact trivial | refine And.intro rfl ?_)
      · obtain ⟨k, tl, te⟩ := x
        obtain ⟨hk, htl, hte⟩ := hx
        simp only at hk htl hte ⊢
        by_cases hlt_k : k < i
        · have bbk : decide ((k : Int) < (i : Int)) = false → False := fun h => by have := of_decide_eq_false h; simp at this; omega
          have hx := opt_at (show k < l.length by omega)
          have hy := opt_at hlt_i
          obtain ⟨p, q, cB, cA, cS, c2, c6, cM, hm⟩ := hp k i hlt_k hlt_i
          have etl : (anyTo bad i || (List.range (k + 1)).any fun k => bad k i) = (tl || bad k i) := by rw [htl, List.range_succ, List.any_append]; simp [Bool.or_assoc]
          have ete : (anyTo mee i || (List.range (k + 1)).any fun k => mee k i) = (te || mee k i) := by rw [hte, List.range_succ, List.any_append]; simp [Bool.or_assoc]
          generalize bad k i = bd at *
          generalize mee k i = me at *
          generalize mt k i = m at *
          have b1 : (bd != bd) = true → False := fun h => by simp at h
          have b2 : (me != decide (m ≥ 0)) = true → False := fun h => by rw [hm] at h; simp at h
          generalize B k i = Bk at *
          generalize M k i = Mk at *
          generalize optAt l k = u at *
          generalize optAt l i = v at *
          repeat' first|exact (bbk (by assumption)).elim|refine Q1 ?_|refine Q2 ?_|refine Q3 hG Tryz.T Tryz.keep4 (by kernel_rfl) ?_|refine Q4 hG Tryz.T Tryz.keep4 (by kernel_rfl) ?_|refine Q5 hG Tryz.T ?_|refine Q6 hG Tryz.T ?_|refine Q7 hG Tryz.T ?_|refine Q8 hG Tryz.T ?_|refine Q9 rfl ?_|refine QF rfl ?_|refine QC rfl (And.intro (fun h => ?_) (fun h => ?_))|((conv => whnf); first|refine anF ?_|refine anT ?_|refine And.intro (by kernel_rfl) ?_|refine And.intro (Int.natCast_nonneg k) (Exists.intro _ (And.intro hx ?_))|refine And.intro (Int.natCast_nonneg i) (Exists.intro _ (And.intro hy ?_))|refine Exists.intro _ (And.intro (cB) ?_)|refine Exists.intro _ (And.intro (cA) ?_)|refine Exists.intro _ (And.intro (cS) ?_)|refine Exists.intro _ (And.intro (c2) ?_)|refine Exists.intro _ (And.intro (c6) ?_)|refine Exists.intro _ (And.intro (cM) ?_)|refine And.intro (fun h => ?_) (fun h => ?_)|refine Or.inl ?_|fail)
          all_goals first
            | exact (b1 (by assumption)).elim
            | exact (b2 (by assumption)).elim
            | skip
          all_goals (refine Exists.intro (k + 1, tl || bd, te || me) (And.intro ⟨hlt_k, etl.symm, ete.symm⟩ (And.intro (by show i - (k + 1) < i - k; omega) (St.le.of ?_ ?_))))
          all_goals first
            | (refine And.intro (congrArg some (le_next (by omega))) (And.intro rfl (And.intro (congrArg (fun z => some (AV.bool z)) ?_) (And.intro (congrArg (fun z => some (AV.bool z)) ?_) ?_)))
               · first | rfl | simp_all
               · first | rfl | simp_all
               · repeat' (first | exact trivial | refine And.intro rfl ?_))
            | (repeat' (first | exact trivial | refine And.intro rfl ?_))
        · have bbk : decide ((k : Int) < (i : Int)) = true → False := fun h => by have := of_decide_eq_true h; simp at this; omega
          have he : k = i := by omega
          subst he
          repeat' first|exact (bbk (by assumption)).elim|refine Q1 ?_|refine Q2 ?_|refine Q3 hG Tryz.T Tryz.keep4 (by kernel_rfl) ?_|refine Q4 hG Tryz.T Tryz.keep4 (by kernel_rfl) ?_|refine Q5 hG Tryz.T ?_|refine Q6 hG Tryz.T ?_|refine Q7 hG Tryz.T ?_|refine Q8 hG Tryz.T ?_|refine Q9 rfl ?_|refine QF rfl ?_|refine QC rfl (And.intro (fun h => ?_) (fun h => ?_))|((conv => whnf); first|refine anF ?_|refine anT ?_|refine And.intro (by kernel_rfl) ?_|refine And.intro (fun h => ?_) (fun h => ?_)|refine Or.inl ?_|fail)
          refine Exists.intro (k + 1, tl, te) (And.intro ⟨hlt_i, ?_, ?_⟩ (And.intro (by show l.length - (k + 1) < l.length - k; omega) (St.le.of ?_ ?_)))
          · rw [anyTo_succ]; exact htl
          · rw [anyTo_succ]; exact hte
          · refine And.intro (congrArg some (le_next (by omega))) ?_
            repeat' (first | exact trivial | refine And.intro rfl ?_)
          · repeat' (first | exact trivial | refine And.intro rfl ?_)
    · have bbk : decide ((i : Int) < ((l.map optA).length : Int)) = true → False := fun h => by have := of_decide_eq_true h; simp at this; omega
      have he : i = l.length := by omega
      rw [he] at hsl hse
      rw [← hsl] at k2
      rw [← hse] at k6
      have b1 : (sl == sl) = false → False := fun h => by simp at h
      repeat' first|exact (bbk (by assumption)).elim|refine Q1 ?_|refine Q2 ?_|refine Q3 hG Tryz.T Tryz.keep4 (by kernel_rfl) ?_|refine Q4 hG Tryz.T Tryz.keep4 (by kernel_rfl) ?_|refine Q5 hG Tryz.T ?_|refine Q6 hG Tryz.T ?_|refine Q7 hG Tryz.T ?_|refine Q8 hG Tryz.T ?_|refine Q9 rfl ?_|refine QF rfl ?_|refine QC rfl (And.intro (fun h => ?_) (fun h => ?_))|((conv => whnf); first|refine anF ?_|refine anT ?_|refine And.intro (by kernel_rfl) ?_|refine Exists.intro _ (And.intro (k2) ?_)|refine Exists.intro _ (And.intro (k6) ?_)|refine And.intro (fun h => ?_) (fun h => ?_)|refine Or.inl ?_|fail)
      all_goals first
        | exact (b1 (by assumption)).elim
        | exact Ends.mk (Or.inl rfl) (AV.weak.of_eq (congrArg AV.bool (by simp)))
end Go.Proofs
namespace Go.Proofs
open Go Go.AI
set_option maxRecDepth 10000
theorem Tryz.x4 (c : TCase) : ACalls Tryz.prog 4 [.agg (caseA c)] (.bool true) := by
  have hln := c.len
  have hT := TrkH.of c.valid
  have hps : c.ps.length ≤ 1000000 := by have := c.passes.2.1; omega
  have fl : ∀ m, (faultsL c.s m c.a c.b).length ≤ 1000000 := fun m => by have : (faultsL c.s m c.a c.b).length ≤ 5 := fltTake_len c.s m c.a c.b 5; omega
  have k2 := Tryz.has (faultsL c.s c.l c.a c.b) 2 (fl _)
  rw [has2, slew_pairs] at k2
  have k6 := Tryz.has (faultsL c.s c.l c.a c.b) 6 (fl _)
  rw [has6, send_pairs] at k6
  refine Tryz.y4 c c.s c.l c.ps c.a c.b (faultsL c.s c.l c.a c.b) (by omega) Tryz.sane19 (Tryz.made c) (Tryz.checkOf c.s c.l c.ps c.a c.b hps c.valid)
    (fun k i => faultsL c.s (pairL c.l k i) c.a c.b) (fun k i => aimsOf (pairL c.l k i)) (fun k i => (slewF c.s (pairL c.l k i)).isSome) (fun k i => (sendF (pairL c.l k i)).isSome) (fun k i => meetL (optAt c.l k) (optAt c.l i)) (fun k i hk hi => ?_) k2 k6
  have hv := track_sub c.valid (pair_sub hk hi)
  have h := (ChkH.of hv).1
  have cB := (Tryz.checkOf c.s (pairL c.l k i) c.ps c.a c.b hps hv).sl1 (o := .full)
  have cA := (Tryz.aims (pairL c.l k i) h.hl).sl0 (o := .full)
  have cS := Tryz.pc16 c.s (aimsOf (pairL c.l k i)) (by simp [aimsOf, pairL]) h.val
  obtain ⟨si, sk, sb, hsr, hst, hsf⟩ := slew_row (s := c.s) (l := aimsOf (pairL c.l k i))
  have hb : sb = (slewF c.s (pairL c.l k i)).isSome := by
    rw [slewO_isSome]
    cases sb with
    | true => rw [hst rfl]; rfl
    | false => rw [hsf rfl]; rfl
  rw [hsr, hb] at cS
  have c2 := Tryz.has (faultsL c.s (pairL c.l k i) c.a c.b) 2 (fl _)
  rw [has2] at c2
  have c6 := Tryz.has (faultsL c.s (pairL c.l k i) c.a c.b) 6 (fl _)
  rw [has6] at c6
  have cM := Tryz.rmeet (optAt c.l k) (optAt c.l i) (h.sl _ (by simp [pairL])) (h.sl _ (by simp [pairL]))
  exact ⟨si, sk, cB, cA, cS, c2, c6, cM, (isSome_not send_pair).symm⟩
end Go.Proofs
namespace Go.Proofs
open Go Go.AI Go.Proofs.YtehdegggapeihaaGreat
set_option maxRecDepth 100000
theorem Tryz.own : ownKnob Tryz.prog.godebug = none := by kernel_rfl
theorem Tryz.laidOut : laidOutB Tryz.prog = true := by kernel_rfl
theorem Tryz.reads27 : (Tryz.prog.readableRec 27 && Nat.blt 27 Tryz.prog.types.size) = true := by kernel_rfl
def caseSh : List Sh := [.int .i64, .int .i64, .int .i64, .int .i64, .int .i64, .int .i64, .int .i64, .int .i64, .int .i64, .int .i64, .int .i64, .sl [.int .i64, .int .i64, .int .i64], .sl [.int .i64, .int .i64, .int .i64, .int .i64, .int .i64], .int .i64]
def lawSh : List (Bool × List Sh) := [(true, caseSh)]
theorem Tryz.shs : paramSh Tryz.prog 8 [27] = some lawSh := by kernel_rfl
theorem Tryz.lifted (law : ∀ avs, PArgs 8 lawSh avs → ACalls Tryz.prog 4 avs (.bool true)) (os : Os) (started : os.Started) (H : Type) (enc : TypeId × Value → H) :
    ReturnsInHanded {} Tryz.checked os 4 .any (Rows.trackPairsSpec.pre6 enc Tryz.prog Tryz.f4 Rows.trackPairsRow.domain false) (Rows.trackPairsSpec.post enc Tryz.prog Tryz.f4 false true false false) :=
  law_lifted (C := Tryz.checked) (tb := 4) Tryz.own started (by kernel_rfl) Tryz.func4
    (ChangeSpec.witness6 (enc := enc) (C := Tryz.checked) false ⟨#[], #[.agg #[.int .i64 0, .int .i64 0, .int .i64 0, .int .i64 0, .int .i64 0, .int .i64 0, .int .i64 0, .int .i64 0, .int .i64 0, .int .i64 0, .int .i64 0, .slice none 0 0, .slice none 0 0, .int .i64 0]], []⟩ 8 (by kernel_rfl) (by kernel_rfl) (by kernel_rfl) (by kernel_rfl))
    rfl (by kernel_rfl) (by kernel_rfl) (fun ds h => by
      match ds, h with
      | [d0], _ => rfl) Tryz.shs Tryz.laidOut (fun t ht => by
      have e : Tryz.f4.params.toList = [27] := by kernel_rfl
      rw [e] at ht
      simp only [List.mem_cons, List.not_mem_nil, or_false] at ht
      have h27 := Tryz.reads27
      simp only [Bool.and_eq_true] at h27
      subst ht <;> first | exact ⟨h27.1, Nat.le_of_ble_eq_true h27.2⟩) law
theorem Tryz.jf0 : (Rows.trackPairsRow.wf (OpenSpec.ofChange Rows.trackPairsSpec) : Bool) = true := by kernel_rfl
theorem Tryz.jf1 : (laidOutB Tryz.pinned.checked.prog : Bool) = true := by kernel_rfl
theorem Tryz.jf2 : (mapsRowed Tryz.pinned.checked.prog : Bool) = true := by kernel_rfl
theorem Tryz.jf3 : (Tryz.f4.params.all (Tryz.pinned.checked.prog.readableRec ·) : Bool) = true := by kernel_rfl
theorem Tryz.jf4 : (namedTie Tryz.pinned.checked.prog Rows.trackPairsRow.named Rows.trackPairsSpec.vars : Bool) = true := by kernel_rfl
theorem Tryz.jf5 : ((Rows.trackPairsRow.stops == []) : Bool) = true := by kernel_rfl
theorem Tryz.jf6 : ((Tryz.pinned.checked.prog.stops == []) : Bool) = true := by kernel_rfl
theorem Tryz.jf7 : ((Rows.trackPairsRow.knobs == []) : Bool) = true := by kernel_rfl
theorem Tryz.jf8 : ((Tryz.pinned.checked.prog.stopKnobs == []) : Bool) = true := by kernel_rfl
theorem Tryz.jf9 : ((Rows.trackPairsRow.inPlace == Tryz.pinned.checked.prog.inPlace 4) : Bool) = true := by kernel_rfl
theorem Tryz.jf10 : ((Rows.trackPairsRow.unfollowed == Tryz.pinned.checked.prog.unfollowed 4) : Bool) = true := by kernel_rfl
theorem Tryz.jf11 : ((Rows.trackPairsRow.recurses == Tryz.pinned.checked.prog.recurses 4) : Bool) = true := by kernel_rfl
theorem Tryz.jf12 : ((Rows.trackPairsRow.named == Tryz.pinned.checked.prog.varsNamed 4) : Bool) = true := by kernel_rfl
theorem Tryz.jf13 : ((Rows.trackPairsRow.maps == (Tryz.f4.params.toList ++ Rows.trackPairsSpec.plain.varTypes Tryz.pinned.checked.prog).any (Tryz.pinned.checked.prog.mapsRec ·)) : Bool) = true := by kernel_rfl
theorem Tryz.jf14 : ((Rows.trackPairsRow.ifaces == (Tryz.f4.params.toList ++ Rows.trackPairsSpec.plain.varTypes Tryz.pinned.checked.prog).any (Tryz.pinned.checked.prog.ifacesRec ·)) : Bool) = true := by kernel_rfl
theorem Tryz.jf15 : ((Rows.trackPairsRow.mapsOut == Tryz.pinned.checked.prog.mapsAmong Tryz.f4.resultTypes.toList) : Bool) = true := by kernel_rfl
theorem Tryz.jf16 : ((Rows.trackPairsRow.loops == (Tryz.f4.params.toList ++ Rows.trackPairsSpec.plain.varTypes Tryz.pinned.checked.prog).any (Tryz.pinned.checked.prog.loopsFrom ·)) : Bool) = true := by kernel_rfl
theorem Tryz.jf17 : ((Rows.trackPairsRow.wideKeys == (Tryz.f4.params.toList ++ Rows.trackPairsSpec.plain.varTypes Tryz.pinned.checked.prog ++ Tryz.f4.resultTypes.toList).any (Tryz.pinned.checked.prog.wideKeysFrom ·)) : Bool) = true := by kernel_rfl
theorem Tryz.jf18 : (Rows.trackPairsSpec.vars.all (Tryz.pinned.checked.prog.varReadable ·) : Bool) = true := by kernel_rfl
theorem Tryz.jf19 : (Tryz.f4.resultTypes.all (fun t => Tryz.pinned.checked.prog.readableRec t && decide (t < Tryz.pinned.checked.prog.types.size)) : Bool) = true := by kernel_rfl
theorem Tryz.jf20 : ((Rows.trackPairsRow.ifacesOut == Tryz.f4.resultTypes.toList.any (Tryz.pinned.checked.prog.ifacesRec ·)) : Bool) = true := by kernel_rfl
theorem Tryz.jf21 : ((Rows.trackPairsRow.loopsOut == Tryz.f4.resultTypes.toList.any (Tryz.pinned.checked.prog.loopsFrom ·)) : Bool) = true := by kernel_rfl
theorem Tryz.jf22 : ((Rows.trackPairsRow.plainKeys == Tryz.pinned.checked.prog.plainKeys) : Bool) = true := by kernel_rfl
theorem Tryz.jf23 : (Rows.trackPairsRow.shortTexts.isNone : Bool) = true := by kernel_rfl
theorem Tryz.jf24 : (Tryz.pinned.checked.prog.stopsHeard : Bool) = true := by kernel_rfl
theorem Tryz.jf25 : (Tryz.pinned.checked.prog.mayEnter : Bool) = true := by kernel_rfl
theorem Tryz.jf26 : ((Rows.trackPairsRow.lifted == Tryz.pinned.checked.prog.liftsFinal) : Bool) = true := by kernel_rfl
theorem Tryz.jf27 : ((Tryz.pinned.checked.prog.make == some Rows.trackPairsRow.make) : Bool) = true := by kernel_rfl
theorem Tryz.jf28 : ((Rows.trackPairsRow.kinds == (if Rows.trackPairsRow.domain.isEmpty then [] else Tryz.f4.params.toList.map fun t => match Tryz.pinned.checked.prog.underlying t with | some (.int k) => some k | _ => none)) : Bool) = true := by kernel_rfl
theorem Tryz.jf29 : ((Rows.trackPairsRow.pinned == Rows.trackPairsRow.pinnedBy) : Bool) = true := by kernel_rfl
theorem Tryz.jf30 : ((Rows.trackPairsRow.veiled == (Tryz.f4.params.toList ++ Rows.trackPairsSpec.plain.varTypes Tryz.pinned.checked.prog ++ Tryz.f4.resultTypes.toList).any (Tryz.pinned.checked.prog.veiledRec ·)) : Bool) = true := by kernel_rfl
theorem Tryz.jf31 : (Rows.trackPairsRow.veiledFits Tryz.pinned.checked.prog Tryz.f4.params.toList (Tryz.f4.params.toList ++ Rows.trackPairsSpec.plain.varTypes Tryz.pinned.checked.prog ++ Tryz.f4.resultTypes.toList) : Bool) = true := by kernel_rfl
theorem and_i {a b : Bool} (h : a = true) (k : b = true) : (a && b) = true := by rw [h, k]; rfl
theorem Tryz.jf : joinedFacts Tryz.pinned.checked.prog 4 Tryz.f4 Rows.trackPairsSpec Rows.trackPairsRow = true := by
  unfold joinedFacts
  exact and_i (and_i (and_i (and_i (and_i (and_i (and_i (and_i (and_i (and_i (and_i (and_i (and_i (and_i (and_i (and_i (and_i (and_i (and_i (and_i (and_i (and_i (and_i (and_i (and_i (and_i (and_i (and_i (and_i (and_i (and_i (Tryz.jf0) Tryz.jf1) Tryz.jf2) Tryz.jf3) Tryz.jf4) Tryz.jf5) Tryz.jf6) Tryz.jf7) Tryz.jf8) Tryz.jf9) Tryz.jf10) Tryz.jf11) Tryz.jf12) Tryz.jf13) Tryz.jf14) Tryz.jf15) Tryz.jf16) Tryz.jf17) Tryz.jf18) Tryz.jf19) Tryz.jf20) Tryz.jf21) Tryz.jf22) Tryz.jf23) Tryz.jf24) Tryz.jf25) Tryz.jf26) Tryz.jf27) Tryz.jf28) Tryz.jf29) Tryz.jf30) Tryz.jf31
theorem Tryz.row (law : ∀ avs, PArgs 8 lawSh avs → ACalls Tryz.prog 4 avs (.bool true)) : Rows.TrackPairsSaid :=
  OpenClaim.holds_of_wide (p := Tryz.pinned) (s := Rows.trackPairsSpec) (c := Rows.trackPairsRow) 4 Tryz.f4 rfl rfl rfl rfl rfl rfl rfl ⟨rfl, rfl, rfl, rfl, rfl⟩ rfl rfl rfl rfl rfl (by kernel_rfl) Tryz.func4 Tryz.jf
    (of_decide_eq_true (by kernel_rfl)) (by unfold Func.isWrapper; first | (rw [if_pos (by decide +kernel)]; kernel_rfl) | (rw [if_neg (by decide +kernel)]; exact ⟨rfl, rfl⟩))
    (fun os started H enc _ => Tryz.lifted law os started H enc)
theorem pargs_agg {n : Nat} {L : List Sh} {r : List (Bool × List Sh)} {avs : List AV} (h : PArgs n ((true, L) :: r) avs) : ∃ cs q, avs = .agg cs :: q ∧ Fa (ShOK n) L cs ∧ PArgs n r q := by
  match avs, h with
  | _ :: q, h =>
    obtain ⟨⟨cs, rfl, h1⟩, h2⟩ := h
    exact ⟨cs, q, rfl, h1, h2⟩
  | [], h => exact h.elim
theorem pargs_int {n : Nat} {r : List (Bool × List Sh)} {avs : List AV} (h : PArgs (n + 1) ((false, [.int .i64]) :: r) avs) : ∃ z q, avs = .int .i64 z :: q ∧ inI z ∧ PArgs (n + 1) r q := by
  match avs, h with
  | _ :: q, h =>
    obtain ⟨⟨s, e, h1⟩, h2⟩ := h
    cases e
    obtain ⟨z, rfl, hz⟩ := int_inv h1
    exact ⟨z, q, rfl, hz, h2⟩
  | [], h => exact h.elim
theorem pargs_sl {n : Nat} {e : List Sh} {r : List (Bool × List Sh)} {avs : List AV} (h : PArgs n ((false, [.sl e]) :: r) avs) : ∃ z q, avs = z :: q ∧ ShOK n (.sl e) z ∧ PArgs n r q := by
  match avs, h with
  | _ :: q, h =>
    obtain ⟨⟨s, e, h1⟩, h2⟩ := h
    cases e
    exact ⟨_, q, rfl, h1, h2⟩
  | [], h => exact h.elim
theorem pargs_nil {n : Nat} {avs : List AV} (h : PArgs n [] avs) : avs = [] := by
  match avs, h with
  | [], _ => rfl
  | _ :: _, h => exact h.elim
theorem intsL_of {n : Nat} {a : AV} (h : ShOK (n + 2) (.sl [.int .i64]) a) : ∃ z : List Int, (∀ x ∈ z, inI x) ∧ a = intsA z := by
  obtain ⟨xs, rfl, h2⟩ := h
  suffices hs : ∀ l : List (List AV), (∀ x ∈ l, Fa (ShOK (n + 1)) [.int .i64] x) → ∃ z : List Int, (∀ x ∈ z, inI x) ∧ l = z.map fun h => [AV.int .i64 h] by
    obtain ⟨z, g1, g2⟩ := hs xs h2
    exact ⟨z, g1, congrArg (AV.sl .no 1) g2⟩
  intro l
  induction l with
  | nil => exact fun _ => ⟨[], by simp, rfl⟩
  | cons y r ih =>
    intro h
    obtain ⟨z, g1, rfl⟩ := ih (fun x hx => h x (List.mem_cons_of_mem _ hx))
    obtain ⟨b, q, rfl, h0, h'⟩ := Fa.cons_inv (h y List.mem_cons_self)
    obtain rfl := Fa.nil_inv h'
    obtain ⟨w, rfl, hw⟩ := int_inv h0
    exact ⟨w :: z, fun v hv => by rcases List.mem_cons.1 hv with rfl | hv; exact hw; exact g1 v hv, rfl⟩
theorem rows5_of {n : Nat} {a : AV} (h : ShOK (n + 2) (.sl [.int .i64, .int .i64, .int .i64, .int .i64, .int .i64]) a) : ∃ z : List R5, (∀ x ∈ z, inI5 x) ∧ a = .sl .no 5 (z.map row5A) := by
  obtain ⟨xs, rfl, h2⟩ := h
  suffices hs : ∀ l : List (List AV), (∀ x ∈ l, Fa (ShOK (n + 1)) [.int .i64, .int .i64, .int .i64, .int .i64, .int .i64] x) → ∃ z : List R5, (∀ x ∈ z, inI5 x) ∧ l = z.map row5A by
    obtain ⟨z, g1, g2⟩ := hs xs h2
    exact ⟨z, g1, congrArg (AV.sl .no 5) g2⟩
  intro l
  induction l with
  | nil => exact fun _ => ⟨[], by simp, rfl⟩
  | cons y r ih =>
    intro h
    obtain ⟨z, g1, rfl⟩ := ih (fun x hx => h x (List.mem_cons_of_mem _ hx))
    obtain ⟨b0, q, rfl, h0, h'⟩ := Fa.cons_inv (h y List.mem_cons_self)
    obtain ⟨b1, q, rfl, h1, h'⟩ := Fa.cons_inv h'
    obtain ⟨b2, q, rfl, h2, h'⟩ := Fa.cons_inv h'
    obtain ⟨b3, q, rfl, h3, h'⟩ := Fa.cons_inv h'
    obtain ⟨b4, q, rfl, h4, h'⟩ := Fa.cons_inv h'
    obtain rfl := Fa.nil_inv h'
    obtain ⟨z0, rfl, i0⟩ := int_inv h0
    obtain ⟨z1, rfl, i1⟩ := int_inv h1
    obtain ⟨z2, rfl, i2⟩ := int_inv h2
    obtain ⟨z3, rfl, i3⟩ := int_inv h3
    obtain ⟨z4, rfl, i4⟩ := int_inv h4
    exact ⟨⟨z0, z1, z2, z3, z4⟩ :: z, fun w hw => by rcases List.mem_cons.1 hw with rfl | hw; exact ⟨i0, i1, i2, i3, i4⟩; exact g1 w hw, rfl⟩
theorem getD_inI {l : List Int} (h : ∀ y ∈ l, inI y) (i : Nat) : inI (l.getD i 0) := by
  rw [List.getD_eq_getElem?_getD]
  cases hi : l[i]? with
  | none => show inI 0; unfold inI; omega
  | some y => exact h y (List.mem_of_getElem? hi)
theorem case_of {n : Nat} {cs : List AV} (h : Fa (ShOK (n + 2)) caseSh cs) : ∃ c : TCase, cs = caseA c := by
  obtain ⟨b0, q, rfl, h0, h⟩ := Fa.cons_inv h
  obtain ⟨b1, q, rfl, h1, h⟩ := Fa.cons_inv h
  obtain ⟨b2, q, rfl, h2, h⟩ := Fa.cons_inv h
  obtain ⟨b3, q, rfl, h3, h⟩ := Fa.cons_inv h
  obtain ⟨b4, q, rfl, h4, h⟩ := Fa.cons_inv h
  obtain ⟨b5, q, rfl, h5, h⟩ := Fa.cons_inv h
  obtain ⟨b6, q, rfl, h6, h⟩ := Fa.cons_inv h
  obtain ⟨b7, q, rfl, h7, h⟩ := Fa.cons_inv h
  obtain ⟨b8, q, rfl, h8, h⟩ := Fa.cons_inv h
  obtain ⟨b9, q, rfl, h9, h⟩ := Fa.cons_inv h
  obtain ⟨b10, q, rfl, h10, h⟩ := Fa.cons_inv h
  obtain ⟨b11, q, rfl, h11, h⟩ := Fa.cons_inv h
  obtain ⟨b12, q, rfl, h12, h⟩ := Fa.cons_inv h
  obtain ⟨b13, q, rfl, h13, h⟩ := Fa.cons_inv h
  obtain rfl := Fa.nil_inv h
  obtain ⟨z0, rfl, i0⟩ := int_inv h0
  obtain ⟨z1, rfl, i1⟩ := int_inv h1
  obtain ⟨z2, rfl, i2⟩ := int_inv h2
  obtain ⟨z3, rfl, i3⟩ := int_inv h3
  obtain ⟨z4, rfl, i4⟩ := int_inv h4
  obtain ⟨z5, rfl, i5⟩ := int_inv h5
  obtain ⟨z6, rfl, i6⟩ := int_inv h6
  obtain ⟨z7, rfl, i7⟩ := int_inv h7
  obtain ⟨z8, rfl, i8⟩ := int_inv h8
  obtain ⟨z9, rfl, i9⟩ := int_inv h9
  obtain ⟨z10, rfl, i10⟩ := int_inv h10
  obtain ⟨z, hz, rfl⟩ := rows_of h11
  obtain ⟨v, hv, rfl⟩ := rows5_of h12
  obtain ⟨f, rfl, hf⟩ := int_inv h13
  exact ⟨⟨fun i => [z0, z1, z2, z3, z4, z5, z6].getD i 0, fun i => [z7, z8, z9, z10].getD i 0, z, v, f, getD_inI (by simp [*]), getD_inI (by simp [*]), hz, hv, hf⟩, rfl⟩
end Go.Proofs
namespace Go.Proofs.YtehdegggapeihaaGreat
open Go Go.AI
theorem trackPairs : Rows.TrackPairsSaid := Tryz.row fun avs h => by
  obtain ⟨cs, q, rfl, h1, h⟩ := pargs_agg h
  obtain rfl := pargs_nil h
  obtain ⟨c, rfl⟩ := case_of h1
  exact Go.Proofs.Tryz.x4 c
end Go.Proofs.YtehdegggapeihaaGreat
