/- BranchMore answers true, whatever the input; no condition. -/
import Derived.Test.YtehdegggapeihaaGreatBConE
import Derived.Test.YtehdegggapeihaaGreatRows
set_option linter.unusedSectionVars false
set_option linter.unusedVariables false
set_option linter.unusedSimpArgs false
namespace Go.Proofs
open Go Go.AI
set_option maxRecDepth 10000
theorem AC {α : Type} {x y : α} {l m : List α} (h : (x :: l).Sublist (y :: m)) : l.Sublist m := by
  cases h with
  | cons _ h => exact (List.sublist_cons_self x l).trans h
  | cons_cons _ h => exact h
theorem AD {α : Type} {x y : α} {l m : List α} (h : (x :: l).Sublist (y :: m)) (hne : x ≠ y) : (x :: l).Sublist m := by
  cases h with
  | cons _ h => exact h
  | cons_cons _ h => exact absurd rfl hne
set_option maxHeartbeats 8000000 in
theorem BM (c : bi) (losses k : Int) (s : Nat → Int) (l : List Opt) (ps : List ak) (a b : Int) (A B : List (List Int)) (n n2 m m2 p p2 q q2 : Int) (n3 m3 p3 q3 : List Int)
    (kS : ae Tryz.prog 41 [] (.bool true)) (kM : ae Tryz.prog 42 [.agg (gL c)] (.tup [.agg (aX s), aM l, am ps, .agg (aF a b)]))
    (kP : ae Tryz.prog 44 [.int .i64 losses, .int .i64 3] (.int .i64 k))
    (k1 : ae Tryz.prog 48 [aM l, am ps, .int .i64 k] (.tup [eh A, .int .i64 0])) (k2 : ae Tryz.prog 48 [aM l, am ps, .int .i64 (IntKind.i64.wrap (k + 1))] (.tup [eh B, .int .i64 0]))
    (k3 : ae Tryz.prog 56 [.agg (aX s), aM l, am ps, .int .i64 k, .agg (aF a b)] (.tup [.int .i64 n, .int .i64 n2, aq n3, .int .i64 0])) (k4 : ae Tryz.prog 56 [.agg (aX s), aM l, am ps, .int .i64 (IntKind.i64.wrap (k + 1)), .agg (aF a b)] (.tup [.int .i64 m, .int .i64 m2, aq m3, .int .i64 0]))
    (k5 : ae Tryz.prog 58 [.agg (aX s), aM l, am ps, .int .i64 k, .agg (aF a b)] (.tup [.int .i64 p, .int .i64 p2, aq p3, .int .i64 0])) (k6 : ae Tryz.prog 58 [.agg (aX s), aM l, am ps, .int .i64 (IntKind.i64.wrap (k + 1)), .agg (aF a b)] (.tup [.int .i64 q, .int .i64 q2, aq q3, .int .i64 0]))
    (hnm : n ≤ m) (hqp : q ≤ p) (hsub : A.Sublist B) (hA : A.length ≤ 1000) (hB : B.length ≤ 1000) (hin : ∀ i, i < A.length → (A.getD i []).length ≤ 1000000) :
    ae Tryz.prog 12 [.agg (gL c), .int .i64 losses] (.bool true) := by
  have hAm : ((A.map fun x => [aq x]).length : Int) = (A.length : Int) := by rw [List.length_map]
  have hBm : ((B.map fun x => [aq x]).length : Int) = (B.length : Int) := by rw [List.length_map]
  have b1 : decide (m < n) = true → False := fun h => by have := of_decide_eq_true h; omega
  have b2 : decide (q > p) = true → False := fun h => by have := of_decide_eq_true h; omega
  refine ag aa Tryz.func12 rfl (by kernel_rfl) af (Nat.le_of_ble_eq_true rfl) ?_
  intro F n' w0 m0 hG hro h1
  repeat' first|exact (b1 (by assumption)).elim|exact (b2 (by assumption)).elim|refine Q1 ?_|refine Q2 ?_|refine Q3 hG aa dw (by kernel_rfl) ?_|refine Q4 hG aa dw (by kernel_rfl) ?_|refine Q5 hG aa ?_|refine Q6 hG aa ?_|refine Q7 hG aa ?_|refine Q8 hG aa ?_|refine Q9 rfl ?_|refine QF rfl ?_|refine QC rfl (And.intro (fun h => ?_) (fun h => ?_))|((conv => whnf); first|refine anF ?_|refine anT ?_|refine And.intro (by kernel_rfl) ?_|refine Exists.intro _ (And.intro (kS) ?_)|refine Exists.intro _ (And.intro (kM) ?_)|refine Exists.intro _ (And.intro (kP) ?_)|refine Exists.intro _ (And.intro (k1) ?_)|refine Exists.intro _ (And.intro (k2) ?_)|refine Exists.intro _ (And.intro (k3) ?_)|refine Exists.intro _ (And.intro (k4) ?_)|refine Exists.intro _ (And.intro (k5) ?_)|refine Exists.intro _ (And.intro (k6) ?_)|refine And.intro (fun h => ?_) (fun h => ?_)|refine Or.inl ?_|fail)
  refine az (X := Nat × Nat) (fun x => ⟨[(31, .int .i64 x.1), (30, .int .i64 x.2), (12, eh B), (10, eh A)], []⟩) (fun x => x.1 ≤ A.length ∧ x.2 ≤ B.length ∧ (A.drop x.1).Sublist (B.drop x.2)) (fun x => A.length - x.1) (0, 0) ⟨Nat.zero_le _, Nat.zero_le _, hsub⟩ (ah ?_ ?_) (fun x hx => ?_)
  · repeat' (first | exact trivial | refine And.intro rfl ?_)
  · repeat' (first | exact trivial | refine And.intro rfl ?_)
  · obtain ⟨u, v⟩ := x
    obtain ⟨hu, hv, hs⟩ := hx
    simp only at hu hv hs ⊢
    by_cases hlt : u < A.length
    · have bbk : decide ((u : Int) < ((A.map fun x => [aq x]).length : Int)) = false → False := fun h => by have := of_decide_eq_false h; omega
      repeat' first|exact (bbk (by assumption)).elim|refine Q1 ?_|refine Q2 ?_|refine Q3 hG aa dw (by kernel_rfl) ?_|refine Q4 hG aa dw (by kernel_rfl) ?_|refine Q5 hG aa ?_|refine Q6 hG aa ?_|refine Q7 hG aa ?_|refine Q8 hG aa ?_|refine Q9 rfl ?_|refine QF rfl ?_|refine QC rfl (And.intro (fun h => ?_) (fun h => ?_))|((conv => whnf); first|refine anF ?_|refine anT ?_|refine And.intro (by kernel_rfl) ?_|refine And.intro (fun h => ?_) (fun h => ?_)|refine Or.inl ?_|fail)
      refine az (X := Nat) (fun v => ⟨[(30, .int .i64 v), (31, .int .i64 u), (12, eh B), (10, eh A)], []⟩) (fun v => v ≤ B.length ∧ (A.drop u).Sublist (B.drop v)) (fun v => B.length - v) v ⟨hv, hs⟩ (ah ?_ ?_) (fun v hx => ?_)
      · repeat' (first | exact trivial | refine And.intro rfl ?_)
      · repeat' (first | exact trivial | refine And.intro rfl ?_)
      · obtain ⟨hv, hs⟩ := hx
        have hvl : v < B.length := by
          have := hs.length_le
          rw [List.length_drop, List.length_drop] at this
          omega
        have bbv : decide ((v : Int) < ((B.map fun x => [aq x]).length : Int)) = false → False := fun h => by have := of_decide_eq_false h; omega
        have bbw : decide ((v : Int) ≥ ((B.map fun x => [aq x]).length : Int)) = true → False := fun h => by have := of_decide_eq_true h; omega
        have hx := kf (f := fun x => [aq x]) [] hlt
        have hy := kf (f := fun x => [aq x]) [] hvl
        have cI := eR (A.getD u []) (B.getD v []) (hin u hlt)
        rw [List.drop_eq_getElem_cons hlt, List.drop_eq_getElem_cons hvl] at hs
        have e1 : A[u] = A.getD u [] := by rw [List.getD_eq_getElem?_getD, List.getElem?_eq_getElem hlt]; rfl
        have e2 : B[v] = B.getD v [] := by rw [List.getD_eq_getElem?_getD, List.getElem?_eq_getElem hvl]; rfl
        have hdu : A.drop u = A.getD u [] :: A.drop (u + 1) := by rw [← e1]; exact List.drop_eq_getElem_cons hlt
        rw [e1, e2] at hs
        generalize A.getD u [] = x at *
        generalize B.getD v [] = y at *
        repeat' first|exact (bbv (by assumption)).elim|exact (bbw (by assumption)).elim|refine Q1 ?_|refine Q2 ?_|refine Q3 hG aa dw (by kernel_rfl) ?_|refine Q4 hG aa dw (by kernel_rfl) ?_|refine Q5 hG aa ?_|refine Q6 hG aa ?_|refine Q7 hG aa ?_|refine Q8 hG aa ?_|refine Q9 rfl ?_|refine QF rfl ?_|refine QC rfl (And.intro (fun h => ?_) (fun h => ?_))|((conv => whnf); first|refine anF ?_|refine anT ?_|refine And.intro (by kernel_rfl) ?_|refine And.intro (Int.natCast_nonneg u) (Exists.intro _ (And.intro hx ?_))|refine And.intro (Int.natCast_nonneg v) (Exists.intro _ (And.intro hy ?_))|refine Exists.intro _ (And.intro (cI) ?_)|refine And.intro (fun h => ?_) (fun h => ?_)|refine Or.inl ?_|fail)
        all_goals first
          | (have hne : x ≠ y := fun e => by have h := (by assumption : (!decide (x = y)) = true); rw [decide_eq_true e] at h; cases h
             refine Exists.intro (v + 1) (And.intro ⟨hvl, by rw [hdu]; exact AD hs hne⟩ (And.intro (by omega) (ah ?_ ?_)))
             · refine And.intro (congrArg some (ax (by omega))) ?_
               repeat' (first | exact trivial | refine And.intro rfl ?_)
             · repeat' (first | exact trivial | refine And.intro rfl ?_))
          | (refine Exists.intro (u + 1, v + 1) (And.intro ⟨hlt, hvl, AC hs⟩ (And.intro (by show A.length - (u + 1) < A.length - u; omega) (ah ?_ ?_)))
             · refine And.intro (congrArg some (ax (by omega))) (And.intro (congrArg some (ax (by omega))) ?_)
               repeat' (first | exact trivial | refine And.intro rfl ?_)
             · repeat' (first | exact trivial | refine And.intro rfl ?_))
    · have bbk : decide ((u : Int) < ((A.map fun x => [aq x]).length : Int)) = true → False := fun h => by have := of_decide_eq_true h; omega
      repeat' first|exact (bbk (by assumption)).elim|refine Q1 ?_|refine Q2 ?_|refine Q3 hG aa dw (by kernel_rfl) ?_|refine Q4 hG aa dw (by kernel_rfl) ?_|refine Q5 hG aa ?_|refine Q6 hG aa ?_|refine Q7 hG aa ?_|refine Q8 hG aa ?_|refine Q9 rfl ?_|refine QF rfl ?_|refine QC rfl (And.intro (fun h => ?_) (fun h => ?_))|((conv => whnf); first|refine anF ?_|refine anT ?_|refine And.intro (by kernel_rfl) ?_|refine And.intro (fun h => ?_) (fun h => ?_)|refine Or.inl ?_|fail)
      all_goals exact Ends.mk (Or.inl rfl) (ac rfl)
end Go.Proofs
namespace Go.Proofs
open Go Go.AI
set_option maxRecDepth 10000
theorem gm {s : Nat → Int} {l : List Opt} {ps : List ak} {a b k : Int} (h : aO s l ps a b = true) (h6 : ps.length ≤ 6) (h0 : 0 ≤ k) (h3 : k ≤ 3) : ae Tryz.prog 48 [aM l, am ps, .int .i64 k] (.tup [eh (aY (aw l) ps k), .int .i64 0]) := by
  obtain ⟨h1, h2, h4⟩ := dm h
  have c := gM l ps k h1 h2 h4
  rw [pP, qO h h6 h0 h3, if_neg (by decide)] at c
  exact c
theorem jz {s : Nat → Int} {l : List Opt} {ps : List ak} {a b k : Int} (h : aO s l ps a b = true) (h6 : ps.length ≤ 6) : (aY (aw l) ps k).length ≤ 64 ∧ ∀ x ∈ aY (aw l) ps k, x.length ≤ 1000000 := by
  have hf := iI h
  refine ⟨?_, fun x hx => ?_⟩
  · unfold aY dy
    refine Nat.le_trans (List.length_filter_le _ _) ?_
    rw [List.length_map, List.length_range]; exact up (by omega)
  · obtain ⟨_, b, _, rfl⟩ := kb hx
    exact qN (by omega)
theorem Bi {L : List (List Int)} {i : Nat} (h : i < L.length) : L.getD i [] ∈ L := by
  rw [List.getD_eq_getElem?_getD, List.getElem?_eq_getElem h]; exact List.getElem_mem h
theorem Ev (c : bi) (losses : Int) (hl : inI losses) : ae Tryz.prog 12 [.agg (gL c), .int .i64 losses] (.bool true) := by
  have hT := c.gvalid
  have h6 := c.gpasses.2.1
  obtain ⟨q1, q2⟩ := aI hl (n := 3) (by omega)
  have hw : IntKind.i64.wrap (al losses 3 + 1) = al losses 3 + 1 := ap (by omega) (by omega)
  have kP := fp losses 3 (by decide)
  generalize al losses 3 = k at *
  have v1 := dV (k := k) hT h6 q1 (by omega)
  have v2 := dV (k := k + 1) hT h6 (by omega) (by omega)
  have k2 : ae Tryz.prog 48 [aM c.gl, am c.gps, .int .i64 (IntKind.i64.wrap (k + 1))] (.tup [eh (aY (aw c.gl) c.gps (k + 1)), .int .i64 0]) := by rw [hw]; exact gm hT h6 (by omega) (by omega)
  have k4 : ae Tryz.prog 56 [.agg (aX c.s), aM c.gl, am c.gps, .int .i64 (IntKind.i64.wrap (k + 1)), .agg (aF c.ga c.gb)] (.tup [.int .i64 (pkS c.gl c.gps (k + 1)).n, .int .i64 (pkS c.gl c.gps (k + 1)).at_, aq (pkS c.gl c.gps (k + 1)).what, .int .i64 0]) := by rw [hw]; exact d3 v2
  have k6 : ae Tryz.prog 58 [.agg (aX c.s), aM c.gl, am c.gps, .int .i64 (IntKind.i64.wrap (k + 1)), .agg (aF c.ga c.gb)] (.tup [.int .i64 (Go.Proofs.lowV c.s c.gl c.gps (k + 1) c.ga c.gb), .int .i64 (loS c.s c.gl c.gps (k + 1) c.ga c.gb).at_, aq (loS c.s c.gl c.gps (k + 1) c.ga c.gb).what, .int .i64 0]) := by rw [hw]; exact fm v2
  obtain ⟨_, _, _, _, hp, _⟩ := aS.1 hT
  have hne := jA (f := aw c.gl) (k := k) hp q1 (by omega)
  have hsub := AH (aw c.gl) c.gps (k := k) (k' := k + 1) (by omega) (by omega)
  have hnm := BC (m := pkM c.gl) hne fun y hy => hsub.subset hy
  have hqp : Go.Proofs.lowV c.s c.gl c.gps (k + 1) c.ga c.gb ≤ Go.Proofs.lowV c.s c.gl c.gps k c.ga c.gb := by
    have h1 := jJ (k := k) hT q1 (by omega)
    have h2 := jJ (k := k + 1) hT (by omega) (by omega)
    rw [h1.2.1]
    exact h2.2.2.2 _ (hsub.subset h1.1)
  obtain ⟨z1, z2⟩ := jz (k := k) hT h6
  exact BM c losses k c.s c.gl c.gps c.ga c.gb _ _ _ _ _ _ _ _ _ _ _ _ _ _ ii (jT c) kP (gm hT h6 q1 (by omega)) k2 (d3 v1) k4 (fm v1) k6 hnm hqp hsub (by omega) (by have := (jz (k := k + 1) hT h6).1; omega) fun i hi => z2 _ (Bi hi)
end Go.Proofs
namespace Go.Proofs
open Go Go.AI Go.Proofs.YtehdegggapeihaaGreat
set_option maxRecDepth 100000
theorem kC : ownKnob Tryz.prog.godebug = none := by kernel_rfl
theorem eZ : laidOutB Tryz.prog = true := by kernel_rfl
theorem fF : (Tryz.prog.readableRec 3 && Nat.blt 3 Tryz.prog.types.size) = true := by kernel_rfl
theorem eY : (Tryz.prog.readableRec 95 && Nat.blt 95 Tryz.prog.types.size) = true := by kernel_rfl
def kw : List Sh := [.int .i64, .int .i64, .int .i64, .int .i64, .int .i64, .int .i64, .int .i64, .int .i64, .int .i64, .int .i64, .int .i64, .sl [.int .i64, .int .i64, .int .i64], .sl [.int .i64, .int .i64, .int .i64, .int .i64, .int .i64], .int .i64]
def kl : List (Bool × List Sh) := [(true, kw), (false, [.int .i64])]
theorem kA : fV Tryz.prog 8 [95, 3] = some kl := by kernel_rfl
theorem fG (law : ∀ avs, ce 8 kl avs → ae Tryz.prog 12 avs (.bool true)) (os : Os) (started : os.Started) (H : Type) (enc : TypeId × Value → H) :
    ReturnsInHanded {} Tryz.checked os 12 .any (Rows.branchMoreSpec.pre6 enc Tryz.prog Tryz.f12 Rows.branchMoreRow.domain false) (Rows.branchMoreSpec.post enc Tryz.prog Tryz.f12 false true false false) :=
  mf (C := Tryz.checked) (tb := 4) kC started (by kernel_rfl) Tryz.func12
    (ChangeSpec.witness6 (enc := enc) (C := Tryz.checked) false ⟨#[], #[.agg #[.int .i64 0, .int .i64 0, .int .i64 0, .int .i64 0, .int .i64 0, .int .i64 0, .int .i64 0, .int .i64 0, .int .i64 0, .int .i64 0, .int .i64 0, .slice none 0 0, .slice none 0 0, .int .i64 0], .int .i64 0], []⟩ 8 (by kernel_rfl) (by kernel_rfl) (by kernel_rfl) (by kernel_rfl))
    rfl (by kernel_rfl) (by kernel_rfl) (fun ds h => by
      match ds, h with
      | [d0, d1], _ => rfl) kA eZ (fun t ht => by
      have e : Tryz.f12.params.toList = [95, 3] := by kernel_rfl
      rw [e] at ht
      simp only [List.mem_cons, List.not_mem_nil, or_false] at ht
      have h3 := fF
      have h95 := eY
      simp only [Bool.and_eq_true] at h3 h95
      rcases ht with h | h <;> subst h <;> first | exact ⟨h3.1, Nat.le_of_ble_eq_true h3.2⟩ | exact ⟨h95.1, Nat.le_of_ble_eq_true h95.2⟩) law
theorem kQ : (Rows.branchMoreRow.wf (OpenSpec.ofChange Rows.branchMoreSpec) : Bool) = true := by kernel_rfl
theorem kO : (laidOutB Tryz.pinned.checked.prog : Bool) = true := by kernel_rfl
theorem kN : (mapsRowed Tryz.pinned.checked.prog : Bool) = true := by kernel_rfl
theorem kK : (Tryz.f12.params.all (Tryz.pinned.checked.prog.readableRec ·) : Bool) = true := by kernel_rfl
theorem kJ : (namedTie Tryz.pinned.checked.prog Rows.branchMoreRow.named Rows.branchMoreSpec.vars : Bool) = true := by kernel_rfl
theorem kI : ((Rows.branchMoreRow.stops == []) : Bool) = true := by kernel_rfl
theorem kH : ((Tryz.pinned.checked.prog.stops == []) : Bool) = true := by kernel_rfl
theorem kG : ((Rows.branchMoreRow.knobs == []) : Bool) = true := by kernel_rfl
theorem kE : ((Tryz.pinned.checked.prog.stopKnobs == []) : Bool) = true := by kernel_rfl
theorem kD : ((Rows.branchMoreRow.inPlace == Tryz.pinned.checked.prog.inPlace 12) : Bool) = true := by kernel_rfl
theorem jm : ((Rows.branchMoreRow.unfollowed == Tryz.pinned.checked.prog.unfollowed 12) : Bool) = true := by kernel_rfl
theorem jl : ((Rows.branchMoreRow.recurses == Tryz.pinned.checked.prog.recurses 12) : Bool) = true := by kernel_rfl
theorem jk : ((Rows.branchMoreRow.named == Tryz.pinned.checked.prog.varsNamed 12) : Bool) = true := by kernel_rfl
theorem jj : ((Rows.branchMoreRow.maps == (Tryz.f12.params.toList ++ Rows.branchMoreSpec.plain.varTypes Tryz.pinned.checked.prog).any (Tryz.pinned.checked.prog.mapsRec ·)) : Bool) = true := by kernel_rfl
theorem ji : ((Rows.branchMoreRow.ifaces == (Tryz.f12.params.toList ++ Rows.branchMoreSpec.plain.varTypes Tryz.pinned.checked.prog).any (Tryz.pinned.checked.prog.ifacesRec ·)) : Bool) = true := by kernel_rfl
theorem jh : ((Rows.branchMoreRow.mapsOut == Tryz.pinned.checked.prog.mapsAmong Tryz.f12.resultTypes.toList) : Bool) = true := by kernel_rfl
theorem jg : ((Rows.branchMoreRow.loops == (Tryz.f12.params.toList ++ Rows.branchMoreSpec.plain.varTypes Tryz.pinned.checked.prog).any (Tryz.pinned.checked.prog.loopsFrom ·)) : Bool) = true := by kernel_rfl
theorem je : ((Rows.branchMoreRow.wideKeys == (Tryz.f12.params.toList ++ Rows.branchMoreSpec.plain.varTypes Tryz.pinned.checked.prog ++ Tryz.f12.resultTypes.toList).any (Tryz.pinned.checked.prog.wideKeysFrom ·)) : Bool) = true := by kernel_rfl
theorem jd : (Rows.branchMoreSpec.vars.all (Tryz.pinned.checked.prog.varReadable ·) : Bool) = true := by kernel_rfl
theorem jc : (Tryz.f12.resultTypes.all (fun t => Tryz.pinned.checked.prog.readableRec t && decide (t < Tryz.pinned.checked.prog.types.size)) : Bool) = true := by kernel_rfl
theorem jb : ((Rows.branchMoreRow.ifacesOut == Tryz.f12.resultTypes.toList.any (Tryz.pinned.checked.prog.ifacesRec ·)) : Bool) = true := by kernel_rfl
theorem ja : ((Rows.branchMoreRow.loopsOut == Tryz.f12.resultTypes.toList.any (Tryz.pinned.checked.prog.loopsFrom ·)) : Bool) = true := by kernel_rfl
theorem iZ : ((Rows.branchMoreRow.plainKeys == Tryz.pinned.checked.prog.plainKeys) : Bool) = true := by kernel_rfl
theorem iY : (Rows.branchMoreRow.shortTexts.isNone : Bool) = true := by kernel_rfl
theorem iX : (Tryz.pinned.checked.prog.stopsHeard : Bool) = true := by kernel_rfl
theorem iW : (Tryz.pinned.checked.prog.mayEnter : Bool) = true := by kernel_rfl
theorem iV : ((Rows.branchMoreRow.lifted == Tryz.pinned.checked.prog.liftsFinal) : Bool) = true := by kernel_rfl
theorem iU : ((Tryz.pinned.checked.prog.make == some Rows.branchMoreRow.make) : Bool) = true := by kernel_rfl
theorem iT : ((Rows.branchMoreRow.kinds == (if Rows.branchMoreRow.domain.isEmpty then [] else Tryz.f12.params.toList.map fun t => match Tryz.pinned.checked.prog.underlying t with | some (.int k) => some k | _ => none)) : Bool) = true := by kernel_rfl
theorem iS : ((Rows.branchMoreRow.pinned == Rows.branchMoreRow.pinnedBy) : Bool) = true := by kernel_rfl
theorem iR : ((Rows.branchMoreRow.veiled == (Tryz.f12.params.toList ++ Rows.branchMoreSpec.plain.varTypes Tryz.pinned.checked.prog ++ Tryz.f12.resultTypes.toList).any (Tryz.pinned.checked.prog.veiledRec ·)) : Bool) = true := by kernel_rfl
theorem iQ : (Rows.branchMoreRow.veiledFits Tryz.pinned.checked.prog Tryz.f12.params.toList (Tryz.f12.params.toList ++ Rows.branchMoreSpec.plain.varTypes Tryz.pinned.checked.prog ++ Tryz.f12.resultTypes.toList) : Bool) = true := by kernel_rfl
theorem aA {a b : Bool} (h : a = true) (k : b = true) : (a && b) = true := by rw [h, k]; rfl
theorem oT : joinedFacts Tryz.pinned.checked.prog 12 Tryz.f12 Rows.branchMoreSpec Rows.branchMoreRow = true := by
  unfold joinedFacts
  exact aA (aA (aA (aA (aA (aA (aA (aA (aA (aA (aA (aA (aA (aA (aA (aA (aA (aA (aA (aA (aA (aA (aA (aA (aA (aA (aA (aA (aA (aA (aA (kQ) kO) kN) kK) kJ) kI) kH) kG) kE) kD) jm) jl) jk) jj) ji) jh) jg) je) jd) jc) jb) ja) iZ) iY) iX) iW) iV) iU) iT) iS) iR) iQ
theorem kB (law : ∀ avs, ce 8 kl avs → ae Tryz.prog 12 avs (.bool true)) : Rows.BranchMoreSaid :=
  OpenClaim.holds_of_wide (p := Tryz.pinned) (s := Rows.branchMoreSpec) (c := Rows.branchMoreRow) 12 Tryz.f12 rfl rfl rfl rfl rfl rfl rfl ⟨rfl, rfl, rfl, rfl, rfl⟩ rfl rfl rfl rfl rfl (by kernel_rfl) Tryz.func12 oT
    (of_decide_eq_true (by kernel_rfl)) (by unfold Func.isWrapper; first | (rw [if_pos (by decide +kernel)]; kernel_rfl) | (rw [if_neg (by decide +kernel)]; exact ⟨rfl, rfl⟩))
    (fun os started H enc _ => fG law os started H enc)
theorem iF {n : Nat} {L : List Sh} {r : List (Bool × List Sh)} {avs : List AV} (h : ce n ((true, L) :: r) avs) : ∃ cs q, avs = .agg cs :: q ∧ Fa (da n) L cs ∧ ce n r q := by
  match avs, h with
  | _ :: q, h =>
    obtain ⟨⟨cs, rfl, h1⟩, h2⟩ := h
    exact ⟨cs, q, rfl, h1, h2⟩
  | [], h => exact h.elim
theorem fh {n : Nat} {r : List (Bool × List Sh)} {avs : List AV} (h : ce (n + 1) ((false, [.int .i64]) :: r) avs) : ∃ z q, avs = .int .i64 z :: q ∧ inI z ∧ ce (n + 1) r q := by
  match avs, h with
  | _ :: q, h =>
    obtain ⟨⟨s, e, h1⟩, h2⟩ := h
    cases e
    obtain ⟨z, rfl, hz⟩ := ay h1
    exact ⟨z, q, rfl, hz, h2⟩
  | [], h => exact h.elim
theorem vt {n : Nat} {e : List Sh} {r : List (Bool × List Sh)} {avs : List AV} (h : ce n ((false, [.sl e]) :: r) avs) : ∃ z q, avs = z :: q ∧ da n (.sl e) z ∧ ce n r q := by
  match avs, h with
  | _ :: q, h =>
    obtain ⟨⟨s, e, h1⟩, h2⟩ := h
    cases e
    exact ⟨_, q, rfl, h1, h2⟩
  | [], h => exact h.elim
theorem iE {n : Nat} {avs : List AV} (h : ce n [] avs) : avs = [] := by
  match avs, h with
  | [], _ => rfl
  | _ :: _, h => exact h.elim
theorem vP {n : Nat} {a : AV} (h : da (n + 2) (.sl [.int .i64]) a) : ∃ z : List Int, (∀ x ∈ z, inI x) ∧ a = aq z := by
  obtain ⟨xs, rfl, h2⟩ := h
  suffices hs : ∀ l : List (List AV), (∀ x ∈ l, Fa (da (n + 1)) [.int .i64] x) → ∃ z : List Int, (∀ x ∈ z, inI x) ∧ l = z.map fun h => [AV.int .i64 h] by
    obtain ⟨z, g1, g2⟩ := hs xs h2
    exact ⟨z, g1, congrArg (AV.sl .no 1) g2⟩
  intro l
  induction l with
  | nil => exact fun _ => ⟨[], by simp, rfl⟩
  | cons y r ih =>
    intro h
    obtain ⟨z, g1, rfl⟩ := ih (fun x hx => h x (List.mem_cons_of_mem _ hx))
    obtain ⟨b, q, rfl, h0, h'⟩ := ai (h y List.mem_cons_self)
    obtain rfl := c8 h'
    obtain ⟨w, rfl, hw⟩ := ay h0
    exact ⟨w :: z, fun v hv => by rcases List.mem_cons.1 hv with rfl | hv; exact hw; exact g1 v hv, rfl⟩
theorem ke {n : Nat} {a : AV} (h : da (n + 2) (.sl [.int .i64, .int .i64, .int .i64, .int .i64, .int .i64]) a) : ∃ z : List R5, (∀ x ∈ z, qI x) ∧ a = .sl .no 5 (z.map fO) := by
  obtain ⟨xs, rfl, h2⟩ := h
  suffices hs : ∀ l : List (List AV), (∀ x ∈ l, Fa (da (n + 1)) [.int .i64, .int .i64, .int .i64, .int .i64, .int .i64] x) → ∃ z : List R5, (∀ x ∈ z, qI x) ∧ l = z.map fO by
    obtain ⟨z, g1, g2⟩ := hs xs h2
    exact ⟨z, g1, congrArg (AV.sl .no 5) g2⟩
  intro l
  induction l with
  | nil => exact fun _ => ⟨[], by simp, rfl⟩
  | cons y r ih =>
    intro h
    obtain ⟨z, g1, rfl⟩ := ih (fun x hx => h x (List.mem_cons_of_mem _ hx))
    obtain ⟨b0, q, rfl, h0, h'⟩ := ai (h y List.mem_cons_self)
    obtain ⟨b1, q, rfl, h1, h'⟩ := ai h'
    obtain ⟨b2, q, rfl, h2, h'⟩ := ai h'
    obtain ⟨b3, q, rfl, h3, h'⟩ := ai h'
    obtain ⟨b4, q, rfl, h4, h'⟩ := ai h'
    obtain rfl := c8 h'
    obtain ⟨z0, rfl, i0⟩ := ay h0
    obtain ⟨z1, rfl, i1⟩ := ay h1
    obtain ⟨z2, rfl, i2⟩ := ay h2
    obtain ⟨z3, rfl, i3⟩ := ay h3
    obtain ⟨z4, rfl, i4⟩ := ay h4
    exact ⟨⟨z0, z1, z2, z3, z4⟩ :: z, fun w hw => by rcases List.mem_cons.1 hw with rfl | hw; exact ⟨i0, i1, i2, i3, i4⟩; exact g1 w hw, rfl⟩
theorem fD {l : List Int} (h : ∀ y ∈ l, inI y) (i : Nat) : inI (l.getD i 0) := by
  rw [List.getD_eq_getElem?_getD]
  cases hi : l[i]? with
  | none => show inI 0; unfold inI; omega
  | some y => exact h y (List.mem_of_getElem? hi)
theorem nz {n : Nat} {cs : List AV} (h : Fa (da (n + 2)) kw cs) : ∃ c : bi, cs = gL c := by
  obtain ⟨b0, q, rfl, h0, h⟩ := ai h
  obtain ⟨b1, q, rfl, h1, h⟩ := ai h
  obtain ⟨b2, q, rfl, h2, h⟩ := ai h
  obtain ⟨b3, q, rfl, h3, h⟩ := ai h
  obtain ⟨b4, q, rfl, h4, h⟩ := ai h
  obtain ⟨b5, q, rfl, h5, h⟩ := ai h
  obtain ⟨b6, q, rfl, h6, h⟩ := ai h
  obtain ⟨b7, q, rfl, h7, h⟩ := ai h
  obtain ⟨b8, q, rfl, h8, h⟩ := ai h
  obtain ⟨b9, q, rfl, h9, h⟩ := ai h
  obtain ⟨b10, q, rfl, h10, h⟩ := ai h
  obtain ⟨b11, q, rfl, h11, h⟩ := ai h
  obtain ⟨b12, q, rfl, h12, h⟩ := ai h
  obtain ⟨b13, q, rfl, h13, h⟩ := ai h
  obtain rfl := c8 h
  obtain ⟨z0, rfl, i0⟩ := ay h0
  obtain ⟨z1, rfl, i1⟩ := ay h1
  obtain ⟨z2, rfl, i2⟩ := ay h2
  obtain ⟨z3, rfl, i3⟩ := ay h3
  obtain ⟨z4, rfl, i4⟩ := ay h4
  obtain ⟨z5, rfl, i5⟩ := ay h5
  obtain ⟨z6, rfl, i6⟩ := ay h6
  obtain ⟨z7, rfl, i7⟩ := ay h7
  obtain ⟨z8, rfl, i8⟩ := ay h8
  obtain ⟨z9, rfl, i9⟩ := ay h9
  obtain ⟨z10, rfl, i10⟩ := ay h10
  obtain ⟨z, hz, rfl⟩ := ul h11
  obtain ⟨v, hv, rfl⟩ := ke h12
  obtain ⟨f, rfl, hf⟩ := ay h13
  exact ⟨⟨fun i => [z0, z1, z2, z3, z4, z5, z6].getD i 0, fun i => [z7, z8, z9, z10].getD i 0, z, v, f, fD (by simp [*]), fD (by simp [*]), hz, hv, hf⟩, rfl⟩
end Go.Proofs
namespace Go.Proofs.YtehdegggapeihaaGreat
open Go Go.AI
theorem branchMore : Rows.BranchMoreSaid := kB fun avs h => by
  obtain ⟨cs, q, rfl, h1, h⟩ := iF h
  obtain ⟨z1, q, rfl, i1, h⟩ := fh h
  obtain rfl := iE h
  obtain ⟨c, rfl⟩ := nz h1
  exact Go.Proofs.Ev c z1 i1
end Go.Proofs.YtehdegggapeihaaGreat
