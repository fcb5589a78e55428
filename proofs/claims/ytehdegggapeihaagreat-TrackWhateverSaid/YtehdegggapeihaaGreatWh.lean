/- TrackWhatever answers true, whatever the input; no condition. -/
import Derived.Test.YtehdegggapeihaaGreatConE
import Derived.Test.YtehdegggapeihaaGreatRows
set_option linter.unusedSectionVars false
set_option linter.unusedVariables false
set_option linter.unusedSimpArgs false
namespace Go.Proofs
open Go Go.AI
set_option maxRecDepth 10000
def cfA (conf : List Int) (i : Nat) : Int := if i < conf.length then conf.getD i 0 else 0
def kf (conf : List Int) (l : List Opt) (i : Nat) : Nat := (pickS (cfA conf i) (((optAt l i).sl.length : Int) + 1)).toNat
def imgO (o : Opt) (k : Nat) : Img := if k < o.sl.length then ⟨o.id, o.size, o.a, (slotAt o k).b⟩ else ⟨o.id, o.size, o.a, lastB o⟩
def optO (o : Opt) (k : Nat) : Opt := if k < o.sl.length then { o with sl := o.sl.take (k + 1) } else o
def imgsTo (conf : List Int) (l : List Opt) (i : Nat) : List Img := (List.range i).map fun j => imgO (optAt l j) (kf conf l j)
def doneTo (conf : List Int) (l : List Opt) (i : Nat) : List Opt := (List.range i).map fun j => optO (optAt l j) (kf conf l j)
set_option maxHeartbeats 16000000 in
theorem Tryz.y9 (c : TCase) (conf : List Int) (late : Int) (s : Nat → Int) (l : List Opt) (ps : List PassT) (a b : Int) (A : List Flt) (D : List Load3) (hl : l.length ≤ 8) (hA : A.length ≤ 10)
    (k17 : ACalls Tryz.prog 17 [] (.bool true)) (k18 : ACalls Tryz.prog 18 [.agg (caseA c)] (.tup [.agg (satA s), passesA ps, optsA l, .agg (spellA a b)]))
    (kA : ACalls Tryz.prog 21 [.agg (satA s), optsA l, passesA ps, .agg (spellA a b)] (.tup [fltsA A, .int .i64 0]))
    (hsl : ∀ i, i < l.length → (optAt l i).sl.length ≤ 6)
    (kp : ∀ i, i < l.length → ACalls Tryz.prog 20 [.int .i64 (cfA conf i), .int .i64 (IntKind.i64.wrap ((((optAt l i).sl.map slotA).length : Int) + 1))] (.int .i64 ((kf conf l i : Nat) : Int)))
    (kW : ∀ i, i < l.length → ACalls Tryz.prog 35 [.agg (optA (optAt l i))] (.tup [.agg (imgA ⟨(optAt l i).id, (optAt l i).size, (optAt l i).a, lastB (optAt l i)⟩), .int .i64 0]))
    (kF : ∀ i k : Nat, i < l.length → k < (optAt l i).sl.length → ACalls Tryz.prog 36 [.agg (optA (optAt l i)), .int .i64 (k : Int)] (.tup [.agg (imgA ⟨(optAt l i).id, (optAt l i).size, (optAt l i).a, (slotAt (optAt l i) k).b⟩), .int .i64 0]))
    (h4 h5 : Bool) (k4 : ACalls Tryz.prog 33 [fltsA A, .int .i64 4] (.bool h4)) (k5 : ACalls Tryz.prog 33 [fltsA A, .int .i64 5] (.bool h5))
    (kO : h4 = false → ACalls Tryz.prog 37 [imgsA (imgsTo conf l l.length), .int .i64 (s 10)] (.tup [.int .i64 (-1), .int .i64 0]))
    (p : Int) (kd : ACalls Tryz.prog 20 [.int .i64 late, .int .i64 (IntKind.i64.wrap (IntKind.i64.wrap (2 * s 8) + 1))] (.int .i64 p))
    (kL : ACalls Tryz.prog 27 [optsA (doneTo conf l l.length)] (loadsA D)) (M : Nat) (hM : b = a + (M : Int)) (ha : 0 ≤ a ∧ a ≤ 1000000) (hM2 : M ≤ 100000)
    (lv : Nat → Int) (cel : Nat → Int × Int) (dark : Nat → Bool) (dr : Nat → Int) (hlv0 : lv 0 = s 11)
    (kAt : ∀ i, i < M → ACalls Tryz.prog 38 [.agg (orbA (orbO s)), .int .i64 (a + (i : Int)), .int .i64 (IntKind.i64.wrap (p - s 8))] (.tup [.agg (cellA (cel i)), .int .i64 0]))
    (kD : ∀ i, i < M → ACalls Tryz.prog 39 [.agg (cellA (cel i)), .int .i64 (a + (i : Int))] (.bool (dark i)))
    (kDr : ∀ i, i < M → ACalls Tryz.prog 40 [.agg (satA s), loadsA D, .int .i64 (a + (i : Int))] (.int .i64 (dr i)))
    (fl : ∀ i, i < M → lv (i + 1) = min (s 11) (IntKind.i64.wrap (IntKind.i64.wrap (lv i + (if dark i then 0 else s 12)) - dr i)))
    (fp : h5 = false → ∀ i, i < M → 0 ≤ lv (i + 1)) :
    ACalls Tryz.prog 9 [.agg (caseA c), intsA conf, .int .i64 late] (.bool true) := by
  refine ACalls.ofB Tryz.T Tryz.func9 rfl (by kernel_rfl) Tryz.mixed (Nat.le_of_ble_eq_true rfl) ?_
  intro F n' w0 m0 hG hro h1
  repeat' first|refine Q1 ?_|refine Q2 ?_|refine Q3 hG Tryz.T Tryz.keep9 (by kernel_rfl) ?_|refine Q4 hG Tryz.T Tryz.keep9 (by kernel_rfl) ?_|refine Q5 hG Tryz.T ?_|refine Q6 hG Tryz.T ?_|refine Q7 hG Tryz.T ?_|refine Q8 hG Tryz.T ?_|refine Q9 rfl ?_|refine QF rfl ?_|refine QC rfl (And.intro (fun h => ?_) (fun h => ?_))|((conv => whnf); first|refine anF ?_|refine anT ?_|refine And.intro (by kernel_rfl) ?_|refine And.intro (fun h => ?_) (fun h => ?_)|refine Or.inl ?_|fail)
  conv => whnf
  refine Exists.intro _ (And.intro (k17) ?_)
  repeat' first|refine Q1 ?_|refine Q2 ?_|refine Q3 hG Tryz.T Tryz.keep9 (by kernel_rfl) ?_|refine Q4 hG Tryz.T Tryz.keep9 (by kernel_rfl) ?_|refine Q5 hG Tryz.T ?_|refine Q6 hG Tryz.T ?_|refine Q7 hG Tryz.T ?_|refine Q8 hG Tryz.T ?_|refine Q9 rfl ?_|refine QF rfl ?_|refine QC rfl (And.intro (fun h => ?_) (fun h => ?_))|((conv => whnf); first|refine anF ?_|refine anT ?_|refine And.intro (by kernel_rfl) ?_|refine And.intro (fun h => ?_) (fun h => ?_)|refine Or.inl ?_|fail)
  conv => whnf
  refine Exists.intro _ (And.intro (k18) ?_)
  repeat' first|refine Q1 ?_|refine Q2 ?_|refine Q3 hG Tryz.T Tryz.keep9 (by kernel_rfl) ?_|refine Q4 hG Tryz.T Tryz.keep9 (by kernel_rfl) ?_|refine Q5 hG Tryz.T ?_|refine Q6 hG Tryz.T ?_|refine Q7 hG Tryz.T ?_|refine Q8 hG Tryz.T ?_|refine Q9 rfl ?_|refine QF rfl ?_|refine QC rfl (And.intro (fun h => ?_) (fun h => ?_))|((conv => whnf); first|refine anF ?_|refine anT ?_|refine And.intro (by kernel_rfl) ?_|refine And.intro (fun h => ?_) (fun h => ?_)|refine Or.inl ?_|fail)
  conv => whnf
  refine Exists.intro _ (And.intro (kA) ?_)
  repeat' first|refine Q1 ?_|refine Q2 ?_|refine Q3 hG Tryz.T Tryz.keep9 (by kernel_rfl) ?_|refine Q4 hG Tryz.T Tryz.keep9 (by kernel_rfl) ?_|refine Q5 hG Tryz.T ?_|refine Q6 hG Tryz.T ?_|refine Q7 hG Tryz.T ?_|refine Q8 hG Tryz.T ?_|refine Q9 rfl ?_|refine QF rfl ?_|refine QC rfl (And.intro (fun h => ?_) (fun h => ?_))|((conv => whnf); first|refine anF ?_|refine anT ?_|refine And.intro (by kernel_rfl) ?_|refine And.intro (fun h => ?_) (fun h => ?_)|refine Or.inl ?_|fail)
  refine SPB.loop (X := Nat) (fun x => ⟨[(15, .int .i64 x), (14, .sl (.id 14) 9 ((doneTo conf l x).map optA)), (13, .sl (.id 13) 4 ((imgsTo conf l x).map imgA)), (11, fltsA A), (10, .loc 10 0), (9, optsA l), (7, .loc 7 0), (2, .int .i64 late), (1, intsA conf)], [(10, spellA a b), (7, satA s)]⟩) (fun x => x ≤ l.length) (fun x => l.length - x) 0 (Nat.zero_le _) (St.le.of ?_ ?_) (fun x hx => ?_)
  · repeat' (first | exact trivial | refine And.intro rfl ?_)
  · repeat' (first | exact trivial | refine And.intro rfl ?_)
  · rename Nat => i
    have hi := hx
    by_cases hlt_i : i < l.length
    · have bbk : decide ((i : Int) < ((l.map optA).length : Int)) = false → False := fun h => by have := of_decide_eq_false h; simp at this; omega
      have hx := opt_at hlt_i
      have hls := hsl i hlt_i
      have hp := kp i hlt_i
      have hW := kW i hlt_i
      have hdn : (doneTo conf l (i + 1)).map optA = (doneTo conf l i).map optA ++ [optA (optO (optAt l i) (kf conf l i))] := by simp [doneTo, List.range_succ]
      have him : (imgsTo conf l (i + 1)).map imgA = (imgsTo conf l i).map imgA ++ [imgA (imgO (optAt l i) (kf conf l i))] := by simp [imgsTo, List.range_succ]
      have hdl : ((doneTo conf l i).map optA).length = i := by simp [doneTo]
      have hil : ((imgsTo conf l i).map imgA).length = i := by simp [imgsTo]
      obtain ⟨u, hu⟩ : ∃ u, u = optAt l i := ⟨_, rfl⟩
      rw [← hu] at hx hls hp hW hdn him
      have hcf : decide ((i : Int) < ((conf.map fun h => [AV.int .i64 h]).length : Int)) = true → (conf.map fun h => [AV.int .i64 h])[(i : Int).toNat]? = some [.int .i64 (conf.getD i 0)] ∧ cfA conf i = conf.getD i 0 := fun h => by
        have h := of_decide_eq_true h
        rw [List.length_map] at h
        exact ⟨ints_get conf i (by omega), if_pos (by omega)⟩
      have hcn : decide ((i : Int) < ((conf.map fun h => [AV.int .i64 h]).length : Int)) = false → cfA conf i = 0 := fun h => by
        have h := of_decide_eq_false h
        rw [List.length_map] at h
        exact if_neg (by omega)
      obtain ⟨dn, hdne⟩ : ∃ d, d = (doneTo conf l i).map optA := ⟨_, rfl⟩
      obtain ⟨im, hime⟩ : ∃ d, d = (imgsTo conf l i).map imgA := ⟨_, rfl⟩
      rw [← hdne] at hdn hdl
      rw [← hime] at him hil
      rw [← hdne, ← hime]
      repeat' first|refine Q1 ?_|refine Q2 ?_|refine Q3 hG Tryz.T Tryz.keep9 (by kernel_rfl) ?_|refine Q4 hG Tryz.T Tryz.keep9 (by kernel_rfl) ?_|refine Q5 hG Tryz.T ?_|refine Q6 hG Tryz.T ?_|refine Q7 hG Tryz.T ?_|refine Q8 hG Tryz.T ?_|((conv => whnf); first|refine anF ?_|refine anT ?_|refine And.intro (by kernel_rfl) ?_|refine And.intro (fun h => ?_) (fun h => ?_)|refine Or.inl ?_|fail)
      refine QC rfl (And.intro (fun _ => ?_) (fun h => (bbk h).elim))
      repeat' first|refine Q1 ?_|refine Q2 ?_|refine Q3 hG Tryz.T Tryz.keep9 (by kernel_rfl) ?_|refine Q4 hG Tryz.T Tryz.keep9 (by kernel_rfl) ?_|refine Q5 hG Tryz.T ?_|refine Q6 hG Tryz.T ?_|refine Q7 hG Tryz.T ?_|refine Q8 hG Tryz.T ?_|((conv => whnf); first|refine anF ?_|refine anT ?_|refine And.intro (by kernel_rfl) ?_|refine And.intro (fun h => ?_) (fun h => ?_)|refine Or.inl ?_|fail)
      refine SPB.cut (X := Unit) (fun _ => ⟨[(16, .int .i64 (cfA conf i)), (15, .int .i64 i), (14, .sl (.id 14) 9 dn), (13, .sl (.id 13) 4 im), (11, fltsA A), (10, .loc 10 0), (9, optsA l), (7, .loc 7 0), (2, .int .i64 late), (1, intsA conf)], [(10, spellA a b), (7, satA s)]⟩) (fun _ => True) ?_ (fun _ _ => ?_)
      · repeat' first|refine Q1 ?_|refine Q2 ?_|refine Q3 hG Tryz.T Tryz.keep9 (by kernel_rfl) ?_|refine Q4 hG Tryz.T Tryz.keep9 (by kernel_rfl) ?_|refine Q5 hG Tryz.T ?_|refine Q6 hG Tryz.T ?_|refine Q7 hG Tryz.T ?_|refine Q8 hG Tryz.T ?_|refine Q9 rfl ?_|refine QF rfl ?_|refine QC rfl (And.intro (fun h => ?_) (fun h => ?_))|((conv => whnf); first|refine anF ?_|refine anT ?_|refine And.intro (by kernel_rfl) ?_|refine And.intro (Int.natCast_nonneg i) (Exists.intro _ (And.intro (hcf (by assumption)).1 ?_))|refine And.intro (fun h => ?_) (fun h => ?_)|refine Or.inl ?_|fail)
        · refine Exists.intro () (And.intro trivial (St.le.of (And.intro (congrArg (fun z => some (AV.int .i64 z)) (hcf (by assumption)).2.symm) ?_) ?_))
          · repeat' (first | exact trivial | refine And.intro rfl ?_)
          · repeat' (first | exact trivial | refine And.intro rfl ?_)
        · refine Exists.intro () (And.intro trivial (St.le.of (And.intro (congrArg (fun z => some (AV.int .i64 z)) (hcn (by assumption)).symm) ?_) ?_))
          · repeat' (first | exact trivial | refine And.intro rfl ?_)
          · repeat' (first | exact trivial | refine And.intro rfl ?_)
      conv => whnf
      by_cases hk : kf conf l i < u.sl.length
      · have bk : decide (((kf conf l i : Nat) : Int) < ((u.sl.map slotA).length : Int)) = false → False := fun h => by have := of_decide_eq_false h; rw [List.length_map] at this; omega
        have hkF := kF i (kf conf l i) hlt_i (by rw [← hu]; exact hk)
        rw [← hu] at hkF
        have hkw : IntKind.i64.wrap (((kf conf l i : Nat) : Int) + 1) = ((kf conf l i + 1 : Nat) : Int) := (w64_in (by omega) (by omega)).trans (by omega)
        have hk1 : 0 ≤ IntKind.i64.wrap (((kf conf l i : Nat) : Int) + 1) := by rw [hkw]; exact Int.natCast_nonneg _
        have hk2 : (IntKind.i64.wrap (((kf conf l i : Nat) : Int) + 1)).toNat ≤ (u.sl.map slotA).length := by rw [hkw, List.length_map]; omega
        have hrow : ((u.sl.map slotA).take (IntKind.i64.wrap (((kf conf l i : Nat) : Int) + 1)).toNat).drop 0 = (u.sl.take (kf conf l i + 1)).map slotA := by rw [hkw, List.drop_zero, Int.toNat_natCast, List.map_take]
        repeat' first|exact (bk (by assumption)).elim|refine Q1 ?_|refine Q2 ?_|refine Q3 hG Tryz.T Tryz.keep9 (by kernel_rfl) ?_|refine Q4 hG Tryz.T Tryz.keep9 (by kernel_rfl) ?_|refine Q5 hG Tryz.T ?_|refine Q6 hG Tryz.T ?_|refine Q7 hG Tryz.T ?_|refine Q8 hG Tryz.T ?_|refine Q9 rfl ?_|refine QF rfl ?_|refine QC rfl (And.intro (fun h => ?_) (fun h => ?_))|((conv => whnf); first|refine anF ?_|refine anT ?_|refine And.intro (by kernel_rfl) ?_|refine And.intro (Int.natCast_nonneg i) (Exists.intro _ (And.intro hx ?_))|refine Exists.intro _ (And.intro (hp) ?_)|refine Exists.intro _ (And.intro (hW) ?_)|refine Exists.intro _ (And.intro (hkF) ?_)|refine And.intro hk1 (And.intro (Nat.zero_le _) (And.intro hk2 ?_))|refine And.intro (show (im.length + 1) * 32 ≤ 70368744177664 by omega) (And.intro (show im.length + 1 ≤ 4611686018427387904 by omega) ?_)|refine And.intro (show (dn.length + 1) * 88 ≤ 70368744177664 by omega) (And.intro (show dn.length + 1 ≤ 4611686018427387904 by omega) ?_)|refine And.intro (fun h => ?_) (fun h => ?_)|refine Or.inl ?_|fail)
        refine Exists.intro (i + 1) (And.intro hlt_i (And.intro (by omega) (St.le.of ?_ ?_)))
        · refine And.intro (congrArg some (le_next (by omega))) (And.intro (congrArg (fun z => some (AV.sl (.id 14) 9 z)) (hdn.trans (congrArg (dn ++ ·) ?_)).symm) (And.intro (congrArg (fun z => some (AV.sl (.id 13) 4 z)) (him.trans (congrArg (im ++ ·) ?_)).symm) ?_))
          · rw [optO, if_pos hk]
            exact congrArg (fun z => [[AV.int .i64 u.id, .int .i64 u.ord, .int .i64 u.cl, .int .i64 u.sat, .int .i64 u.a, .int .i64 u.b, .int .i64 u.look, .int .i64 u.size, .sl .no 3 z]]) hrow.symm
          · rw [imgO, if_pos hk]; rfl
          · repeat' (first | exact trivial | refine And.intro rfl ?_)
        · repeat' (first | exact trivial | refine And.intro rfl ?_)
      · have bk : decide (((kf conf l i : Nat) : Int) < ((u.sl.map slotA).length : Int)) = true → False := fun h => by have := of_decide_eq_true h; rw [List.length_map] at this; omega
        repeat' first|exact (bk (by assumption)).elim|refine Q1 ?_|refine Q2 ?_|refine Q3 hG Tryz.T Tryz.keep9 (by kernel_rfl) ?_|refine Q4 hG Tryz.T Tryz.keep9 (by kernel_rfl) ?_|refine Q5 hG Tryz.T ?_|refine Q6 hG Tryz.T ?_|refine Q7 hG Tryz.T ?_|refine Q8 hG Tryz.T ?_|refine Q9 rfl ?_|refine QF rfl ?_|refine QC rfl (And.intro (fun h => ?_) (fun h => ?_))|((conv => whnf); first|refine anF ?_|refine anT ?_|refine And.intro (by kernel_rfl) ?_|refine And.intro (Int.natCast_nonneg i) (Exists.intro _ (And.intro hx ?_))|refine Exists.intro _ (And.intro (hp) ?_)|refine Exists.intro _ (And.intro (hW) ?_)|refine And.intro (show (im.length + 1) * 32 ≤ 70368744177664 by omega) (And.intro (show im.length + 1 ≤ 4611686018427387904 by omega) ?_)|refine And.intro (show (dn.length + 1) * 88 ≤ 70368744177664 by omega) (And.intro (show dn.length + 1 ≤ 4611686018427387904 by omega) ?_)|refine And.intro (fun h => ?_) (fun h => ?_)|refine Or.inl ?_|fail)
        refine Exists.intro (i + 1) (And.intro hlt_i (And.intro (by omega) (St.le.of ?_ ?_)))
        · refine And.intro (congrArg some (le_next (by omega))) (And.intro (congrArg (fun z => some (AV.sl (.id 14) 9 z)) (hdn.trans (congrArg (dn ++ ·) ?_)).symm) (And.intro (congrArg (fun z => some (AV.sl (.id 13) 4 z)) (him.trans (congrArg (im ++ ·) ?_)).symm) ?_))
          · rw [optO, if_neg hk]; rfl
          · rw [imgO, if_neg hk]; rfl
          · repeat' (first | exact trivial | refine And.intro rfl ?_)
        · repeat' (first | exact trivial | refine And.intro rfl ?_)
    · have bbk : decide ((i : Int) < ((l.map optA).length : Int)) = true → False := fun h => by have := of_decide_eq_true h; simp at this; omega
      have he : i = l.length := by omega
      subst he
      repeat' first|refine Q1 ?_|refine Q2 ?_|refine Q3 hG Tryz.T Tryz.keep9 (by kernel_rfl) ?_|refine Q4 hG Tryz.T Tryz.keep9 (by kernel_rfl) ?_|refine Q5 hG Tryz.T ?_|refine Q6 hG Tryz.T ?_|refine Q7 hG Tryz.T ?_|refine Q8 hG Tryz.T ?_|((conv => whnf); first|refine anF ?_|refine anT ?_|refine And.intro (by kernel_rfl) ?_|refine And.intro (fun h => ?_) (fun h => ?_)|refine Or.inl ?_|fail)
      refine QC rfl (And.intro (fun h => (bbk h).elim) (fun _ => ?_))
      repeat' first|refine Q1 ?_|refine Q2 ?_|refine Q3 hG Tryz.T Tryz.keep9 (by kernel_rfl) ?_|refine Q4 hG Tryz.T Tryz.keep9 (by kernel_rfl) ?_|refine Q5 hG Tryz.T ?_|refine Q6 hG Tryz.T ?_|refine Q7 hG Tryz.T ?_|refine Q8 hG Tryz.T ?_|((conv => whnf); first|refine anF ?_|refine anT ?_|refine And.intro (by kernel_rfl) ?_|refine Exists.intro _ (And.intro (k4) ?_)|refine And.intro (fun h => ?_) (fun h => ?_)|refine Or.inl ?_|fail)
      refine SPB.cut (X := Unit) (fun _ => ⟨[(14, .sl (.id 14) 9 ((doneTo conf l l.length).map optA)), (11, fltsA A), (10, .loc 10 0), (7, .loc 7 0), (2, .int .i64 late)], [(10, spellA a b), (7, satA s)]⟩) (fun _ => True) ?_ (fun _ _ => ?_)
      · cases h4 with
        | true =>
          repeat' first|refine Q1 ?_|refine Q2 ?_|refine Q3 hG Tryz.T Tryz.keep9 (by kernel_rfl) ?_|refine Q4 hG Tryz.T Tryz.keep9 (by kernel_rfl) ?_|refine Q5 hG Tryz.T ?_|refine Q6 hG Tryz.T ?_|refine Q7 hG Tryz.T ?_|refine Q8 hG Tryz.T ?_|refine Q9 rfl ?_|refine QF rfl ?_|refine QC rfl (And.intro (fun h => ?_) (fun h => ?_))|((conv => whnf); first|refine anF ?_|refine anT ?_|refine And.intro (by kernel_rfl) ?_|refine And.intro (fun h => ?_) (fun h => ?_)|refine Or.inl ?_|fail)
          all_goals (refine Exists.intro () (And.intro trivial (St.le.of ?_ ?_)))
          all_goals (repeat' (first | exact trivial | refine And.intro rfl ?_))
        | false =>
          have kO := kO rfl
          repeat' first|refine Q1 ?_|refine Q2 ?_|refine Q3 hG Tryz.T Tryz.keep9 (by kernel_rfl) ?_|refine Q4 hG Tryz.T Tryz.keep9 (by kernel_rfl) ?_|refine Q5 hG Tryz.T ?_|refine Q6 hG Tryz.T ?_|refine Q7 hG Tryz.T ?_|refine Q8 hG Tryz.T ?_|refine Q9 rfl ?_|refine QF rfl ?_|refine QC rfl (And.intro (fun h => ?_) (fun h => ?_))|((conv => whnf); first|refine anF ?_|refine anT ?_|refine And.intro (by kernel_rfl) ?_|refine Exists.intro _ (And.intro (kO) ?_)|refine And.intro (fun h => ?_) (fun h => ?_)|refine Or.inl ?_|fail)
          all_goals (refine Exists.intro () (And.intro trivial (St.le.of ?_ ?_)))
          all_goals (repeat' (first | exact trivial | refine And.intro rfl ?_))
      conv => whnf
      have hs8 : True := trivial
      cases h5 with
      | true =>
        repeat' first|refine Q1 ?_|refine Q2 ?_|refine Q3 hG Tryz.T Tryz.keep9 (by kernel_rfl) ?_|refine Q4 hG Tryz.T Tryz.keep9 (by kernel_rfl) ?_|refine Q5 hG Tryz.T ?_|refine Q6 hG Tryz.T ?_|refine Q7 hG Tryz.T ?_|refine Q8 hG Tryz.T ?_|refine Q9 rfl ?_|refine QF rfl ?_|refine QC rfl (And.intro (fun h => ?_) (fun h => ?_))|((conv => whnf); first|refine anF ?_|refine anT ?_|refine And.intro (by kernel_rfl) ?_|refine Exists.intro _ (And.intro (k5) ?_)|refine And.intro (fun h => ?_) (fun h => ?_)|refine Or.inl ?_|fail)
        exact Ends.mk (Or.inl rfl) (AV.weak.of_eq rfl)
      | false =>
        repeat' first|refine Q1 ?_|refine Q2 ?_|refine Q3 hG Tryz.T Tryz.keep9 (by kernel_rfl) ?_|refine Q4 hG Tryz.T Tryz.keep9 (by kernel_rfl) ?_|refine Q5 hG Tryz.T ?_|refine Q6 hG Tryz.T ?_|refine Q7 hG Tryz.T ?_|refine Q8 hG Tryz.T ?_|refine Q9 rfl ?_|refine QF rfl ?_|refine QC rfl (And.intro (fun h => ?_) (fun h => ?_))|((conv => whnf); first|refine anF ?_|refine anT ?_|refine And.intro (by kernel_rfl) ?_|refine Exists.intro _ (And.intro (k5) ?_)|refine Exists.intro _ (And.intro (kd) ?_)|refine Exists.intro _ (And.intro (kL) ?_)|refine And.intro (fun h => ?_) (fun h => ?_)|refine Or.inl ?_|fail)
        refine SPB.loop (X := Nat) (fun x => ⟨[(26, .int .i64 (a + (x : Int))), (25, .int .i64 (lv x)), (24, loadsA D), (23, .int .i64 (IntKind.i64.wrap (p - s 8))), (10, .loc 10 0), (7, .loc 7 0)], [(10, spellA a b), (7, satA s)]⟩) (fun x => x ≤ M) (fun x => M - x) 0 (Nat.zero_le _) (St.le.of (And.intro (congrArg (fun z => some (AV.int .i64 z)) (by simp)) (And.intro (congrArg (fun z => some (AV.int .i64 z)) hlv0.symm) ?_)) ?_) (fun x hx => ?_)
        · repeat' (first | exact trivial | refine And.intro rfl ?_)
        · repeat' (first | exact trivial | refine And.intro rfl ?_)
        · rename Nat => i
          have hi := hx
          by_cases hlt_i : i < M
          · have bbk : decide (a + (i : Int) < b) = false → False := fun h => by have := of_decide_eq_false h; omega
            have g1 := kAt i hlt_i
            have g2 := kD i hlt_i
            have g3 := kDr i hlt_i
            have g4 := fl i hlt_i
            have g5 := fp rfl i hlt_i
            have hn : IntKind.i64.wrap (a + (i : Int) + 1) = a + ((i + 1 : Nat) : Int) := (w64_in (by omega) (by omega)).trans (by omega)
            generalize lv i = v0 at *
            generalize cel i = cl at *
            generalize dr i = d at *
            cases hdk : dark i with
            | true =>
              rw [hdk] at g2 g4
              rw [if_pos rfl] at g4
              have bn : decide (min (s 11) (IntKind.i64.wrap (IntKind.i64.wrap (v0 + 0) - d)) < 0) = true → False := fun h => by rw [← g4] at h; have := of_decide_eq_true h; omega
              repeat' first|exact (bbk (by assumption)).elim|exact (bn (by assumption)).elim|refine Q1 ?_|refine Q2 ?_|refine Q3 hG Tryz.T Tryz.keep9 (by kernel_rfl) ?_|refine Q4 hG Tryz.T Tryz.keep9 (by kernel_rfl) ?_|refine Q5 hG Tryz.T ?_|refine Q6 hG Tryz.T ?_|refine Q7 hG Tryz.T ?_|refine Q8 hG Tryz.T ?_|refine Q9 rfl ?_|refine QF rfl ?_|refine QC rfl (And.intro (fun h => ?_) (fun h => ?_))|((conv => whnf); first|refine anF ?_|refine anT ?_|refine And.intro (by kernel_rfl) ?_|refine Exists.intro _ (And.intro (g1) ?_)|refine Exists.intro _ (And.intro (g2) ?_)|refine Exists.intro _ (And.intro (g3) ?_)|refine And.intro (fun h => ?_) (fun h => ?_)|refine Or.inl ?_|fail)
              all_goals (refine Exists.intro (i + 1) (And.intro hlt_i (And.intro (by omega) (St.le.of (And.intro (congrArg (fun z => some (AV.int .i64 z)) hn) (And.intro (congrArg (fun z => some (AV.int .i64 z)) g4.symm) ?_)) ?_))))
              all_goals (repeat' (first | exact trivial | refine And.intro rfl ?_))
            | false =>
              rw [hdk] at g2 g4
              rw [if_neg (by decide)] at g4
              have bn : decide (min (s 11) (IntKind.i64.wrap (IntKind.i64.wrap (v0 + s 12) - d)) < 0) = true → False := fun h => by rw [← g4] at h; have := of_decide_eq_true h; omega
              repeat' first|exact (bbk (by assumption)).elim|exact (bn (by assumption)).elim|refine Q1 ?_|refine Q2 ?_|refine Q3 hG Tryz.T Tryz.keep9 (by kernel_rfl) ?_|refine Q4 hG Tryz.T Tryz.keep9 (by kernel_rfl) ?_|refine Q5 hG Tryz.T ?_|refine Q6 hG Tryz.T ?_|refine Q7 hG Tryz.T ?_|refine Q8 hG Tryz.T ?_|refine Q9 rfl ?_|refine QF rfl ?_|refine QC rfl (And.intro (fun h => ?_) (fun h => ?_))|((conv => whnf); first|refine anF ?_|refine anT ?_|refine And.intro (by kernel_rfl) ?_|refine Exists.intro _ (And.intro (g1) ?_)|refine Exists.intro _ (And.intro (g2) ?_)|refine Exists.intro _ (And.intro (g3) ?_)|refine And.intro (fun h => ?_) (fun h => ?_)|refine Or.inl ?_|fail)
              all_goals (refine Exists.intro (i + 1) (And.intro hlt_i (And.intro (by omega) (St.le.of (And.intro (congrArg (fun z => some (AV.int .i64 z)) hn) (And.intro (congrArg (fun z => some (AV.int .i64 z)) g4.symm) ?_)) ?_))))
              all_goals (repeat' (first | exact trivial | refine And.intro rfl ?_))
          · have bbk : decide (a + (i : Int) < b) = true → False := fun h => by have := of_decide_eq_true h; omega
            have he : i = M := by omega
            repeat' first|exact (bbk (by assumption)).elim|refine Q1 ?_|refine Q2 ?_|refine Q3 hG Tryz.T Tryz.keep9 (by kernel_rfl) ?_|refine Q4 hG Tryz.T Tryz.keep9 (by kernel_rfl) ?_|refine Q5 hG Tryz.T ?_|refine Q6 hG Tryz.T ?_|refine Q7 hG Tryz.T ?_|refine Q8 hG Tryz.T ?_|refine Q9 rfl ?_|refine QF rfl ?_|refine QC rfl (And.intro (fun h => ?_) (fun h => ?_))|((conv => whnf); first|refine anF ?_|refine anT ?_|refine And.intro (by kernel_rfl) ?_|refine And.intro (fun h => ?_) (fun h => ?_)|refine Or.inl ?_|fail)
            exact Ends.mk (Or.inl rfl) (AV.weak.of_eq rfl)
end Go.Proofs
namespace Go.Proofs
open Go Go.AI
set_option maxRecDepth 10000
theorem follow_ge : ∀ (l : List SlotT) (t : Int), follow t l = true → ∀ x ∈ l, t ≤ x.a ∧ x.a < x.b
  | [], _, _, x, hx => nomatch hx
  | y :: r, t, h, x, hx => by
    simp only [follow, isSp, Bool.and_eq_true, decide_eq_true_eq] at h
    rcases List.mem_cons.1 hx with rfl | hx
    · omega
    · have := follow_ge r y.b h.2 x hx
      omega
theorem okImgs_iff : ∀ (l pre : List Img), okImgs pre l = true ↔ (∀ x ∈ l, (0 ≤ x.i ∧ x.i ≤ 63) ∧ (1 ≤ x.u ∧ x.u ≤ 1000000) ∧ 0 ≤ x.a ∧ x.a < x.b ∧ x.b ≤ 1000001) ∧ l.Pairwise (fun x y => x.i ≠ y.i) ∧ ∀ p ∈ pre, ∀ x ∈ l, p.i ≠ x.i
  | [], pre => by simp [okImgs]
  | x :: r, pre => by
    rw [okImgs, Bool.and_eq_true, okImgs_iff r (pre ++ [x]), okImg, seenAt]
    simp only [inM, spM, Bool.and_eq_true, Bool.not_eq_true', decide_eq_true_eq, List.any_eq_false, beq_iff_eq, List.mem_cons, List.pairwise_cons, forall_eq_or_imp, List.mem_append, List.not_mem_nil, or_false]
    constructor
    · rintro ⟨⟨g1, g2, g3, g4⟩, g5, g6, g7⟩
      exact ⟨⟨⟨g1, g3, g4.1, g4.2.1, g4.2.2⟩, g5⟩, ⟨fun y hy => g7 x (.inr rfl) y hy, g6⟩, fun p hp => ⟨fun e => g2 p hp e, fun y hy => g7 p (.inl hp) y hy⟩⟩
    · rintro ⟨⟨⟨g1, g3, g4, g4', g4''⟩, g5⟩, ⟨g6, g7⟩, g8⟩
      refine ⟨⟨g1, fun p hp e => (g8 p hp).1 e, g3, g4, g4', g4''⟩, g5, g7, fun p hp y hy => ?_⟩
      rcases hp with hp | rfl
      · exact (g8 p hp).2 y hy
      · exact g6 y hy
theorem fill_map_le {α : Type} {f g : α → Img} {t : Int} : ∀ {l : List α}, (∀ x ∈ l, (if (f x).a ≤ t ∧ t < (f x).b then (f x).u else 0) ≤ if (g x).a ≤ t ∧ t < (g x).b then (g x).u else 0) → fillA t (l.map f) ≤ fillA t (l.map g)
  | [], _ => Int.le_refl _
  | x :: r, h => by
    have ih := fill_map_le (f := f) (g := g) (l := r) fun y hy => h y (.tail _ hy)
    have h1 := h x (.head _)
    simp only [List.map_cons, fillA]
    omega
theorem range_opts (l : List Opt) : (List.range l.length).map (optAt l) = l := by
  apply List.ext_getElem
  · simp
  · intro i h1 h2
    simp [optAt_eq h2]
theorem slot_in {o : Opt} {k : Nat} (h : k < o.sl.length) : slotAt o k ∈ o.sl := by
  unfold slotAt
  rw [List.getD_eq_getElem?_getD, List.getElem?_eq_getElem h]
  exact List.getElem_mem h
theorem lit_dark {o : Nat → Int} (h : PV o) {t d : Int} (h1 : 0 ≤ t) (h2 : t ≤ 1000000) (h3 : -(o 6) ≤ d) (h4 : d ≤ o 6) (hl : litS o t = true) : darkS (celW o (t - d)) t = false :=
  (lit_all h h1 h2).1 hl d h3 h4
def lvW (s : Nat → Int) (dark : Nat → Bool) (dr : Nat → Int) : Nat → Int
  | 0 => s 11
  | i + 1 => min (s 11) (IntKind.i64.wrap (IntKind.i64.wrap (lvW s dark dr i + (if dark i then 0 else s 12)) - dr i))
theorem TCase.pv (c : TCase) : PV (orbO c.s) := c.bc.pv
theorem Tryz.x9 (c : TCase) (conf : List Int) (late : Int) (hc : ∀ x ∈ conf, inI x) (hlt : inI late) : ACalls Tryz.prog 9 [.agg (caseA c), intsA conf, .int .i64 late] (.bool true) := by
  have hln := c.len
  have hT := TrkH.of c.valid
  have hr := c.rng
  have hb : c.b = c.a + 200 := rfl
  have hps : c.ps.length ≤ 1000000 := by have := c.passes.2.1; omega
  have hA : (faultsL c.s c.l c.a c.b).length ≤ 5 := fltTake_len c.s c.l c.a c.b 5
  have hq := sat_h c.sat
  have hmem : ∀ i, i < c.l.length → optAt c.l i ∈ c.l := fun i hi => by rw [optAt_eq hi]; exact List.getElem_mem hi
  have hfit : ∀ i, i < c.l.length → FitH c.s (optAt c.l i) c.b := fun i hi => hT.fit _ (hmem i hi)
  have hcf : ∀ i, inI (cfA conf i) := fun i => by
    unfold cfA
    split
    · rename_i h
      rw [List.getD_eq_getElem?_getD, List.getElem?_eq_getElem h]
      exact hc _ (List.getElem_mem h)
    · unfold inI; omega
  have hkf : ∀ i, ((kf conf c.l i : Nat) : Int) = pickS (cfA conf i) (((optAt c.l i).sl.length : Int) + 1) := fun i => by
    have := pick_rng (hcf i) (n := ((optAt c.l i).sl.length : Int) + 1) (by omega)
    unfold kf; omega
  have k4 := Tryz.has (faultsL c.s c.l c.a c.b) 4 (by omega)
  rw [has4] at k4
  have k5 := Tryz.has (faultsL c.s c.l c.a c.b) 5 (by omega)
  rw [has5] at k5
  -- the images
  have hge : ∀ i, i < c.l.length → ∀ x ∈ (optAt c.l i).sl, (optAt c.l i).b ≤ x.a ∧ x.a < x.b := fun i hi => by
    have h := (hfit i hi).can
    simp only [canS, Bool.and_eq_true] at h
    exact follow_ge _ _ h.1
  have himg : ∀ i, i < c.l.length → (imgO (optAt c.l i) (kf conf c.l i)).i = (optAt c.l i).id ∧ (imgO (optAt c.l i) (kf conf c.l i)).u = (optAt c.l i).size ∧ (imgO (optAt c.l i) (kf conf c.l i)).a = (optAt c.l i).a ∧ (optAt c.l i).a < (imgO (optAt c.l i) (kf conf c.l i)).b ∧ (imgO (optAt c.l i) (kf conf c.l i)).b ≤ lastB (optAt c.l i) := fun i hi => by
    have hf := hfit i hi
    have hs := hf.shot
    have hla := hf.last
    unfold imgO
    split
    · rename_i hk
      have h1 := hge i hi _ (slot_in hk)
      have h2 := hf.slot _ (slot_in hk)
      exact ⟨rfl, rfl, rfl, by show _ < (slotAt _ _).b; omega, h2.2.2⟩
    · exact ⟨rfl, rfl, rfl, by show _ < lastB _; omega, Int.le_refl _⟩
  have hids := ((optsOK_iff c.l []).1 (track_h c.valid).2.2.2.2.2).2.1
  have hvm : validM (imgsTo conf c.l c.l.length) = true := by
    rw [validM, Bool.and_eq_true]
    refine ⟨(okImgs_iff _ []).2 ⟨fun x hx => ?_, ?_, fun p hp => nomatch hp⟩, by simp [imgsTo]; omega⟩
    · obtain ⟨i, hi, rfl⟩ := List.mem_map.1 hx
      have hi := List.mem_range.1 hi
      obtain ⟨e1, e2, e3, e4, e5⟩ := himg i hi
      have hf := hfit i hi
      have f1 := hf.id; have f2 := hf.size; have f3 := hf.shot; have f4 := hf.last
      rw [e1, e2, e3]
      refine ⟨f1, ⟨f2.1, by omega⟩, f3.1, e4, by omega⟩
    · rw [imgsTo, List.pairwise_map]
      refine List.Pairwise.imp_of_mem (R := fun i j => i < j) (fun {i j} hi hj hij => ?_) List.pairwise_lt_range
      have hi := List.mem_range.1 hi
      have hj := List.mem_range.1 hj
      rw [(himg i hi).1, (himg j hj).1, optAt_eq hi, optAt_eq hj]
      exact List.pairwise_iff_getElem.1 hids i j hi hj hij
  have kO : (storeF c.s c.l).isSome = false → ACalls Tryz.prog 37 [imgsA (imgsTo conf c.l c.l.length), .int .i64 (c.s 10)] (.tup [.int .i64 (-1), .int .i64 0]) := fun hn => by
    have h := Tryz.over (imgsTo conf c.l c.l.length) (c.s 10) (by simp [imgsTo]; omega) hvm hT.chk.s10
    have e : overL (c.s 10) (fillsL (imgsTo conf c.l c.l.length)) = -1 := by
      have hfirst : ∀ t, fillA t (worstL c.l) ≤ c.s 10 := by
        unfold storeF at hn
        rw [minF_none] at hn
        rcases over_first (isp_of hT.span) (store := c.s 10) (by omega) with ⟨_, h2⟩ | ⟨h1, _, _⟩
        · exact h2
        · unfold storeT at hn; omega
      have hv := (okImgs_iff _ []).1 (by simpa [validM] using (Bool.and_eq_true _ _ ▸ (show validM (imgsTo conf c.l c.l.length) = true from hvm)).1)
      rcases over_first (l := imgsTo conf c.l c.l.length) (fun x hx => ⟨(hv.1 x hx).2.2.1, (hv.1 x hx).2.2.2.1⟩) (store := c.s 10) (by omega) with ⟨h1, _⟩ | ⟨_, h2, _⟩
      · exact h1
      · exfalso
        have h3 := hfirst (overL (c.s 10) (fillsL (imgsTo conf c.l c.l.length)))
        have h4 : fillA (overL (c.s 10) (fillsL (imgsTo conf c.l c.l.length))) (imgsTo conf c.l c.l.length) ≤ fillA (overL (c.s 10) (fillsL (imgsTo conf c.l c.l.length))) (worstL c.l) := by
          generalize overL (c.s 10) (fillsL (imgsTo conf c.l c.l.length)) = t
          have ew : worstL c.l = (List.range c.l.length).map fun i => ⟨(optAt c.l i).id, (optAt c.l i).size, (optAt c.l i).a, lastB (optAt c.l i)⟩ := by
            conv => lhs; rw [← range_opts c.l]
            rw [worstL, List.map_map]; rfl
          rw [ew]
          refine fill_map_le fun i hi => ?_
          have hi := List.mem_range.1 hi
          obtain ⟨e1, e2, e3, e4, e5⟩ := himg i hi
          have f2 := (hfit i hi).size
          rw [e2, e3]
          simp only
          split <;> split <;> omega
        simp only at h2
        omega
    rw [e] at h
    exact h
  -- what is really sent
  have hgd : GoodL (doneTo conf c.l c.l.length) := by
    refine ⟨by simp [doneTo]; omega, fun o ho => ?_, fun o ho x hx => ?_⟩
    · obtain ⟨i, hi, rfl⟩ := List.mem_map.1 ho
      have hi := List.mem_range.1 hi
      have := hT.good.shot _ (hmem i hi)
      unfold optO
      split
      · exact ⟨this.1, this.2.1, this.2.2.1, by show (List.take _ _).length ≤ 6; rw [List.length_take]; omega⟩
      · exact this
    · obtain ⟨i, hi, rfl⟩ := List.mem_map.1 ho
      have hi := List.mem_range.1 hi
      refine hT.good.slot _ (hmem i hi) x ?_
      unfold optO at hx
      split at hx
      · exact List.mem_of_mem_take hx
      · exact hx
  have hcov : ∀ k t, covL (rawL (doneTo conf c.l c.l.length)) k t → covL (rawL c.l) k t := by
    rintro k t ⟨x, hx, h⟩
    refine ⟨x, ?_, h⟩
    rcases rawL_mem.1 hx with ⟨o, ho, e⟩ | ⟨o, ho, y, hy, e⟩
    · obtain ⟨i, hi, rfl⟩ := List.mem_map.1 ho
      have hi := List.mem_range.1 hi
      refine rawL_mem.2 (.inl ⟨_, hmem i hi, ?_⟩)
      rw [e]; unfold optO; split <;> rfl
    · obtain ⟨i, hi, rfl⟩ := List.mem_map.1 ho
      have hi := List.mem_range.1 hi
      refine rawL_mem.2 (.inr ⟨_, hmem i hi, y, ?_, e⟩)
      unfold optO at hy
      split at hy
      · exact List.mem_of_mem_take hy
      · exact hy
  have hdl := opt_len hgd
  have hll := opt_len hT.good
  have kL := Tryz.loads (doneTo conf c.l c.l.length) (by have := hgd.n; omega) (fun o ho => by have := (hgd.shot o ho).2.2.2; omega) (by
    have := flat_len 6 (doneTo conf c.l c.l.length) fun o ho => (hgd.shot o ho).2.2.2
    have h8 := hgd.n
    rw [rawB_eq, List.length_map] at this
    omega)
  obtain ⟨D, hD⟩ : ∃ D, D = optLoads (doneTo conf c.l c.l.length) := ⟨_, rfl⟩
  rw [← hD] at kL
  have hDl : D.length ≤ 56 := by rw [hD]; exact hdl
  have hDp : properS D = true := by rw [hD]; exact hgd.proper
  -- the delay
  have hfed := sat_fedZ c.sat
  have hpv := c.pv
  have s1 : 0 ≤ c.s 8 := hpv.s1
  have s2 : c.s 8 ≤ 10 := hpv.s2
  have w2 : IntKind.i64.wrap (IntKind.i64.wrap (2 * c.s 8) + 1) = 2 * c.s 8 + 1 := by
    rw [show IntKind.i64.wrap (2 * c.s 8) = 2 * c.s 8 from w64_in (by omega) (by omega)]
    exact w64_in (by omega) (by omega)
  have kd := Tryz.lpick late (IntKind.i64.wrap (IntKind.i64.wrap (2 * c.s 8) + 1)) (by rw [w2]; omega)
  have q1 := pick_rng hlt (n := 2 * c.s 8 + 1) (by omega)
  generalize hp : pickS late (IntKind.i64.wrap (IntKind.i64.wrap (2 * c.s 8) + 1)) = p at kd
  rw [w2] at hp
  rw [hp] at q1
  have w3 : IntKind.i64.wrap (p - c.s 8) = p - c.s 8 := w64_in (by omega) (by omega)
  obtain ⟨dark, hdark⟩ : ∃ dark : Nat → Bool, dark = fun (i : Nat) => darkS (celW (orbO c.s) (c.a + (i : Int) - (p - c.s 8))) (c.a + (i : Int)) := ⟨_, rfl⟩
  obtain ⟨dr, hdr⟩ : ∃ dr : Nat → Int, dr = fun (i : Nat) => drainS c.s D (c.a + (i : Int)) := ⟨_, rfl⟩
  have hnb : ∀ i : Nat, -1000000 ≤ netS c.s (optLoads c.l) (c.a + (i : Int)) ∧ netS c.s (optLoads c.l) (c.a + (i : Int)) ≤ 1000000 := fun i => by
    obtain ⟨e, h1, h2⟩ := net_eq hfed (c.a + (i : Int)) (optLoads c.l) (litS (orbO c.s) (c.a + (i : Int))) (by omega)
    unfold netS
    omega
  have hadd : ∀ t, addS c.s t D ≤ addS c.s t (optLoads c.l) := fun t => by
    obtain ⟨c1, c2⟩ := hT.good.can
    obtain ⟨d1, d2⟩ := hgd.can
    rw [hD]
    exact add_le hfed c1 hT.good.kinds d1 hgd.kinds fun k g => (c2 k t).2 (hcov k t ((d2 k t).1 g))
  have key : ∀ i, i ≤ 200 → levF (c.s 11) (fun i => netS c.s (optLoads c.l) (c.a + (i : Int))) i ≤ lvW c.s dark dr i ∧ lvW c.s dark dr i ≤ c.s 11 := by
    intro i
    induction i with
    | zero => intro _; exact ⟨Int.le_refl _, Int.le_refl _⟩
    | succ i ih =>
      intro hi
      obtain ⟨g1, g2⟩ := ih (by omega)
      have hlo := (levF_rng (c := c.s 11) hnb i).1
      have hn := net_eq hfed (c.a + (i : Int)) (optLoads c.l) (litS (orbO c.s) (c.a + (i : Int))) (by omega)
      have hde := drain_eq hfed (c.a + (i : Int)) D (by omega)
      have hf : netS c.s (optLoads c.l) (c.a + (i : Int)) = netP c.s (optLoads c.l) (litS (orbO c.s) (c.a + (i : Int))) (c.a + (i : Int)) := hn.1
      have hdi : dr i = c.s 13 + addS c.s (c.a + (i : Int)) D := by rw [hdr]; exact hde
      have har := add_rng hfed (c.a + (i : Int)) D
      have had := hadd (c.a + (i : Int))
      have hii := hfed.i
      have huu := hfed.u
      have hch : (if litS (orbO c.s) (c.a + (i : Int)) then c.s 12 else 0) ≤ (if dark i then 0 else c.s 12) ∧ 0 ≤ (if dark i then 0 else c.s 12) ∧ (if dark i then 0 else c.s 12) ≤ 10000 := by
        cases hlit : litS (orbO c.s) (c.a + (i : Int))
        · refine ⟨?_, ?_, ?_⟩
          · rw [if_neg (by simp)]; split <;> omega
          · split <;> omega
          · split <;> omega
        · have hnd := lit_dark hpv (t := c.a + (i : Int)) (d := p - c.s 8) (by omega) (by omega) (by show -(c.s 8) ≤ _; omega) (by show _ ≤ c.s 8; omega) hlit
          have hd : dark i = false := by rw [hdark]; exact hnd
          rw [hd]; simp; omega
      unfold netP at hf
      simp only [lvW, levF]
      rw [show IntKind.i64.wrap (lvW c.s dark dr i + if dark i = true then 0 else c.s 12) = lvW c.s dark dr i + (if dark i = true then 0 else c.s 12) from w64_in (by omega) (by omega)]
      rw [show IntKind.i64.wrap (lvW c.s dark dr i + (if dark i = true then 0 else c.s 12) - dr i) = lvW c.s dark dr i + (if dark i = true then 0 else c.s 12) - dr i from w64_in (by omega) (by omega)]
      omega
  refine Tryz.y9 c conf late c.s c.l c.ps c.a c.b (faultsL c.s c.l c.a c.b) D (by omega) (by omega) Tryz.sane19 (Tryz.made c) (Tryz.checkOf c.s c.l c.ps c.a c.b hps c.valid) (fun i hi => (hfit i hi).len.2) (fun i hi => ?_) (fun i hi => Tryz.worst _ (by have := (hfit i hi).len; omega) (hfit i hi).can) (fun i k hi hk => Tryz.freed _ k (by have := (hfit i hi).len; omega) (hfit i hi).can hk)
    _ _ k4 k5 kO p kd kL 200 (by rw [hb]; rfl) (by omega) (by omega) (lvW c.s dark dr) (fun i => celW (orbO c.s) (c.a + (i : Int) - (p - c.s 8))) dark dr rfl (fun i hi => ?_) (fun i hi => ?_) (fun i hi => ?_) (fun i hi => rfl) (fun h5 i hi => ?_)
  · have hls := (hfit i hi).len
    have hw : IntKind.i64.wrap ((((optAt c.l i).sl.map slotA).length : Int) + 1) = ((optAt c.l i).sl.length : Int) + 1 := by rw [List.length_map]; exact w64_in (by omega) (by omega)
    rw [hw, hkf i]
    exact Tryz.lpick _ _ (by omega)
  · rw [w3]
    have := Tryz.c24 (orbO c.s) (c.a + (i : Int)) (p - c.s 8) (atS_ok hpv (by omega) (by omega) (by omega) (by omega))
    rw [show w64 (c.a + (i : Int) - (p - c.s 8)) = c.a + (i : Int) - (p - c.s 8) from w64_in (by omega) (by omega)] at this
    exact this
  · rw [hdark]
    exact Tryz.c41 _ _ (inS_ok (by omega)) (cel_ok hpv (by omega) (by omega))
  · rw [hdr]
    have := Tryz.c42 c.s D (c.a + (i : Int)) (by omega)
    rw [drainV, if_pos (by rw [hDp, c.sat]; rfl)] at this
    exact this
  · have h1 := (key (i + 1) (by omega)).1
    unfold chargeF at h5
    rw [minF_none] at h5
    rcases empty_iff hfed (l := optLoads c.l) (by omega) (a := c.a) (b := c.b) (by omega) (by omega) with ⟨_, h2⟩ | ⟨h2, _⟩
    · have := h2 i (by rw [hb]; omega)
      omega
    · omega
end Go.Proofs
namespace Go.Proofs
open Go Go.AI Go.Proofs.YtehdegggapeihaaGreat
set_option maxRecDepth 100000
theorem Tryz.own : ownKnob Tryz.prog.godebug = none := by kernel_rfl
theorem Tryz.laidOut : laidOutB Tryz.prog = true := by kernel_rfl
theorem Tryz.reads3 : (Tryz.prog.readableRec 3 && Nat.blt 3 Tryz.prog.types.size) = true := by kernel_rfl
theorem Tryz.reads27 : (Tryz.prog.readableRec 27 && Nat.blt 27 Tryz.prog.types.size) = true := by kernel_rfl
theorem Tryz.reads79 : (Tryz.prog.readableRec 79 && Nat.blt 79 Tryz.prog.types.size) = true := by kernel_rfl
def caseSh : List Sh := [.int .i64, .int .i64, .int .i64, .int .i64, .int .i64, .int .i64, .int .i64, .int .i64, .int .i64, .int .i64, .int .i64, .sl [.int .i64, .int .i64, .int .i64], .sl [.int .i64, .int .i64, .int .i64, .int .i64, .int .i64], .int .i64]
def lawSh : List (Bool × List Sh) := [(true, caseSh), (false, [.sl [.int .i64]]), (false, [.int .i64])]
theorem Tryz.shs : paramSh Tryz.prog 8 [27, 79, 3] = some lawSh := by kernel_rfl
theorem Tryz.lifted (law : ∀ avs, PArgs 8 lawSh avs → ACalls Tryz.prog 9 avs (.bool true)) (os : Os) (started : os.Started) (H : Type) (enc : TypeId × Value → H) :
    ReturnsInHanded {} Tryz.checked os 9 .any (Rows.trackWhateverSpec.pre6 enc Tryz.prog Tryz.f9 Rows.trackWhateverRow.domain false) (Rows.trackWhateverSpec.post enc Tryz.prog Tryz.f9 false true false false) :=
  law_lifted (C := Tryz.checked) (tb := 4) Tryz.own started (by kernel_rfl) Tryz.func9
    (ChangeSpec.witness6 (enc := enc) (C := Tryz.checked) false ⟨#[], #[.agg #[.int .i64 0, .int .i64 0, .int .i64 0, .int .i64 0, .int .i64 0, .int .i64 0, .int .i64 0, .int .i64 0, .int .i64 0, .int .i64 0, .int .i64 0, .slice none 0 0, .slice none 0 0, .int .i64 0], .slice none 0 0, .int .i64 0], []⟩ 8 (by kernel_rfl) (by kernel_rfl) (by kernel_rfl) (by kernel_rfl))
    rfl (by kernel_rfl) (by kernel_rfl) (fun ds h => by
      match ds, h with
      | [d0, d1, d2], _ => rfl) Tryz.shs Tryz.laidOut (fun t ht => by
      have e : Tryz.f9.params.toList = [27, 79, 3] := by kernel_rfl
      rw [e] at ht
      simp only [List.mem_cons, List.not_mem_nil, or_false] at ht
      have h3 := Tryz.reads3
      have h27 := Tryz.reads27
      have h79 := Tryz.reads79
      simp only [Bool.and_eq_true] at h3 h27 h79
      rcases ht with h | h | h <;> subst h <;> first | exact ⟨h3.1, Nat.le_of_ble_eq_true h3.2⟩ | exact ⟨h27.1, Nat.le_of_ble_eq_true h27.2⟩ | exact ⟨h79.1, Nat.le_of_ble_eq_true h79.2⟩) law
theorem Tryz.jf0 : (Rows.trackWhateverRow.wf (OpenSpec.ofChange Rows.trackWhateverSpec) : Bool) = true := by kernel_rfl
theorem Tryz.jf1 : (laidOutB Tryz.pinned.checked.prog : Bool) = true := by kernel_rfl
theorem Tryz.jf2 : (mapsRowed Tryz.pinned.checked.prog : Bool) = true := by kernel_rfl
theorem Tryz.jf3 : (Tryz.f9.params.all (Tryz.pinned.checked.prog.readableRec ·) : Bool) = true := by kernel_rfl
theorem Tryz.jf4 : (namedTie Tryz.pinned.checked.prog Rows.trackWhateverRow.named Rows.trackWhateverSpec.vars : Bool) = true := by kernel_rfl
theorem Tryz.jf5 : ((Rows.trackWhateverRow.stops == []) : Bool) = true := by kernel_rfl
theorem Tryz.jf6 : ((Tryz.pinned.checked.prog.stops == []) : Bool) = true := by kernel_rfl
theorem Tryz.jf7 : ((Rows.trackWhateverRow.knobs == []) : Bool) = true := by kernel_rfl
theorem Tryz.jf8 : ((Tryz.pinned.checked.prog.stopKnobs == []) : Bool) = true := by kernel_rfl
theorem Tryz.jf9 : ((Rows.trackWhateverRow.inPlace == Tryz.pinned.checked.prog.inPlace 9) : Bool) = true := by kernel_rfl
theorem Tryz.jf10 : ((Rows.trackWhateverRow.unfollowed == Tryz.pinned.checked.prog.unfollowed 9) : Bool) = true := by kernel_rfl
theorem Tryz.jf11 : ((Rows.trackWhateverRow.recurses == Tryz.pinned.checked.prog.recurses 9) : Bool) = true := by kernel_rfl
theorem Tryz.jf12 : ((Rows.trackWhateverRow.named == Tryz.pinned.checked.prog.varsNamed 9) : Bool) = true := by kernel_rfl
theorem Tryz.jf13 : ((Rows.trackWhateverRow.maps == (Tryz.f9.params.toList ++ Rows.trackWhateverSpec.plain.varTypes Tryz.pinned.checked.prog).any (Tryz.pinned.checked.prog.mapsRec ·)) : Bool) = true := by kernel_rfl
theorem Tryz.jf14 : ((Rows.trackWhateverRow.ifaces == (Tryz.f9.params.toList ++ Rows.trackWhateverSpec.plain.varTypes Tryz.pinned.checked.prog).any (Tryz.pinned.checked.prog.ifacesRec ·)) : Bool) = true := by kernel_rfl
theorem Tryz.jf15 : ((Rows.trackWhateverRow.mapsOut == Tryz.pinned.checked.prog.mapsAmong Tryz.f9.resultTypes.toList) : Bool) = true := by kernel_rfl
theorem Tryz.jf16 : ((Rows.trackWhateverRow.loops == (Tryz.f9.params.toList ++ Rows.trackWhateverSpec.plain.varTypes Tryz.pinned.checked.prog).any (Tryz.pinned.checked.prog.loopsFrom ·)) : Bool) = true := by kernel_rfl
theorem Tryz.jf17 : ((Rows.trackWhateverRow.wideKeys == (Tryz.f9.params.toList ++ Rows.trackWhateverSpec.plain.varTypes Tryz.pinned.checked.prog ++ Tryz.f9.resultTypes.toList).any (Tryz.pinned.checked.prog.wideKeysFrom ·)) : Bool) = true := by kernel_rfl
theorem Tryz.jf18 : (Rows.trackWhateverSpec.vars.all (Tryz.pinned.checked.prog.varReadable ·) : Bool) = true := by kernel_rfl
theorem Tryz.jf19 : (Tryz.f9.resultTypes.all (fun t => Tryz.pinned.checked.prog.readableRec t && decide (t < Tryz.pinned.checked.prog.types.size)) : Bool) = true := by kernel_rfl
theorem Tryz.jf20 : ((Rows.trackWhateverRow.ifacesOut == Tryz.f9.resultTypes.toList.any (Tryz.pinned.checked.prog.ifacesRec ·)) : Bool) = true := by kernel_rfl
theorem Tryz.jf21 : ((Rows.trackWhateverRow.loopsOut == Tryz.f9.resultTypes.toList.any (Tryz.pinned.checked.prog.loopsFrom ·)) : Bool) = true := by kernel_rfl
theorem Tryz.jf22 : ((Rows.trackWhateverRow.plainKeys == Tryz.pinned.checked.prog.plainKeys) : Bool) = true := by kernel_rfl
theorem Tryz.jf23 : (Rows.trackWhateverRow.shortTexts.isNone : Bool) = true := by kernel_rfl
theorem Tryz.jf24 : (Tryz.pinned.checked.prog.stopsHeard : Bool) = true := by kernel_rfl
theorem Tryz.jf25 : (Tryz.pinned.checked.prog.mayEnter : Bool) = true := by kernel_rfl
theorem Tryz.jf26 : ((Rows.trackWhateverRow.lifted == Tryz.pinned.checked.prog.liftsFinal) : Bool) = true := by kernel_rfl
theorem Tryz.jf27 : ((Tryz.pinned.checked.prog.make == some Rows.trackWhateverRow.make) : Bool) = true := by kernel_rfl
theorem Tryz.jf28 : ((Rows.trackWhateverRow.kinds == (if Rows.trackWhateverRow.domain.isEmpty then [] else Tryz.f9.params.toList.map fun t => match Tryz.pinned.checked.prog.underlying t with | some (.int k) => some k | _ => none)) : Bool) = true := by kernel_rfl
theorem Tryz.jf29 : ((Rows.trackWhateverRow.pinned == Rows.trackWhateverRow.pinnedBy) : Bool) = true := by kernel_rfl
theorem Tryz.jf30 : ((Rows.trackWhateverRow.veiled == (Tryz.f9.params.toList ++ Rows.trackWhateverSpec.plain.varTypes Tryz.pinned.checked.prog ++ Tryz.f9.resultTypes.toList).any (Tryz.pinned.checked.prog.veiledRec ·)) : Bool) = true := by kernel_rfl
theorem Tryz.jf31 : (Rows.trackWhateverRow.veiledFits Tryz.pinned.checked.prog Tryz.f9.params.toList (Tryz.f9.params.toList ++ Rows.trackWhateverSpec.plain.varTypes Tryz.pinned.checked.prog ++ Tryz.f9.resultTypes.toList) : Bool) = true := by kernel_rfl
theorem and_i {a b : Bool} (h : a = true) (k : b = true) : (a && b) = true := by rw [h, k]; rfl
theorem Tryz.jf : joinedFacts Tryz.pinned.checked.prog 9 Tryz.f9 Rows.trackWhateverSpec Rows.trackWhateverRow = true := by
  unfold joinedFacts
  exact and_i (and_i (and_i (and_i (and_i (and_i (and_i (and_i (and_i (and_i (and_i (and_i (and_i (and_i (and_i (and_i (and_i (and_i (and_i (and_i (and_i (and_i (and_i (and_i (and_i (and_i (and_i (and_i (and_i (and_i (and_i (Tryz.jf0) Tryz.jf1) Tryz.jf2) Tryz.jf3) Tryz.jf4) Tryz.jf5) Tryz.jf6) Tryz.jf7) Tryz.jf8) Tryz.jf9) Tryz.jf10) Tryz.jf11) Tryz.jf12) Tryz.jf13) Tryz.jf14) Tryz.jf15) Tryz.jf16) Tryz.jf17) Tryz.jf18) Tryz.jf19) Tryz.jf20) Tryz.jf21) Tryz.jf22) Tryz.jf23) Tryz.jf24) Tryz.jf25) Tryz.jf26) Tryz.jf27) Tryz.jf28) Tryz.jf29) Tryz.jf30) Tryz.jf31
theorem Tryz.row (law : ∀ avs, PArgs 8 lawSh avs → ACalls Tryz.prog 9 avs (.bool true)) : Rows.TrackWhateverSaid :=
  OpenClaim.holds_of_wide (p := Tryz.pinned) (s := Rows.trackWhateverSpec) (c := Rows.trackWhateverRow) 9 Tryz.f9 rfl rfl rfl rfl rfl rfl rfl ⟨rfl, rfl, rfl, rfl, rfl⟩ rfl rfl rfl rfl rfl (by kernel_rfl) Tryz.func9 Tryz.jf
    (of_decide_eq_true (by kernel_rfl)) (by unfold Func.isWrapper; first | (rw [if_pos (by decide +kernel)]; kernel_rfl) | (rw [if_neg (by decide +kernel)]; exact ⟨rfl, rfl⟩))
    (fun os started H enc _ => Tryz.lifted law os started H enc)
theorem pargs_agg {n : Nat} {L : List Sh} {r : List (Bool × List Sh)} {avs : List AV} (h : PArgs n ((true, L) :: r) avs) : ∃ cs q, avs = .agg cs :: q ∧ Fa (ShOK n) L cs ∧ PArgs n r q := by
  match avs, h with
  | _ :: q, h =>
    obtain ⟨⟨cs, rfl, h1⟩, h2⟩ := h
    exact ⟨cs, q, rfl, h1, h2⟩
  | [], h => exact h.elim
theorem pargs_int {n : Nat} {r : List (Bool × List Sh)} {avs : List AV} (h : PArgs (n + 1) ((false, [.int .i64]) :: r) avs) : ∃ z q, avs = .int .i64 z :: q ∧ inI z ∧ PArgs (n + 1) r q := by
  match avs, h with
  | _ :: q, h =>
    obtain ⟨⟨s, e, h1⟩, h2⟩ := h
    cases e
    obtain ⟨z, rfl, hz⟩ := int_inv h1
    exact ⟨z, q, rfl, hz, h2⟩
  | [], h => exact h.elim
theorem pargs_sl {n : Nat} {e : List Sh} {r : List (Bool × List Sh)} {avs : List AV} (h : PArgs n ((false, [.sl e]) :: r) avs) : ∃ z q, avs = z :: q ∧ ShOK n (.sl e) z ∧ PArgs n r q := by
  match avs, h with
  | _ :: q, h =>
    obtain ⟨⟨s, e, h1⟩, h2⟩ := h
    cases e
    exact ⟨_, q, rfl, h1, h2⟩
  | [], h => exact h.elim
theorem pargs_nil {n : Nat} {avs : List AV} (h : PArgs n [] avs) : avs = [] := by
  match avs, h with
  | [], _ => rfl
  | _ :: _, h => exact h.elim
theorem intsL_of {n : Nat} {a : AV} (h : ShOK (n + 2) (.sl [.int .i64]) a) : ∃ z : List Int, (∀ x ∈ z, inI x) ∧ a = intsA z := by
  obtain ⟨xs, rfl, h2⟩ := h
  suffices hs : ∀ l : List (List AV), (∀ x ∈ l, Fa (ShOK (n + 1)) [.int .i64] x) → ∃ z : List Int, (∀ x ∈ z, inI x) ∧ l = z.map fun h => [AV.int .i64 h] by
    obtain ⟨z, g1, g2⟩ := hs xs h2
    exact ⟨z, g1, congrArg (AV.sl .no 1) g2⟩
  intro l
  induction l with
  | nil => exact fun _ => ⟨[], by simp, rfl⟩
  | cons y r ih =>
    intro h
    obtain ⟨z, g1, rfl⟩ := ih (fun x hx => h x (List.mem_cons_of_mem _ hx))
    obtain ⟨b, q, rfl, h0, h'⟩ := Fa.cons_inv (h y List.mem_cons_self)
    obtain rfl := Fa.nil_inv h'
    obtain ⟨w, rfl, hw⟩ := int_inv h0
    exact ⟨w :: z, fun v hv => by rcases List.mem_cons.1 hv with rfl | hv; exact hw; exact g1 v hv, rfl⟩
theorem rows5_of {n : Nat} {a : AV} (h : ShOK (n + 2) (.sl [.int .i64, .int .i64, .int .i64, .int .i64, .int .i64]) a) : ∃ z : List R5, (∀ x ∈ z, inI5 x) ∧ a = .sl .no 5 (z.map row5A) := by
  obtain ⟨xs, rfl, h2⟩ := h
  suffices hs : ∀ l : List (List AV), (∀ x ∈ l, Fa (ShOK (n + 1)) [.int .i64, .int .i64, .int .i64, .int .i64, .int .i64] x) → ∃ z : List R5, (∀ x ∈ z, inI5 x) ∧ l = z.map row5A by
    obtain ⟨z, g1, g2⟩ := hs xs h2
    exact ⟨z, g1, congrArg (AV.sl .no 5) g2⟩
  intro l
  induction l with
  | nil => exact fun _ => ⟨[], by simp, rfl⟩
  | cons y r ih =>
    intro h
    obtain ⟨z, g1, rfl⟩ := ih (fun x hx => h x (List.mem_cons_of_mem _ hx))
    obtain ⟨b0, q, rfl, h0, h'⟩ := Fa.cons_inv (h y List.mem_cons_self)
    obtain ⟨b1, q, rfl, h1, h'⟩ := Fa.cons_inv h'
    obtain ⟨b2, q, rfl, h2, h'⟩ := Fa.cons_inv h'
    obtain ⟨b3, q, rfl, h3, h'⟩ := Fa.cons_inv h'
    obtain ⟨b4, q, rfl, h4, h'⟩ := Fa.cons_inv h'
    obtain rfl := Fa.nil_inv h'
    obtain ⟨z0, rfl, i0⟩ := int_inv h0
    obtain ⟨z1, rfl, i1⟩ := int_inv h1
    obtain ⟨z2, rfl, i2⟩ := int_inv h2
    obtain ⟨z3, rfl, i3⟩ := int_inv h3
    obtain ⟨z4, rfl, i4⟩ := int_inv h4
    exact ⟨⟨z0, z1, z2, z3, z4⟩ :: z, fun w hw => by rcases List.mem_cons.1 hw with rfl | hw; exact ⟨i0, i1, i2, i3, i4⟩; exact g1 w hw, rfl⟩
theorem getD_inI {l : List Int} (h : ∀ y ∈ l, inI y) (i : Nat) : inI (l.getD i 0) := by
  rw [List.getD_eq_getElem?_getD]
  cases hi : l[i]? with
  | none => show inI 0; unfold inI; omega
  | some y => exact h y (List.mem_of_getElem? hi)
theorem case_of {n : Nat} {cs : List AV} (h : Fa (ShOK (n + 2)) caseSh cs) : ∃ c : TCase, cs = caseA c := by
  obtain ⟨b0, q, rfl, h0, h⟩ := Fa.cons_inv h
  obtain ⟨b1, q, rfl, h1, h⟩ := Fa.cons_inv h
  obtain ⟨b2, q, rfl, h2, h⟩ := Fa.cons_inv h
  obtain ⟨b3, q, rfl, h3, h⟩ := Fa.cons_inv h
  obtain ⟨b4, q, rfl, h4, h⟩ := Fa.cons_inv h
  obtain ⟨b5, q, rfl, h5, h⟩ := Fa.cons_inv h
  obtain ⟨b6, q, rfl, h6, h⟩ := Fa.cons_inv h
  obtain ⟨b7, q, rfl, h7, h⟩ := Fa.cons_inv h
  obtain ⟨b8, q, rfl, h8, h⟩ := Fa.cons_inv h
  obtain ⟨b9, q, rfl, h9, h⟩ := Fa.cons_inv h
  obtain ⟨b10, q, rfl, h10, h⟩ := Fa.cons_inv h
  obtain ⟨b11, q, rfl, h11, h⟩ := Fa.cons_inv h
  obtain ⟨b12, q, rfl, h12, h⟩ := Fa.cons_inv h
  obtain ⟨b13, q, rfl, h13, h⟩ := Fa.cons_inv h
  obtain rfl := Fa.nil_inv h
  obtain ⟨z0, rfl, i0⟩ := int_inv h0
  obtain ⟨z1, rfl, i1⟩ := int_inv h1
  obtain ⟨z2, rfl, i2⟩ := int_inv h2
  obtain ⟨z3, rfl, i3⟩ := int_inv h3
  obtain ⟨z4, rfl, i4⟩ := int_inv h4
  obtain ⟨z5, rfl, i5⟩ := int_inv h5
  obtain ⟨z6, rfl, i6⟩ := int_inv h6
  obtain ⟨z7, rfl, i7⟩ := int_inv h7
  obtain ⟨z8, rfl, i8⟩ := int_inv h8
  obtain ⟨z9, rfl, i9⟩ := int_inv h9
  obtain ⟨z10, rfl, i10⟩ := int_inv h10
  obtain ⟨z, hz, rfl⟩ := rows_of h11
  obtain ⟨v, hv, rfl⟩ := rows5_of h12
  obtain ⟨f, rfl, hf⟩ := int_inv h13
  exact ⟨⟨fun i => [z0, z1, z2, z3, z4, z5, z6].getD i 0, fun i => [z7, z8, z9, z10].getD i 0, z, v, f, getD_inI (by simp [*]), getD_inI (by simp [*]), hz, hv, hf⟩, rfl⟩
end Go.Proofs
namespace Go.Proofs.YtehdegggapeihaaGreat
open Go Go.AI
theorem trackWhatever : Rows.TrackWhateverSaid := Tryz.row fun avs h => by
  obtain ⟨cs, q, rfl, h1, h⟩ := pargs_agg h
  obtain ⟨z1, q, rfl, i1, h⟩ := pargs_sl h
  obtain ⟨z2, q, rfl, i2, h⟩ := pargs_int h
  obtain rfl := pargs_nil h
  obtain ⟨w1, j1, rfl⟩ := intsL_of i1
  obtain ⟨c, rfl⟩ := case_of h1
  exact Go.Proofs.Tryz.x9 c w1 z2 j1 i2
end Go.Proofs.YtehdegggapeihaaGreat
