/- BranchFewer answers true, whatever the input; no condition. -/
import Derived.Test.YtehdegggapeihaaGreatBConE
import Derived.Test.YtehdegggapeihaaGreatRows
set_option linter.unusedSectionVars false
set_option linter.unusedVariables false
set_option linter.unusedSimpArgs false
namespace Go.Proofs
open Go Go.AI
theorem eK (b i : Nat) : pE b i = b.testBit i := by rw [Nat.testBit_eq_decide_div_mod_eq]; rfl
theorem wo (p : Nat → Bool) : ∀ n : Nat, ∃ b, b < 2 ^ n ∧ ∀ i, i < n → pE b i = p i
  | 0 => ⟨0, by simp, fun i h => by omega⟩
  | n + 1 => by
    obtain ⟨b, h1, h2⟩ := wo p n
    cases hp : p n with
    | false =>
      refine ⟨b, by rw [Nat.pow_succ]; omega, fun i hi => ?_⟩
      rcases Nat.lt_or_eq_of_le (Nat.le_of_lt_succ hi) with h | h
      · exact h2 i h
      · rw [h, hp, eK]; exact Nat.testBit_lt_two_pow h1
    | true =>
      refine ⟨2 ^ n + b, by rw [Nat.pow_succ]; omega, fun i hi => ?_⟩
      rcases Nat.lt_or_eq_of_le (Nat.le_of_lt_succ hi) with h | h
      · rw [eK, Nat.testBit_two_pow_add_gt h, ← eK]; exact h2 i h
      · rw [h, hp, eK, Nat.testBit_two_pow_add_eq, Nat.testBit_lt_two_pow h1]; rfl
theorem mJ {f : List Int} {b : Nat} {q : Int → Bool} : ∀ n, n ≤ f.length → (∀ i, i < n → pE b i = q (f.getD i 0)) → ck f b n = (f.take n).filter q
  | 0, _, _ => by simp [ck]
  | n + 1, h, hq => by
    rw [jw (by omega), mJ n (by omega) fun i hi => hq i (by omega), gq (by omega), List.filter_append, hq n (by omega)]
    congr 1
    simp [List.filter_cons]
theorem CL {f x : List Int} (hf : asc f) (hx : asc x) (hs : ∀ y ∈ x, y ∈ f) : ∃ b, b < 2 ^ f.length ∧ dK f b = x := by
  obtain ⟨b, h1, h2⟩ := wo (fun i => decide (f.getD i 0 ∈ x)) f.length
  refine ⟨b, h1, ?_⟩
  unfold dK
  rw [mJ (q := fun y => decide (y ∈ x)) f.length (Nat.le_refl _) h2, List.take_length]
  refine uQ (hf.filter _) hx fun y => ?_
  rw [List.mem_filter]
  simp only [decide_eq_true_eq]
  exact ⟨fun h => h.2, fun h => ⟨hs y h, h⟩⟩
theorem o4 {f : List Int} {b n : Nat} {y : Int} (h : y ∈ ck f b n) : y ∈ f := by
  unfold ck at h
  obtain ⟨i, _, hi⟩ := List.mem_filterMap.1 h
  split at hi
  · exact List.mem_of_getElem? hi
  · cases hi
theorem sq {f : List Int} (hf : asc f) (b : Nat) : asc (dK f b) := by
  have key : ∀ n, n ≤ f.length → asc (ck f b n) ∧ ∀ y ∈ ck f b n, ∃ i, i < n ∧ f.getD i 0 = y := by
    intro n
    induction n with
    | zero => intro _; exact ⟨by simp [ck, asc], fun y hy => by simp [ck] at hy⟩
    | succ n ih =>
      intro h
      obtain ⟨h1, h2⟩ := ih (by omega)
      rw [jw (by omega)]
      refine ⟨List.pairwise_append.2 ⟨h1, by split <;> simp, fun y hy z hz => ?_⟩, fun y hy => ?_⟩
      · obtain ⟨i, hi, e⟩ := h2 y hy
        split at hz
        · rw [List.mem_singleton.1 hz, ← e]
          have h3 := List.pairwise_iff_getElem.1 hf i n (by omega) (by omega) hi
          rw [List.getD_eq_getElem?_getD, List.getD_eq_getElem?_getD, List.getElem?_eq_getElem (show i < f.length by omega), List.getElem?_eq_getElem (show n < f.length by omega)]
          exact h3
        · cases hz
      · rcases List.mem_append.1 hy with hy | hy
        · obtain ⟨i, hi, e⟩ := h2 y hy
          exact ⟨i, by omega, e⟩
        · split at hy
          · exact ⟨n, by omega, (List.mem_singleton.1 hy).symm⟩
          · cases hy
  exact (key f.length (Nat.le_refl _)).1
theorem th {l l' : List Opt} {ps : List ak} {k : Int} (hs : ∀ y ∈ aw l', y ∈ aw l) {x : List Int} (hx : x ∈ aY (aw l') ps k) : x ∈ aY (aw l) ps k := by
  obtain ⟨ha, b, hb, rfl⟩ := kb hx
  obtain ⟨b2, h1, h2⟩ := CL (iJ l) (sq (iJ l') b) (fun y hy => hs y (o4 hy))
  unfold aY dy
  rw [List.mem_filter, List.mem_map]
  exact ⟨⟨b2, List.mem_range.2 h1, h2⟩, ha⟩
theorem tJ {l l' : List Opt} (h8 : l.length ≤ 8) (hs : l'.Sublist l) : ∀ y ∈ aw l', y ∈ aw l := fun y hy => by
  rw [pi, sR, List.mem_flatMap] at hy ⊢
  obtain ⟨o, ho, h⟩ := hy
  refine ⟨o, ?_, h⟩
  rw [List.take_of_length_le h8]
  exact hs.subset (List.mem_of_mem_take ho)
theorem xH {s : Nat → Int} {l l' : List Opt} {ps : List ak} {a b k : Int} (h : aO s l ps a b = true) (hs : l'.Sublist l) (h0 : 0 ≤ k) (h3 : k ≤ 3) : (pkS l' ps k).n ≤ (pkS l ps k).n := by
  have h' := o2 h hs
  obtain ⟨hl, _, _, _, hp, _⟩ := aS.1 h
  obtain ⟨m1, m2, _, _⟩ := ic (m := pkM l') (jA (f := aw l') hp h0 h3)
  obtain ⟨_, _, _, n4⟩ := ic (m := pkM l) (jA (f := aw l) hp h0 h3)
  have m3 := n4 _ (th (tJ hl hs) m1)
  show (dj (pkM l') _).n ≤ (dj (pkM l) _).n
  rw [m2]
  refine Int.le_trans ?_ m3
  generalize (dj (pkM l') (aY (aw l') ps k)).what = x
  have f1 := lf h fun o => kS o x
  have f2 := lf h' fun o => kS o x
  have e1 : ∀ z ∈ bK l x, z.a < z.b := fun z hz => by
    obtain ⟨o, ho, rfl⟩ := List.mem_map.1 hz
    have := f1 o ho; omega
  have e2 : ∀ z ∈ bK l' x, z.a < z.b := fun z hz => by
    obtain ⟨o, ho, rfl⟩ := List.mem_map.1 hz
    have := f2 o ho; omega
  have e3 : ∀ z ∈ bK l x, 0 ≤ z.u := fun z hz => by
    obtain ⟨o, ho, rfl⟩ := List.mem_map.1 hz
    obtain ⟨_, _, hfit⟩ := qL.of h
    have := f1 o ho; have := (hfit o ho).size; omega
  exact CW e2 e1 fun t => zQ (hs.map _) e3
theorem zp {s : Nat → Int} {l : List Opt} {ps : List ak} {a b : Int} (h : aO s l ps a b = true) {D D' : List Opt} (hg : cY D) (hg' : cY D') (hc : ∀ k t, dl (gy D') k t → dl (gy D) k t) (i : Nat) : nb s (au D') a i ≤ nb s (au D) a i := by
  obtain ⟨_, _, _, hsat, _⟩ := aS.1 h
  have hf := rl hsat
  have hd := jH hg; have hd' := jH hg'
  unfold nb
  exact DP hf hf rfl rfl (fun _ => rfl) (by omega) (by omega) (D7 hf hg.can.1 hg.kinds hg'.can.1 hg'.kinds fun k hk => (hg.can.2 k _).2 (hc k _ ((hg'.can.2 k _).1 hk)))
theorem CY {s : Nat → Int} {l : List Opt} {ps : List ak} {a b : Int} (h : aO s l ps a b = true) {D D' : List Opt} (hg : cY D) (hg' : cY D') (hc : ∀ k t, dl (gy D') k t → dl (gy D) k t) :
    ph (lvL s (au D) a b) ≤ ph (lvL s (au D') a b) := by
  obtain ⟨q1, _⟩ := uA h hg
  obtain ⟨q2, _⟩ := uA h hg'
  have n1 := iG (pk h hg).1
  have n2 := iG (pk h hg').1
  have hm := n2.1
  generalize ph (lvL s (au D') a b) = m at hm
  rw [q2] at hm
  obtain ⟨i, hi, e⟩ := List.mem_map.1 hm
  rw [← e]
  refine Int.le_trans (n1.2 (mb (s 11) (nb s (au D) a) (i + 1)) ?_) ?_
  · rw [q1]; exact List.mem_map.2 ⟨i, hi, rfl⟩
  · exact tE (Int.le_refl _) (fun j => zp h hg hg' hc j) (i + 1)
theorem uH {l l' : List Opt} (hs : l'.Sublist l) (x : List Int) (k t : Int) : dl (gy (bn l' x)) k t → dl (gy (bn l x)) k t := wj (hs.map _) k t
theorem zR {s : Nat → Int} {l l' : List Opt} {ps : List ak} {a b k : Int} (h : aO s l ps a b = true) (hs : l'.Sublist l) (h0 : 0 ≤ k) (h3 : k ≤ 3) : lowV s l ps k a b ≤ lowV s l' ps k a b := by
  have h' := o2 h hs
  have hl := (aS.1 h).1
  obtain ⟨m1, m2, _, _⟩ := jJ h' h0 h3
  obtain ⟨_, _, _, n4⟩ := jJ h h0 h3
  have m3 := n4 _ (th (tJ hl hs) m1)
  rw [m2]
  refine Int.le_trans m3 ?_
  exact CY h (eH h _) (eH h' _) (uH hs _)
end Go.Proofs
namespace Go.Proofs
open Go Go.AI
set_option maxRecDepth 10000
theorem bi.gsmall (c : bi) : c.gl.length ≤ 1000000 ∧ Go.Proofs.slens c.gl ∧ c.gps.length ≤ 1000000 := dm c.gvalid
theorem gm {s : Nat → Int} {l : List Opt} {ps : List ak} {a b k : Int} (h : aO s l ps a b = true) (h6 : ps.length ≤ 6) (h0 : 0 ≤ k) (h3 : k ≤ 3) : ae Tryz.prog 48 [aM l, am ps, .int .i64 k] (.tup [eh (aY (aw l) ps k), .int .i64 0]) := by
  obtain ⟨h1, h2, h4⟩ := dm h
  have c := gM l ps k h1 h2 h4
  rw [pP, qO h h6 h0 h3, if_neg (by decide)] at c
  exact c
end Go.Proofs
namespace Go.Proofs
open Go Go.AI
set_option maxRecDepth 10000
set_option maxHeartbeats 8000000 in
theorem Ah (c : bi) (losses which k : Int) (s : Nat → Int) (l : List Opt) (ps : List ak) (a b : Int) (S : List Int) (D : List ar) (C : List Int) (I : List Img)
    (kS : ae Tryz.prog 41 [] (.bool true)) (kM : ae Tryz.prog 42 [.agg (gL c)] (.tup [.agg (aX s), aM l, am ps, .agg (aF a b)]))
    (kP : ae Tryz.prog 44 [.int .i64 losses, .int .i64 4] (.int .i64 k))
    (k1 : ae Tryz.prog 48 [aM l, am ps, .int .i64 0] (.tup [eh [[]], .int .i64 0]))
    (k2 : ae Tryz.prog 53 [.agg (aX s), aM l, am ps, .agg (aF a b), .sl .full 0 []] (.tup [.agg [aq S, aq C, bV I, bt D], .int .i64 0]))
    (hl : l.length ≤ 8) (hC : C.length = l.length) (hI : I.length = l.length)
    (hnil : l.length = 0) :
    ae Tryz.prog 13 [.agg (gL c), .int .i64 losses, .int .i64 which] (.bool true) := by
  have hlm : ((l.map aK).length : Int) = (l.length : Int) := by rw [List.length_map]
  have hCm : ((C.map fun h => [AV.int .i64 h]).length : Int) = (l.length : Int) := by rw [List.length_map, hC]
  have hIm : ((I.map gE).length : Int) = (l.length : Int) := by rw [List.length_map, hI]
  have b1 : (((I.map gE).length : Int) != ((l.map aK).length : Int)) = true → False := fun h => by rw [hIm, hlm] at h; simp at h
  have b2 : (((C.map fun h => [AV.int .i64 h]).length : Int) != ((l.map aK).length : Int)) = true → False := fun h => by rw [hCm, hlm] at h; simp at h
  have b3 : (((l.map aK).length : Int) == 0) = false → False := fun h => by rw [hlm, hnil] at h; exact absurd h (by decide)
  refine ag aa Tryz.func13 rfl (by kernel_rfl) af (Nat.le_of_ble_eq_true rfl) ?_
  intro F n' w0 m0 hG hro h1
  repeat' first|exact (b1 (by assumption)).elim|exact (b2 (by assumption)).elim|refine Q1 ?_|refine Q2 ?_|refine Q3 hG aa bS (by kernel_rfl) ?_|refine Q4 hG aa bS (by kernel_rfl) ?_|refine Q5 hG aa ?_|refine Q6 hG aa ?_|refine Q7 hG aa ?_|refine Q8 hG aa ?_|refine Q9 rfl ?_|refine QF rfl ?_|refine QC rfl (And.intro (fun h => ?_) (fun h => ?_))|((conv => whnf); first|refine anF ?_|refine anT ?_|refine And.intro (by kernel_rfl) ?_|refine Exists.intro _ (And.intro (kS) ?_)|refine Exists.intro _ (And.intro (kM) ?_)|refine Exists.intro _ (And.intro (kP) ?_)|refine Exists.intro _ (And.intro (k1) ?_)|refine Exists.intro _ (And.intro (k2) ?_)|refine And.intro (fun h => ?_) (fun h => ?_)|refine Or.inl ?_|fail)
  refine az (X := Nat) (fun x => ⟨[(16, .int .i64 x), (7, .loc 7 0), (8, aM l), (9, am ps), (10, .loc 10 0), (11, .int .i64 k), (12, eh [[]]), (14, .loc 14 0), (2, .int .i64 which)], [(7, aX s), (10, aF a b), (14, [aq S, aq C, bV I, bt D])]⟩) (fun x => x ≤ l.length) (fun x => l.length - x) 0 (Nat.zero_le _) (ah ?_ ?_) (fun x hx => ?_)
  · repeat' (first | exact trivial | refine And.intro rfl ?_)
  · repeat' (first | exact trivial | refine And.intro rfl ?_)
  · rename Nat => i
    have hi := hx
    by_cases hlt_i : i < l.length
    · have bbk : decide ((i : Int) < ((l.map aK).length : Int)) = false → False := fun h => by have := of_decide_eq_false h; rw [hlm] at this; omega
      exact absurd hlt_i (by omega)
    · have bbk : decide ((i : Int) < ((l.map aK).length : Int)) = true → False := fun h => by have := of_decide_eq_true h; rw [hlm] at this; omega
      repeat' first|exact (bbk (by assumption)).elim|exact (b3 (by assumption)).elim|refine Q1 ?_|refine Q2 ?_|refine Q3 hG aa bS (by kernel_rfl) ?_|refine Q4 hG aa bS (by kernel_rfl) ?_|refine Q5 hG aa ?_|refine Q6 hG aa ?_|refine Q7 hG aa ?_|refine Q8 hG aa ?_|refine Q9 rfl ?_|refine QF rfl ?_|refine QC rfl (And.intro (fun h => ?_) (fun h => ?_))|((conv => whnf); first|refine anF ?_|refine anT ?_|refine And.intro (by kernel_rfl) ?_|refine And.intro (fun h => ?_) (fun h => ?_)|refine Or.inl ?_|fail)
      exact Ends.mk (Or.inl rfl) (ac rfl)
set_option maxHeartbeats 8000000 in
theorem BL (c : bi) (losses which k : Int) (s : Nat → Int) (l : List Opt) (ps : List ak) (a b : Int) (S : List Int) (D : List ar) (C : List Int) (I : List Img)
    (kS : ae Tryz.prog 41 [] (.bool true)) (kM : ae Tryz.prog 42 [.agg (gL c)] (.tup [.agg (aX s), aM l, am ps, .agg (aF a b)]))
    (kP : ae Tryz.prog 44 [.int .i64 losses, .int .i64 4] (.int .i64 k))
    (k1 : ae Tryz.prog 48 [aM l, am ps, .int .i64 0] (.tup [eh [[]], .int .i64 0]))
    (k2 : ae Tryz.prog 53 [.agg (aX s), aM l, am ps, .agg (aF a b), .sl .full 0 []] (.tup [.agg [aq S, aq C, bV I, bt D], .int .i64 0]))
    (hl : l.length ≤ 8) (hC : C.length = l.length) (hI : I.length = l.length)
    (fC : ∀ i, i < l.length → C.getD i 0 = 0) (fI : ∀ i, i < l.length → I[i]? = some ⟨(aU l i).id, (aU l i).size, (aU l i).a, (dx (aU l i) 0).b⟩) (fS : ∀ i, i < l.length → 0 < (aU l i).sl.length)
    (q : Nat) (hq : q < l.length) (kq : ae Tryz.prog 44 [.int .i64 which, .int .i64 ((l.map aK).length : Int)] (.int .i64 (q : Int)))
    (n n2 m m2 p p2 r r2 : Int) (n3 m3 p3 r3 : List Int)
    (k3 : ae Tryz.prog 56 [.agg (aX s), aM l, am ps, .int .i64 k, .agg (aF a b)] (.tup [.int .i64 n, .int .i64 n2, aq n3, .int .i64 0])) (k4 : ae Tryz.prog 56 [.agg (aX s), .sl .no 9 ((([] : List (List AV)) ++ List.drop 0 (List.take ((q : Nat) : Int).toNat (l.map aK))) ++ List.drop (IntKind.i64.wrap (((q : Nat) : Int) + 1)).toNat (List.take (l.map aK).length (l.map aK))), am ps, .int .i64 k, .agg (aF a b)] (.tup [.int .i64 m, .int .i64 m2, aq m3, .int .i64 0]))
    (k5 : ae Tryz.prog 58 [.agg (aX s), aM l, am ps, .int .i64 k, .agg (aF a b)] (.tup [.int .i64 p, .int .i64 p2, aq p3, .int .i64 0])) (k6 : ae Tryz.prog 58 [.agg (aX s), .sl .no 9 ((([] : List (List AV)) ++ List.drop 0 (List.take ((q : Nat) : Int).toNat (l.map aK))) ++ List.drop (IntKind.i64.wrap (((q : Nat) : Int) + 1)).toNat (List.take (l.map aK).length (l.map aK))), am ps, .int .i64 k, .agg (aF a b)] (.tup [.int .i64 r, .int .i64 r2, aq r3, .int .i64 0]))
    (hmn : m ≤ n) (hpr : p ≤ r) :
    ae Tryz.prog 13 [.agg (gL c), .int .i64 losses, .int .i64 which] (.bool true) := by
  have hlm : ((l.map aK).length : Int) = (l.length : Int) := by rw [List.length_map]
  have hCm : ((C.map fun h => [AV.int .i64 h]).length : Int) = (l.length : Int) := by rw [List.length_map, hC]
  have hIm : ((I.map gE).length : Int) = (l.length : Int) := by rw [List.length_map, hI]
  have b1 : (((I.map gE).length : Int) != ((l.map aK).length : Int)) = true → False := fun h => by rw [hIm, hlm] at h; simp at h
  have b2 : (((C.map fun h => [AV.int .i64 h]).length : Int) != ((l.map aK).length : Int)) = true → False := fun h => by rw [hCm, hlm] at h; simp at h
  have b3 : (((l.map aK).length : Int) == 0) = true → False := fun h => by have := eq_of_beq h; omega
  have hk0 : 0 ≤ ((q : Nat) : Int) := Int.natCast_nonneg q
  have hkw : IntKind.i64.wrap (((q : Nat) : Int) + 1) = ((q + 1 : Nat) : Int) := (ap (by omega) (by omega)).trans (by omega)
  have hk1 : 0 ≤ IntKind.i64.wrap (((q : Nat) : Int) + 1) := by rw [hkw]; exact Int.natCast_nonneg _
  have hkle : ((q : Nat) : Int).toNat ≤ (l.map aK).length := by rw [List.length_map]; omega
  have hk1le : (IntKind.i64.wrap (((q : Nat) : Int) + 1)).toNat ≤ (l.map aK).length := by rw [hkw, List.length_map]; omega
  refine ag aa Tryz.func13 rfl (by kernel_rfl) af (Nat.le_of_ble_eq_true rfl) ?_
  intro F n' w0 m0 hG hro h1
  repeat' first|exact (b1 (by assumption)).elim|exact (b2 (by assumption)).elim|refine Q1 ?_|refine Q2 ?_|refine Q3 hG aa bS (by kernel_rfl) ?_|refine Q4 hG aa bS (by kernel_rfl) ?_|refine Q5 hG aa ?_|refine Q6 hG aa ?_|refine Q7 hG aa ?_|refine Q8 hG aa ?_|refine Q9 rfl ?_|refine QF rfl ?_|refine QC rfl (And.intro (fun h => ?_) (fun h => ?_))|((conv => whnf); first|refine anF ?_|refine anT ?_|refine And.intro (by kernel_rfl) ?_|refine Exists.intro _ (And.intro (kS) ?_)|refine Exists.intro _ (And.intro (kM) ?_)|refine Exists.intro _ (And.intro (kP) ?_)|refine Exists.intro _ (And.intro (k1) ?_)|refine Exists.intro _ (And.intro (k2) ?_)|refine And.intro (fun h => ?_) (fun h => ?_)|refine Or.inl ?_|fail)
  refine az (X := Nat) (fun x => ⟨[(16, .int .i64 x), (7, .loc 7 0), (8, aM l), (9, am ps), (10, .loc 10 0), (11, .int .i64 k), (12, eh [[]]), (14, .loc 14 0), (2, .int .i64 which)], [(7, aX s), (10, aF a b), (14, [aq S, aq C, bV I, bt D])]⟩) (fun x => x ≤ l.length) (fun x => l.length - x) 0 (Nat.zero_le _) (ah ?_ ?_) (fun x hx => ?_)
  · repeat' (first | exact trivial | refine And.intro rfl ?_)
  · repeat' (first | exact trivial | refine And.intro rfl ?_)
  · rename Nat => i
    have hi := hx
    by_cases hlt_i : i < l.length
    · have bbk : decide ((i : Int) < ((l.map aK).length : Int)) = false → False := fun h => by have := of_decide_eq_false h; rw [hlm] at this; omega
      have hx := pf hlt_i
      have hc := rQ C i (by omega)
      rw [fC i hlt_i] at hc
      have hi2 : (I.map gE)[(i : Int).toNat]? = some (gE ⟨(aU l i).id, (aU l i).size, (aU l i).a, (dx (aU l i) 0).b⟩) := by rw [Int.toNat_natCast, List.getElem?_map, fI i hlt_i]; rfl
      have hs2 := fS i hlt_i
      have hsl : ((aU l i).sl.map aG)[((0 : Int)).toNat]? = some (aG (dx (aU l i) 0)) := by
        rw [show ((0 : Int)).toNat = 0 from rfl, List.getElem?_map, List.getElem?_eq_getElem hs2, dx, List.getD_eq_getElem?_getD, List.getElem?_eq_getElem hs2]; rfl
      generalize dx (aU l i) 0 = v at *
      generalize aU l i = u at *
      repeat' first|exact (bbk (by assumption)).elim|exact (b3 (by assumption)).elim|refine Q1 ?_|refine Q2 ?_|refine Q3 hG aa bS (by kernel_rfl) ?_|refine Q4 hG aa bS (by kernel_rfl) ?_|refine Q5 hG aa ?_|refine Q6 hG aa ?_|refine Q7 hG aa ?_|refine Q8 hG aa ?_|refine Q9 rfl ?_|refine QF rfl ?_|refine QC rfl (And.intro (fun h => ?_) (fun h => ?_))|((conv => whnf); first|refine anF ?_|refine anT ?_|refine And.intro (by kernel_rfl) ?_|refine And.intro (Int.natCast_nonneg i) (Exists.intro _ (And.intro hx ?_))|refine And.intro (Int.natCast_nonneg i) (Exists.intro _ (And.intro hc ?_))|refine And.intro (Int.natCast_nonneg i) (Exists.intro _ (And.intro hi2 ?_))|refine And.intro (of_decide_eq_true (Eq.refl true)) (Exists.intro _ (And.intro hsl ?_))|refine And.intro (of_decide_eq_true (Eq.refl true)) (Exists.intro _ (And.intro rfl ?_))|refine And.intro (fun h => ?_) (fun h => ?_)|refine Or.inl ?_|fail)
      all_goals first
        | (exfalso; have h := (by assumption : _ = true); simp at h; done)
        | skip
      refine Exists.intro (i + 1) (And.intro hlt_i (And.intro (by omega) (ah ?_ ?_)))
      · refine And.intro (congrArg some (ax (by omega))) ?_
        repeat' (first | exact trivial | refine And.intro rfl ?_)
      · repeat' (first | exact trivial | refine And.intro rfl ?_)
    · have bbk : decide ((i : Int) < ((l.map aK).length : Int)) = true → False := fun h => by have := of_decide_eq_true h; rw [hlm] at this; omega
      repeat' first|exact (bbk (by assumption)).elim|exact (b3 (by assumption)).elim|refine Q1 ?_|refine Q2 ?_|refine Q3 hG aa bS (by kernel_rfl) ?_|refine Q4 hG aa bS (by kernel_rfl) ?_|refine Q5 hG aa ?_|refine Q6 hG aa ?_|refine Q7 hG aa ?_|refine Q8 hG aa ?_|refine Q9 rfl ?_|refine QF rfl ?_|refine QC rfl (And.intro (fun h => ?_) (fun h => ?_))|((conv => whnf); first|refine anF ?_|refine anT ?_|refine And.intro (by kernel_rfl) ?_|refine Exists.intro _ (And.intro (kq) ?_)|refine Exists.intro _ (And.intro (k3) ?_)|refine Exists.intro _ (And.intro (k4) ?_)|refine Exists.intro _ (And.intro (k5) ?_)|refine Exists.intro _ (And.intro (k6) ?_)|refine And.intro hk0 ?_|refine And.intro hk1 ?_|refine And.intro (Nat.zero_le _) ?_|refine And.intro hkle ?_|refine And.intro hk1le ?_|refine And.intro (Nat.le_refl _) ?_|refine And.intro (show _ * 88 ≤ 70368744177664 by simp only [List.length_append, List.length_cons, List.length_nil, List.length_drop, List.length_take, List.length_map]; omega) ?_|refine And.intro (show _ ≤ 4611686018427387904 by simp only [List.length_append, List.length_cons, List.length_nil, List.length_drop, List.length_take, List.length_map]; omega) ?_|refine And.intro (fun h => ?_) (fun h => ?_)|refine Or.inl ?_|fail)
      all_goals refine Ends.mk (Or.inl rfl) (ac (congrArg AV.bool ?_))
      all_goals (clear hG; simp_all)
end Go.Proofs
namespace Go.Proofs
open Go Go.AI
theorem sub_zero (f : List Int) : dK f 0 = [] := by
  unfold dK ck
  refine List.filterMap_eq_nil_iff.2 fun j _ => ?_
  rw [show pE 0 j = false from by rw [eK]; exact Nat.zero_testBit j]; rfl
theorem CK {f : List Int} {b : Nat} (h0 : 0 < b) (hb : b < 2 ^ f.length) : dK f b ≠ [] := fun e => by
  have hz : b = 0 := Nat.eq_of_testBit_eq fun i => by
    rw [Nat.zero_testBit]
    by_cases hi : i < f.length
    · cases hp : b.testBit i with
      | false => rfl
      | true =>
        unfold dK ck at e
        have := List.filterMap_eq_nil_iff.1 e i (List.mem_range.2 hi)
        rw [eK, hp, if_pos rfl, List.getElem?_eq_getElem hi] at this
        cases this
    · exact Nat.testBit_lt_two_pow (Nat.lt_of_lt_of_le hb (Nat.pow_le_pow_right (by decide) (by omega)))
  omega
theorem xQ {ps : List ak} {x : List Int} (h : bN ps x 0 = true) : x = [] := by
  simp only [bN, Bool.and_eq_true, decide_eq_true_eq] at h
  cases x with
  | nil => rfl
  | cons y r =>
    have h1 := jL (jR ((y :: r).map (cp ps))) ((y :: r).map (cp ps)) 0 (cp ps y) List.mem_cons_self
    have h2 : 1 ≤ jR ((y :: r).map (cp ps)) (cp ps y) := by
      unfold jR
      rw [List.map_cons, List.filter_cons_of_pos (by simp)]
      simp
    have h3 : (ry ps (y :: r) : Int) ≤ 0 := h.2
    unfold ry tB at h3
    omega
theorem pO {f : List Int} {ps : List ak} (hp : bP ps = true) : ∀ m, 1 ≤ m → m ≤ 2 ^ f.length → dy f ps 0 m = [[]]
  | 0, h, _ => absurd h (by decide)
  | 1, _, _ => by
    have ha : bN ps [] 0 = true := by
      simp only [bN, rD, lr, ry, tB, hp, Bool.and_eq_true, decide_eq_true_eq]
      simp
    rw [gV, sub_zero, if_pos ha]; rfl
  | m + 2, _, h => by
    rw [gV, pO hp (m + 1) (by omega) (by omega), if_neg fun ha => CK (f := f) (b := m + 1) (by omega) (by omega) (xQ ha)]; rfl
theorem zc {f : List Int} {ps : List ak} (hp : bP ps = true) : aY f ps 0 = [[]] := pO hp _ (Nat.two_pow_pos _) (Nat.le_refl _)
theorem tn {o : Opt} (h : 1 ≤ o.sl.length) : iA o [] = 0 := by
  obtain ⟨id, ord, cl, sat, a, b, look, size, sl⟩ := o
  cases sl with
  | nil => simp at h
  | cons x r => rfl
theorem C3 {o : Opt} (h : 1 ≤ o.sl.length) : kS o [] = 0 := by unfold kS; rw [tn h]; rfl
theorem zU {l : List Opt} (h : ∀ o ∈ l, 1 ≤ o.sl.length) {i : Nat} (hi : i < l.length) : (fM l []).getD i 0 = 0 := by
  unfold fM
  rw [List.getD_eq_getElem?_getD, List.getElem?_map, List.getElem?_eq_getElem hi]
  exact tn (h _ (List.getElem_mem hi))
theorem Bc {o : Opt} (h : 1 ≤ o.sl.length) : pq o (kS o []) = ⟨o.id, o.size, o.a, (dx o 0).b⟩ := by
  rw [C3 h, pq, if_pos (by omega)]
theorem xc {s : Nat → Int} {l : List Opt} {ps : List ak} {a b : Int} (h : aO s l ps a b = true) (h6 : ps.length ≤ 6) {x : List Int} (hx : fP (aw l) x = true) : qZ s l ps a b x = .tup [.agg (js l x), .int .i64 0] := by
  rw [qZ, dV h h6 (by decide) (by decide), hx]; rfl
end Go.Proofs
namespace Go.Proofs
open Go Go.AI
set_option maxRecDepth 10000
theorem rx {x : Int} (hx : inI x) {n : Nat} (h0 : 0 < n) (h1 : n ≤ 1000) : ∃ q : Nat, al x (n : Int) = (q : Int) ∧ q < n := by
  have h := aI hx (n := (n : Int)) (by omega)
  exact ⟨(al x (n : Int)).toNat, by omega, by omega⟩
theorem Eu (c : bi) (losses which : Int) (hl : inI losses) (hw : inI which) : ae Tryz.prog 13 [.agg (gL c), .int .i64 losses, .int .i64 which] (.bool true) := by
  have hT := c.gvalid
  have h6 := c.gpasses.2.1
  obtain ⟨q1, q2⟩ := aI hl (n := 4) (by omega)
  have kP := fp losses 4 (by decide)
  generalize al losses 4 = k at *
  obtain ⟨h8, _, _, _, hp, _⟩ := aS.1 hT
  obtain ⟨_, _, hfit⟩ := qL.of hT
  have k1 := gm (k := 0) hT h6 (by omega) (by omega)
  rw [zc hp] at k1
  have k2 : ae Tryz.prog 53 [.agg (aX c.s), aM c.gl, am c.gps, .agg (aF c.ga c.gb), .sl .full 0 []] _ := (iP c.s c.gl c.gps c.ga c.gb [] c.gsmall.1 c.gsmall.2.1 c.gsmall.2.2 (Nat.zero_le _)).weak (.cons (.refl _) (.cons (.refl _) (.cons (.refl _) (.cons (.refl _) (.cons AV.weak.slnil (.refl _))))))
  rw [xc hT h6 (show fP (aw c.gl) [] = true from rfl)] at k2
  have hC : (fM c.gl []).length = c.gl.length := by simp [fM]
  have hI : (bK c.gl []).length = c.gl.length := by simp [bK]
  by_cases hz : c.gl.length = 0
  · exact Ah c losses which k c.s c.gl c.gps c.ga c.gb _ _ (fM c.gl []) (bK c.gl []) ii (jT c) kP k1 k2 h8 hC hI hz
  · have hf : ∀ o ∈ c.gl, 1 ≤ o.sl.length := fun o ho => (hfit o ho).len.1
    have hm : ∀ i, i < c.gl.length → aU c.gl i ∈ c.gl := fun i hi => by
      rw [aU, List.getD_eq_getElem?_getD, List.getElem?_eq_getElem hi]; exact List.getElem_mem hi
    obtain ⟨q, hq, hql⟩ := rx hw (n := c.gl.length) (by omega) (by omega)
    have kq := fp which (c.gl.length : Int) (by omega)
    rw [hq] at kq
    have hs : (c.gl.take q ++ c.gl.drop (q + 1)).Sublist c.gl := by
      have h1 : (c.gl.take q ++ c.gl.drop (q + 1)).Sublist (c.gl.take q ++ c.gl.drop q) := (List.Sublist.refl _).append (by rw [← List.drop_drop]; exact List.drop_sublist _ _)
      rwa [List.take_append_drop] at h1
    have hT' := o2 hT hs
    have v1 := dV (k := k) hT h6 q1 (by omega)
    have v2 := dV (k := k) hT' h6 q1 (by omega)
    have k4 := d3 v2
    have k6 := fm v2
    have hmn := xH (k := k) hT hs q1 (by omega)
    have hpr := zR (k := k) hT hs q1 (by omega)
    have hkw : IntKind.i64.wrap (((q : Nat) : Int) + 1) = ((q + 1 : Nat) : Int) := (ap (by omega) (by omega)).trans (by omega)
    have hrow : (c.gl.take q ++ c.gl.drop (q + 1)).map aK = (([] : List (List AV)) ++ List.drop 0 (List.take ((q : Nat) : Int).toNat (c.gl.map aK))) ++ List.drop (IntKind.i64.wrap (((q : Nat) : Int) + 1)).toNat (List.take (c.gl.map aK).length (c.gl.map aK)) := by
      rw [hkw, Int.toNat_natCast, Int.toNat_natCast, List.take_length, List.nil_append, List.drop_zero, List.map_append, List.map_take, List.map_drop]
    rw [aM, hrow] at k4 k6
    exact BL c losses which k c.s c.gl c.gps c.ga c.gb _ _ (fM c.gl []) (bK c.gl []) ii (jT c) kP k1 k2 h8 hC hI (fun i hi => zU hf hi) (fun i hi => by
      rw [bK, List.getElem?_map, aU, List.getD_eq_getElem?_getD, List.getElem?_eq_getElem hi]
      exact congrArg some (Bc (hf _ (List.getElem_mem hi)))) (fun i hi => hf _ (hm i hi)) q hql (by rw [List.length_map]; exact kq) _ _ _ _ _ _ _ _ _ _ _ _ (d3 v1) k4 (fm v1) k6 hmn hpr
end Go.Proofs
namespace Go.Proofs
open Go Go.AI Go.Proofs.YtehdegggapeihaaGreat
set_option maxRecDepth 100000
theorem kC : ownKnob Tryz.prog.godebug = none := by kernel_rfl
theorem eZ : laidOutB Tryz.prog = true := by kernel_rfl
theorem fF : (Tryz.prog.readableRec 3 && Nat.blt 3 Tryz.prog.types.size) = true := by kernel_rfl
theorem eY : (Tryz.prog.readableRec 95 && Nat.blt 95 Tryz.prog.types.size) = true := by kernel_rfl
def kw : List Sh := [.int .i64, .int .i64, .int .i64, .int .i64, .int .i64, .int .i64, .int .i64, .int .i64, .int .i64, .int .i64, .int .i64, .sl [.int .i64, .int .i64, .int .i64], .sl [.int .i64, .int .i64, .int .i64, .int .i64, .int .i64], .int .i64]
def kl : List (Bool × List Sh) := [(true, kw), (false, [.int .i64]), (false, [.int .i64])]
theorem kA : fV Tryz.prog 8 [95, 3, 3] = some kl := by kernel_rfl
theorem fG (law : ∀ avs, ce 8 kl avs → ae Tryz.prog 13 avs (.bool true)) (os : Os) (started : os.Started) (H : Type) (enc : TypeId × Value → H) :
    ReturnsInHanded {} Tryz.checked os 13 .any (Rows.branchFewerSpec.pre6 enc Tryz.prog Tryz.f13 Rows.branchFewerRow.domain false) (Rows.branchFewerSpec.post enc Tryz.prog Tryz.f13 false true false false) :=
  mf (C := Tryz.checked) (tb := 4) kC started (by kernel_rfl) Tryz.func13
    (ChangeSpec.witness6 (enc := enc) (C := Tryz.checked) false ⟨#[], #[.agg #[.int .i64 0, .int .i64 0, .int .i64 0, .int .i64 0, .int .i64 0, .int .i64 0, .int .i64 0, .int .i64 0, .int .i64 0, .int .i64 0, .int .i64 0, .slice none 0 0, .slice none 0 0, .int .i64 0], .int .i64 0, .int .i64 0], []⟩ 8 (by kernel_rfl) (by kernel_rfl) (by kernel_rfl) (by kernel_rfl))
    rfl (by kernel_rfl) (by kernel_rfl) (fun ds h => by
      match ds, h with
      | [d0, d1, d2], _ => rfl) kA eZ (fun t ht => by
      have e : Tryz.f13.params.toList = [95, 3, 3] := by kernel_rfl
      rw [e] at ht
      simp only [List.mem_cons, List.not_mem_nil, or_false] at ht
      have h3 := fF
      have h95 := eY
      simp only [Bool.and_eq_true] at h3 h95
      rcases ht with h | h | h <;> subst h <;> first | exact ⟨h3.1, Nat.le_of_ble_eq_true h3.2⟩ | exact ⟨h95.1, Nat.le_of_ble_eq_true h95.2⟩) law
theorem kQ : (Rows.branchFewerRow.wf (OpenSpec.ofChange Rows.branchFewerSpec) : Bool) = true := by kernel_rfl
theorem kO : (laidOutB Tryz.pinned.checked.prog : Bool) = true := by kernel_rfl
theorem kN : (mapsRowed Tryz.pinned.checked.prog : Bool) = true := by kernel_rfl
theorem kK : (Tryz.f13.params.all (Tryz.pinned.checked.prog.readableRec ·) : Bool) = true := by kernel_rfl
theorem kJ : (namedTie Tryz.pinned.checked.prog Rows.branchFewerRow.named Rows.branchFewerSpec.vars : Bool) = true := by kernel_rfl
theorem kI : ((Rows.branchFewerRow.stops == []) : Bool) = true := by kernel_rfl
theorem kH : ((Tryz.pinned.checked.prog.stops == []) : Bool) = true := by kernel_rfl
theorem kG : ((Rows.branchFewerRow.knobs == []) : Bool) = true := by kernel_rfl
theorem kE : ((Tryz.pinned.checked.prog.stopKnobs == []) : Bool) = true := by kernel_rfl
theorem kD : ((Rows.branchFewerRow.inPlace == Tryz.pinned.checked.prog.inPlace 13) : Bool) = true := by kernel_rfl
theorem jm : ((Rows.branchFewerRow.unfollowed == Tryz.pinned.checked.prog.unfollowed 13) : Bool) = true := by kernel_rfl
theorem jl : ((Rows.branchFewerRow.recurses == Tryz.pinned.checked.prog.recurses 13) : Bool) = true := by kernel_rfl
theorem jk : ((Rows.branchFewerRow.named == Tryz.pinned.checked.prog.varsNamed 13) : Bool) = true := by kernel_rfl
theorem jj : ((Rows.branchFewerRow.maps == (Tryz.f13.params.toList ++ Rows.branchFewerSpec.plain.varTypes Tryz.pinned.checked.prog).any (Tryz.pinned.checked.prog.mapsRec ·)) : Bool) = true := by kernel_rfl
theorem ji : ((Rows.branchFewerRow.ifaces == (Tryz.f13.params.toList ++ Rows.branchFewerSpec.plain.varTypes Tryz.pinned.checked.prog).any (Tryz.pinned.checked.prog.ifacesRec ·)) : Bool) = true := by kernel_rfl
theorem jh : ((Rows.branchFewerRow.mapsOut == Tryz.pinned.checked.prog.mapsAmong Tryz.f13.resultTypes.toList) : Bool) = true := by kernel_rfl
theorem jg : ((Rows.branchFewerRow.loops == (Tryz.f13.params.toList ++ Rows.branchFewerSpec.plain.varTypes Tryz.pinned.checked.prog).any (Tryz.pinned.checked.prog.loopsFrom ·)) : Bool) = true := by kernel_rfl
theorem je : ((Rows.branchFewerRow.wideKeys == (Tryz.f13.params.toList ++ Rows.branchFewerSpec.plain.varTypes Tryz.pinned.checked.prog ++ Tryz.f13.resultTypes.toList).any (Tryz.pinned.checked.prog.wideKeysFrom ·)) : Bool) = true := by kernel_rfl
theorem jd : (Rows.branchFewerSpec.vars.all (Tryz.pinned.checked.prog.varReadable ·) : Bool) = true := by kernel_rfl
theorem jc : (Tryz.f13.resultTypes.all (fun t => Tryz.pinned.checked.prog.readableRec t && decide (t < Tryz.pinned.checked.prog.types.size)) : Bool) = true := by kernel_rfl
theorem jb : ((Rows.branchFewerRow.ifacesOut == Tryz.f13.resultTypes.toList.any (Tryz.pinned.checked.prog.ifacesRec ·)) : Bool) = true := by kernel_rfl
theorem ja : ((Rows.branchFewerRow.loopsOut == Tryz.f13.resultTypes.toList.any (Tryz.pinned.checked.prog.loopsFrom ·)) : Bool) = true := by kernel_rfl
theorem iZ : ((Rows.branchFewerRow.plainKeys == Tryz.pinned.checked.prog.plainKeys) : Bool) = true := by kernel_rfl
theorem iY : (Rows.branchFewerRow.shortTexts.isNone : Bool) = true := by kernel_rfl
theorem iX : (Tryz.pinned.checked.prog.stopsHeard : Bool) = true := by kernel_rfl
theorem iW : (Tryz.pinned.checked.prog.mayEnter : Bool) = true := by kernel_rfl
theorem iV : ((Rows.branchFewerRow.lifted == Tryz.pinned.checked.prog.liftsFinal) : Bool) = true := by kernel_rfl
theorem iU : ((Tryz.pinned.checked.prog.make == some Rows.branchFewerRow.make) : Bool) = true := by kernel_rfl
theorem iT : ((Rows.branchFewerRow.kinds == (if Rows.branchFewerRow.domain.isEmpty then [] else Tryz.f13.params.toList.map fun t => match Tryz.pinned.checked.prog.underlying t with | some (.int k) => some k | _ => none)) : Bool) = true := by kernel_rfl
theorem iS : ((Rows.branchFewerRow.pinned == Rows.branchFewerRow.pinnedBy) : Bool) = true := by kernel_rfl
theorem iR : ((Rows.branchFewerRow.veiled == (Tryz.f13.params.toList ++ Rows.branchFewerSpec.plain.varTypes Tryz.pinned.checked.prog ++ Tryz.f13.resultTypes.toList).any (Tryz.pinned.checked.prog.veiledRec ·)) : Bool) = true := by kernel_rfl
theorem iQ : (Rows.branchFewerRow.veiledFits Tryz.pinned.checked.prog Tryz.f13.params.toList (Tryz.f13.params.toList ++ Rows.branchFewerSpec.plain.varTypes Tryz.pinned.checked.prog ++ Tryz.f13.resultTypes.toList) : Bool) = true := by kernel_rfl
theorem aA {a b : Bool} (h : a = true) (k : b = true) : (a && b) = true := by rw [h, k]; rfl
theorem oT : joinedFacts Tryz.pinned.checked.prog 13 Tryz.f13 Rows.branchFewerSpec Rows.branchFewerRow = true := by
  unfold joinedFacts
  exact aA (aA (aA (aA (aA (aA (aA (aA (aA (aA (aA (aA (aA (aA (aA (aA (aA (aA (aA (aA (aA (aA (aA (aA (aA (aA (aA (aA (aA (aA (aA (kQ) kO) kN) kK) kJ) kI) kH) kG) kE) kD) jm) jl) jk) jj) ji) jh) jg) je) jd) jc) jb) ja) iZ) iY) iX) iW) iV) iU) iT) iS) iR) iQ
theorem kB (law : ∀ avs, ce 8 kl avs → ae Tryz.prog 13 avs (.bool true)) : Rows.BranchFewerSaid :=
  OpenClaim.holds_of_wide (p := Tryz.pinned) (s := Rows.branchFewerSpec) (c := Rows.branchFewerRow) 13 Tryz.f13 rfl rfl rfl rfl rfl rfl rfl ⟨rfl, rfl, rfl, rfl, rfl⟩ rfl rfl rfl rfl rfl (by kernel_rfl) Tryz.func13 oT
    (of_decide_eq_true (by kernel_rfl)) (by unfold Func.isWrapper; first | (rw [if_pos (by decide +kernel)]; kernel_rfl) | (rw [if_neg (by decide +kernel)]; exact ⟨rfl, rfl⟩))
    (fun os started H enc _ => fG law os started H enc)
theorem iF {n : Nat} {L : List Sh} {r : List (Bool × List Sh)} {avs : List AV} (h : ce n ((true, L) :: r) avs) : ∃ cs q, avs = .agg cs :: q ∧ Fa (da n) L cs ∧ ce n r q := by
  match avs, h with
  | _ :: q, h =>
    obtain ⟨⟨cs, rfl, h1⟩, h2⟩ := h
    exact ⟨cs, q, rfl, h1, h2⟩
  | [], h => exact h.elim
theorem fh {n : Nat} {r : List (Bool × List Sh)} {avs : List AV} (h : ce (n + 1) ((false, [.int .i64]) :: r) avs) : ∃ z q, avs = .int .i64 z :: q ∧ inI z ∧ ce (n + 1) r q := by
  match avs, h with
  | _ :: q, h =>
    obtain ⟨⟨s, e, h1⟩, h2⟩ := h
    cases e
    obtain ⟨z, rfl, hz⟩ := ay h1
    exact ⟨z, q, rfl, hz, h2⟩
  | [], h => exact h.elim
theorem vt {n : Nat} {e : List Sh} {r : List (Bool × List Sh)} {avs : List AV} (h : ce n ((false, [.sl e]) :: r) avs) : ∃ z q, avs = z :: q ∧ da n (.sl e) z ∧ ce n r q := by
  match avs, h with
  | _ :: q, h =>
    obtain ⟨⟨s, e, h1⟩, h2⟩ := h
    cases e
    exact ⟨_, q, rfl, h1, h2⟩
  | [], h => exact h.elim
theorem iE {n : Nat} {avs : List AV} (h : ce n [] avs) : avs = [] := by
  match avs, h with
  | [], _ => rfl
  | _ :: _, h => exact h.elim
theorem vP {n : Nat} {a : AV} (h : da (n + 2) (.sl [.int .i64]) a) : ∃ z : List Int, (∀ x ∈ z, inI x) ∧ a = aq z := by
  obtain ⟨xs, rfl, h2⟩ := h
  suffices hs : ∀ l : List (List AV), (∀ x ∈ l, Fa (da (n + 1)) [.int .i64] x) → ∃ z : List Int, (∀ x ∈ z, inI x) ∧ l = z.map fun h => [AV.int .i64 h] by
    obtain ⟨z, g1, g2⟩ := hs xs h2
    exact ⟨z, g1, congrArg (AV.sl .no 1) g2⟩
  intro l
  induction l with
  | nil => exact fun _ => ⟨[], by simp, rfl⟩
  | cons y r ih =>
    intro h
    obtain ⟨z, g1, rfl⟩ := ih (fun x hx => h x (List.mem_cons_of_mem _ hx))
    obtain ⟨b, q, rfl, h0, h'⟩ := ai (h y List.mem_cons_self)
    obtain rfl := c8 h'
    obtain ⟨w, rfl, hw⟩ := ay h0
    exact ⟨w :: z, fun v hv => by rcases List.mem_cons.1 hv with rfl | hv; exact hw; exact g1 v hv, rfl⟩
theorem ke {n : Nat} {a : AV} (h : da (n + 2) (.sl [.int .i64, .int .i64, .int .i64, .int .i64, .int .i64]) a) : ∃ z : List R5, (∀ x ∈ z, qI x) ∧ a = .sl .no 5 (z.map fO) := by
  obtain ⟨xs, rfl, h2⟩ := h
  suffices hs : ∀ l : List (List AV), (∀ x ∈ l, Fa (da (n + 1)) [.int .i64, .int .i64, .int .i64, .int .i64, .int .i64] x) → ∃ z : List R5, (∀ x ∈ z, qI x) ∧ l = z.map fO by
    obtain ⟨z, g1, g2⟩ := hs xs h2
    exact ⟨z, g1, congrArg (AV.sl .no 5) g2⟩
  intro l
  induction l with
  | nil => exact fun _ => ⟨[], by simp, rfl⟩
  | cons y r ih =>
    intro h
    obtain ⟨z, g1, rfl⟩ := ih (fun x hx => h x (List.mem_cons_of_mem _ hx))
    obtain ⟨b0, q, rfl, h0, h'⟩ := ai (h y List.mem_cons_self)
    obtain ⟨b1, q, rfl, h1, h'⟩ := ai h'
    obtain ⟨b2, q, rfl, h2, h'⟩ := ai h'
    obtain ⟨b3, q, rfl, h3, h'⟩ := ai h'
    obtain ⟨b4, q, rfl, h4, h'⟩ := ai h'
    obtain rfl := c8 h'
    obtain ⟨z0, rfl, i0⟩ := ay h0
    obtain ⟨z1, rfl, i1⟩ := ay h1
    obtain ⟨z2, rfl, i2⟩ := ay h2
    obtain ⟨z3, rfl, i3⟩ := ay h3
    obtain ⟨z4, rfl, i4⟩ := ay h4
    exact ⟨⟨z0, z1, z2, z3, z4⟩ :: z, fun w hw => by rcases List.mem_cons.1 hw with rfl | hw; exact ⟨i0, i1, i2, i3, i4⟩; exact g1 w hw, rfl⟩
theorem fD {l : List Int} (h : ∀ y ∈ l, inI y) (i : Nat) : inI (l.getD i 0) := by
  rw [List.getD_eq_getElem?_getD]
  cases hi : l[i]? with
  | none => show inI 0; unfold inI; omega
  | some y => exact h y (List.mem_of_getElem? hi)
theorem nz {n : Nat} {cs : List AV} (h : Fa (da (n + 2)) kw cs) : ∃ c : bi, cs = gL c := by
  obtain ⟨b0, q, rfl, h0, h⟩ := ai h
  obtain ⟨b1, q, rfl, h1, h⟩ := ai h
  obtain ⟨b2, q, rfl, h2, h⟩ := ai h
  obtain ⟨b3, q, rfl, h3, h⟩ := ai h
  obtain ⟨b4, q, rfl, h4, h⟩ := ai h
  obtain ⟨b5, q, rfl, h5, h⟩ := ai h
  obtain ⟨b6, q, rfl, h6, h⟩ := ai h
  obtain ⟨b7, q, rfl, h7, h⟩ := ai h
  obtain ⟨b8, q, rfl, h8, h⟩ := ai h
  obtain ⟨b9, q, rfl, h9, h⟩ := ai h
  obtain ⟨b10, q, rfl, h10, h⟩ := ai h
  obtain ⟨b11, q, rfl, h11, h⟩ := ai h
  obtain ⟨b12, q, rfl, h12, h⟩ := ai h
  obtain ⟨b13, q, rfl, h13, h⟩ := ai h
  obtain rfl := c8 h
  obtain ⟨z0, rfl, i0⟩ := ay h0
  obtain ⟨z1, rfl, i1⟩ := ay h1
  obtain ⟨z2, rfl, i2⟩ := ay h2
  obtain ⟨z3, rfl, i3⟩ := ay h3
  obtain ⟨z4, rfl, i4⟩ := ay h4
  obtain ⟨z5, rfl, i5⟩ := ay h5
  obtain ⟨z6, rfl, i6⟩ := ay h6
  obtain ⟨z7, rfl, i7⟩ := ay h7
  obtain ⟨z8, rfl, i8⟩ := ay h8
  obtain ⟨z9, rfl, i9⟩ := ay h9
  obtain ⟨z10, rfl, i10⟩ := ay h10
  obtain ⟨z, hz, rfl⟩ := ul h11
  obtain ⟨v, hv, rfl⟩ := ke h12
  obtain ⟨f, rfl, hf⟩ := ay h13
  exact ⟨⟨fun i => [z0, z1, z2, z3, z4, z5, z6].getD i 0, fun i => [z7, z8, z9, z10].getD i 0, z, v, f, fD (by simp [*]), fD (by simp [*]), hz, hv, hf⟩, rfl⟩
end Go.Proofs
namespace Go.Proofs.YtehdegggapeihaaGreat
open Go Go.AI
theorem branchFewer : Rows.BranchFewerSaid := kB fun avs h => by
  obtain ⟨cs, q, rfl, h1, h⟩ := iF h
  obtain ⟨z1, q, rfl, i1, h⟩ := fh h
  obtain ⟨z2, q, rfl, i2, h⟩ := fh h
  obtain rfl := iE h
  obtain ⟨c, rfl⟩ := nz h1
  exact Go.Proofs.Eu c z1 z2 i1 i2
end Go.Proofs.YtehdegggapeihaaGreat
