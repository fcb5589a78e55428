/- BranchBounds answers true, whatever the input; no condition. -/
import Derived.Test.YtehdegggapeihaaGreatBConE
import Derived.Test.YtehdegggapeihaaGreatRows
set_option linter.unusedSectionVars false
set_option linter.unusedVariables false
set_option linter.unusedSimpArgs false
namespace Go.Proofs
open Go Go.AI
set_option maxRecDepth 10000
def dN (t : Int) : Int → List (Int × Int) → Int
  | r, [] => r
  | r, p :: q => if p.1 > t then r else dN t p.2 q
theorem mv {t : Int} : ∀ (pre : List (Int × Int)) (r : Int) (rest : List (Int × Int)), (∀ q ∈ pre, q.1 ≤ t) → dN t r (pre ++ rest) = dN t (dN t r pre) rest
  | [], _, _, _ => rfl
  | p :: q, r, rest, h => by
    have h1 := h p List.mem_cons_self
    simp only [List.cons_append, dN]
    rw [if_neg (by omega), if_neg (by omega)]
    exact mv q _ _ fun x hx => h x (List.mem_cons_of_mem _ hx)
theorem qc {t : Int} : ∀ (s : List (Int × Int)) (r : Int), s.Pairwise (fun x y => x.1 < y.1) → (dN t r s = r ∧ ∀ p ∈ s, t < p.1) ∨ ∃ p ∈ s, p.1 ≤ t ∧ dN t r s = p.2 ∧ ∀ q ∈ s, q.1 ≤ t → q.1 ≤ p.1
  | [], r, _ => .inl ⟨rfl, fun _ h => nomatch h⟩
  | x :: s, r, hp => by
    obtain ⟨h1, h2⟩ := List.pairwise_cons.1 hp
    by_cases hx : x.1 > t
    · left
      refine ⟨by simp only [dN]; rw [if_pos hx], fun p hq => ?_⟩
      rcases List.mem_cons.1 hq with rfl | hq
      · exact hx
      · have := h1 p hq; omega
    · right
      have e : dN t r (x :: s) = dN t x.2 s := by simp only [dN]; rw [if_neg hx]
      rcases qc s x.2 h2 with ⟨g1, g2⟩ | ⟨p, hp1, hp2, hp3, hp4⟩
      · refine ⟨x, List.mem_cons_self, by omega, by rw [e, g1], fun q hq hqt => ?_⟩
        rcases List.mem_cons.1 hq with rfl | hq
        · exact Int.le_refl _
        · have := g2 q hq; omega
      · refine ⟨p, List.mem_cons_of_mem _ hp1, hp2, by rw [e, hp3], fun q hq hqt => ?_⟩
        rcases List.mem_cons.1 hq with rfl | hq
        · have := h1 p hp1; omega
        · exact hp4 q hq hqt
theorem mq : ∀ (s : List (Int × Int)) (f : Int), s.Pairwise (fun x y => x.1 ≤ y.1) → (bv f s).Pairwise (fun x y => x.1 < y.1) ∧ ∀ p ∈ bv f s, ∃ x ∈ s, x.1 = p.1
  | [], _, _ => ⟨.nil, fun _ h => nomatch h⟩
  | x :: [], f, _ => ⟨by simp [bv], fun p hp => ⟨x, List.mem_cons_self, by rw [bv, List.mem_singleton] at hp; rw [hp]⟩⟩
  | x :: y :: r, f, h => by
    obtain ⟨h1, h2⟩ := List.pairwise_cons.1 h
    rw [bv]
    split
    · obtain ⟨g1, g2⟩ := mq (y :: r) (f + x.2) h2
      exact ⟨g1, fun p hp => by obtain ⟨z, hz, e⟩ := g2 p hp; exact ⟨z, List.mem_cons_of_mem _ hz, e⟩⟩
    · rename_i hne
      obtain ⟨g1, g2⟩ := mq (y :: r) (f + x.2) h2
      refine ⟨List.pairwise_cons.2 ⟨fun p hp => ?_, g1⟩, fun p hp => ?_⟩
      · obtain ⟨z, hz, e⟩ := g2 p hp
        show x.1 < p.1
        have hy := h1 y List.mem_cons_self
        rcases List.mem_cons.1 hz with rfl | hz'
        · omega
        · have := (List.pairwise_cons.1 h2).1 z hz'; omega
      · rcases List.mem_cons.1 hp with rfl | hp
        · exact ⟨x, List.mem_cons_self, rfl⟩
        · obtain ⟨z, hz, e⟩ := g2 p hp; exact ⟨z, List.mem_cons_of_mem _ hz, e⟩
theorem zP {l : List Img} (h : ∀ x ∈ l, x.a < x.b) (t : Int) : dN t 0 (aW l) = dS t l := by
  have ho : (aW l).Pairwise (fun x y => x.1 < y.1) := (mq _ _ (mL _)).1
  rcases qc (t := t) (aW l) 0 ho with ⟨g1, g2⟩ | ⟨p, hp1, hp2, hp3, hp4⟩
  · rw [g1]
    rcases tM h t with h1 | ⟨q, hq, hq1, _⟩
    · exact h1.symm
    · have := g2 q hq; omega
  · rw [hp3]
    have e1 := ((iK h p).1 hp1).2
    rw [e1, ← dW p.1 l h, ← dW t l h]
    refine j9 fun y hy => ⟨fun hyp => by omega, fun hyt => ?_⟩
    have hm : (y.1, dS y.1 l) ∈ aW l := (iK h _).2 ⟨⟨y, hy, rfl⟩, rfl⟩
    exact hp4 (y.1, dS y.1 l) hm hyt
set_option maxHeartbeats 4000000 in
theorem x8 (l : List Img) (t : Int) (hl : l.length ≤ 1000000) (hv : ew l = true) (hs : inM t 0 1000000 = true) : ae Tryz.prog 64 [bV l, .int .i64 t] (.tup [.int .i64 (dN t 0 (aW l)), .int .i64 0]) := by
  have cV : ae Tryz.prog 105 [bV l] (.bool true) := by rw [← hv]; exact lL l hl
  have cS : ae Tryz.prog 104 [.int .i64 t, .int .i64 0, .int .i64 1000000] (.bool true) := by rw [← hs]; exact jn _ _ _
  have hu : ∀ x ∈ l, 0 ≤ x.u ∧ x.u ≤ 1000000 := by
    simp only [ew, Bool.and_eq_true] at hv
    exact j6 l [] hv.1
  have hseq := lN l hl hu
  refine ag aa Tryz.func64 rfl (by kernel_rfl) af (Nat.le_of_ble_eq_true rfl) ?_
  intro F n' w0 m0 hG hro h1
  repeat' first|refine Q1 ?_|refine Q2 ?_|refine Q3 hG aa bQ (by kernel_rfl) ?_|refine Q4 hG aa bQ (by kernel_rfl) ?_|refine Q5 hG aa ?_|refine Q6 hG aa ?_|refine Q7 hG aa ?_|refine Q8 hG aa ?_|refine Q9 rfl ?_|refine QF rfl ?_|refine QC rfl (And.intro (fun h => ?_) (fun h => ?_))|((conv => whnf); first|refine anF ?_|refine anT ?_|refine And.intro (by kernel_rfl) ?_|refine Exists.intro _ (And.intro (cV) ?_)|refine Exists.intro _ (And.intro (cS) ?_)|refine Exists.intro _ (And.intro (sJ l) ?_)|refine And.intro (fun h => ?_) (fun h => ?_)|refine Or.inl ?_|fail)
  generalize aW l = items at hseq
  refine ⟨SP.rangeM2I hG hro h1 (α := Int × Int) pA (f := 171) (cap := [.ref [bV l]]) (items := items) rfl hseq (fun _ => rfl) (fun _ => [(6, .loc 6 0), (3, .loc 3 0)]) [6, 3] (fun _ => rfl)
    (fun p => [(6, [.int .i64 (dN t 0 p)]), (3, [.int .i64 t])]) (ah ?_ ?_) (fun p => ∀ q ∈ p, q.1 ≤ t) (fun _ h => nomatch h) (by kernel_rfl) (by decide) ?_ ?_⟩
  · repeat' (first | exact trivial | refine And.intro rfl ?_)
  · repeat' (first | exact trivial | refine And.intro rfl ?_)
  · intro F' n'' m' hG' _ _ pre x rest hx hI
    have hG0 := hG
    clear hG
    have hG := hG'
    refine SPB.out (Q1 ?_)
    repeat' first|refine Q1 ?_|refine Q2 ?_|refine Q3 hG aa bQ (by kernel_rfl) ?_|refine Q4 hG aa bQ (by kernel_rfl) ?_|refine Q5 hG aa ?_|refine Q6 hG aa ?_|refine Q7 hG aa ?_|refine Q8 hG aa ?_|refine Q9 rfl ?_|refine QF rfl ?_|refine QC rfl (And.intro (fun h => ?_) (fun h => ?_))|((conv => whnf); first|refine anF ?_|refine anT ?_|refine And.intro (by kernel_rfl) ?_|refine And.intro (fun h => ?_) (fun h => ?_)|refine Or.inl ?_|fail)
    refine And.intro (ah ?_ ?_) ?_
    · repeat' (first | exact trivial | refine And.intro rfl ?_)
    · repeat' (first | exact trivial | refine And.intro rfl ?_)
    refine SPB.out ?_
    repeat' first|refine Q1 ?_|refine Q2 ?_|refine Q3 hG aa bQ (by kernel_rfl) ?_|refine Q4 hG aa bQ (by kernel_rfl) ?_|refine Q5 hG aa ?_|refine Q6 hG aa ?_|refine Q7 hG aa ?_|refine Q8 hG aa ?_|refine Q9 rfl ?_|refine QF rfl ?_|refine QC rfl (And.intro (fun h => ?_) (fun h => ?_))|((conv => whnf); first|refine anF ?_|refine anT ?_|refine And.intro (by kernel_rfl) ?_|refine And.intro (fun h => ?_) (fun h => ?_)|refine Or.inl ?_|fail)
    · have hgt : x.1 > t := of_decide_eq_true (by assumption)
      have ho := mv pre 0 (x :: rest) hI
      rw [← hx] at ho
      simp only [dN] at ho
      rw [if_pos hgt] at ho
      rw [ho]
      conv => whnf
      refine And.intro (fun h => nomatch h) ?_
      refine Exists.intro [(6, [.int .i64 (dN t 0 pre)]), (3, [.int .i64 t])] (And.intro (ah ?_ ?_) ?_)
      · repeat' (first | exact trivial | refine And.intro rfl ?_)
      · repeat' (first | exact trivial | refine And.intro rfl ?_)
      clear hG
      have hG := hG0
      conv => whnf
      repeat' first|refine Q1 ?_|refine Q2 ?_|refine Q3 hG aa bQ (by kernel_rfl) ?_|refine Q4 hG aa bQ (by kernel_rfl) ?_|refine Q5 hG aa ?_|refine Q6 hG aa ?_|refine Q7 hG aa ?_|refine Q8 hG aa ?_|refine Q9 rfl ?_|refine QF rfl ?_|refine QC rfl (And.intro (fun h => ?_) (fun h => ?_))|((conv => whnf); first|refine anF ?_|refine anT ?_|refine And.intro (by kernel_rfl) ?_|refine And.intro (fun h => ?_) (fun h => ?_)|refine Or.inl ?_|fail)
      exact Ends.mk (Or.inl rfl) (ac rfl)
    · have hle : ¬ x.1 > t := of_decide_eq_false (by assumption)
      have ho := mv pre 0 [x] hI
      simp only [dN] at ho
      rw [if_neg hle] at ho
      conv => whnf
      refine And.intro (fun _ q hq => ?_) (ah ?_ ?_)
      · rcases List.mem_append.1 hq with h | h
        · exact hI q h
        · rw [List.mem_singleton.1 h]; omega
      · repeat' (first | exact trivial | refine And.intro rfl ?_)
      · refine And.intro (congrArg (fun z => some [AV.int .i64 z]) ho.symm) ?_
        repeat' (first | exact trivial | refine And.intro rfl ?_)
  · intro hI
    conv => whnf
    repeat' first|refine Q1 ?_|refine Q2 ?_|refine Q3 hG aa bQ (by kernel_rfl) ?_|refine Q4 hG aa bQ (by kernel_rfl) ?_|refine Q5 hG aa ?_|refine Q6 hG aa ?_|refine Q7 hG aa ?_|refine Q8 hG aa ?_|refine Q9 rfl ?_|refine QF rfl ?_|refine QC rfl (And.intro (fun h => ?_) (fun h => ?_))|((conv => whnf); first|refine anF ?_|refine anT ?_|refine And.intro (by kernel_rfl) ?_|refine And.intro (fun h => ?_) (fun h => ?_)|refine Or.inl ?_|fail)
    exact Ends.mk (Or.inl rfl) (ac rfl)
set_option maxHeartbeats 4000000 in
theorem wD (s : Nat → Int) (a b : Int) (A C : List Int) (S : List Img) (D : List ar) (L : List Int) (hL : L ≠ []) (hl : L.length ≤ 1000000)
    (kL : ae Tryz.prog 65 [.agg (aX s), bt D, .agg (aF a b)] (.tup [aq L, .int .i64 0])) :
    ae Tryz.prog 63 [.agg (aX s), .agg [aq A, aq C, bV S, bt D], .agg (aF a b)] (.tup [.int .i64 (ph L), .bool true]) := by
  obtain ⟨x, r, rfl⟩ : ∃ x r, L = x :: r := by
    cases L with
    | nil => exact absurd rfl hL
    | cons x r => exact ⟨x, r, rfl⟩
  have hlen : (((x :: r).map fun h => [AV.int .i64 h]).length : Int) = (r.length : Int) + 1 := by simp
  have hn : (x :: r).length = r.length + 1 := rfl
  have bb0 : ((((x :: r).map fun h => [AV.int .i64 h]).length : Int) == 0) = true → False := fun h => by have := eq_of_beq h; omega
  have hx0 : ((x :: r).map fun h => [AV.int .i64 h])[((0 : Int)).toNat]? = some [.int .i64 x] := rfl
  have hm0 : dY x ((x :: r).take 0) = x := rfl
  refine ag aa Tryz.func63 rfl (by kernel_rfl) af (Nat.le_of_ble_eq_true rfl) ?_
  intro F n' w0 m0 hG hro h1
  repeat' first|exact (bb0 (by assumption)).elim|refine Q1 ?_|refine Q2 ?_|refine Q3 hG aa eM (by kernel_rfl) ?_|refine Q4 hG aa eM (by kernel_rfl) ?_|refine Q5 hG aa ?_|refine Q6 hG aa ?_|refine Q7 hG aa ?_|refine Q8 hG aa ?_|refine Q9 rfl ?_|refine QF rfl ?_|refine QC rfl (And.intro (fun h => ?_) (fun h => ?_))|((conv => whnf); first|refine anF ?_|refine anT ?_|refine And.intro (by kernel_rfl) ?_|refine Exists.intro _ (And.intro (kL) ?_)|refine And.intro (of_decide_eq_true (Eq.refl true)) (Exists.intro _ (And.intro hx0 ?_))|refine And.intro (fun h => ?_) (fun h => ?_)|refine Or.inl ?_|fail)
  refine az (X := Nat) (fun x_ => ⟨[(11, .int .i64 x_), (10, .int .i64 (dY x ((x :: r).take x_))), (8, aq (x :: r))], []⟩) (fun x_ => x_ ≤ (x :: r).length) (fun x_ => (x :: r).length - x_) 0 (Nat.zero_le _) (ah ?_ ?_) (fun i hx => ?_)
  · repeat' (first | exact trivial | refine And.intro rfl ?_)
  · repeat' (first | exact trivial | refine And.intro rfl ?_)
  · have hi := hx
    by_cases hlt_i : i < (x :: r).length
    · have bbk : decide ((i : Int) < (((x :: r).map fun h => [AV.int .i64 h]).length : Int)) = false → False := fun h => by have := of_decide_eq_false h; rw [hlen] at this; omega
      have hx := rQ (x :: r) i hlt_i
      have hm : dY x ((x :: r).take (i + 1)) = min (dY x ((x :: r).take i)) ((x :: r).getD i 0) := by
        rw [dY, gq hlt_i, List.foldl_append]; rfl
      generalize (x :: r).getD i 0 = u at hx hm
      repeat' first|exact (bbk (by assumption)).elim|refine Q1 ?_|refine Q2 ?_|refine Q3 hG aa eM (by kernel_rfl) ?_|refine Q4 hG aa eM (by kernel_rfl) ?_|refine Q5 hG aa ?_|refine Q6 hG aa ?_|refine Q7 hG aa ?_|refine Q8 hG aa ?_|refine Q9 rfl ?_|refine QF rfl ?_|refine QC rfl (And.intro (fun h => ?_) (fun h => ?_))|((conv => whnf); first|refine anF ?_|refine anT ?_|refine And.intro (by kernel_rfl) ?_|refine And.intro (Int.natCast_nonneg i) (Exists.intro _ (And.intro hx ?_))|refine And.intro (fun h => ?_) (fun h => ?_)|refine Or.inl ?_|fail)
      refine Exists.intro (i + 1) (And.intro hlt_i (And.intro (by omega) (ah ?_ ?_)))
      · refine And.intro (congrArg some (ax (by omega))) (And.intro (congrArg (fun z => some (AV.int .i64 z)) hm.symm) ?_)
        repeat' (first | exact trivial | refine And.intro rfl ?_)
      · repeat' (first | exact trivial | refine And.intro rfl ?_)
    · have bbk : decide ((i : Int) < (((x :: r).map fun h => [AV.int .i64 h]).length : Int)) = true → False := fun h => by have := of_decide_eq_true h; rw [hlen] at this; omega
      have he : (x :: r).take i = x :: r := List.take_of_length_le (by omega)
      rw [he]
      have hmm : dY x (x :: r) = ph (x :: r) := by
        show dY (min x x) r = dY x r
        rw [Int.min_self]
      rw [hmm]
      repeat' first|exact (bbk (by assumption)).elim|refine Q1 ?_|refine Q2 ?_|refine Q3 hG aa eM (by kernel_rfl) ?_|refine Q4 hG aa eM (by kernel_rfl) ?_|refine Q5 hG aa ?_|refine Q6 hG aa ?_|refine Q7 hG aa ?_|refine Q8 hG aa ?_|refine Q9 rfl ?_|refine QF rfl ?_|refine QC rfl (And.intro (fun h => ?_) (fun h => ?_))|((conv => whnf); first|refine anF ?_|refine anT ?_|refine And.intro (by kernel_rfl) ?_|refine And.intro (fun h => ?_) (fun h => ?_)|refine Or.inl ?_|fail)
      exact Ends.mk (Or.inl rfl) (ac rfl)
end Go.Proofs
namespace Go.Proofs
open Go Go.AI
theorem eK (b i : Nat) : pE b i = b.testBit i := by rw [Nat.testBit_eq_decide_div_mod_eq]; rfl
theorem o4 {f : List Int} {b n : Nat} {y : Int} (h : y ∈ ck f b n) : y ∈ f := by
  unfold ck at h
  obtain ⟨i, _, hi⟩ := List.mem_filterMap.1 h
  split at hi
  · exact List.mem_of_getElem? hi
  · cases hi
theorem sq {f : List Int} (hf : asc f) (b : Nat) : asc (dK f b) := by
  have key : ∀ n, n ≤ f.length → asc (ck f b n) ∧ ∀ y ∈ ck f b n, ∃ i, i < n ∧ f.getD i 0 = y := by
    intro n
    induction n with
    | zero => intro _; exact ⟨by simp [ck, asc], fun y hy => by simp [ck] at hy⟩
    | succ n ih =>
      intro h
      obtain ⟨h1, h2⟩ := ih (by omega)
      rw [jw (by omega)]
      refine ⟨List.pairwise_append.2 ⟨h1, by split <;> simp, fun y hy z hz => ?_⟩, fun y hy => ?_⟩
      · obtain ⟨i, hi, e⟩ := h2 y hy
        split at hz
        · rw [List.mem_singleton.1 hz, ← e]
          have h3 := List.pairwise_iff_getElem.1 hf i n (by omega) (by omega) hi
          rw [List.getD_eq_getElem?_getD, List.getD_eq_getElem?_getD, List.getElem?_eq_getElem (show i < f.length by omega), List.getElem?_eq_getElem (show n < f.length by omega)]
          exact h3
        · cases hz
      · rcases List.mem_append.1 hy with hy | hy
        · obtain ⟨i, hi, e⟩ := h2 y hy
          exact ⟨i, by omega, e⟩
        · split at hy
          · exact ⟨n, by omega, (List.mem_singleton.1 hy).symm⟩
          · cases hy
  exact (key f.length (Nat.le_refl _)).1
end Go.Proofs
namespace Go.Proofs
open Go Go.AI
def EB (s : Nat → Int) (l : List Opt) (ps : List ak) (k a b : Int) : Bool := decide ((pkS l ps k).n ≤ s 10) && decide (lowV s l ps k a b ≥ 0)
end Go.Proofs
namespace Go.Proofs
open Go Go.AI
set_option maxRecDepth 10000
theorem gm {s : Nat → Int} {l : List Opt} {ps : List ak} {a b k : Int} (h : aO s l ps a b = true) (h6 : ps.length ≤ 6) (h0 : 0 ≤ k) (h3 : k ≤ 3) : ae Tryz.prog 48 [aM l, am ps, .int .i64 k] (.tup [eh (aY (aw l) ps k), .int .i64 0]) := by
  obtain ⟨h1, h2, h4⟩ := dm h
  have c := gM l ps k h1 h2 h4
  rw [pP, qO h h6 h0 h3, if_neg (by decide)] at c
  exact c
theorem jz {s : Nat → Int} {l : List Opt} {ps : List ak} {a b k : Int} (h : aO s l ps a b = true) (h6 : ps.length ≤ 6) : (aY (aw l) ps k).length ≤ 64 ∧ ∀ x ∈ aY (aw l) ps k, x.length ≤ 1000000 := by
  have hf := iI h
  refine ⟨?_, fun x hx => ?_⟩
  · unfold aY dy
    refine Nat.le_trans (List.length_filter_le _ _) ?_
    rw [List.length_map, List.length_range]; exact up (by omega)
  · obtain ⟨_, b, _, rfl⟩ := kb hx
    exact qN (by omega)
end Go.Proofs
namespace Go.Proofs
open Go Go.AI
theorem sub_zero (f : List Int) : dK f 0 = [] := by
  unfold dK ck
  refine List.filterMap_eq_nil_iff.2 fun j _ => ?_
  rw [show pE 0 j = false from by rw [eK]; exact Nat.zero_testBit j]; rfl
theorem Bj {f : List Int} (hf : asc f) (b : Nat) : fP f (dK f b) = true := by
  have ha := sq hf b
  unfold fP
  rw [List.all_eq_true]
  intro i hi
  have hi := List.mem_range.1 hi
  have e : ∀ j, j < (dK f b).length → aQ (dK f b) j = (dK f b).getD j 0 := fun j _ => rfl
  simp only [mo, Bool.and_eq_true, Bool.or_eq_true, decide_eq_true_eq]
  have hg : ∀ j (h : j < (dK f b).length), aQ (dK f b) j = (dK f b)[j] := fun j h => by
    unfold aQ
    rw [List.getD_eq_getElem?_getD, List.getElem?_eq_getElem h]; rfl
  refine ⟨?_, ?_⟩
  · unfold inP
    rw [List.any_eq_true]
    refine ⟨aQ (dK f b) i, ?_, by simp⟩
    rw [hg i hi]
    exact o4 (List.getElem_mem hi)
  · rcases Nat.eq_zero_or_pos i with h | h
    · exact .inl h
    · right
      rw [hg i hi, hg (i - 1) (by omega)]
      exact List.pairwise_iff_getElem.1 ha (i - 1) i (by omega) hi (by omega)
theorem xc {s : Nat → Int} {l : List Opt} {ps : List ak} {a b : Int} (h : aO s l ps a b = true) (h6 : ps.length ≤ 6) {x : List Int} (hx : fP (aw l) x = true) : qZ s l ps a b x = .tup [.agg (js l x), .int .i64 0] := by
  rw [qZ, dV h h6 (by decide) (by decide), hx]; rfl
theorem uh {s : Nat → Int} {l : List Opt} {ps : List ak} {a b k : Int} (h : aO s l ps a b = true) (h6 : ps.length ≤ 6) {x : List Int} (hx : x ∈ aY (aw l) ps k) :
    ae Tryz.prog 53 [.agg (aX s), aM l, am ps, .agg (aF a b), aq x] (.tup [.agg (js l x), .int .i64 0]) := by
  obtain ⟨h1, h2, h4⟩ := dm h
  obtain ⟨_, q, _, rfl⟩ := kb hx
  have c := iP s l ps a b (dK (aw l) q) h1 h2 h4 (qN (by have := iI h; omega))
  rw [xc h h6 (Bj (iJ l) q)] at c
  exact c
theorem Ax {s : Nat → Int} {l : List Opt} {ps : List ak} {a b : Int} (h : aO s l ps a b = true) (x : List Int) : ∀ z ∈ bK l x, 0 ≤ z.a ∧ z.a < z.b ∧ z.b ≤ 1000000 ∧ 1 ≤ z.u := fun z hz => by
  obtain ⟨o, ho, rfl⟩ := List.mem_map.1 hz
  have f := lf h (fun o => kS o x) o ho
  obtain ⟨_, hr, hab, _⟩ := aS.1 h
  obtain ⟨_, _, hfit⟩ := qL.of h
  have g := hfit o ho
  have g1 := g.shot
  have g2 := g.last
  have g3 := g.size
  omega
theorem AZ {I : List Img} (h : ∀ x ∈ I, 0 ≤ x.a ∧ x.a < x.b ∧ x.b ≤ 1000000) (h0 : 0 < (de (aW I)).1) : 0 ≤ (de (aW I)).2 ∧ (de (aW I)).2 ≤ 1000000 := by
  rcases (qQ (aW I)).2 with h1 | ⟨_, h2⟩
  · rw [h1] at h0; exact absurd h0 (by decide)
  · obtain ⟨⟨y, hy, h3⟩, _⟩ := (iK (fun x hx => (h x hx).2.1) _).1 h2
    obtain ⟨z, hz, h4⟩ := za hy
    have h5 := h z hz
    simp only at h3
    omega
theorem zO {s : Nat → Int} {l : List Opt} {ps : List ak} {a b k : Int} (h : aO s l ps a b = true) (h6 : ps.length ≤ 6) (h0 : 0 ≤ k) (h3 : k ≤ 3) (hl : 0 < l.length) :
    (pkS l ps k).what ∈ aY (aw l) ps k ∧ (pkM l (pkS l ps k).what).1 = (pkS l ps k).n ∧ inM (pkS l ps k).at_ 0 1000000 = true ∧ dN (pkS l ps k).at_ 0 (aW (bK l (pkS l ps k).what)) = (pkS l ps k).n := by
  obtain ⟨_, _, _, _, hp, _⟩ := aS.1 h
  obtain ⟨m1, m2, m3, _⟩ := ic (m := pkM l) (jA (f := aw l) hp h0 h3)
  have e : dj (pkM l) (aY (aw l) ps k) = pkS l ps k := rfl
  rw [e] at m1 m2 m3
  generalize pkS l ps k = z at *
  obtain ⟨n, t, x, i⟩ := z
  simp only at *
  subst m2 m3
  have hi := Ax h x
  have hpos : 0 < (pkM l x).1 := A0 (I := bK l x) (fun y hy => by have := hi y hy; omega) (by unfold bK; intro e; rw [List.map_eq_nil_iff] at e; rw [e] at hl; simp at hl)
  have hr := AZ (I := bK l x) (fun y hy => by have := hi y hy; omega) hpos
  refine ⟨m1, rfl, ?_, ?_⟩
  · show inM (de (aW (bK l x))).2 0 1000000 = true
    simp only [inM, Bool.and_eq_true, decide_eq_true_eq]
    omega
  · rw [zP fun y hy => (hi y hy).2.1]
    exact yE (fun y hy => (hi y hy).2.1) hpos
theorem DT {s : Nat → Int} {l : List Opt} {ps : List ak} {a b k : Int} (h : aO s l ps a b = true) (h0 : 0 ≤ k) (h3 : k ≤ 3) :
    ∃ j : Nat, j < (lvL s (au (bn l (loS s l ps k a b).what)) a b).length ∧ (loS s l ps k a b).at_ = a + (j : Int) ∧ (lvL s (au (bn l (loS s l ps k a b).what)) a b).getD j 0 = lowV s l ps k a b := by
  obtain ⟨_, hr, hab, _, hp, _⟩ := aS.1 h
  obtain ⟨_, _, m3, _⟩ := ic (m := loM s l a b) (jA (f := aw l) hp h0 h3)
  have e : dj (loM s l a b) (aY (aw l) ps k) = loS s l ps k a b := rfl
  rw [e] at m3
  obtain ⟨_, n2, _, _⟩ := jJ h h0 h3
  rw [n2, m3]
  generalize (loS s l ps k a b).what = x
  unfold loM kk
  have hne := (pk h (eH h fun o => kS o x)).1
  have hlen := qR s (au (bn l x)) a b
  have hm := (iG hne).1
  change ph (lvL s (au (bn l x)) a b) ∈ lvL s (au (bn l x)) a b at hm
  generalize lvL s (au (bn l x)) a b = L at *
  generalize ph L = m at *
  have key : ∀ (L : List Int) (k : Nat), m ∈ L → ∃ j, j < L.length ∧ bM (fun y => m == y) L k = ((k + j : Nat) : Int) ∧ L.getD j 0 = m := by
    intro L
    induction L with
    | nil => intro _ h; cases h
    | cons y r ih =>
      intro k hk
      rw [bM]
      split
      · rename_i hy
        exact ⟨0, by simp, rfl, (eq_of_beq hy).symm⟩
      · rename_i hy
        rcases List.mem_cons.1 hk with e | hk
        · rw [e] at hy; simp at hy
        · obtain ⟨j, j1, j2, j3⟩ := ih (k + 1) hk
          exact ⟨j + 1, by simp; omega, by rw [j2]; congr 1; omega, j3⟩
  obtain ⟨j, j1, j2, j3⟩ := key L 0 hm
  refine ⟨j, j1, ?_, j3⟩
  simp only
  rw [j2]
  exact (ap (by omega) (by omega)).trans (by omega)
end Go.Proofs
namespace Go.Proofs
open Go Go.AI
set_option maxRecDepth 10000
set_option maxHeartbeats 16000000 in
theorem BK (c : bi) (losses which k : Int) (s : Nat → Int) (l : List Opt) (ps : List ak) (a b : Int) (A : List (List Int)) (n t m w : Int) (X0 X1 X2 : List Int) (S0 C0 S1 C1 S2 C2 : List Int) (I0 I1 I2 : List Img) (D0 D1 D2 : List ar) (u0 t0 u1 t1 u2 t2 v0 v1 v2 : Int) (L : List Int) (j q : Nat) (fit : Bool)
    (kS : ae Tryz.prog 41 [] (.bool true)) (kM : ae Tryz.prog 42 [.agg (gL c)] (.tup [.agg (aX s), aM l, am ps, .agg (aF a b)]))
    (kP : ae Tryz.prog 44 [.int .i64 losses, .int .i64 4] (.int .i64 k))
    (k1 : ae Tryz.prog 48 [aM l, am ps, .int .i64 k] (.tup [eh A, .int .i64 0])) (hne : A ≠ []) (hA : A.length ≤ 1000)
    (k3 : ae Tryz.prog 56 [.agg (aX s), aM l, am ps, .int .i64 k, .agg (aF a b)] (.tup [.int .i64 n, .int .i64 t, aq X1, .int .i64 0]))
    (k5 : ae Tryz.prog 58 [.agg (aX s), aM l, am ps, .int .i64 k, .agg (aF a b)] (.tup [.int .i64 m, .int .i64 w, aq X2, .int .i64 0]))
    (kq : ae Tryz.prog 44 [.int .i64 which, .int .i64 ((A.map fun x => [aq x]).length : Int)] (.int .i64 (q : Int))) (hq : A[q]? = some X0)
    (kW0 : ae Tryz.prog 53 [.agg (aX s), aM l, am ps, .agg (aF a b), aq X0] (.tup [.agg [aq S0, aq C0, bV I0, bt D0], .int .i64 0])) (kO0 : ae Tryz.prog 62 [bV I0] (.tup [.int .i64 u0, .int .i64 t0, .int .i64 0])) (kL0 : ae Tryz.prog 63 [.agg (aX s), .agg [aq S0, aq C0, bV I0, bt D0], .agg (aF a b)] (.tup [.int .i64 v0, .bool true]))
    (hu0 : u0 ≤ n) (hv0 : m ≤ v0)
    (kW1 : ae Tryz.prog 53 [.agg (aX s), aM l, am ps, .agg (aF a b), aq X1] (.tup [.agg [aq S1, aq C1, bV I1, bt D1], .int .i64 0])) (kO1 : ae Tryz.prog 62 [bV I1] (.tup [.int .i64 u1, .int .i64 t1, .int .i64 0])) (kL1 : ae Tryz.prog 63 [.agg (aX s), .agg [aq S1, aq C1, bV I1, bt D1], .agg (aF a b)] (.tup [.int .i64 v1, .bool true]))
    (hu1 : u1 ≤ n) (hv1 : m ≤ v1)
    (kW2 : ae Tryz.prog 53 [.agg (aX s), aM l, am ps, .agg (aF a b), aq X2] (.tup [.agg [aq S2, aq C2, bV I2, bt D2], .int .i64 0])) (kO2 : ae Tryz.prog 62 [bV I2] (.tup [.int .i64 u2, .int .i64 t2, .int .i64 0])) (kL2 : ae Tryz.prog 63 [.agg (aX s), .agg [aq S2, aq C2, bV I2, bt D2], .agg (aF a b)] (.tup [.int .i64 v2, .bool true]))
    (hu2 : u2 ≤ n) (hv2 : m ≤ v2)
    (e1 : u1 = n) (e2 : v2 = m) (kF : 0 < l.length → ae Tryz.prog 64 [bV I1, .int .i64 t] (.tup [.int .i64 n, .int .i64 0]))
    (kV : ae Tryz.prog 65 [.agg (aX s), bt D2, .agg (aF a b)] (.tup [aq L, .int .i64 0])) (hj : j < L.length) (hw : w = a + (j : Int)) (hLj : L.getD j 0 = m) (ha : 0 ≤ a ∧ a ≤ 1000000) (hj2 : j ≤ 100000)
    (kT : ae Tryz.prog 60 [.agg (aX s), aM l, am ps, .int .i64 k, .agg (aF a b)] (.bool fit)) (hfit : fit = (decide (n ≤ s 10) && decide (m ≥ 0))) :
    ae Tryz.prog 14 [.agg (gL c), .int .i64 losses, .int .i64 which] (.bool true) := by
  have hlm : ((l.map aK).length : Int) = (l.length : Int) := by rw [List.length_map]
  have hA0 : 0 < A.length := List.length_pos_iff.2 hne
  have hAm : ((A.map fun x => [aq x]).length : Int) = (A.length : Int) := by rw [List.length_map]
  have b1 : (((A.map fun x => [aq x]).length : Int) == 0) = true → False := fun h => by have := eq_of_beq h; omega
  have hqx : (A.map fun x => [aq x])[((q : Nat) : Int).toNat]? = some [aq X0] := by rw [Int.toNat_natCast, List.getElem?_map, hq]; rfl
  have hwa : IntKind.i64.wrap (w - a) = (j : Int) := (ap (by omega) (by omega)).trans (by omega)
  have hLm : ((L.map fun h => [AV.int .i64 h]).length : Int) = (L.length : Int) := by rw [List.length_map]
  have hw0 : 0 ≤ IntKind.i64.wrap (w - a) := by rw [hwa]; exact Int.natCast_nonneg _
  have hwx : (L.map fun h => [AV.int .i64 h])[(IntKind.i64.wrap (w - a)).toNat]? = some [.int .i64 m] := by
    have := rQ L j hj
    rw [hLj] at this
    rw [hwa]; exact this
  have d0 : decide (u0 > n) = true → False := fun h => by have := of_decide_eq_true h; omega
  have g0 : decide (v0 < m) = true → False := fun h => by have := of_decide_eq_true h; omega
  have d1 : decide (u1 > n) = true → False := fun h => by have := of_decide_eq_true h; omega
  have g1 : decide (v1 < m) = true → False := fun h => by have := of_decide_eq_true h; omega
  have d2 : decide (u2 > n) = true → False := fun h => by have := of_decide_eq_true h; omega
  have g2 : decide (v2 < m) = true → False := fun h => by have := of_decide_eq_true h; omega
  have x1 : (u1 != n) = true → False := fun h => by rw [e1] at h; simp at h
  have x2 : (v2 != m) = true → False := fun h => by rw [e2] at h; simp at h
  have x3 : (n != n) = true → False := fun h => by simp at h
  have x4 : (m != m) = true → False := fun h => by simp at h
  have x5 : decide (w < a) = true → False := fun h => by have := of_decide_eq_true h; omega
  have x6 : decide (IntKind.i64.wrap (w - a) ≥ ((L.map fun h => [AV.int .i64 h]).length : Int)) = true → False := fun h => by have := of_decide_eq_true h; omega
  have kF2 : decide (((l.map aK).length : Int) > 0) = true → ae Tryz.prog 64 [bV I1, .int .i64 t] (.tup [.int .i64 n, .int .i64 0]) := fun h => kF (by have := of_decide_eq_true h; omega)
  refine ag aa Tryz.func14 rfl (by kernel_rfl) af (Nat.le_of_ble_eq_true rfl) ?_
  intro F n' w0 m0 hG hro h1
  repeat' first|exact (b1 (by assumption)).elim|refine Q1 ?_|refine Q2 ?_|refine Q3 hG aa bR (by kernel_rfl) ?_|refine Q4 hG aa bR (by kernel_rfl) ?_|refine Q5 hG aa ?_|refine Q6 hG aa ?_|refine Q7 hG aa ?_|refine Q8 hG aa ?_|refine Q9 rfl ?_|refine QF rfl ?_|refine QC rfl (And.intro (fun h => ?_) (fun h => ?_))|((conv => whnf); first|refine anF ?_|refine anT ?_|refine And.intro (by kernel_rfl) ?_|refine Exists.intro _ (And.intro (kS) ?_)|refine Exists.intro _ (And.intro (kM) ?_)|refine Exists.intro _ (And.intro (kP) ?_)|refine Exists.intro _ (And.intro (k1) ?_)|refine Exists.intro _ (And.intro (k3) ?_)|refine Exists.intro _ (And.intro (k5) ?_)|refine Exists.intro _ (And.intro (kq) ?_)|refine And.intro (Int.natCast_nonneg q) (Exists.intro _ (And.intro hqx ?_))|refine And.intro (fun h => ?_) (fun h => ?_)|refine Or.inl ?_|fail)
  refine az (X := Nat) (fun x => ⟨[(101, .int .i64 x), (7, .loc 7 0), (8, aM l), (9, am ps), (10, .loc 10 0), (11, .int .i64 k), (14, .int .i64 n), (15, .int .i64 t), (18, .int .i64 m), (19, .int .i64 w), (99, .sl .full 1 [[aq X0], [aq X1], [aq X2]]), (100, .int .i64 3)], [(7, aX s), (10, aF a b)]⟩) (fun x => x ≤ 3) (fun x => 3 - x) 0 (Nat.zero_le _) (ah ?_ ?_) (fun x hx => ?_)
  · repeat' (first | exact trivial | refine And.intro rfl ?_)
  · repeat' (first | exact trivial | refine And.intro rfl ?_)
  · rename Nat => i
    match i, hx with
    | 0, _ =>
      repeat' first|exact (d0 (by assumption)).elim|exact (d1 (by assumption)).elim|exact (d2 (by assumption)).elim|exact (g0 (by assumption)).elim|exact (g1 (by assumption)).elim|exact (g2 (by assumption)).elim|exact (x1 (by assumption)).elim|exact (x2 (by assumption)).elim|exact (x3 (by assumption)).elim|exact (x4 (by assumption)).elim|exact (x5 (by assumption)).elim|exact (x6 (by assumption)).elim|refine Q1 ?_|refine Q2 ?_|refine Q3 hG aa bR (by kernel_rfl) ?_|refine Q4 hG aa bR (by kernel_rfl) ?_|refine Q5 hG aa ?_|refine Q6 hG aa ?_|refine Q7 hG aa ?_|refine Q8 hG aa ?_|refine Q9 rfl ?_|refine QF rfl ?_|refine QC rfl (And.intro (fun h => ?_) (fun h => ?_))|((conv => whnf); first|refine anF ?_|refine anT ?_|refine And.intro (by kernel_rfl) ?_|refine And.intro (of_decide_eq_true (Eq.refl true)) (Exists.intro _ (And.intro rfl ?_))|refine And.intro hw0 (Exists.intro _ (And.intro hwx ?_))|refine Exists.intro _ (And.intro (kW0) ?_)|refine Exists.intro _ (And.intro (kO0) ?_)|refine Exists.intro _ (And.intro (kL0) ?_)|refine And.intro (fun h => ?_) (fun h => ?_)|refine Or.inl ?_|fail)
      all_goals (refine Exists.intro 1 (And.intro (by decide) (And.intro (by decide) (ah ?_ ?_))))
      all_goals (repeat' (first | exact trivial | refine And.intro rfl ?_))
    | 1, _ =>
      repeat' first|exact (d0 (by assumption)).elim|exact (d1 (by assumption)).elim|exact (d2 (by assumption)).elim|exact (g0 (by assumption)).elim|exact (g1 (by assumption)).elim|exact (g2 (by assumption)).elim|exact (x1 (by assumption)).elim|exact (x2 (by assumption)).elim|exact (x3 (by assumption)).elim|exact (x4 (by assumption)).elim|exact (x5 (by assumption)).elim|exact (x6 (by assumption)).elim|refine Q1 ?_|refine Q2 ?_|refine Q3 hG aa bR (by kernel_rfl) ?_|refine Q4 hG aa bR (by kernel_rfl) ?_|refine Q5 hG aa ?_|refine Q6 hG aa ?_|refine Q7 hG aa ?_|refine Q8 hG aa ?_|refine Q9 rfl ?_|refine QF rfl ?_|refine QC rfl (And.intro (fun h => ?_) (fun h => ?_))|((conv => whnf); first|refine anF ?_|refine anT ?_|refine And.intro (by kernel_rfl) ?_|refine And.intro (of_decide_eq_true (Eq.refl true)) (Exists.intro _ (And.intro rfl ?_))|refine And.intro hw0 (Exists.intro _ (And.intro hwx ?_))|refine Exists.intro _ (And.intro (kW1) ?_)|refine Exists.intro _ (And.intro (kO1) ?_)|refine Exists.intro _ (And.intro (kL1) ?_)|refine Exists.intro _ (And.intro (kF2 (by assumption)) ?_)|refine And.intro (fun h => ?_) (fun h => ?_)|refine Or.inl ?_|fail)
      all_goals (refine Exists.intro 2 (And.intro (by decide) (And.intro (by decide) (ah ?_ ?_))))
      all_goals (repeat' (first | exact trivial | refine And.intro rfl ?_))
    | 2, _ =>
      repeat' first|exact (d0 (by assumption)).elim|exact (d1 (by assumption)).elim|exact (d2 (by assumption)).elim|exact (g0 (by assumption)).elim|exact (g1 (by assumption)).elim|exact (g2 (by assumption)).elim|exact (x1 (by assumption)).elim|exact (x2 (by assumption)).elim|exact (x3 (by assumption)).elim|exact (x4 (by assumption)).elim|exact (x5 (by assumption)).elim|exact (x6 (by assumption)).elim|refine Q1 ?_|refine Q2 ?_|refine Q3 hG aa bR (by kernel_rfl) ?_|refine Q4 hG aa bR (by kernel_rfl) ?_|refine Q5 hG aa ?_|refine Q6 hG aa ?_|refine Q7 hG aa ?_|refine Q8 hG aa ?_|refine Q9 rfl ?_|refine QF rfl ?_|refine QC rfl (And.intro (fun h => ?_) (fun h => ?_))|((conv => whnf); first|refine anF ?_|refine anT ?_|refine And.intro (by kernel_rfl) ?_|refine And.intro (of_decide_eq_true (Eq.refl true)) (Exists.intro _ (And.intro rfl ?_))|refine And.intro hw0 (Exists.intro _ (And.intro hwx ?_))|refine Exists.intro _ (And.intro (kW2) ?_)|refine Exists.intro _ (And.intro (kO2) ?_)|refine Exists.intro _ (And.intro (kL2) ?_)|refine Exists.intro _ (And.intro (kV) ?_)|refine And.intro (fun h => ?_) (fun h => ?_)|refine Or.inl ?_|fail)
      all_goals (refine Exists.intro 3 (And.intro (by decide) (And.intro (by decide) (ah ?_ ?_))))
      all_goals (repeat' (first | exact trivial | refine And.intro rfl ?_))
    | 3, _ =>
      repeat' first|refine Q1 ?_|refine Q2 ?_|refine Q3 hG aa bR (by kernel_rfl) ?_|refine Q4 hG aa bR (by kernel_rfl) ?_|refine Q5 hG aa ?_|refine Q6 hG aa ?_|refine Q7 hG aa ?_|refine Q8 hG aa ?_|refine Q9 rfl ?_|refine QF rfl ?_|refine QC rfl (And.intro (fun h => ?_) (fun h => ?_))|((conv => whnf); first|refine anF ?_|refine anT ?_|refine And.intro (by kernel_rfl) ?_|refine Exists.intro _ (And.intro (kT) ?_)|refine And.intro (fun h => ?_) (fun h => ?_)|refine Or.inl ?_|fail)
      all_goals refine Ends.mk (Or.inl rfl) (ac (congrArg AV.bool ?_))
      all_goals (clear hG; subst hfit; simp_all)
    | i + 4, h => exact absurd h (by omega)
end Go.Proofs
namespace Go.Proofs
open Go Go.AI
set_option maxRecDepth 10000
theorem rx {x : Int} (hx : inI x) {n : Nat} (h0 : 0 < n) (h1 : n ≤ 1000) : ∃ q : Nat, al x (n : Int) = (q : Int) ∧ q < n := by
  have h := aI hx (n := (n : Int)) (by omega)
  exact ⟨(al x (n : Int)).toNat, by omega, by omega⟩
theorem tD {s : Nat → Int} {l : List Opt} {ps : List ak} {a b : Int} (h : aO s l ps a b = true) (x : List Int) : ae Tryz.prog 65 [.agg (aX s), bt (au (bn l x)), .agg (aF a b)] (.tup [aq (lvL s (au (bn l x)) a b), .int .i64 0]) := by
  have hg : cY (bn l x) := eH h _
  have hd := jH hg
  exact wR s (au (bn l x)) a b (by omega) (pY h hg)
theorem ma {s : Nat → Int} {l : List Opt} {ps : List ak} {a b : Int} (h : aO s l ps a b = true) (x : List Int) : ae Tryz.prog 63 [.agg (aX s), .agg (js l x), .agg (aF a b)] (.tup [.int .i64 (kk s l a b x), .bool true]) := by
  have hg : cY (bn l x) := eH h _
  have hlen := qR s (au (bn l x)) a b
  obtain ⟨_, hr, hab, _⟩ := aS.1 h
  exact wD s a b _ _ _ (au (bn l x)) _ (pk h hg).1 (by omega) (tD h x)
theorem lZ {s : Nat → Int} {l : List Opt} {ps : List ak} {a b : Int} (h : aO s l ps a b = true) (x : List Int) : ae Tryz.prog 62 [bV (bK l x)] (.tup [.int .i64 (pkM l x).1, .int .i64 (pkM l x).2, .int .i64 0]) :=
  sE (bK l x) (by have := (aS.1 h).1; simp [bK]; omega) (mj h fun o => kS o x)
theorem Et (c : bi) (losses which : Int) (hl : inI losses) (hw : inI which) : ae Tryz.prog 14 [.agg (gL c), .int .i64 losses, .int .i64 which] (.bool true) := by
  have hT := c.gvalid
  have h6 := c.gpasses.2.1
  obtain ⟨q1, q2⟩ := aI hl (n := 4) (by omega)
  have kP := fp losses 4 (by decide)
  generalize al losses 4 = k at *
  obtain ⟨h8, hr, hab, _, hp, _⟩ := aS.1 hT
  have hne := jA (f := aw c.gl) (k := k) hp q1 (by omega)
  obtain ⟨z1, z2⟩ := jz (k := k) hT h6
  have hpos := List.length_pos_iff.2 hne
  obtain ⟨q, hq, hql⟩ := rx hw (n := (aY (aw c.gl) c.gps k).length) hpos (by omega)
  have kq := fp which ((aY (aw c.gl) c.gps k).length : Int) (by omega)
  rw [hq] at kq
  obtain ⟨X0, hX0⟩ : ∃ X, (aY (aw c.gl) c.gps k)[q]? = some X := ⟨_, List.getElem?_eq_getElem hql⟩
  have m0 := List.mem_of_getElem? hX0
  have v1 := dV (k := k) hT h6 q1 (by omega)
  obtain ⟨m1, p2, _, p4⟩ := ic (m := pkM c.gl) hne
  have p1 : (pkM c.gl (pkS c.gl c.gps k).what).1 = (pkS c.gl c.gps k).n := p2.symm
  obtain ⟨n1, n2, _, n4⟩ := jJ hT q1 (show k ≤ 3 by omega)
  obtain ⟨j, j1, j2, j3⟩ := DT hT q1 (show k ≤ 3 by omega)
  have hlen := qR c.s (au (bn c.gl (loS c.s c.gl c.gps k c.ga c.gb).what)) c.ga c.gb
  exact BK c losses which k c.s c.gl c.gps c.ga c.gb (aY (aw c.gl) c.gps k) (pkS c.gl c.gps k).n (pkS c.gl c.gps k).at_ (Go.Proofs.lowV c.s c.gl c.gps k c.ga c.gb) (loS c.s c.gl c.gps k c.ga c.gb).at_ X0 (pkS c.gl c.gps k).what (loS c.s c.gl c.gps k c.ga c.gb).what
    _ _ _ _ _ _ _ _ _ _ _ _ _ _ _ _ _ _ _ _ _ _ j q (EB c.s c.gl c.gps k c.ga c.gb) ii (jT c) kP (gm hT h6 q1 (by omega)) hne (by omega) (d3 v1) (fm v1) (by rw [List.length_map]; exact kq) hX0
    (uh hT h6 m0) (lZ hT X0) (ma hT X0) (p4 _ m0) (n4 _ m0)
    (uh hT h6 m1) (lZ hT _) (ma hT _) (p4 _ m1) (n4 _ m1)
    (uh hT h6 n1) (lZ hT _) (ma hT _) (p4 _ n1) (n4 _ n1)
    p1 n2.symm (fun h0 => by
      obtain ⟨_, _, f3, f4⟩ := zO hT h6 q1 (show k ≤ 3 by omega) h0
      have cF := x8 (bK c.gl (pkS c.gl c.gps k).what) _ (by simp [bK]; omega) (mj hT fun o => kS o _) f3
      rw [f4] at cF
      exact cF) (tD hT _) j1 j2 j3 (by omega) (by omega) (mD v1) rfl
end Go.Proofs
namespace Go.Proofs
open Go Go.AI Go.Proofs.YtehdegggapeihaaGreat
set_option maxRecDepth 100000
theorem kC : ownKnob Tryz.prog.godebug = none := by kernel_rfl
theorem eZ : laidOutB Tryz.prog = true := by kernel_rfl
theorem fF : (Tryz.prog.readableRec 3 && Nat.blt 3 Tryz.prog.types.size) = true := by kernel_rfl
theorem eY : (Tryz.prog.readableRec 95 && Nat.blt 95 Tryz.prog.types.size) = true := by kernel_rfl
def kw : List Sh := [.int .i64, .int .i64, .int .i64, .int .i64, .int .i64, .int .i64, .int .i64, .int .i64, .int .i64, .int .i64, .int .i64, .sl [.int .i64, .int .i64, .int .i64], .sl [.int .i64, .int .i64, .int .i64, .int .i64, .int .i64], .int .i64]
def kl : List (Bool × List Sh) := [(true, kw), (false, [.int .i64]), (false, [.int .i64])]
theorem kA : fV Tryz.prog 8 [95, 3, 3] = some kl := by kernel_rfl
theorem fG (law : ∀ avs, ce 8 kl avs → ae Tryz.prog 14 avs (.bool true)) (os : Os) (started : os.Started) (H : Type) (enc : TypeId × Value → H) :
    ReturnsInHanded {} Tryz.checked os 14 .any (Rows.branchBoundsSpec.pre6 enc Tryz.prog Tryz.f14 Rows.branchBoundsRow.domain false) (Rows.branchBoundsSpec.post enc Tryz.prog Tryz.f14 false true false false) :=
  mf (C := Tryz.checked) (tb := 4) kC started (by kernel_rfl) Tryz.func14
    (ChangeSpec.witness6 (enc := enc) (C := Tryz.checked) false ⟨#[], #[.agg #[.int .i64 0, .int .i64 0, .int .i64 0, .int .i64 0, .int .i64 0, .int .i64 0, .int .i64 0, .int .i64 0, .int .i64 0, .int .i64 0, .int .i64 0, .slice none 0 0, .slice none 0 0, .int .i64 0], .int .i64 0, .int .i64 0], []⟩ 8 (by kernel_rfl) (by kernel_rfl) (by kernel_rfl) (by kernel_rfl))
    rfl (by kernel_rfl) (by kernel_rfl) (fun ds h => by
      match ds, h with
      | [d0, d1, d2], _ => rfl) kA eZ (fun t ht => by
      have e : Tryz.f14.params.toList = [95, 3, 3] := by kernel_rfl
      rw [e] at ht
      simp only [List.mem_cons, List.not_mem_nil, or_false] at ht
      have h3 := fF
      have h95 := eY
      simp only [Bool.and_eq_true] at h3 h95
      rcases ht with h | h | h <;> subst h <;> first | exact ⟨h3.1, Nat.le_of_ble_eq_true h3.2⟩ | exact ⟨h95.1, Nat.le_of_ble_eq_true h95.2⟩) law
theorem kQ : (Rows.branchBoundsRow.wf (OpenSpec.ofChange Rows.branchBoundsSpec) : Bool) = true := by kernel_rfl
theorem kO : (laidOutB Tryz.pinned.checked.prog : Bool) = true := by kernel_rfl
theorem kN : (mapsRowed Tryz.pinned.checked.prog : Bool) = true := by kernel_rfl
theorem kK : (Tryz.f14.params.all (Tryz.pinned.checked.prog.readableRec ·) : Bool) = true := by kernel_rfl
theorem kJ : (namedTie Tryz.pinned.checked.prog Rows.branchBoundsRow.named Rows.branchBoundsSpec.vars : Bool) = true := by kernel_rfl
theorem kI : ((Rows.branchBoundsRow.stops == []) : Bool) = true := by kernel_rfl
theorem kH : ((Tryz.pinned.checked.prog.stops == []) : Bool) = true := by kernel_rfl
theorem kG : ((Rows.branchBoundsRow.knobs == []) : Bool) = true := by kernel_rfl
theorem kE : ((Tryz.pinned.checked.prog.stopKnobs == []) : Bool) = true := by kernel_rfl
theorem kD : ((Rows.branchBoundsRow.inPlace == Tryz.pinned.checked.prog.inPlace 14) : Bool) = true := by kernel_rfl
theorem jm : ((Rows.branchBoundsRow.unfollowed == Tryz.pinned.checked.prog.unfollowed 14) : Bool) = true := by kernel_rfl
theorem jl : ((Rows.branchBoundsRow.recurses == Tryz.pinned.checked.prog.recurses 14) : Bool) = true := by kernel_rfl
theorem jk : ((Rows.branchBoundsRow.named == Tryz.pinned.checked.prog.varsNamed 14) : Bool) = true := by kernel_rfl
theorem jj : ((Rows.branchBoundsRow.maps == (Tryz.f14.params.toList ++ Rows.branchBoundsSpec.plain.varTypes Tryz.pinned.checked.prog).any (Tryz.pinned.checked.prog.mapsRec ·)) : Bool) = true := by kernel_rfl
theorem ji : ((Rows.branchBoundsRow.ifaces == (Tryz.f14.params.toList ++ Rows.branchBoundsSpec.plain.varTypes Tryz.pinned.checked.prog).any (Tryz.pinned.checked.prog.ifacesRec ·)) : Bool) = true := by kernel_rfl
theorem jh : ((Rows.branchBoundsRow.mapsOut == Tryz.pinned.checked.prog.mapsAmong Tryz.f14.resultTypes.toList) : Bool) = true := by kernel_rfl
theorem jg : ((Rows.branchBoundsRow.loops == (Tryz.f14.params.toList ++ Rows.branchBoundsSpec.plain.varTypes Tryz.pinned.checked.prog).any (Tryz.pinned.checked.prog.loopsFrom ·)) : Bool) = true := by kernel_rfl
theorem je : ((Rows.branchBoundsRow.wideKeys == (Tryz.f14.params.toList ++ Rows.branchBoundsSpec.plain.varTypes Tryz.pinned.checked.prog ++ Tryz.f14.resultTypes.toList).any (Tryz.pinned.checked.prog.wideKeysFrom ·)) : Bool) = true := by kernel_rfl
theorem jd : (Rows.branchBoundsSpec.vars.all (Tryz.pinned.checked.prog.varReadable ·) : Bool) = true := by kernel_rfl
theorem jc : (Tryz.f14.resultTypes.all (fun t => Tryz.pinned.checked.prog.readableRec t && decide (t < Tryz.pinned.checked.prog.types.size)) : Bool) = true := by kernel_rfl
theorem jb : ((Rows.branchBoundsRow.ifacesOut == Tryz.f14.resultTypes.toList.any (Tryz.pinned.checked.prog.ifacesRec ·)) : Bool) = true := by kernel_rfl
theorem ja : ((Rows.branchBoundsRow.loopsOut == Tryz.f14.resultTypes.toList.any (Tryz.pinned.checked.prog.loopsFrom ·)) : Bool) = true := by kernel_rfl
theorem iZ : ((Rows.branchBoundsRow.plainKeys == Tryz.pinned.checked.prog.plainKeys) : Bool) = true := by kernel_rfl
theorem iY : (Rows.branchBoundsRow.shortTexts.isNone : Bool) = true := by kernel_rfl
theorem iX : (Tryz.pinned.checked.prog.stopsHeard : Bool) = true := by kernel_rfl
theorem iW : (Tryz.pinned.checked.prog.mayEnter : Bool) = true := by kernel_rfl
theorem iV : ((Rows.branchBoundsRow.lifted == Tryz.pinned.checked.prog.liftsFinal) : Bool) = true := by kernel_rfl
theorem iU : ((Tryz.pinned.checked.prog.make == some Rows.branchBoundsRow.make) : Bool) = true := by kernel_rfl
theorem iT : ((Rows.branchBoundsRow.kinds == (if Rows.branchBoundsRow.domain.isEmpty then [] else Tryz.f14.params.toList.map fun t => match Tryz.pinned.checked.prog.underlying t with | some (.int k) => some k | _ => none)) : Bool) = true := by kernel_rfl
theorem iS : ((Rows.branchBoundsRow.pinned == Rows.branchBoundsRow.pinnedBy) : Bool) = true := by kernel_rfl
theorem iR : ((Rows.branchBoundsRow.veiled == (Tryz.f14.params.toList ++ Rows.branchBoundsSpec.plain.varTypes Tryz.pinned.checked.prog ++ Tryz.f14.resultTypes.toList).any (Tryz.pinned.checked.prog.veiledRec ·)) : Bool) = true := by kernel_rfl
theorem iQ : (Rows.branchBoundsRow.veiledFits Tryz.pinned.checked.prog Tryz.f14.params.toList (Tryz.f14.params.toList ++ Rows.branchBoundsSpec.plain.varTypes Tryz.pinned.checked.prog ++ Tryz.f14.resultTypes.toList) : Bool) = true := by kernel_rfl
theorem aA {a b : Bool} (h : a = true) (k : b = true) : (a && b) = true := by rw [h, k]; rfl
theorem oT : joinedFacts Tryz.pinned.checked.prog 14 Tryz.f14 Rows.branchBoundsSpec Rows.branchBoundsRow = true := by
  unfold joinedFacts
  exact aA (aA (aA (aA (aA (aA (aA (aA (aA (aA (aA (aA (aA (aA (aA (aA (aA (aA (aA (aA (aA (aA (aA (aA (aA (aA (aA (aA (aA (aA (aA (kQ) kO) kN) kK) kJ) kI) kH) kG) kE) kD) jm) jl) jk) jj) ji) jh) jg) je) jd) jc) jb) ja) iZ) iY) iX) iW) iV) iU) iT) iS) iR) iQ
theorem kB (law : ∀ avs, ce 8 kl avs → ae Tryz.prog 14 avs (.bool true)) : Rows.BranchBoundsSaid :=
  OpenClaim.holds_of_wide (p := Tryz.pinned) (s := Rows.branchBoundsSpec) (c := Rows.branchBoundsRow) 14 Tryz.f14 rfl rfl rfl rfl rfl rfl rfl ⟨rfl, rfl, rfl, rfl, rfl⟩ rfl rfl rfl rfl rfl (by kernel_rfl) Tryz.func14 oT
    (of_decide_eq_true (by kernel_rfl)) (by unfold Func.isWrapper; first | (rw [if_pos (by decide +kernel)]; kernel_rfl) | (rw [if_neg (by decide +kernel)]; exact ⟨rfl, rfl⟩))
    (fun os started H enc _ => fG law os started H enc)
theorem iF {n : Nat} {L : List Sh} {r : List (Bool × List Sh)} {avs : List AV} (h : ce n ((true, L) :: r) avs) : ∃ cs q, avs = .agg cs :: q ∧ Fa (da n) L cs ∧ ce n r q := by
  match avs, h with
  | _ :: q, h =>
    obtain ⟨⟨cs, rfl, h1⟩, h2⟩ := h
    exact ⟨cs, q, rfl, h1, h2⟩
  | [], h => exact h.elim
theorem fh {n : Nat} {r : List (Bool × List Sh)} {avs : List AV} (h : ce (n + 1) ((false, [.int .i64]) :: r) avs) : ∃ z q, avs = .int .i64 z :: q ∧ inI z ∧ ce (n + 1) r q := by
  match avs, h with
  | _ :: q, h =>
    obtain ⟨⟨s, e, h1⟩, h2⟩ := h
    cases e
    obtain ⟨z, rfl, hz⟩ := ay h1
    exact ⟨z, q, rfl, hz, h2⟩
  | [], h => exact h.elim
theorem vt {n : Nat} {e : List Sh} {r : List (Bool × List Sh)} {avs : List AV} (h : ce n ((false, [.sl e]) :: r) avs) : ∃ z q, avs = z :: q ∧ da n (.sl e) z ∧ ce n r q := by
  match avs, h with
  | _ :: q, h =>
    obtain ⟨⟨s, e, h1⟩, h2⟩ := h
    cases e
    exact ⟨_, q, rfl, h1, h2⟩
  | [], h => exact h.elim
theorem iE {n : Nat} {avs : List AV} (h : ce n [] avs) : avs = [] := by
  match avs, h with
  | [], _ => rfl
  | _ :: _, h => exact h.elim
theorem vP {n : Nat} {a : AV} (h : da (n + 2) (.sl [.int .i64]) a) : ∃ z : List Int, (∀ x ∈ z, inI x) ∧ a = aq z := by
  obtain ⟨xs, rfl, h2⟩ := h
  suffices hs : ∀ l : List (List AV), (∀ x ∈ l, Fa (da (n + 1)) [.int .i64] x) → ∃ z : List Int, (∀ x ∈ z, inI x) ∧ l = z.map fun h => [AV.int .i64 h] by
    obtain ⟨z, g1, g2⟩ := hs xs h2
    exact ⟨z, g1, congrArg (AV.sl .no 1) g2⟩
  intro l
  induction l with
  | nil => exact fun _ => ⟨[], by simp, rfl⟩
  | cons y r ih =>
    intro h
    obtain ⟨z, g1, rfl⟩ := ih (fun x hx => h x (List.mem_cons_of_mem _ hx))
    obtain ⟨b, q, rfl, h0, h'⟩ := ai (h y List.mem_cons_self)
    obtain rfl := c8 h'
    obtain ⟨w, rfl, hw⟩ := ay h0
    exact ⟨w :: z, fun v hv => by rcases List.mem_cons.1 hv with rfl | hv; exact hw; exact g1 v hv, rfl⟩
theorem ke {n : Nat} {a : AV} (h : da (n + 2) (.sl [.int .i64, .int .i64, .int .i64, .int .i64, .int .i64]) a) : ∃ z : List R5, (∀ x ∈ z, qI x) ∧ a = .sl .no 5 (z.map fO) := by
  obtain ⟨xs, rfl, h2⟩ := h
  suffices hs : ∀ l : List (List AV), (∀ x ∈ l, Fa (da (n + 1)) [.int .i64, .int .i64, .int .i64, .int .i64, .int .i64] x) → ∃ z : List R5, (∀ x ∈ z, qI x) ∧ l = z.map fO by
    obtain ⟨z, g1, g2⟩ := hs xs h2
    exact ⟨z, g1, congrArg (AV.sl .no 5) g2⟩
  intro l
  induction l with
  | nil => exact fun _ => ⟨[], by simp, rfl⟩
  | cons y r ih =>
    intro h
    obtain ⟨z, g1, rfl⟩ := ih (fun x hx => h x (List.mem_cons_of_mem _ hx))
    obtain ⟨b0, q, rfl, h0, h'⟩ := ai (h y List.mem_cons_self)
    obtain ⟨b1, q, rfl, h1, h'⟩ := ai h'
    obtain ⟨b2, q, rfl, h2, h'⟩ := ai h'
    obtain ⟨b3, q, rfl, h3, h'⟩ := ai h'
    obtain ⟨b4, q, rfl, h4, h'⟩ := ai h'
    obtain rfl := c8 h'
    obtain ⟨z0, rfl, i0⟩ := ay h0
    obtain ⟨z1, rfl, i1⟩ := ay h1
    obtain ⟨z2, rfl, i2⟩ := ay h2
    obtain ⟨z3, rfl, i3⟩ := ay h3
    obtain ⟨z4, rfl, i4⟩ := ay h4
    exact ⟨⟨z0, z1, z2, z3, z4⟩ :: z, fun w hw => by rcases List.mem_cons.1 hw with rfl | hw; exact ⟨i0, i1, i2, i3, i4⟩; exact g1 w hw, rfl⟩
theorem fD {l : List Int} (h : ∀ y ∈ l, inI y) (i : Nat) : inI (l.getD i 0) := by
  rw [List.getD_eq_getElem?_getD]
  cases hi : l[i]? with
  | none => show inI 0; unfold inI; omega
  | some y => exact h y (List.mem_of_getElem? hi)
theorem nz {n : Nat} {cs : List AV} (h : Fa (da (n + 2)) kw cs) : ∃ c : bi, cs = gL c := by
  obtain ⟨b0, q, rfl, h0, h⟩ := ai h
  obtain ⟨b1, q, rfl, h1, h⟩ := ai h
  obtain ⟨b2, q, rfl, h2, h⟩ := ai h
  obtain ⟨b3, q, rfl, h3, h⟩ := ai h
  obtain ⟨b4, q, rfl, h4, h⟩ := ai h
  obtain ⟨b5, q, rfl, h5, h⟩ := ai h
  obtain ⟨b6, q, rfl, h6, h⟩ := ai h
  obtain ⟨b7, q, rfl, h7, h⟩ := ai h
  obtain ⟨b8, q, rfl, h8, h⟩ := ai h
  obtain ⟨b9, q, rfl, h9, h⟩ := ai h
  obtain ⟨b10, q, rfl, h10, h⟩ := ai h
  obtain ⟨b11, q, rfl, h11, h⟩ := ai h
  obtain ⟨b12, q, rfl, h12, h⟩ := ai h
  obtain ⟨b13, q, rfl, h13, h⟩ := ai h
  obtain rfl := c8 h
  obtain ⟨z0, rfl, i0⟩ := ay h0
  obtain ⟨z1, rfl, i1⟩ := ay h1
  obtain ⟨z2, rfl, i2⟩ := ay h2
  obtain ⟨z3, rfl, i3⟩ := ay h3
  obtain ⟨z4, rfl, i4⟩ := ay h4
  obtain ⟨z5, rfl, i5⟩ := ay h5
  obtain ⟨z6, rfl, i6⟩ := ay h6
  obtain ⟨z7, rfl, i7⟩ := ay h7
  obtain ⟨z8, rfl, i8⟩ := ay h8
  obtain ⟨z9, rfl, i9⟩ := ay h9
  obtain ⟨z10, rfl, i10⟩ := ay h10
  obtain ⟨z, hz, rfl⟩ := ul h11
  obtain ⟨v, hv, rfl⟩ := ke h12
  obtain ⟨f, rfl, hf⟩ := ay h13
  exact ⟨⟨fun i => [z0, z1, z2, z3, z4, z5, z6].getD i 0, fun i => [z7, z8, z9, z10].getD i 0, z, v, f, fD (by simp [*]), fD (by simp [*]), hz, hv, hf⟩, rfl⟩
end Go.Proofs
namespace Go.Proofs.YtehdegggapeihaaGreat
open Go Go.AI
theorem branchBounds : Rows.BranchBoundsSaid := kB fun avs h => by
  obtain ⟨cs, q, rfl, h1, h⟩ := iF h
  obtain ⟨z1, q, rfl, i1, h⟩ := fh h
  obtain ⟨z2, q, rfl, i2, h⟩ := fh h
  obtain rfl := iE h
  obtain ⟨c, rfl⟩ := nz h1
  exact Go.Proofs.Et c z1 z2 i1 i2
end Go.Proofs.YtehdegggapeihaaGreat
