/- Plain facts about what the functions reckon. The conditions are those typed. -/
import Derived.Test.YtjeopncbnlfplaaConB
set_option linter.unusedSectionVars false
set_option linter.unusedVariables false
set_option linter.unusedSimpArgs false
namespace Go.Proofs
open Go Go.AI
set_option maxRecDepth 10000
structure HotOK (s : Nat → Int) (l : List Aim3) : Prop where
  w0 : 0 ≤ s 16
  w1 : s 16 ≤ 10000
  c0 : 0 ≤ s 17
  c1 : s 17 ≤ 10000
  ln : l.length ≤ 64
theorem inS_inv {n a b : Int} (h : inS n a b = true) : a ≤ n ∧ n ≤ b := by simpa [inS] using h
theorem HotOK.of {s : Nat → Int} {l : List Aim3} (h : valS s l = true) : HotOK s l := by
  simp only [valS, areS, satS, Bool.and_eq_true, decide_eq_true_eq] at h
  obtain ⟨⟨_, hl⟩, ⟨⟨⟨_, _⟩, hw, hc, _⟩, _⟩⟩ := h
  have := inS_inv hw; have := inS_inv hc
  constructor <;> omega
/-- How many exposures a minute is in. -/
def cnt (t : Int) (l : List Aim3) : Nat := (l.filter (hit t)).length
theorem cnt_le (t : Int) (l : List Aim3) : cnt t l ≤ l.length := List.length_filter_le _ _
def gS (s : Nat → Int) (l : List Aim3) (t : Int) : Int := gainS (s 16) (s 17) t l
theorem mul_rng {w : Int} {n : Nat} (h0 : 0 ≤ w) (h1 : w ≤ 10000) (hn : n ≤ 64) : 0 ≤ w * n ∧ w * n ≤ 640000 :=
  ⟨Int.mul_nonneg h0 (by omega), Int.le_trans (Int.mul_le_mul h1 (show (n : Int) ≤ 64 by omega) (by omega) (by omega)) (by omega)⟩
/-- The gain of a minute, in plain numbers. -/
theorem gS_eq {s : Nat → Int} {l : List Aim3} (h : HotOK s l) (t : Int) : gS s l t = s 16 * cnt t l - s 17 := by
  obtain ⟨w0, w1, c0, c1, ln⟩ := h
  have key : ∀ i : Nat, i ≤ l.length → gainS (s 16) (s 17) t (l.take i) = s 16 * cnt t (l.take i) - s 17 := by
    intro i
    induction i with
    | zero => intro _; simp [gainS, cnt]; exact (w64_in (by omega) (by omega)).trans (by omega)
    | succ i ih =>
      intro hi
      have hi2 : i < l.length := hi
      rw [take_snoc hi2, gainS_snoc, ih (by omega)]
      have hc := cnt_le t (l.take i)
      rw [List.length_take] at hc
      have hm := mul_rng w0 w1 (n := cnt t (l.take i)) (by omega)
      have e : cnt t (l.take i ++ [l[i]]) = cnt t (l.take i) + if hit t l[i] then 1 else 0 := by
        unfold cnt; rw [List.filter_append, List.length_append]; congr 1
        simp only [List.filter_cons, List.filter_nil]; split <;> rfl
      rw [e]
      split
      · rw [w64_in (by omega) (by omega)]; rw [Int.natCast_add, Int.mul_add]; simp; omega
      · simp
  have := key l.length (Nat.le_refl _)
  rwa [List.take_length] at this
theorem gS_rng {s : Nat → Int} {l : List Aim3} (h : HotOK s l) (t : Int) : -10000 ≤ gS s l t ∧ gS s l t ≤ 640000 := by
  rw [gS_eq h]
  obtain ⟨w0, w1, c0, c1, ln⟩ := h
  have := mul_rng w0 w1 (n := cnt t l) (by have := cnt_le t l; omega)
  omega
/-- The heat after so many minutes. -/
def hv (g : Int → Int) (a : Int) : Nat → Int
  | 0 => 0
  | n + 1 => max 0 (hv g a n + g (a + n))
theorem hv_rng {g : Int → Int} (hg : ∀ t, -10000 ≤ g t ∧ g t ≤ 640000) (a : Int) : ∀ n : Nat, 0 ≤ hv g a n ∧ hv g a n ≤ 640000 * (n : Int)
  | 0 => by simp [hv]
  | n + 1 => by
    have h1 := hv_rng hg a n
    have h2 := hg (a + n)
    simp only [hv]
    omega
theorem heat_run {s : Nat → Int} {l : List Aim3} (h : HotOK s l) (a : Int) : ∀ n : Nat, n ≤ 3000 →
    heatRun ((List.range n).map fun (i : Nat) => (a + i, gainS (s 16) (s 17) (a + (i : Int)) l)) = (hv (gS s l) a n, (List.range n).map fun i => hv (gS s l) a (i + 1))
  | 0, _ => rfl
  | n + 1, hn => by
    have ih := heat_run h a n (by omega)
    have h1 := hv_rng (gS_rng h) a n
    have h2 := gS_rng h (a + n)
    rw [List.range_succ, List.map_append, List.map_cons, List.map_nil, heatRun_snoc, ih]
    have e : max 0 (w64 (hv (gS s l) a n + gainS (s 16) (s 17) (a + (n : Int)) l)) = hv (gS s l) a (n + 1) := by
      rw [w64_in (by unfold gS at h2; omega) (by unfold gS at h2; omega)]; rfl
    simp [e]
theorem heats_eq {s : Nat → Int} {l : List Aim3} (h : HotOK s l) {a b : Int} (hab : b - a ≤ 3000) : heatsL s l a b = (List.range (b - a).toNat).map fun i => hv (gS s l) a (i + 1) := by
  unfold heatsL gainsL
  rw [heat_run h a _ (by omega)]
/-- Heats of a span that begins later are no greater. -/
theorem hv_late (g : Int → Int) (a : Int) (d : Nat) : ∀ n : Nat, hv g (a + d) n ≤ hv g a (d + n) ∧ 0 ≤ hv g a (d + n)
  | 0 => by
    have : 0 ≤ hv g a (d + 0) := by cases d with | zero => simp [hv] | succ d => simp only [Nat.add_zero, hv]; omega
    exact ⟨by simpa [hv] using this, this⟩
  | n + 1 => by
    have ih := hv_late g a d n
    have e1 : hv g a (d + (n + 1)) = max 0 (hv g a (d + n) + g (a + ((d + n : Nat) : Int))) := rfl
    have e2 : hv g (a + d) (n + 1) = max 0 (hv g (a + d) n + g (a + (d : Int) + n)) := rfl
    have e : a + (d : Int) + n = a + ((d + n : Nat) : Int) := by omega
    rw [e1, e2, e]
    omega
end Go.Proofs


namespace Go.Proofs
open Go Go.AI
set_option maxRecDepth 10000
/-- The sum of the first gains. -/
def sm (g : Int → Int) (a : Int) : Nat → Int
  | 0 => 0
  | n + 1 => sm g a n + g (a + n)
theorem sm_rng {g : Int → Int} (hg : ∀ t, -10000 ≤ g t ∧ g t ≤ 640000) (a : Int) : ∀ n : Nat, -10000 * (n : Int) ≤ sm g a n ∧ sm g a n ≤ 640000 * (n : Int)
  | 0 => by simp [sm]
  | n + 1 => by
    have h1 := sm_rng hg a n
    have h2 := hg (a + n)
    simp only [sm]
    omega
def gainR (s : Nat → Int) (l : List Aim3) (a : Int) (n : Nat) : List (Int × Int) := (List.range n).map fun (i : Nat) => (a + i, gainS (s 16) (s 17) (a + (i : Int)) l)
theorem gainR_succ (s : Nat → Int) (l : List Aim3) (a : Int) (n : Nat) : gainR s l a (n + 1) = gainR s l a n ++ [(a + n, gS s l (a + n))] := by
  unfold gainR
  rw [List.range_succ, List.map_append]; rfl
theorem sum_run {s : Nat → Int} {l : List Aim3} (h : HotOK s l) (a : Int) : ∀ n : Nat, n ≤ 3000 → sumRun (gainR s l a n) = sm (gS s l) a n
  | 0, _ => rfl
  | n + 1, hn => by
    have h1 := sm_rng (gS_rng h) a n
    have h2 := gS_rng h (a + n)
    rw [gainR_succ, sumRun_snoc, sum_run h a n (by omega)]
    exact w64_in (by omega) (by omega)
theorem window_eq {s : Nat → Int} {l : List Aim3} (h : HotOK s l) {a b : Int} (hab : b - a ≤ 3000) : sumRun (gainsL s l a b) = sm (gS s l) a (b - a).toNat := sum_run h a _ (by omega)
/-- The sum of a spell is a difference. -/
theorem sm_sub (g : Int → Int) (a : Int) (d : Nat) : ∀ n : Nat, sm g (a + d) n = sm g a (d + n) - sm g a d
  | 0 => by simp [sm]
  | n + 1 => by
    have ih := sm_sub g a d n
    have e1 : sm g a (d + (n + 1)) = sm g a (d + n) + g (a + ((d + n : Nat) : Int)) := rfl
    have e2 : sm g (a + d) (n + 1) = sm g (a + d) n + g (a + (d : Int) + n) := rfl
    have e : a + (d : Int) + n = a + ((d + n : Nat) : Int) := by omega
    rw [e1, e2, e, ih]
    omega
/-- What Worst keeps after so many minutes. -/
structure WInv (g : Int → Int) (a : Int) (n : Nat) (w : WS) (j0 i1 k1 : Nat) : Prop where
  sum : w.sum = sm g a n
  least : w.least = sm g a j0
  frm : w.frm = a + j0
  jn : j0 < n
  low : ∀ j, j < n → sm g a j0 ≤ sm g a j ∧ (sm g a j = sm g a j0 → j ≤ j0)
  bf : w.bf = a + i1
  bt : w.bt = a + k1
  ik : i1 < k1
  kn : k1 ≤ n
  most : w.most = sm g a k1 - sm g a i1
  best : ∀ i k, i < k → k ≤ n → sm g a k - sm g a i ≤ w.most ∧ (sm g a k - sm g a i = w.most → k1 < k ∨ (k = k1 ∧ i ≤ i1))
theorem worst_inv {s : Nat → Int} {l : List Aim3} (h : HotOK s l) (a : Int) (ha : 0 ≤ a ∧ a ≤ 1000000) : ∀ n : Nat, n + 1 ≤ 3000 → ∃ j0 i1 k1, WInv (gS s l) a (n + 1) (worstRun a (gainR s l a (n + 1))) j0 i1 k1 := by
  have hs := sm_rng (gS_rng h) a
  have hg := gS_rng h
  intro n
  induction n with
  | zero =>
    intro _
    have h2 := hg (a + ((0 : Nat) : Int))
    have e : worstRun a (gainR s l a 1) = ⟨w64 (0 + gS s l (a + ((0 : Nat) : Int))), 0, a + ((0 : Nat) : Int), a + ((0 : Nat) : Int), w64 (a + ((0 : Nat) : Int) + 1), w64 (w64 (0 + gS s l (a + ((0 : Nat) : Int))) - 0)⟩ := by
      have := wsA (a := a) (t := a + ((0 : Nat) : Int)) (g := gS s l (a + ((0 : Nat) : Int))) (pre := []) (Int.le_refl _) (.inl (by omega))
      exact this
    have e1 : sm (gS s l) a 1 = 0 + gS s l (a + ((0 : Nat) : Int)) := rfl
    have e0 : sm (gS s l) a 0 = 0 := rfl
    have w1 : w64 (0 + gS s l (a + ((0 : Nat) : Int))) = 0 + gS s l (a + ((0 : Nat) : Int)) := w64_in (by omega) (by omega)
    have w2 : w64 (a + ((0 : Nat) : Int) + 1) = a + 1 := (w64_in (by omega) (by omega)).trans (by omega)
    refine ⟨0, 0, 1, ?_⟩
    rw [e, w1, w2, show w64 (0 + gS s l (a + ((0 : Nat) : Int)) - 0) = 0 + gS s l (a + ((0 : Nat) : Int)) from (w64_in (by omega) (by omega)).trans (by omega)]
    refine ⟨rfl, rfl, rfl, by omega, fun j hj => ?_, rfl, rfl, by omega, by omega, by show 0 + gS s l (a + ((0 : Nat) : Int)) = sm (gS s l) a 1 - sm (gS s l) a 0; omega, fun i k h1 h2 => ?_⟩
    · have : j = 0 := by omega
      subst this; exact ⟨Int.le_refl _, fun _ => Nat.le_refl _⟩
    · have : k = 1 := by omega
      have : i = 0 := by omega
      subst k; subst i
      show sm _ a 1 - sm _ a 0 ≤ _ ∧ _
      exact ⟨by show sm (gS s l) a 1 - sm (gS s l) a 0 ≤ 0 + gS s l (a + ((0 : Nat) : Int)); omega, fun _ => .inr ⟨rfl, Nat.le_refl _⟩⟩
  | succ n ih =>
    intro hn
    obtain ⟨j0, i1, k1, hI⟩ := ih (by omega)
    obtain ⟨q1, q2, q3, q4, q5, q6, q7, q8, q9, q10, q11⟩ := hI
    generalize hgg : gS s l = G at *
    rw [gainR_succ, hgg]
    have hN := hs (n + 1)
    have hJ := hs j0
    have h2 := hg (a + ((n + 1 : Nat) : Int))
    have eN : sm G a (n + 1 + 1) = sm G a (n + 1) + G (a + ((n + 1 : Nat) : Int)) := rfl
    have wS : w64 (sm G a (n + 1) + G (a + ((n + 1 : Nat) : Int))) = sm G a (n + 1 + 1) := by rw [eN]; exact w64_in (by omega) (by omega)
    have wT : w64 (a + ((n + 1 : Nat) : Int) + 1) = a + ((n + 1 + 1 : Nat) : Int) := (w64_in (by omega) (by omega)).trans (by omega)
    have hN2 := hs (n + 1 + 1)
    generalize hw : worstRun a (gainR s l a (n + 1)) = w at *
    have hta : a + ((n + 1 : Nat) : Int) ≠ a := by omega
    by_cases c1 : w.sum ≤ w.least
    · -- the least sum is the last one
      have low' : ∀ j, j < n + 1 + 1 → sm G a (n + 1) ≤ sm G a j ∧ (sm G a j = sm G a (n + 1) → j ≤ n + 1) := fun j hj => by
        refine ⟨?_, fun _ => by omega⟩
        rcases Nat.lt_succ_iff_lt_or_eq.1 hj with h | h
        · have := (q5 j h).1; omega
        · rw [h]; exact Int.le_refl _
      have wD : w64 (sm G a (n + 1 + 1) - sm G a (n + 1)) = sm G a (n + 1 + 1) - sm G a (n + 1) := w64_in (by omega) (by omega)
      by_cases c2 : w.most < sm G a (n + 1 + 1) - sm G a (n + 1)
      · have e := wsA (a := a) (t := a + ((n + 1 : Nat) : Int)) (g := G (a + ((n + 1 : Nat) : Int))) (pre := gainR s l a (n + 1)) (by rw [hw]; exact c1) (.inr (by rw [hw, q1, wS, wD]; exact c2))
        rw [hw, q1, wS, wD, wT] at e
        refine ⟨n + 1, n + 1, n + 1 + 1, ?_⟩
        rw [e]
        refine ⟨rfl, rfl, rfl, by omega, low', rfl, rfl, by omega, by omega, rfl, fun i k h1 h2 => ?_⟩
        show _ ≤ sm G a (n + 1 + 1) - sm G a (n + 1) ∧ (_ = sm G a (n + 1 + 1) - sm G a (n + 1) → _)
        rcases Nat.lt_succ_iff_lt_or_eq.1 (Nat.lt_succ_of_le h2) with h | h
        · have := (q11 i k h1 (by omega)).1; omega
        · subst h
          have := (low' i (by omega)).1
          exact ⟨by omega, fun _ => .inr ⟨rfl, by omega⟩⟩
      · have e := wsB1 (a := a) (t := a + ((n + 1 : Nat) : Int)) (g := G (a + ((n + 1 : Nat) : Int))) (pre := gainR s l a (n + 1)) (by rw [hw]; exact c1) (by rw [hw, q1, wS, wD]; rintro (h | h); exact hta h; exact c2 h)
        rw [hw, q1, wS] at e
        refine ⟨n + 1, i1, k1, ?_⟩
        rw [e]
        refine ⟨rfl, rfl, rfl, by omega, low', q6, q7, q8, by omega, q10, fun i k h1 h2 => ?_⟩
        show _ ≤ w.most ∧ (_ = w.most → _)
        rcases Nat.lt_succ_iff_lt_or_eq.1 (Nat.lt_succ_of_le h2) with h | h
        · exact q11 i k h1 (by omega)
        · subst h
          have := (low' i (by omega)).1
          exact ⟨by omega, fun _ => .inl (by omega)⟩
    · have low' : ∀ j, j < n + 1 + 1 → sm G a j0 ≤ sm G a j ∧ (sm G a j = sm G a j0 → j ≤ j0) := fun j hj => by
        rcases Nat.lt_succ_iff_lt_or_eq.1 hj with h | h
        · exact q5 j h
        · rw [h]; exact ⟨by omega, fun h => by omega⟩
      have wD : w64 (sm G a (n + 1 + 1) - sm G a j0) = sm G a (n + 1 + 1) - sm G a j0 := w64_in (by omega) (by omega)
      by_cases c2 : w.most < sm G a (n + 1 + 1) - sm G a j0
      · have e := wsC (a := a) (t := a + ((n + 1 : Nat) : Int)) (g := G (a + ((n + 1 : Nat) : Int))) (pre := gainR s l a (n + 1)) (by rw [hw]; exact c1) (.inr (by rw [hw, q1, q2, wS, wD]; exact c2))
        rw [hw, q1, q2, q3, wS, wD, wT] at e
        refine ⟨j0, j0, n + 1 + 1, ?_⟩
        rw [e]
        refine ⟨rfl, rfl, rfl, by omega, low', rfl, rfl, by omega, by omega, rfl, fun i k h1 h2 => ?_⟩
        show _ ≤ sm G a (n + 1 + 1) - sm G a j0 ∧ (_ = sm G a (n + 1 + 1) - sm G a j0 → _)
        rcases Nat.lt_succ_iff_lt_or_eq.1 (Nat.lt_succ_of_le h2) with h | h
        · have := (q11 i k h1 (by omega)).1; omega
        · subst h
          have := low' i (by omega)
          exact ⟨by omega, fun g => .inr ⟨rfl, this.2 (by omega)⟩⟩
      · have e := wsD (a := a) (t := a + ((n + 1 : Nat) : Int)) (g := G (a + ((n + 1 : Nat) : Int))) (pre := gainR s l a (n + 1)) (by rw [hw]; exact c1) (by rw [hw, q1, q2, wS, wD]; rintro (h | h); exact hta h; exact c2 h)
        rw [hw, q1, wS] at e
        refine ⟨j0, i1, k1, ?_⟩
        rw [e]
        refine ⟨rfl, q2, q3, by omega, low', q6, q7, q8, by omega, q10, fun i k h1 h2 => ?_⟩
        show _ ≤ w.most ∧ (_ = w.most → _)
        rcases Nat.lt_succ_iff_lt_or_eq.1 (Nat.lt_succ_of_le h2) with h | h
        · exact q11 i k h1 (by omega)
        · subst h
          have := (low' i (by omega)).1
          exact ⟨by omega, fun _ => .inl (by omega)⟩
end Go.Proofs


namespace Go.Proofs
open Go Go.AI
set_option maxRecDepth 10000
set_option linter.unusedSimpArgs false
def Case.se (c : Case) (e : Int) : Int := w64 (w64 (c.a + 1) + pickS e (w64 (c.b - c.a)))
def Case.lf (c : Case) (e : Int) : Int := w64 (c.a + pickS e (w64 (c.b - c.a)))
theorem Case.rng {c : Case} (h : c.ok) : 0 ≤ c.a ∧ c.a + 10 ≤ c.b ∧ c.b ≤ c.a + 193 ∧ c.b ≤ 900189 ∧ w64 (c.b - c.a) = c.b - c.a := by
  have ht := Case.ht h
  have := Case.ab h
  have e : w64 (c.b - c.a) = c.b - c.a := w64_in (by omega) (by omega)
  omega
theorem Case.se_eq {c : Case} (h : c.ok) {e : Int} (he : inI e) : c.se e = c.a + 1 + pickS e (c.b - c.a) ∧ 0 ≤ pickS e (c.b - c.a) ∧ pickS e (c.b - c.a) < c.b - c.a := by
  have hr := Case.rng h
  have p := pick_rng he (n := c.b - c.a) (by omega)
  refine ⟨?_, p⟩
  unfold Case.se
  rw [hr.2.2.2.2, w64_in (n := c.a + 1) (by omega) (by omega), w64_in (by omega) (by omega)]
theorem Case.lf_eq {c : Case} (h : c.ok) {e : Int} (he : inI e) : c.lf e = c.a + pickS e (c.b - c.a) ∧ 0 ≤ pickS e (c.b - c.a) ∧ pickS e (c.b - c.a) < c.b - c.a := by
  have hr := Case.rng h
  have p := pick_rng he (n := c.b - c.a) (by omega)
  refine ⟨?_, p⟩
  unfold Case.lf
  rw [hr.2.2.2.2, w64_in (by omega) (by omega)]
theorem span_of {a b : Int} (h1 : 0 ≤ a) (h2 : a < b) (h3 : b ≤ 1000000) (h4 : b - a ≤ 3000) : spanS a b = true := by
  simp only [spanS, Bool.and_eq_true, decide_eq_true_eq]
  rw [w64_in (by omega) (by omega)]
  omega
theorem hL_at {l : List Int} {i : Nat} {z : Int} (h : i < l.length) (hz : z = i) : 0 ≤ z ∧ (l.map fun h => [AV.int .i64 h])[z.toNat]? = some [AV.int .i64 (l.getD i 0)] := by
  subst hz
  exact ⟨by omega, by simp [List.getElem?_eq_getElem h]⟩
theorem getD_range {f : Nat → Int} {n i : Nat} (h : i < n) : ((List.range n).map f).getD i 0 = f i := by simp [List.getElem?_map, List.getElem?_range h]
end Go.Proofs


namespace Go.Proofs
open Go Go.AI
set_option maxRecDepth 10000
theorem worst_facts {s : Nat → Int} {l : List Aim3} (h : HotOK s l) {a b : Int} (ha : 0 ≤ a ∧ a ≤ 1000000) (hab : a < b) (hb : b - a ≤ 3000) :
    ∃ i1 k1 : Nat, i1 < k1 ∧ k1 ≤ (b - a).toNat ∧ (worstRun a (gainsL s l a b)).bf = a + i1 ∧ (worstRun a (gainsL s l a b)).bt = a + k1 ∧ (worstRun a (gainsL s l a b)).most = sm (gS s l) a k1 - sm (gS s l) a i1 ∧
      ∀ i k, i < k → k ≤ (b - a).toNat → sm (gS s l) a k - sm (gS s l) a i ≤ (worstRun a (gainsL s l a b)).most ∧ (sm (gS s l) a k - sm (gS s l) a i = (worstRun a (gainsL s l a b)).most → k1 < k ∨ (k = k1 ∧ i ≤ i1)) := by
  obtain ⟨m, hm⟩ : ∃ m, (b - a).toNat = m + 1 := ⟨(b - a).toNat - 1, by omega⟩
  obtain ⟨j0, i1, k1, hI⟩ := worst_inv h a ha m (by omega)
  have e : gainsL s l a b = gainR s l a (m + 1) := by unfold gainsL gainR; rw [hm]
  rw [e, hm]
  exact ⟨i1, k1, hI.ik, hI.kn, hI.bf, hI.bt, hI.most, hI.best⟩
/-- A window's sum, from the span's beginning. -/
theorem window_at {s : Nat → Int} {l : List Aim3} (h : HotOK s l) {a : Int} {i k : Nat} (hik : i ≤ k) (hk : k ≤ 3000) : sumRun (gainsL s l (a + i) (a + k)) = sm (gS s l) a k - sm (gS s l) a i := by
  rw [window_eq h (by omega), show (a + (k : Int) - (a + (i : Int))).toNat = k - i by omega, sm_sub, show i + (k - i) = k by omega]
end Go.Proofs


namespace Go.Proofs
open Go Go.AI
set_option maxRecDepth 10000
/-- The heat is the greatest sum of a window that ends here, or 0. -/
theorem hv_ge (g : Int → Int) (a : Int) : ∀ k i : Nat, i ≤ k → sm g a k - sm g a i ≤ hv g a k
  | 0, i, h => by
    have : i = 0 := by omega
    subst this; simp [hv]
  | k + 1, i, h => by
    have e : hv g a (k + 1) = max 0 (hv g a k + g (a + k)) := rfl
    have e2 : sm g a (k + 1) = sm g a k + g (a + k) := rfl
    rcases Nat.lt_or_eq_of_le h with h | rfl
    · have := hv_ge g a k i (by omega); omega
    · omega
theorem hv_wit (g : Int → Int) (a : Int) : ∀ k : Nat, ∃ i, i ≤ k ∧ hv g a k = sm g a k - sm g a i
  | 0 => ⟨0, Nat.le_refl _, by simp [hv, sm]⟩
  | k + 1 => by
    obtain ⟨i, hi, e⟩ := hv_wit g a k
    have e1 : hv g a (k + 1) = max 0 (hv g a k + g (a + k)) := rfl
    have e2 : sm g a (k + 1) = sm g a k + g (a + k) := rfl
    by_cases h : hv g a k + g (a + k) ≤ 0
    · exact ⟨k + 1, Nat.le_refl _, by omega⟩
    · exact ⟨i, by omega, by omega⟩
theorem idxF_rng {α : Type} (p : α → Bool) : ∀ (l : List α) (k : Nat), (idxF p l k = -1 ∧ ∀ x ∈ l, p x = false) ∨ (k ≤ idxF p l k ∧ idxF p l k < k + l.length ∧ ∃ x ∈ l, p x = true)
  | [], k => .inl ⟨rfl, by simp⟩
  | x :: r, k => by
    simp only [idxF]
    by_cases h : p x = true
    · rw [if_pos h]; right; simp only [List.length_cons]; exact ⟨by omega, by omega, x, List.mem_cons_self, h⟩
    · rw [if_neg h]
      rcases idxF_rng p r (k + 1) with ⟨h1, h2⟩ | ⟨h1, h2, y, h3, h4⟩
      · left; refine ⟨h1, fun y hy => ?_⟩
        rcases List.mem_cons.1 hy with rfl | hy
        · simpa using h
        · exact h2 y hy
      · right; simp only [List.length_cons]; exact ⟨by omega, by omega, y, List.mem_cons_of_mem _ h3, h4⟩
/-- TooHot's answer. -/
theorem hotS_iff (s : Nat → Int) (l : List Aim3) {a b : Int} (ha : 0 ≤ a ∧ a ≤ 1000000) (hab : b - a ≤ 3000) :
    (hotS s l a b = -1 ∧ ∀ x ∈ heatsL s l a b, x ≤ s 18) ∨ (0 ≤ hotS s l a b ∧ ∃ x ∈ heatsL s l a b, s 18 < x) := by
  have hl := heatsL_len s l a b
  unfold hotS
  rcases idxF_rng (fun h => decide (h > s 18)) (heatsL s l a b) 0 with ⟨h1, h2⟩ | ⟨h1, h2, y, h3, h4⟩
  · left
    simp only [h1]
    exact ⟨rfl, fun x hx => by have := of_decide_eq_false (h2 x hx); omega⟩
  · right
    simp only
    rw [if_pos (by omega), w64_in (by omega) (by omega)]
    exact ⟨by omega, y, h3, of_decide_eq_true h4⟩
theorem heats_mem {s : Nat → Int} {l : List Aim3} (h : HotOK s l) {a b : Int} (hab : b - a ≤ 3000) {x : Int} : x ∈ heatsL s l a b ↔ ∃ i, i < (b - a).toNat ∧ x = hv (gS s l) a (i + 1) := by
  rw [heats_eq h hab, List.mem_map]
  constructor
  · rintro ⟨i, hi, rfl⟩; exact ⟨i, List.mem_range.1 hi, rfl⟩
  · rintro ⟨i, hi, rfl⟩; exact ⟨i, List.mem_range.2 hi, rfl⟩
theorem sat18' {s : Nat → Int} {l : List Aim3} (h : valS s l = true) : 1 ≤ s 18 ∧ s 18 ≤ 1000000 := by
  simp only [valS, satS, Bool.and_eq_true] at h
  exact inS_inv h.2.1.2.2.2
end Go.Proofs


namespace Go.Proofs
open Go Go.AI
set_option maxRecDepth 10000
def ordP (l : List Aim3) (j : Nat) : Prop := (aimAt l (j - 1)).b ≤ (aimAt l j).a
def gapP (s : Nat → Int) (l : List Aim3) (j : Nat) : Prop := slewK s (aimAt l (j - 1)).k (aimAt l j).k ≤ (aimAt l j).a - (aimAt l (j - 1)).b
def slM (s : Nat → Int) (x y : Aim3) : Int := s 19 * max (x.k - y.k) (y.k - x.k)
section
variable {c : Case} (hc : c.ok)
include hc
theorem Case.h19 : 0 ≤ c.s 19 ∧ c.s 19 ≤ 3 := by
  have i4 : inI (w64 ((c.y 0).tdiv 4)) := by
    unfold inI w64; rw [IntKind.wrap_i64]; omega
  have := pick_rng i4 (n := 4) (by omega)
  exact ⟨this.1, Int.le_of_lt_add_one this.2⟩
theorem slM_rng {x y : Aim3} (hx : AimOK c.s c.t 10 x) (hy : AimOK c.s c.t 10 y) : 0 ≤ slM c.s x y ∧ slM c.s x y ≤ 24 ∧ slewK c.s x.k y.k = slM c.s x y := by
  have h9 := Case.h9 hc
  have h19 := Case.h19 hc
  have := hx.k1; have := hx.k2; have := hy.k1; have := hy.k2
  have m1 : 0 ≤ max (x.k - y.k) (y.k - x.k) := by omega
  have m2 : max (x.k - y.k) (y.k - x.k) ≤ 8 := by omega
  have p1 : 0 ≤ slM c.s x y := Int.mul_nonneg h19.1 m1
  have p2 : slM c.s x y ≤ 3 * 8 := Int.mul_le_mul h19.2 m2 m1 (by omega)
  refine ⟨p1, by omega, ?_⟩
  unfold slewK
  rw [w64_in (n := x.k - y.k) (by omega) (by omega), w64_in (n := y.k - x.k) (by omega) (by omega)]
  exact w64_in (by show _ ≤ slM c.s x y; omega) (by show slM c.s x y ≤ _; omega)
theorem slM_tri (x y z : Aim3) : slM c.s x z ≤ slM c.s x y + slM c.s y z := by
  have h19 := Case.h19 hc
  unfold slM
  rw [← Int.mul_add]
  exact Int.mul_le_mul_of_nonneg_left (by omega) h19.1
theorem slM_symm (x y : Aim3) : slM c.s x y = slM c.s y x := by unfold slM; rw [Int.max_comm]
theorem fit_iff {x y : Aim3} (hx : AimOK c.s c.t 10 x) (hy : AimOK c.s c.t 10 y) : fitP c.s x y = true ↔ if y.a < x.a then x.a ≥ y.b + slM c.s x y else y.a ≥ x.b + slM c.s x y := by
  have ht := Case.ht hc
  obtain ⟨p1, p2, p3⟩ := slM_rng hc hx hy
  obtain ⟨q1, q2, q3⟩ := slM_rng hc hy hx
  have := hx.hi; have := hx.lo; have := hx.ab; have := hy.hi; have := hy.lo; have := hy.ab
  unfold fitP fit1
  rw [slM_symm hc x y]
  rw [slM_symm hc x y] at p1 p2 p3
  split
  · rw [q3, w64_in (n := y.b + _) (by omega) (by omega)]; simp
  · rw [p3, w64_in (n := x.b + _) (by omega) (by omega)]; simp
theorem aok {i : Nat} (h : i < c.l.length) : AimOK c.s c.t 10 (aimAt c.l i) := Case.aims hc _ (aimAt_mem h)
theorem pairs_all (hg : ∀ j, 1 ≤ j → j < c.l.length → gapP c.s c.l j) : ∀ k, k < c.l.length → ∀ i, i < k → (aimAt c.l i).b + slM c.s (aimAt c.l i) (aimAt c.l k) ≤ (aimAt c.l k).a := by
  intro k
  induction k with
  | zero => intro _ i hi; omega
  | succ k ih =>
    intro hk i hi
    have g := hg (k + 1) (by omega) hk
    unfold gapP at g
    simp only [Nat.add_sub_cancel] at g
    rw [(slM_rng hc (aok hc (by omega)) (aok hc hk)).2.2] at g
    rcases Nat.lt_succ_iff_lt_or_eq.1 hi with h | rfl
    · have h1 := ih (by omega) i h
      have h2 := slM_tri hc (aimAt c.l i) (aimAt c.l k) (aimAt c.l (k + 1))
      have := (aok hc (show k < c.l.length by omega)).ab
      omega
    · omega
theorem pairs_fit (hg : ∀ j, 1 ≤ j → j < c.l.length → gapP c.s c.l j) {i k : Nat} (hk : k < c.l.length) (hi : i < k) : fitP c.s (aimAt c.l i) (aimAt c.l k) = true := by
  have h1 := pairs_all hc hg k hk i hi
  have hi' : i < c.l.length := by omega
  have := (aok hc hi').ab
  have := (slM_rng hc (aok hc hi') (aok hc hk)).1
  rw [fit_iff hc (aok hc hi') (aok hc hk), if_neg (by omega)]
  exact h1
theorem ord_all (ho : ∀ j, 1 ≤ j → j < c.l.length → ordP c.l j) : ∀ k, k < c.l.length → ∀ i, i < k → (aimAt c.l i).b ≤ (aimAt c.l k).a := by
  intro k
  induction k with
  | zero => intro _ i hi; omega
  | succ k ih =>
    intro hk i hi
    have g := ho (k + 1) (by omega) hk
    unfold ordP at g
    simp only [Nat.add_sub_cancel] at g
    rcases Nat.lt_succ_iff_lt_or_eq.1 hi with h | rfl
    · have h1 := ih (by omega) i h
      have := (aok hc (show k < c.l.length by omega)).ab
      omega
    · exact g
theorem fit_gap (ho : ∀ j, 1 ≤ j → j < c.l.length → ordP c.l j) {i k : Nat} (hk : k < c.l.length) (hi : i < k) : fitP c.s (aimAt c.l i) (aimAt c.l k) = true ↔ slewK c.s (aimAt c.l i).k (aimAt c.l k).k ≤ (aimAt c.l k).a - (aimAt c.l i).b := by
  have h1 := ord_all hc ho k hk i hi
  have hi' : i < c.l.length := by omega
  have := (aok hc hi').ab
  rw [fit_iff hc (aok hc hi') (aok hc hk), if_neg (by omega), (slM_rng hc (aok hc hi') (aok hc hk)).2.2]
  omega
/-- Exposures that overlap, or stand in another order, and fit. -/
theorem fit_order {i k : Nat} (hk : k < c.l.length) (hi : i < k) (hf : fitP c.s (aimAt c.l i) (aimAt c.l k) = true) (hlt : (aimAt c.l k).a < (aimAt c.l i).b) : (aimAt c.l k).b ≤ (aimAt c.l i).a := by
  have hi' : i < c.l.length := by omega
  have := (slM_rng hc (aok hc hi') (aok hc hk)).1
  rw [fit_iff hc (aok hc hi') (aok hc hk)] at hf
  split at hf <;> omega
end
end Go.Proofs


namespace Go.Proofs
open Go Go.AI
set_option maxRecDepth 10000
/-- What slews ask: bounds of a satellite, of an exposure. -/
structure SatB (s : Nat → Int) : Prop where
  w0 : 0 ≤ s 9
  w1 : s 9 ≤ 4
  r0 : 0 ≤ s 19
  r1 : s 19 ≤ 60
structure AimB (x : Aim3) : Prop where
  a0 : 0 ≤ x.a
  ab : x.a < x.b
  b1 : x.b ≤ 1000000
  k0 : -4 ≤ x.k
  k1 : x.k ≤ 4
theorem slB {s : Nat → Int} (hs : SatB s) {x y : Aim3} (hx : AimB x) (hy : AimB y) : 0 ≤ slM s x y ∧ slM s x y ≤ 480 ∧ slewK s x.k y.k = slM s x y := by
  obtain ⟨_, _, r0, r1⟩ := hs
  obtain ⟨_, _, _, x0, x1⟩ := hx
  obtain ⟨_, _, _, y0, y1⟩ := hy
  have m1 : 0 ≤ max (x.k - y.k) (y.k - x.k) := by omega
  have m2 : max (x.k - y.k) (y.k - x.k) ≤ 8 := by omega
  have p1 : 0 ≤ slM s x y := Int.mul_nonneg r0 m1
  have p2 : slM s x y ≤ 60 * 8 := Int.mul_le_mul r1 m2 m1 (by omega)
  refine ⟨p1, by omega, ?_⟩
  unfold slewK
  rw [w64_in (n := x.k - y.k) (by omega) (by omega), w64_in (n := y.k - x.k) (by omega) (by omega)]
  exact w64_in (by show _ ≤ slM s x y; omega) (by show slM s x y ≤ _; omega)
theorem slM_sym (s : Nat → Int) (x y : Aim3) : slM s x y = slM s y x := by unfold slM; rw [Int.max_comm]
theorem fitB {s : Nat → Int} (hs : SatB s) {x y : Aim3} (hx : AimB x) (hy : AimB y) : fitP s x y = true ↔ if y.a < x.a then x.a ≥ y.b + slM s x y else y.a ≥ x.b + slM s x y := by
  obtain ⟨p1, p2, p3⟩ := slB hs hx hy
  obtain ⟨q1, q2, q3⟩ := slB hs hy hx
  have := hx.a0; have := hx.ab; have := hx.b1; have := hy.a0; have := hy.ab; have := hy.b1
  unfold fitP fit1
  rw [slM_sym s x y]
  rw [slM_sym s x y] at p1 p2 p3
  split
  · rw [q3, w64_in (n := y.b + _) (by omega) (by omega)]; simp
  · rw [p3, w64_in (n := x.b + _) (by omega) (by omega)]; simp
theorem fit_sym {s : Nat → Int} (hs : SatB s) {x y : Aim3} (hx : AimB x) (hy : AimB y) : fitP s x y = fitP s y x := by
  rw [Bool.eq_iff_iff, fitB hs hx hy, fitB hs hy hx, slM_sym s y x]
  have := (slB hs hx hy).1; have := hx.ab; have := hy.ab
  split <;> split <;> omega
theorem fit_less {s s' : Nat → Int} (hs : SatB s) (hs' : SatB s') (h : s' 19 ≤ s 19) {x y : Aim3} (hx : AimB x) (hy : AimB y) (hf : fitP s x y = true) : fitP s' x y = true := by
  rw [fitB hs hx hy] at hf
  rw [fitB hs' hx hy]
  have : slM s' x y ≤ slM s x y := Int.mul_le_mul_of_nonneg_right h (by omega)
  split at hf <;> (rename_i hc; simp only [hc, if_true, if_false]; omega)
/-- Slews finds nothing exactly if each pair fits. -/
theorem slewO_none {s : Nat → Int} {l : List Aim3} : slewO s l = none ↔ l.Pairwise fun x y => fitP s x y = true := by
  rw [List.pairwise_iff_getElem]
  unfold slewO slewJ slewI
  simp only [List.findSome?_eq_none_iff, List.mem_range]
  constructor
  · intro h i k hi hk hik
    have := h k hk i hik
    rw [aimAt_eq hi, aimAt_eq hk] at this
    split at this
    · assumption
    · cases this
  · intro h k hk i hik
    have hi : i < l.length := by omega
    rw [aimAt_eq hi, aimAt_eq hk, if_pos (h i k hi hk hik)]
/-- Slews' answer. -/
theorem slew_ans (s : Nat → Int) (l : List Aim3) : ∃ (one two : Int) (is : Bool), slewA (slewO s l) = [.int .i64 one, .int .i64 two, .bool is, .int .i64 0] ∧ (is = false ↔ l.Pairwise fun x y => fitP s x y = true) := by
  cases h : slewO s l with
  | none => exact ⟨0, 0, false, rfl, fun _ => slewO_none.1 h, fun _ => rfl⟩
  | some p =>
    obtain ⟨i, k⟩ := p
    refine ⟨i, k, true, rfl, fun h => Bool.noConfusion h, fun hp => ?_⟩
    rw [slewO_none.2 hp] at h; cases h
theorem hv_mono {g g' : Int → Int} (h : ∀ t, g t ≤ g' t) (a : Int) : ∀ n : Nat, hv g a n ≤ hv g' a n
  | 0 => Int.le_refl _
  | n + 1 => by
    have := hv_mono h a n
    have := h (a + n)
    simp only [hv]
    omega
theorem cnt_sub {l l' : List Aim3} (h : l'.Sublist l) (t : Int) : cnt t l' ≤ cnt t l := (h.filter _).length_le
theorem cnt_perm {l l' : List Aim3} (h : l'.Perm l) (t : Int) : cnt t l' = cnt t l := (h.filter _).length_eq
theorem gS_sub {s : Nat → Int} {l l' : List Aim3} (h : HotOK s l) (h' : HotOK s l') (hs : l'.Sublist l) (t : Int) : gS s l' t ≤ gS s l t := by
  rw [gS_eq h, gS_eq h']
  have := Int.mul_le_mul_of_nonneg_left (show (cnt t l' : Int) ≤ cnt t l by have := cnt_sub hs t; omega) h.w0
  omega
theorem gS_perm {s : Nat → Int} {l l' : List Aim3} (h : HotOK s l) (h' : HotOK s l') (hp : l'.Perm l) (t : Int) : gS s l' t = gS s l t := by
  rw [gS_eq h, gS_eq h', cnt_perm hp]
theorem hotOK_sub {s : Nat → Int} {l l' : List Aim3} (h : HotOK s l) (hl : l'.length ≤ l.length) : HotOK s l' := ⟨h.w0, h.w1, h.c0, h.c1, by have := h.ln; omega⟩
theorem heats_perm {s : Nat → Int} {l l' : List Aim3} (h : HotOK s l) (hp : l'.Perm l) {a b : Int} (hab : b - a ≤ 3000) : heatsL s l' a b = heatsL s l a b := by
  have h' := hotOK_sub h (Nat.le_of_eq hp.length_eq)
  rw [heats_eq h' hab, heats_eq h hab, show gS s l' = gS s l from funext (gS_perm h h' hp)]
theorem gains_perm {s : Nat → Int} {l l' : List Aim3} (h : HotOK s l) (hp : l'.Perm l) (a b : Int) : gainsL s l' a b = gainsL s l a b := by
  have h' := hotOK_sub h (Nat.le_of_eq hp.length_eq)
  unfold gainsL
  refine List.map_congr_left fun i _ => ?_
  exact congrArg _ (gS_perm h h' hp _)
theorem pairs_perm {s : Nat → Int} (hs : SatB s) {l l' : List Aim3} (hx : ∀ x ∈ l, AimB x) (hp : l'.Perm l) : (l'.Pairwise fun x y => fitP s x y = true) ↔ l.Pairwise fun x y => fitP s x y = true := by
  have key : ∀ {l l' : List Aim3}, (∀ x ∈ l, AimB x) → l.Perm l' → (l.Pairwise fun x y => fitP s x y = true) → l'.Pairwise fun x y => fitP s x y = true := by
    intro l l' hx hp h
    have h1 : l.Pairwise fun x y => AimB x → AimB y → fitP s x y = true := h.imp fun h _ _ => h
    have h2 : l'.Pairwise fun x y => AimB x → AimB y → fitP s x y = true := hp.pairwise h1 fun {x y} h hy hx => by rw [fit_sym hs hy hx]; exact h hx hy
    exact h2.imp_of_mem fun {x y} mx my h => h (hx _ (hp.mem_iff.2 mx)) (hx _ (hp.mem_iff.2 my))
  exact ⟨key (fun x hm => hx x (hp.mem_iff.1 hm)) hp, key hx hp.symm⟩
theorem areS_perm {s : Nat → Int} {l l' : List Aim3} (hp : l'.Perm l) : valS s l' = valS s l := by
  unfold valS areS
  rw [hp.length_eq]
  congr 2
  rw [Bool.eq_iff_iff, List.all_eq_true, List.all_eq_true]
  exact ⟨fun h x hx => h x (hp.mem_iff.2 hx), fun h x hx => h x (hp.mem_iff.1 hx)⟩
theorem areS_sub {s : Nat → Int} {l l' : List Aim3} (hp : l'.Sublist l) (h : valS s l = true) : valS s l' = true := by
  simp only [valS, areS, Bool.and_eq_true, List.all_eq_true, decide_eq_true_eq] at h ⊢
  exact ⟨⟨fun x hx => h.1.1 x (hp.mem hx), by have := hp.length_le; omega⟩, h.2⟩
section
variable {c : Case} (hc : c.ok)
include hc
theorem Case.satB : SatB c.s := ⟨(Case.h9 hc).1, (Case.h9 hc).2, (Case.h19 hc).1, by have := (Case.h19 hc).2; omega⟩
theorem Case.aimB : ∀ x ∈ c.l, AimB x := fun x hx => by
  have h := Case.aims hc x hx
  have ht := Case.ht hc
  have h9 := Case.h9 hc
  have := h.lo; have := h.ab; have := h.hi; have := h.k1; have := h.k2
  constructor <;> omega
end
end Go.Proofs


namespace Go.Proofs
open Go Go.AI
set_option maxRecDepth 10000
theorem maxL_fold : ∀ (l : List Int) (x m : Int), l.foldl max x ≤ m ↔ x ≤ m ∧ ∀ y ∈ l, y ≤ m
  | [], x, m => by simp
  | z :: r, x, m => by
    rw [List.foldl_cons, maxL_fold r]
    simp only [List.mem_cons, forall_eq_or_imp]
    constructor
    · rintro ⟨h1, h2⟩; exact ⟨by omega, by omega, h2⟩
    · rintro ⟨h1, h2, h3⟩; exact ⟨by omega, h3⟩
theorem maxL_le {l : List Int} (hne : l ≠ []) {m : Int} : maxL l ≤ m ↔ ∀ y ∈ l, y ≤ m := by
  cases l with
  | nil => exact absurd rfl hne
  | cons x r =>
    show r.foldl max x ≤ m ↔ _
    rw [maxL_fold]; simp
/-- What Free answers. -/
theorem freeS_spec (s : Nat → Int) (l : List Aim3) (a b n k : Int) :
    (freeS s l a b n k = -1 ∧ ∀ i : Nat, i < freeC a b n → okT s l a b n k (a + i) = false) ∨
    (∃ i : Nat, i < freeC a b n ∧ freeS s l a b n k = a + i ∧ okT s l a b n k (a + i) = true ∧ ∀ j : Nat, j < i → okT s l a b n k (a + j) = false) := by
  unfold freeS
  by_cases h : ∀ i : Nat, i < freeC a b n → okT s l a b n k (a + i) = false
  · left
    refine ⟨?_, h⟩
    rw [find_none fun i hi => by rw [if_neg (by rw [h i hi]; exact Bool.false_ne_true)]]; rfl
  · right
    have hex : ∃ i : Nat, i < freeC a b n ∧ okT s l a b n k (a + i) = true := by
      refine Classical.byContradiction fun hn => h fun i hi => ?_
      cases hk : okT s l a b n k (a + i) with
      | false => rfl
      | true => exact absurd ⟨i, hi, hk⟩ hn
    have hmin : ∀ m : Nat, (∃ i : Nat, i ≤ m ∧ okT s l a b n k (a + i) = true) → ∃ i : Nat, i ≤ m ∧ okT s l a b n k (a + i) = true ∧ ∀ j : Nat, j < i → okT s l a b n k (a + j) = false := by
      intro m
      induction m with
      | zero =>
        rintro ⟨i, hi, h1⟩
        exact ⟨i, hi, h1, fun j hj => by omega⟩
      | succ m ih =>
        rintro ⟨i, hi, h1⟩
        by_cases h2 : ∃ i : Nat, i ≤ m ∧ okT s l a b n k (a + i) = true
        · obtain ⟨i, g1, g2⟩ := ih h2
          exact ⟨i, by omega, g2⟩
        · refine ⟨i, hi, h1, fun j hj => ?_⟩
          cases hk : okT s l a b n k (a + j) with
          | false => rfl
          | true => exact absurd ⟨j, by omega, hk⟩ h2
    obtain ⟨i, hi, hok⟩ := hex
    obtain ⟨i0, h1, h2, h3⟩ := hmin i ⟨i, Nat.le_refl _, hok⟩
    refine ⟨i0, by omega, ?_, h2, h3⟩
    rw [find_some (v := a + (i0 : Int)) (by omega : i0 < freeC a b n) (fun j hj => by rw [if_neg (by rw [h3 j hj]; exact Bool.false_ne_true)]) (by rw [if_pos h2])]; rfl
theorem any_perm {p : Aim3 → Bool} {l l' : List Aim3} (hp : l'.Perm l) : l'.any p = l.any p := by
  rw [Bool.eq_iff_iff, List.any_eq_true, List.any_eq_true]
  exact ⟨fun ⟨x, hx, h⟩ => ⟨x, hp.mem_iff.1 hx, h⟩, fun ⟨x, hx, h⟩ => ⟨x, hp.mem_iff.2 hx, h⟩⟩
theorem free_perm {s : Nat → Int} {l l' : List Aim3} (h : HotOK s l) (hp : l'.Perm l) (hl : l.length < 64) {a b n k : Int} (hab : b - a ≤ 3000) : freeS s l' a b n k = freeS s l a b n k := by
  have e : ∀ t, okT s l' a b n k t = okT s l a b n k t := fun t => by
    have hh : HotOK s (l ++ [newAim t n k]) := ⟨h.w0, h.w1, h.c0, h.c1, by simp; omega⟩
    unfold okT
    rw [any_perm hp, heats_perm hh (hp.append_right _) hab]
  unfold freeS
  simp only [e]
/-- What is asked of a further exposure, as the law asks it. -/
theorem okT_iff {s : Nat → Int} (hs : SatB s) {l : List Aim3} (hx : ∀ x ∈ l, AimB x) {a b n k t : Int} (hab : 0 ≤ a ∧ a < b ∧ b ≤ 1000000 ∧ b - a ≤ 3000) (hw : w64 (t + n) = t + n) (hn : AimB (newAim t n k)) :
    okT s l a b n k t = true ↔ (∀ x ∈ l, fitP s x (newAim t n k) = true) ∧ hotS s (l ++ [newAim t n k]) a b = -1 := by
  have hlen := heatsL_len s (l ++ [newAim t n k]) a b
  have hne : heatsL s (l ++ [newAim t n k]) a b ≠ [] := fun h => by rw [h] at hlen; simp at hlen; omega
  have e1 : (∀ x ∈ l, fitP s x (newAim t n k) = true) ↔ (l.any fun x => !fitP s (newAim t n k) x) = false := by
    rw [List.any_eq_false]
    refine ⟨fun h x hm => ?_, fun h x hm => ?_⟩
    · rw [fit_sym hs hn (hx x hm), h x hm]; exact Bool.false_ne_true
    · have := h x hm
      rw [fit_sym hs (hx x hm) hn]; simpa using this
  have e2 : hotS s (l ++ [newAim t n k]) a b = -1 ↔ maxL (heatsL s (l ++ [newAim t n k]) a b) ≤ s 18 := by
    rw [maxL_le hne]
    rcases hotS_iff s (l ++ [newAim t n k]) (a := a) (b := b) (by omega) (by omega) with ⟨h1, h2⟩ | ⟨h1, y, h2, h3⟩
    · exact ⟨fun _ => h2, fun _ => h1⟩
    · exact ⟨fun h => by omega, fun h => by have := h y h2; omega⟩
  rw [e1, e2]
  unfold okT
  simp only [Bool.and_eq_true, decide_eq_true_eq, Bool.not_eq_true']
end Go.Proofs


namespace Go.Proofs
open Go Go.AI
set_option maxRecDepth 10000
def Case.mn (m : Int) : Int := w64 (1 + pickS m 8)
def Case.lk (c : Case) (k : Int) : Int := w64 (pickS k (wdS c.s) - c.s 9)
theorem Case.mn_rng {m : Int} (h : inI m) : 1 ≤ Case.mn m ∧ Case.mn m ≤ 8 := by
  have p := pick_rng h (n := 8) (by omega)
  unfold Case.mn
  rw [w64_in (by omega) (by omega)]; omega
theorem Case.lk_rng {c : Case} (hc : c.ok) {k : Int} (h : inI k) : -(c.s 9) ≤ c.lk k ∧ c.lk k ≤ c.s 9 := by
  have h9 := Case.h9 hc
  have p := pick_rng h (n := wdS c.s) (by rw [wd_eq h9]; omega)
  rw [wd_eq h9] at p
  unfold Case.lk
  rw [wd_eq h9, w64_in (by omega) (by omega)]; omega
theorem Case.freeV {c : Case} (hc : c.ok) {l : List Aim3} (hl : l.Perm c.l) {m k : Int} (hm : inI m) (hk : inI k) : freeV c.s l c.a c.b (Case.mn m) (c.lk k) = true := by
  have h1 := Case.mn_rng hm
  have h2 := Case.lk_rng hc hk
  have h9 := Case.h9 hc
  have := c.len
  have := hl.length_eq
  simp only [Go.Proofs.freeV, Case.span hc, areS_perm hl, Case.val hc, inS, Bool.and_eq_true, decide_eq_true_eq, Bool.and_true, Bool.true_and]
  rw [w64_in (n := 0 - c.s 9) (by omega) (by omega)]
  omega
end Go.Proofs


namespace Go.Proofs
open Go Go.AI
set_option maxRecDepth 10000
/-- What holds of a valid satellite, and of valid exposures. -/
theorem satB_of {s : Nat → Int} (h : satS s = true) : SatB s := by
  simp only [satS, Bool.and_eq_true] at h
  have h9 := inS_inv h.1.1.1.2.2.1
  have h19 := inS_inv h.1.1.1.2.2.2.2.1
  exact ⟨h9.1, h9.2, h19.1, h19.2⟩
theorem aimB_of {s : Nat → Int} (hs : SatB s) {x : Aim3} (h : aimS s x = true) : AimB x := by
  have := hs.w0; have := hs.w1
  simp only [aimS, inS, Bool.and_eq_true, decide_eq_true_eq] at h
  rw [w64_in (n := 0 - s 9) (by omega) (by omega)] at h
  constructor <;> omega
theorem valS_sat {s : Nat → Int} {l : List Aim3} (h : valS s l = true) : satS s = true := by unfold valS at h; rw [Bool.and_eq_true] at h; exact h.2
theorem valS_aim {s : Nat → Int} {l : List Aim3} (h : valS s l = true) {x : Aim3} (hx : x ∈ l) : aimS s x = true := by
  simp only [valS, areS, Bool.and_eq_true, List.all_eq_true] at h; exact h.1.1 x hx
theorem valS_len {s : Nat → Int} {l : List Aim3} (h : valS s l = true) : l.length ≤ 64 := by
  simp only [valS, areS, Bool.and_eq_true, decide_eq_true_eq] at h; exact h.1.2
/-- The reference's turns and fit. -/
def trnK (s : Nat → Int) (x y : Aim3) : Int := w64 (max (w64 (x.k - y.k)) (w64 (0 - w64 (x.k - y.k))) * s 19)
def fitR (s : Nat → Int) (x y : Aim3) : Bool := (decide (x.b ≤ y.a) && decide (w64 (y.a - x.b) ≥ trnK s x y)) || (decide (y.b ≤ x.a) && decide (w64 (x.a - y.b) ≥ trnK s x y))
theorem trnK_eq {s : Nat → Int} {x y : Aim3} (hx : AimB x) (hy : AimB y) : trnK s x y = slewK s x.k y.k := by
  obtain ⟨_, _, _, x0, x1⟩ := hx
  obtain ⟨_, _, _, y0, y1⟩ := hy
  unfold trnK slewK
  rw [w64_in (n := x.k - y.k) (by omega) (by omega), w64_in (n := 0 - (x.k - y.k)) (by omega) (by omega), w64_in (n := y.k - x.k) (by omega) (by omega), Int.mul_comm, show 0 - (x.k - y.k) = y.k - x.k by omega]
theorem fitR_eq {s : Nat → Int} (hs : SatB s) {x y : Aim3} (hx : AimB x) (hy : AimB y) : fitR s x y = fitP s x y := by
  rw [Bool.eq_iff_iff, fitB hs hx hy]
  unfold fitR
  rw [trnK_eq hx hy, (slB hs hx hy).2.2]
  have := (slB hs hx hy).1
  have := hx.a0; have := hx.ab; have := hx.b1; have := hy.a0; have := hy.ab; have := hy.b1
  simp only [Bool.or_eq_true, Bool.and_eq_true, decide_eq_true_eq]
  rw [w64_in (n := y.a - x.b) (by omega) (by omega), w64_in (n := x.a - y.b) (by omega) (by omega)]
  split <;> omega
/-- How long an exposure and a spell have in common. -/
def ovl (a b : Int) (x : Aim3) : Int := max 0 (min b x.b - max a x.a)
def ovs (a b : Int) : List Aim3 → Int
  | [] => 0
  | x :: r => ovl a b x + ovs a b r
theorem ovs_snoc (a b : Int) (x : Aim3) : ∀ l : List Aim3, ovs a b (l ++ [x]) = ovs a b l + ovl a b x
  | [] => by simp [ovs]
  | y :: r => by simp only [List.cons_append, ovs, ovs_snoc a b x r]; omega
theorem ovs_rng {a b : Int} (hab : a ≤ b) : ∀ l : List Aim3, 0 ≤ ovs a b l ∧ ovs a b l ≤ (b - a) * l.length
  | [] => by simp [ovs]
  | x :: r => by
    have := ovs_rng hab r
    have h1 : 0 ≤ ovl a b x ∧ ovl a b x ≤ b - a := by unfold ovl; omega
    simp only [ovs, List.length_cons]
    have : (b - a) * ((r.length + 1 : Nat) : Int) = (b - a) * r.length + (b - a) := by rw [Int.natCast_add, Int.mul_add]; simp
    omega
theorem ovs_zero (a : Int) : ∀ l : List Aim3, ovs a a l = 0
  | [] => rfl
  | x :: r => by rw [ovs, ovs_zero a r]; unfold ovl; omega
theorem ovs_next (a t : Int) (hat : a ≤ t) : ∀ l : List Aim3, (∀ x ∈ l, x.a < x.b) → ovs a (t + 1) l = ovs a t l + cnt t l
  | [], _ => by simp [ovs, cnt]
  | x :: r, h => by
    have ih := ovs_next a t hat r (fun y hy => h y (List.mem_cons_of_mem _ hy))
    have hx := h x List.mem_cons_self
    simp only [ovs, ih]
    by_cases hh : hit t x = true
    · have e : cnt t (x :: r) = cnt t r + 1 := by simp [cnt, List.filter_cons, hh]
      simp only [hit, Bool.and_eq_true, decide_eq_true_eq] at hh
      rw [e]; unfold ovl; omega
    · have e : cnt t (x :: r) = cnt t r := by simp [cnt, List.filter_cons, hh]
      have hh' : ¬(x.a ≤ t ∧ t < x.b) := by simpa [hit] using hh
      rw [e]; unfold ovl; omega
/-- The window's sum, by what the exposures and the spell have in common. -/
theorem sm_ovs {s : Nat → Int} {l : List Aim3} (h : HotOK s l) (hx : ∀ x ∈ l, x.a < x.b) (a : Int) : ∀ n : Nat, sm (gS s l) a n = s 16 * ovs a (a + n) l - s 17 * n
  | 0 => by simp [sm, ovs_zero]
  | n + 1 => by
    have ih := sm_ovs h hx a n
    have e : sm (gS s l) a (n + 1) = sm (gS s l) a n + gS s l (a + n) := rfl
    rw [e, ih, gS_eq h, show a + ((n + 1 : Nat) : Int) = a + (n : Int) + 1 by omega, ovs_next a (a + n) (by omega) l hx, Int.mul_add, Int.natCast_add, Int.mul_add]
    simp; omega
/-- The reference's walk through the ends. -/
structure KS where
  frm : Int
  sum : Int
  bf : Int
  bt : Int
  most : Int
def ksIn (w : KS) (t : Int) : KS := if w.sum ≤ 0 then { w with frm := t, sum := 0 } else w
def ksStep (a : Int) (w : KS) (p : Int × Int) : KS := let v := ksIn w p.1; let u := v.sum + p.2
  if p.1 = a ∨ u > v.most then ⟨v.frm, u, v.frm, p.1 + 1, u⟩ else { v with sum := u }
def ksRun (a : Int) (g : Int → Int) : Nat → KS
  | 0 => ⟨a, 0, 0, 0, 0⟩
  | n + 1 => ksStep a (ksRun a g n) (a + n, g (a + n))
def ksOf (w : WS) : KS := ⟨w.frm, w.sum - w.least, w.bf, w.bt, w.most⟩
/-- It is the program's. -/
theorem ks_eq {s : Nat → Int} {l : List Aim3} (h : HotOK s l) {a : Int} (ha : 0 ≤ a ∧ a ≤ 1000000) : ∀ n : Nat, n ≤ 3000 → ksRun a (gS s l) n = ksOf (worstRun a (gainR s l a n))
  | 0, _ => by simp [ksRun, ksOf, worstRun, gainR]
  | n + 1, hn => by
    have ih := ks_eq h ha n (by omega)
    have hs := sm_rng (gS_rng h) a
    have hg := gS_rng h (a + n)
    have hb : ∃ j0 : Nat, j0 ≤ n ∧ (worstRun a (gainR s l a n)).sum = sm (gS s l) a n ∧ (worstRun a (gainR s l a n)).least = sm (gS s l) a j0 := by
      cases n with
      | zero => exact ⟨0, by omega, rfl, rfl⟩
      | succ n =>
        obtain ⟨j0, i1, k1, hI⟩ := worst_inv h a ha n (by omega)
        exact ⟨j0, by have := hI.jn; omega, hI.sum, hI.least⟩
    obtain ⟨j0, hj, e1, e2⟩ := hb
    have hN := hs n
    have hJ := hs j0
    have hN2 := hs (n + 1)
    have eN : sm (gS s l) a (n + 1) = sm (gS s l) a n + gS s l (a + n) := rfl
    rw [ksRun, ih, gainR_succ, worstRun_snoc]
    generalize worstRun a (gainR s l a n) = w at *
    generalize gS s l (a + n) = g at *
    have hw1 : w64 (w.sum + g) = w.sum + g := w64_in (by omega) (by omega)
    have hw2 : w64 (w.sum + g - w.least) = w.sum + g - w.least := w64_in (by omega) (by omega)
    have hw3 : w64 (w.sum + g - w.sum) = g := (w64_in (by omega) (by omega)).trans (by omega)
    have hw4 : w64 (a + (n : Int) + 1) = a + n + 1 := w64_in (by omega) (by omega)
    unfold ksStep wsStep wsOut ksIn wsIn ksOf
    by_cases c1 : w.sum ≤ w.least
    · have c1' : w.sum - w.least ≤ 0 := by omega
      simp only [c1, c1', if_true, hw1, hw3, hw4, Int.zero_add]
      by_cases c2 : a + (n : Int) = a ∨ g > w.most
      · simp only [c2, if_true]
        simp; omega
      · simp only [c2, if_false]
        simp; omega
    · have c1' : ¬ w.sum - w.least ≤ 0 := by omega
      simp only [c1, c1', if_false, hw1, hw2, hw4]
      have e3 : w.sum - w.least + g = w.sum + g - w.least := by omega
      simp only [e3]
      by_cases c2 : a + (n : Int) = a ∨ w.sum + g - w.least > w.most
      · simp only [c2, if_true]
      · simp only [c2, if_false]
theorem free_ok {s : Nat → Int} (hs : SatB s) {l : List Aim3} {x : Aim3} (hx : AimB x) (hl : ∀ y ∈ l, AimB y) : (l.any fun y => !fitP s x y) = false ↔ ∀ y ∈ l, fitR s y x = true := by
  rw [List.any_eq_false]
  refine ⟨fun h y hy => ?_, fun h y hy => ?_⟩
  · rw [fitR_eq hs (hl y hy) hx, fit_sym hs (hl y hy) hx]; simpa using h y hy
  · have := h y hy
    rw [fitR_eq hs (hl y hy) hx, fit_sym hs (hl y hy) hx] at this
    simp [this]
end Go.Proofs


