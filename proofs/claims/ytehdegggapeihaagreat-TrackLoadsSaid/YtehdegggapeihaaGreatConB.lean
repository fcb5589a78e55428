/- Contracts of the functions and plain facts about what they reckon, part 2: called with arguments that read so, each hands back what is typed. The conditions are those typed. -/
import Derived.Test.YtehdegggapeihaaGreatConA
set_option linter.unusedSectionVars false
set_option linter.unusedVariables false
set_option linter.unusedSimpArgs false
namespace Go.Proofs
open Go Go.AI
set_option maxRecDepth 10000
def i4A (y : Nat → Int) : List AV := [.int .i64 (y 0), .int .i64 (y 1), .int .i64 (y 2), .int .i64 (y 3)]
def satM (x y : Nat → Int) (i : Nat) : Int := match i with
  | 0 => pickS 3 24
  | 1 => pickS (y 0) 4
  | 2 => madeO x 0
  | 3 => madeO x 1
  | 4 => madeO x 2
  | 5 => madeO x 3
  | 6 => madeO x 4
  | 7 => madeO x 5
  | 8 => madeO x 6
  | 9 => pickS (y 0) 4
  | 10 => w64 (20 + pickS (y 1) 200)
  | 11 => w64 (100 + pickS (y 1) 2000)
  | 12 => pickS (y 2) 12
  | 13 => pickS (y 2) 4
  | 14 => w64 (2 + pickS (y 2) 30)
  | 15 => w64 (1 + pickS (y 3) 20)
  | 16 => w64 (1 + pickS (y 3) 9)
  | 17 => w64 (1 + pickS (y 3) 4)
  | 18 => w64 (5 + pickS (y 1) 60)
  | 19 => pickS (w64 ((y 0).tdiv 4)) 4
  | _ => w64 (1 + pickS (y 2) 9)
set_option maxHeartbeats 4000000 in
theorem Tryz.c61 (x y : Nat → Int) (hx : w64 (2 * w64 (10 + pickS (x 0) 90)) ≠ 0) : ACalls Tryz.prog 69 [.int .i64 3, .agg (orbA x), .agg (i4A y)] (.agg (satA (satM x y))) := by
  refine ACalls.ofB Tryz.T Tryz.func69 rfl (by kernel_rfl) Tryz.mixed (Nat.le_of_ble_eq_true rfl) ?_
  intro F n' w0 m0 hG hro h1
  repeat' first|refine Q1 ?_|refine Q2 ?_|refine Q3 hG Tryz.T Tryz.keep69 (by kernel_rfl) ?_|refine Q4 hG Tryz.T Tryz.keep69 (by kernel_rfl) ?_|refine Q5 hG Tryz.T ?_|refine Q6 hG Tryz.T ?_|refine Q7 hG Tryz.T ?_|refine Q8 hG Tryz.T ?_|refine Q9 rfl ?_|refine QF rfl ?_|refine QC rfl (And.intro (fun h => ?_) (fun h => ?_))|((conv => whnf); first|refine anF ?_|refine anT ?_|refine And.intro (by kernel_rfl) ?_|refine Exists.intro _ (And.intro (Tryz.c16 x hx) ?_)|refine Exists.intro _ (And.intro (Tryz.c78 _ _ (by decide)) ?_)|refine And.intro (show (4 : Int) ≠ 0 by decide) ?_|refine And.intro (by decide) (And.intro (by decide) ?_)|refine And.intro (fun h => ?_) (fun h => ?_)|refine Or.inl ?_|fail)
  all_goals exact Ends.mk (Or.inl rfl) (AV.weak.of_eq rfl)
def rightS (a b : Int) : Bool := inS b 1 1000000 && inS a 0 (w64 (b - 1))
def spellA (a b : Int) : List AV := [.int .i64 a, .int .i64 b]
theorem Tryz.c76 (a b : Int) : ACalls Tryz.prog 184 [.agg (spellA a b)] (.bool (rightS a b)) := by
  refine ACalls.ofB Tryz.T Tryz.func184 rfl (by kernel_rfl) Tryz.mixed (Nat.le_of_ble_eq_true rfl) ?_
  intro F n' w0 m0 hG hro h1
  repeat' first|refine Q1 ?_|refine Q2 ?_|refine Q3 hG Tryz.T Tryz.keep184 (by kernel_rfl) ?_|refine Q4 hG Tryz.T Tryz.keep184 (by kernel_rfl) ?_|refine Q5 hG Tryz.T ?_|refine Q6 hG Tryz.T ?_|refine Q7 hG Tryz.T ?_|refine Q8 hG Tryz.T ?_|refine Q9 rfl ?_|refine QF rfl ?_|refine QC rfl (And.intro (fun h => ?_) (fun h => ?_))|((conv => whnf); first|refine anF ?_|refine anT ?_|refine And.intro (by kernel_rfl) ?_|refine Exists.intro _ (And.intro (Tryz.c87 _ _ _) ?_)|refine And.intro (fun h => ?_) (fun h => ?_)|refine Or.inl ?_|fail)
  all_goals refine Ends.mk (Or.inl rfl) (AV.weak.of_eq (congrArg AV.bool ?_))
  all_goals (simp only [rightS, *, Bool.true_and, Bool.and_true, Bool.false_and, Bool.and_false]; try rfl)
def holdS (t a b : Int) : Bool := decide (a ≤ t) && decide (t < b)
theorem Tryz.c90 (a b t : Int) : ACalls Tryz.prog 186 [.agg (spellA a b), .int .i64 t] (.bool (holdS t a b)) := by
  refine ACalls.ofB Tryz.T Tryz.func186 rfl (by kernel_rfl) Tryz.mixed (Nat.le_of_ble_eq_true rfl) ?_
  intro F n' w0 m0 hG hro h1
  repeat' first|refine Q1 ?_|refine Q2 ?_|refine Q3 hG Tryz.T Tryz.keep186 (by kernel_rfl) ?_|refine Q4 hG Tryz.T Tryz.keep186 (by kernel_rfl) ?_|refine Q5 hG Tryz.T ?_|refine Q6 hG Tryz.T ?_|refine Q7 hG Tryz.T ?_|refine Q8 hG Tryz.T ?_|refine Q9 rfl ?_|refine QF rfl ?_|refine QC rfl (And.intro (fun h => ?_) (fun h => ?_))|((conv => whnf); first|refine anF ?_|refine anT ?_|refine And.intro (by kernel_rfl) ?_|refine And.intro (fun h => ?_) (fun h => ?_)|refine Or.inl ?_|fail)
  all_goals refine Ends.mk (Or.inl rfl) (AV.weak.of_eq (congrArg AV.bool ?_))
  all_goals (simp_all [holdS] <;> omega)
def overS (x y : Load3) : Bool := decide (x.k = y.k) && decide (x.a < y.b) && decide (y.a < x.b)
theorem Tryz.c86 (x y : Load3) : ACalls Tryz.prog 182 [.agg (loadA y), .ref (loadA x)] (.bool (overS x y)) := by
  refine ACalls.ofB Tryz.T Tryz.func182 rfl (by kernel_rfl) Tryz.mixed (Nat.le_of_ble_eq_true rfl) ?_
  intro F n' w0 m0 hG hro h1
  repeat' first|refine Q1 ?_|refine Q2 ?_|refine Q3 hG Tryz.T Tryz.keep182 (by kernel_rfl) ?_|refine Q4 hG Tryz.T Tryz.keep182 (by kernel_rfl) ?_|refine Q5 hG Tryz.T ?_|refine Q6 hG Tryz.T ?_|refine Q7 hG Tryz.T ?_|refine Q8 hG Tryz.T ?_|refine Q9 rfl ?_|refine QF rfl ?_|refine QC rfl (And.intro (fun h => ?_) (fun h => ?_))|((conv => whnf); first|refine anF ?_|refine anT ?_|refine And.intro (by kernel_rfl) ?_|refine And.intro (fun h => ?_) (fun h => ?_)|refine Or.inl ?_|fail)
  all_goals refine Ends.mk (Or.inl rfl) (AV.weak.of_eq (congrArg AV.bool ?_))
  all_goals (simp_all [overS] <;> (intros; omega))
end Go.Proofs
namespace Go.Proofs
open Go Go.AI
set_option maxRecDepth 10000
def pairsF (a : Int) (f : Nat → Int) (n : Nat) : List (Int × Int) := (List.range n).map fun (i : Nat) => (a + i, f i)
theorem pairsF_snoc (a : Int) (f : Nat → Int) (n : Nat) : pairsF a f (n + 1) = pairsF a f n ++ [(a + n, f n)] := by simp [pairsF, List.range_succ]
def levStep (c : Int) (r : Int × List Int) (p : Int × Int) : Int × List Int := (min c (w64 (r.1 - p.2)), r.2 ++ [min c (w64 (r.1 - p.2))])
def levRun (c : Int) (pre : List (Int × Int)) : Int × List Int := pre.foldl (levStep c) (c, [])
theorem levRun_snoc (c : Int) (pre : List (Int × Int)) (x : Int × Int) : levRun c (pre ++ [x]) = levStep c (levRun c pre) x := by simp [levRun, List.foldl_append]
theorem levRun_len (c : Int) (pre : List (Int × Int)) : (levRun c pre).2.length = pre.length := by
  suffices h : ∀ (r : Int × List Int), (pre.foldl (levStep c) r).2.length = r.2.length + pre.length by simpa [levRun] using h (c, [])
  induction pre with
  | nil => intro r; simp
  | cons p t ih => intro r; simp [ih, levStep]; omega
def levF (c : Int) (f : Nat → Int) : Nat → Int
  | 0 => c
  | n + 1 => min c (levF c f n - f n)
theorem levF_rng {c : Int} {f : Nat → Int} (hf : ∀ i, -1000000 ≤ f i ∧ f i ≤ 1000000) : ∀ n : Nat, c - 1000000 * (n : Int) ≤ levF c f n ∧ levF c f n ≤ c
  | 0 => by simp [levF]
  | n + 1 => by
    have := levF_rng (c := c) hf n
    have := hf n
    simp only [levF]
    omega
theorem lev_ok {c : Int} {f : Nat → Int} (hc : 0 ≤ c ∧ c ≤ 10000000) (hf : ∀ i, -1000000 ≤ f i ∧ f i ≤ 1000000) (a : Int) : ∀ n : Nat, n ≤ 10000 → levRun c (pairsF a f n) = (levF c f n, (List.range n).map fun i => levF c f (i + 1))
  | 0, _ => rfl
  | n + 1, h => by
    have h1 := levF_rng (c := c) hf n
    have h2 := hf n
    rw [pairsF_snoc, levRun_snoc, lev_ok hc hf a n (by omega)]
    unfold levStep
    rw [show w64 (levF c f n - f n) = levF c f n - f n from w64_in (by omega) (by omega), List.range_succ, List.map_append]
    rfl
end Go.Proofs
namespace Go.Proofs
open Go Go.AI
set_option maxRecDepth 10000
def costS (s : Nat → Int) (x : Load3) : Int := if x.k = 1 then s 14 else s 15
def oneS (s : Nat → Int) (t : Int) (x : Load3) : Int := if holdS t x.a x.b then costS s x else 0
def drStep (s : Nat → Int) (t : Int) (n : Int) (x : Load3) : Int := if holdS t x.a x.b then w64 (n + costS s x) else n
def drainS (s : Nat → Int) (l : List Load3) (t : Int) : Int := l.foldl (drStep s t) (s 13)
theorem drainS_snoc (s : Nat → Int) (l : List Load3) (x : Load3) (t : Int) : drainS s (l ++ [x]) t = drStep s t (drainS s l t) x := by simp [drainS, List.foldl_append]
def addS (s : Nat → Int) (t : Int) : List Load3 → Int
  | [] => 0
  | x :: r => oneS s t x + addS s t r
structure Fed (s : Nat → Int) : Prop where
  c : 0 ≤ s 11 ∧ s 11 ≤ 1000000
  u : 0 ≤ s 12 ∧ s 12 ≤ 10000
  i : 0 ≤ s 13 ∧ s 13 ≤ 10000
  h : 0 ≤ s 14 ∧ s 14 ≤ 10000
  d : 0 ≤ s 15 ∧ s 15 ≤ 10000
theorem one_rng {s : Nat → Int} (h : Fed s) (t : Int) (x : Load3) : 0 ≤ oneS s t x ∧ oneS s t x ≤ 10000 := by
  have := h.h; have := h.d
  unfold oneS costS
  split
  · split <;> omega
  · omega
theorem add_rng {s : Nat → Int} (h : Fed s) (t : Int) : ∀ l : List Load3, 0 ≤ addS s t l ∧ addS s t l ≤ 10000 * (l.length : Int)
  | [] => by simp [addS]
  | x :: r => by
    have h1 := add_rng h t r
    have h2 := one_rng h t x
    simp only [addS, List.length_cons]
    omega
theorem drain_eq {s : Nat → Int} (h : Fed s) (t : Int) (l : List Load3) (hl : l.length ≤ 80) : drainS s l t = s 13 + addS s t l := by
  have hi := h.i
  suffices hs : ∀ (r : List Load3) (n : Int), 0 ≤ n → n + 10000 * (r.length : Int) ≤ 900000 → r.foldl (drStep s t) n = n + addS s t r from hs l _ hi.1 (by omega)
  intro r
  induction r with
  | nil => intro n _ _; simp [addS]
  | cons x r ih =>
    intro n h0 h2
    have h1 := one_rng h t x
    have e : drStep s t n x = n + oneS s t x := by
      unfold drStep oneS
      unfold oneS at h1
      split
      · rename_i hh
        rw [if_pos hh] at h1
        have : (0 : Int) ≤ (r.length : Int) := Int.natCast_nonneg _
        rw [List.length_cons] at h2
        exact w64_in (by omega) (by omega)
      · omega
    rw [List.length_cons] at h2
    show r.foldl (drStep s t) (drStep s t n x) = _
    rw [e, ih _ (by omega) (by omega)]
    simp only [addS]
    omega
def orbO (s : Nat → Int) : Nat → Int := fun i => s (i + 2)
def netW (s : Nat → Int) (l : List Load3) (lit : Bool) (t : Int) : Int := if lit then w64 (drainS s l t - s 12) else drainS s l t
def netP (s : Nat → Int) (l : List Load3) (lit : Bool) (t : Int) : Int := s 13 + addS s t l - (if lit then s 12 else 0)
theorem net_eq {s : Nat → Int} (h : Fed s) (t : Int) (l : List Load3) (lit : Bool) (hl : l.length ≤ 80) : netW s l lit t = netP s l lit t ∧ -10000 ≤ netP s l lit t ∧ netP s l lit t ≤ 1000000 := by
  have h1 := add_rng h t l
  have h2 := h.i
  have h3 := h.u
  unfold netW netP
  rw [drain_eq h t l hl]
  cases lit
  · rw [if_neg Bool.false_ne_true, if_neg Bool.false_ne_true]; exact ⟨by omega, by omega, by omega⟩
  · rw [if_pos rfl, if_pos rfl]; exact ⟨w64_in (by omega) (by omega), by omega, by omega⟩
theorem levF_mono {c d : Int} {f g : Nat → Int} (hc : c ≤ d) (h : ∀ k, g k ≤ f k) : ∀ n, levF c f n ≤ levF d g n
  | 0 => hc
  | n + 1 => by have := levF_mono hc h n; have := h n; simp only [levF]; omega
end Go.Proofs
namespace Go.Proofs
open Go Go.AI
set_option maxRecDepth 10000
def loadOK (pre : List Load3) (x : Load3) : Bool := inS x.k 1 2 && rightS x.a x.b && !(pre.any (overS x))
def okL : List Load3 → List Load3 → Bool
  | _, [] => true
  | pre, x :: r => loadOK pre x && okL (pre ++ [x]) r
def properS (l : List Load3) : Bool := decide (l.length ≤ 64) && okL [] l
theorem okL_step {l : List Load3} {i : Nat} (h : i < l.length) : okL (l.take i) (l.drop i) = (loadOK (l.take i) (l.getD i ⟨0, 0, 0⟩) && okL (l.take (i + 1)) (l.drop (i + 1))) := by
  rw [List.drop_eq_getElem_cons h, List.getD_eq_getElem?_getD, List.getElem?_eq_getElem h, List.take_add_one, List.getElem?_eq_getElem h]; rfl
set_option maxHeartbeats 4000000 in
theorem Tryz.c67 (l : List Load3) (hl : l.length ≤ 1000000) : ACalls Tryz.prog 110 [loadsA l] (.bool (properS l)) := by
  refine ACalls.ofB Tryz.T Tryz.func110 rfl (by kernel_rfl) Tryz.mixed (Nat.le_of_ble_eq_true rfl) ?_
  intro F n' w0 m0 hG hro h1
  repeat' first|refine Q1 ?_|refine Q2 ?_|refine Q3 hG Tryz.T Tryz.keep110 (by kernel_rfl) ?_|refine Q4 hG Tryz.T Tryz.keep110 (by kernel_rfl) ?_|refine Q5 hG Tryz.T ?_|refine Q6 hG Tryz.T ?_|refine Q7 hG Tryz.T ?_|refine Q8 hG Tryz.T ?_|refine Q9 rfl ?_|refine QF rfl ?_|refine QC rfl (And.intro (fun h => ?_) (fun h => ?_))|((conv => whnf); first|refine anF ?_|refine anT ?_|refine And.intro (by kernel_rfl) ?_|refine And.intro (fun h => ?_) (fun h => ?_)|refine Or.inl ?_|fail)
  · have h64 : ¬ l.length ≤ 64 := by have := of_decide_eq_true (by assumption : decide (((l.map loadA).length : Int) > 64) = true); simp at this; omega
    exact Ends.mk (Or.inl rfl) (AV.weak.of_eq (congrArg AV.bool (by rw [properS, decide_eq_false h64]; rfl)))
  · have h64 : l.length ≤ 64 := by have := of_decide_eq_false (by assumption : decide (((l.map loadA).length : Int) > 64) = false); simp at this; omega
    refine SPB.loop (X := Nat) (fun i => ⟨[(11, .int .i64 i), (10, .int .i64 (l.map loadA).length), (9, loadsA l), (0, loadsA l)], []⟩)
      (fun i => i ≤ l.length ∧ okL (l.take i) (l.drop i) = okL [] l) (fun i => l.length - i) 0 ⟨Nat.zero_le _, rfl⟩ (St.le.of ?_ ?_) (fun i hi => ?_)
    · repeat' (first | exact trivial | refine And.intro rfl ?_)
    · repeat' (first | exact trivial | refine And.intro rfl ?_)
    · obtain ⟨hi, hok⟩ := hi
      have hj : decide ((i : Int) < ((l.map loadA).length : Int)) = true → i < l.length := fun h => by have := of_decide_eq_true h; simp at this; omega
      obtain ⟨x, hxd⟩ : ∃ x, x = l.getD i ⟨0, 0, 0⟩ := ⟨_, rfl⟩
      have hx : decide ((i : Int) < ((l.map loadA).length : Int)) = true → (l.map loadA)[(i : Int).toNat]? = some [.int .i64 x.k, .int .i64 x.a, .int .i64 x.b] := fun h => by have := hj h; rw [hxd]; simp [List.getElem?_eq_getElem this]; rfl
      have hle : (i : Int).toNat ≤ (l.map loadA).length := by simp; exact hi
      have he : ((l.map loadA).take (i : Int).toNat).drop 0 = (l.take i).map loadA := by simp [List.map_take]
      have h88 := Tryz.c88 (l.take i) (overS x) 182 _ [.ref (loadA x)] (Or.inl rfl) (by simp; omega) (fun y _ => Tryz.c86 x y)
      rw [← he] at h88
      repeat' first|refine Q1 ?_|refine Q2 ?_|refine Q3 hG Tryz.T Tryz.keep110 (by kernel_rfl) ?_|refine Q4 hG Tryz.T Tryz.keep110 (by kernel_rfl) ?_|refine Q5 hG Tryz.T ?_|refine Q6 hG Tryz.T ?_|refine Q7 hG Tryz.T ?_|refine Q8 hG Tryz.T ?_|refine Q9 rfl ?_|refine QF rfl ?_|refine QC rfl (And.intro (fun h => ?_) (fun h => ?_))|((conv => whnf); first|refine anF ?_|refine anT ?_|refine And.intro (by kernel_rfl) ?_|refine And.intro (Int.natCast_nonneg i) (Exists.intro _ (And.intro (hx (by assumption)) ?_))|refine Exists.intro _ (And.intro (Tryz.c87 _ _ _) ?_)|refine Exists.intro _ (And.intro (Tryz.c76 _ _) ?_)|refine Exists.intro _ (And.intro (h88) ?_)|refine And.intro (Int.natCast_nonneg i) (And.intro (Nat.zero_le _) (And.intro hle ?_))|refine And.intro (fun h => ?_) (fun h => ?_)|refine Or.inl ?_|fail)
      · have hl := hj (by assumption)
        rw [okL_step hl, ← hxd, show loadOK (l.take i) x = false by simp_all [loadOK], Bool.false_and] at hok
        exact Ends.mk (Or.inl rfl) (AV.weak.of_eq (congrArg AV.bool (by rw [properS, ← hok, Bool.and_false])))
      · have hl := hj (by assumption)
        rw [okL_step hl, ← hxd, show loadOK (l.take i) x = false by simp_all [loadOK], Bool.false_and] at hok
        exact Ends.mk (Or.inl rfl) (AV.weak.of_eq (congrArg AV.bool (by rw [properS, ← hok, Bool.and_false])))
      · have hl := hj (by assumption)
        rw [okL_step hl, ← hxd, show loadOK (l.take i) x = false by simp_all [loadOK], Bool.false_and] at hok
        exact Ends.mk (Or.inl rfl) (AV.weak.of_eq (congrArg AV.bool (by rw [properS, ← hok, Bool.and_false])))
      · have hl := hj (by assumption)
        rw [okL_step hl, ← hxd, show loadOK (l.take i) x = true by simp_all [loadOK], Bool.true_and] at hok
        refine Exists.intro (i + 1) (And.intro ⟨hl, hok⟩ (And.intro (by omega) (St.le.of ?_ ?_)))
        · refine And.intro (congrArg some (le_next (by omega))) ?_
          repeat' (first | exact trivial | refine And.intro rfl ?_)
        · repeat' (first | exact trivial | refine And.intro rfl ?_)
      · have hge : l.length ≤ i := by have := of_decide_eq_false (by assumption : decide ((i : Int) < ((l.map loadA).length : Int)) = false); simp at this; omega
        rw [List.drop_of_length_le hge] at hok
        refine Ends.mk (Or.inl rfl) (AV.weak.of_eq (congrArg AV.bool ?_))
        rw [properS, decide_eq_true h64, ← hok]; rfl
def validS (s : Nat → Int) (l : List Load3) (a b : Int) : Bool := rightS a b && decide (w64 (b - a) ≤ 4320) && properS l && satS s
theorem Tryz.c59 (s : Nat → Int) (l : List Load3) (a b : Int) (hl : l.length ≤ 1000000) : ACalls Tryz.prog 131 [.agg (satA s), loadsA l, .agg (spellA a b)] (.bool (validS s l a b)) := by
  refine ACalls.ofB Tryz.T Tryz.func131 rfl (by kernel_rfl) Tryz.mixed (Nat.le_of_ble_eq_true rfl) ?_
  intro F n' w0 m0 hG hro h1
  repeat' first|refine Q1 ?_|refine Q2 ?_|refine Q3 hG Tryz.T Tryz.keep131 (by kernel_rfl) ?_|refine Q4 hG Tryz.T Tryz.keep131 (by kernel_rfl) ?_|refine Q5 hG Tryz.T ?_|refine Q6 hG Tryz.T ?_|refine Q7 hG Tryz.T ?_|refine Q8 hG Tryz.T ?_|refine Q9 rfl ?_|refine QF rfl ?_|refine QC rfl (And.intro (fun h => ?_) (fun h => ?_))|((conv => whnf); first|refine anF ?_|refine anT ?_|refine And.intro (by kernel_rfl) ?_|refine Exists.intro _ (And.intro (Tryz.c76 _ _) ?_)|refine Exists.intro _ (And.intro (Tryz.c67 l hl) ?_)|refine Exists.intro _ (And.intro (Tryz.c68 s) ?_)|refine And.intro (fun h => ?_) (fun h => ?_)|refine Or.inl ?_|fail)
  all_goals refine Ends.mk (Or.inl rfl) (AV.weak.of_eq (congrArg AV.bool ?_))
  all_goals (have hw : w64 (b - a) = IntKind.i64.wrap (b - a) := rfl)
  all_goals (simp only [validS, *, hw, Bool.true_and, Bool.and_true, Bool.false_and, Bool.and_false])
theorem Tryz.c95 (c : Int × Int) (t : Int) (h : inS t 0 1000000 = true) (hc : cellS c = true) : ACalls Tryz.prog 263 [.agg (cellA c), .ref [.int .i64 t]] (.bool (darkS c t)) := by
  refine ACalls.ofB Tryz.T Tryz.func263 rfl (by kernel_rfl) Tryz.mixed (Nat.le_of_ble_eq_true rfl) ?_
  intro F n' w0 m0 hG hro h1
  repeat' first|refine Q1 ?_|refine Q2 ?_|refine Q3 hG Tryz.T Tryz.keep263 (by kernel_rfl) ?_|refine Q4 hG Tryz.T Tryz.keep263 (by kernel_rfl) ?_|refine Q5 hG Tryz.T ?_|refine Q6 hG Tryz.T ?_|refine Q7 hG Tryz.T ?_|refine Q8 hG Tryz.T ?_|refine Q9 rfl ?_|refine QF rfl ?_|refine QC rfl (And.intro (fun h => ?_) (fun h => ?_))|((conv => whnf); first|refine anF ?_|refine anT ?_|refine And.intro (by kernel_rfl) ?_|refine Exists.intro _ (And.intro (Tryz.c41 c t h hc) ?_)|refine And.intro (fun h => ?_) (fun h => ?_)|refine Or.inl ?_|fail)
  all_goals exact Ends.mk (Or.inl rfl) (AV.weak.of_eq rfl)
def litS (o : Nat → Int) (t : Int) : Bool := atS o t 0 && !((couldL o t).any fun c => darkS c t)
theorem Tryz.b77 (s : Nat → Int) (t : Int) (h : atS (orbO s) t 0 = false) : ACalls Tryz.prog 206 [.agg (satA s), .int .i64 t] (.bool (litS (orbO s) t)) := by
  have h26 := Tryz.b26 (orbO s) t h
  refine ACalls.ofB Tryz.T Tryz.func206 rfl (by kernel_rfl) Tryz.mixed (Nat.le_of_ble_eq_true rfl) ?_
  intro F n' w0 m0 hG hro h1
  repeat' first|refine Q1 ?_|refine Q2 ?_|refine Q3 hG Tryz.T Tryz.keep206 (by kernel_rfl) ?_|refine Q4 hG Tryz.T Tryz.keep206 (by kernel_rfl) ?_|refine Q5 hG Tryz.T ?_|refine Q6 hG Tryz.T ?_|refine Q7 hG Tryz.T ?_|refine Q8 hG Tryz.T ?_|refine Q9 rfl ?_|refine QF rfl ?_|refine QC rfl (And.intro (fun h => ?_) (fun h => ?_))|((conv => whnf); first|refine anF ?_|refine anT ?_|refine And.intro (by kernel_rfl) ?_|refine Exists.intro _ (And.intro (h26) ?_)|refine And.intro (fun h => ?_) (fun h => ?_)|refine Or.inl ?_|fail)
  all_goals exact Ends.mk (Or.inl rfl) (AV.weak.of_eq (congrArg AV.bool (by rw [litS, h]; rfl)))
theorem Tryz.c77 (s : Nat → Int) (t : Int) (h : atS (orbO s) t 0 = true) (hc : ∀ c ∈ couldL (orbO s) t, cellS c = true) (hn : (couldL (orbO s) t).length ≤ 1000000) : ACalls Tryz.prog 206 [.agg (satA s), .int .i64 t] (.bool (litS (orbO s) t)) := by
  have h26 := Tryz.c26 (orbO s) t h
  have ht : inS t 0 1000000 = true := by simp only [atS, Bool.and_eq_true] at h; exact h.1.1
  have h94 := Tryz.c94 (couldL (orbO s) t) (fun c => darkS c t) 263 _ [.ref [.int .i64 t]] (Or.inl rfl) hn (fun c hm => Tryz.c95 c t ht (hc c hm))
  refine ACalls.ofB Tryz.T Tryz.func206 rfl (by kernel_rfl) Tryz.mixed (Nat.le_of_ble_eq_true rfl) ?_
  intro F n' w0 m0 hG hro h1
  repeat' first|refine Q1 ?_|refine Q2 ?_|refine Q3 hG Tryz.T Tryz.keep206 (by kernel_rfl) ?_|refine Q4 hG Tryz.T Tryz.keep206 (by kernel_rfl) ?_|refine Q5 hG Tryz.T ?_|refine Q6 hG Tryz.T ?_|refine Q7 hG Tryz.T ?_|refine Q8 hG Tryz.T ?_|refine Q9 rfl ?_|refine QF rfl ?_|refine QC rfl (And.intro (fun h => ?_) (fun h => ?_))|((conv => whnf); first|refine anF ?_|refine anT ?_|refine And.intro (by kernel_rfl) ?_|refine Exists.intro _ (And.intro (h26) ?_)|refine Exists.intro _ (And.intro (h94) ?_)|refine And.intro (fun h => ?_) (fun h => ?_)|refine Or.inl ?_|fail)
  all_goals exact Ends.mk (Or.inl rfl) (AV.weak.of_eq (congrArg AV.bool (by rw [litS, h]; rfl)))
end Go.Proofs
namespace Go.Proofs
open Go Go.AI
set_option maxRecDepth 10000
theorem cel_ok {o : Nat → Int} (h : PV o) {d : Int} (h1 : -1000 ≤ d) (h2 : d ≤ 2000000) : cellS (celW o d) = true := by
  have hr := row_rng h d
  have l1 := h.l1
  have l3 := h.l3
  have hc : 0 ≤ colM o d ∧ colM o d < 48000 := ⟨Int.emod_nonneg _ (by omega), Int.emod_lt_of_pos _ (by omega)⟩
  have e1 : w64 ((colW o d).tdiv 1000) = colM o d / 1000 := by rw [col_eq h h1 h2, Int.tdiv_eq_ediv_of_nonneg hc.1]; exact w64_in (by omega) (by omega)
  have e2 : w64 ((rowW o d).tdiv 1000) = rowM o d / 1000 := by rw [row_eq h h1 h2, Int.tdiv_eq_ediv_of_nonneg (by omega)]; exact w64_in (by omega) (by omega)
  simp only [cellS, celW, e1, e2, inS, Bool.and_eq_true, decide_eq_true_eq]
  omega
theorem could_ok {o : Nat → Int} (h : PV o) {t : Int} (h1 : 0 ≤ t) (h2 : t ≤ 1000000) : ∀ c ∈ couldL o t, cellS c = true := fun c hc => by
  have s1 := h.s1
  have s2 := h.s2
  obtain ⟨d, d1, d2, rfl⟩ := (could_mem' ⟨h1, by omega⟩ ⟨s1, s2⟩ c).1 hc
  exact cel_ok h (by omega) (by omega)
theorem Tryz.u77 (s : Nat → Int) (t : Int) : ACalls Tryz.prog 206 [.agg (satA s), .int .i64 t] (.bool (litS (orbO s) t)) := by
  cases h : atS (orbO s) t 0
  · exact Tryz.b77 s t h
  · have hv : PV (orbO s) ∧ 0 ≤ t ∧ t ≤ 1000000 := by
      simp only [atS, Bool.and_eq_true] at h
      have h2 := h.1.1
      simp only [inS, Bool.and_eq_true, decide_eq_true_eq] at h2
      exact ⟨(orbS_iff _).1 h.2, h2.1, h2.2⟩
    refine Tryz.c77 s t h (could_ok hv.1 hv.2.1 hv.2.2) ?_
    have := could_len (orbO s) t
    have := hv.1.s2
    omega
theorem kind_of : ∀ (l pre : List Load3), okL pre l = true → ∀ x ∈ l, x.k = 1 ∨ x.k = 2
  | [], _, _, x, h => absurd h (by simp)
  | y :: r, pre, h, x, hx => by
    simp only [okL, Bool.and_eq_true] at h
    rcases List.mem_cons.1 hx with rfl | hx
    · have := h.1
      simp only [loadOK, inS, Bool.and_eq_true, decide_eq_true_eq] at this
      omega
    · exact kind_of r _ h.2 x hx
theorem Tryz.c69 (s : Nat → Int) (l : List Load3) (t : Int) (hl : l.length ≤ 1000) (hk : ∀ x ∈ l, x.k = 1 ∨ x.k = 2) : ACalls Tryz.prog 111 [.agg (satA s), loadsA l, .int .i64 t] (.int .i64 (drainS s l t)) := by
  refine ACalls.ofB Tryz.T Tryz.func111 rfl (by kernel_rfl) Tryz.mixed (Nat.le_of_ble_eq_true rfl) ?_
  intro F n' w0 m0 hG hro h1
  repeat' first|refine Q1 ?_|refine Q2 ?_|refine Q3 hG Tryz.T Tryz.keep111 (by kernel_rfl) ?_|refine Q4 hG Tryz.T Tryz.keep111 (by kernel_rfl) ?_|refine Q5 hG Tryz.T ?_|refine Q6 hG Tryz.T ?_|refine Q7 hG Tryz.T ?_|refine Q8 hG Tryz.T ?_|refine Q9 rfl ?_|refine QF rfl ?_|refine QC rfl (And.intro (fun h => ?_) (fun h => ?_))|((conv => whnf); first|refine anF ?_|refine anT ?_|refine And.intro (by kernel_rfl) ?_|refine And.intro (fun h => ?_) (fun h => ?_)|refine Or.inl ?_|fail)
  refine SPB.loop (X := Nat) (fun i => ⟨[(20, .int .i64 i), (19, .int .i64 (l.map loadA).length), (18, loadsA l), (8, .int .i64 (drainS s (l.take i) t)), (7, .loc 7 0), (2, .int .i64 t)], [(7, [.int .i64 0, .int .i64 (s 14), .int .i64 (s 15)])]⟩)
    (fun i => i ≤ l.length) (fun i => l.length - i) 0 (Nat.zero_le _) (St.le.of ?_ ?_) (fun i hi => ?_)
  · repeat' (first | exact trivial | refine And.intro rfl ?_)
  · repeat' (first | exact trivial | refine And.intro rfl ?_)
  · have hj : decide ((i : Int) < ((l.map loadA).length : Int)) = true → i < l.length := fun h => by have := of_decide_eq_true h; simp at this; omega
    obtain ⟨x, hxd⟩ : ∃ x, x = l.getD i ⟨0, 0, 0⟩ := ⟨_, rfl⟩
    have hx : decide ((i : Int) < ((l.map loadA).length : Int)) = true → (l.map loadA)[(i : Int).toNat]? = some [.int .i64 x.k, .int .i64 x.a, .int .i64 x.b] := fun h => by have := hj h; rw [hxd]; simp [List.getElem?_eq_getElem this]; rfl
    have hs : decide ((i : Int) < ((l.map loadA).length : Int)) = true → l.take (i + 1) = l.take i ++ [x] := fun h => by have := hj h; rw [hxd, List.take_add_one, List.getD_eq_getElem?_getD, List.getElem?_eq_getElem this]; rfl
    have hkx : decide ((i : Int) < ((l.map loadA).length : Int)) = true → x.k = 1 ∨ x.k = 2 := fun h => hk x (by have := hj h; rw [hxd, List.getD_eq_getElem?_getD, List.getElem?_eq_getElem this]; exact List.getElem_mem this)
    obtain ⟨xk, xa, xb⟩ := x
    by_cases hk1 : xk = 1 ∨ xk = 2
    · have body : ∀ q : Int, q = 1 ∨ q = 2 → xk = q → True := fun _ _ _ => trivial
      rcases hk1 with rfl | rfl
      · repeat' first|refine Q1 ?_|refine Q2 ?_|refine Q3 hG Tryz.T Tryz.keep111 (by kernel_rfl) ?_|refine Q4 hG Tryz.T Tryz.keep111 (by kernel_rfl) ?_|refine Q5 hG Tryz.T ?_|refine Q6 hG Tryz.T ?_|refine Q7 hG Tryz.T ?_|refine Q8 hG Tryz.T ?_|refine Q9 rfl ?_|refine QF rfl ?_|refine QC rfl (And.intro (fun h => ?_) (fun h => ?_))|((conv => whnf); first|refine anF ?_|refine anT ?_|refine And.intro (by kernel_rfl) ?_|refine And.intro (Int.natCast_nonneg i) (Exists.intro _ (And.intro (hx (by assumption)) ?_))|refine Exists.intro _ (And.intro (Tryz.c90 _ _ _) ?_)|refine And.intro (of_decide_eq_true (Eq.refl true)) ?_|refine And.intro (fun h => ?_) (fun h => ?_)|refine Or.inl ?_|fail)
        · refine Exists.intro (i + 1) (And.intro (hj (by assumption)) (And.intro (by have := hj (by assumption); omega) (St.le.of ?_ ?_)))
          · refine And.intro (congrArg some (le_next (by omega))) (And.intro rfl (And.intro rfl (And.intro (congrArg (fun z => some (AV.int .i64 z)) ?_) ?_)))
            · rw [hs (by assumption), drainS_snoc]
              exact (if_pos (by assumption)).symm
            · repeat' (first | exact trivial | refine And.intro rfl ?_)
          · repeat' (first | exact trivial | refine And.intro rfl ?_)
        · refine Exists.intro (i + 1) (And.intro (hj (by assumption)) (And.intro (by have := hj (by assumption); omega) (St.le.of ?_ ?_)))
          · refine And.intro (congrArg some (le_next (by omega))) (And.intro rfl (And.intro rfl (And.intro (congrArg (fun z => some (AV.int .i64 z)) ?_) ?_)))
            · rw [hs (by assumption), drainS_snoc]
              exact (if_neg (fun h => tf h (by assumption))).symm
            · repeat' (first | exact trivial | refine And.intro rfl ?_)
          · repeat' (first | exact trivial | refine And.intro rfl ?_)
        · have hge : l.length ≤ i := by have := of_decide_eq_false (by assumption : decide ((i : Int) < ((l.map loadA).length : Int)) = false); simp at this; omega
          refine Ends.mk (Or.inl rfl) (AV.weak.of_eq ?_)
          rw [List.take_of_length_le hge]; rfl
      · repeat' first|refine Q1 ?_|refine Q2 ?_|refine Q3 hG Tryz.T Tryz.keep111 (by kernel_rfl) ?_|refine Q4 hG Tryz.T Tryz.keep111 (by kernel_rfl) ?_|refine Q5 hG Tryz.T ?_|refine Q6 hG Tryz.T ?_|refine Q7 hG Tryz.T ?_|refine Q8 hG Tryz.T ?_|refine Q9 rfl ?_|refine QF rfl ?_|refine QC rfl (And.intro (fun h => ?_) (fun h => ?_))|((conv => whnf); first|refine anF ?_|refine anT ?_|refine And.intro (by kernel_rfl) ?_|refine And.intro (Int.natCast_nonneg i) (Exists.intro _ (And.intro (hx (by assumption)) ?_))|refine Exists.intro _ (And.intro (Tryz.c90 _ _ _) ?_)|refine And.intro (of_decide_eq_true (Eq.refl true)) ?_|refine And.intro (fun h => ?_) (fun h => ?_)|refine Or.inl ?_|fail)
        · refine Exists.intro (i + 1) (And.intro (hj (by assumption)) (And.intro (by have := hj (by assumption); omega) (St.le.of ?_ ?_)))
          · refine And.intro (congrArg some (le_next (by omega))) (And.intro rfl (And.intro rfl (And.intro (congrArg (fun z => some (AV.int .i64 z)) ?_) ?_)))
            · rw [hs (by assumption), drainS_snoc]
              exact (if_pos (by assumption)).symm
            · repeat' (first | exact trivial | refine And.intro rfl ?_)
          · repeat' (first | exact trivial | refine And.intro rfl ?_)
        · refine Exists.intro (i + 1) (And.intro (hj (by assumption)) (And.intro (by have := hj (by assumption); omega) (St.le.of ?_ ?_)))
          · refine And.intro (congrArg some (le_next (by omega))) (And.intro rfl (And.intro rfl (And.intro (congrArg (fun z => some (AV.int .i64 z)) ?_) ?_)))
            · rw [hs (by assumption), drainS_snoc]
              exact (if_neg (fun h => tf h (by assumption))).symm
            · repeat' (first | exact trivial | refine And.intro rfl ?_)
          · repeat' (first | exact trivial | refine And.intro rfl ?_)
        · have hge : l.length ≤ i := by have := of_decide_eq_false (by assumption : decide ((i : Int) < ((l.map loadA).length : Int)) = false); simp at this; omega
          refine Ends.mk (Or.inl rfl) (AV.weak.of_eq ?_)
          rw [List.take_of_length_le hge]; rfl
    · have hge : ¬ decide ((i : Int) < ((l.map loadA).length : Int)) = true := fun h => hk1 (hkx h)
      repeat' first
 | exact (hge (by assumption)).elim
        | refine Q1 ?_
        | refine Q2 ?_
        | refine Q3 hG Tryz.T Tryz.keep111 (by kernel_rfl) ?_
        | refine Q4 hG Tryz.T Tryz.keep111 (by kernel_rfl) ?_
        | refine Q5 hG Tryz.T ?_
        | refine Q6 hG Tryz.T ?_
        | refine Q7 hG Tryz.T ?_
        | refine Q8 hG Tryz.T ?_
        | refine Q9 rfl ?_
        | refine QF rfl ?_
        | refine QC rfl (And.intro (fun h => ?_) (fun h => ?_))
        | (conv => whnf
           first
             | refine anF ?_
             | refine anT ?_
             | refine And.intro (by kernel_rfl) ?_
             | refine And.intro (Int.natCast_nonneg i) (Exists.intro _ (And.intro (hx (by assumption)) ?_))
             | refine And.intro (fun h => ?_) (fun h => ?_)
             | refine Or.inl ?_
             | fail)
      have hge : l.length ≤ i := by have := of_decide_eq_false (by assumption : decide ((i : Int) < ((l.map loadA).length : Int)) = false); simp at this; omega
      refine Ends.mk (Or.inl rfl) (AV.weak.of_eq ?_)
      rw [List.take_of_length_le hge]; rfl
def drainV (s : Nat → Int) (l : List Load3) (t : Int) : Int := if properS l && satS s then drainS s l t else 0
theorem proper_len {l : List Load3} (h : properS l = true) : l.length ≤ 64 := by simp only [properS, Bool.and_eq_true, decide_eq_true_eq] at h; exact h.1
theorem proper_kind {l : List Load3} (h : properS l = true) : ∀ x ∈ l, x.k = 1 ∨ x.k = 2 := by simp only [properS, Bool.and_eq_true] at h; exact kind_of l [] h.2
theorem Tryz.c42 (s : Nat → Int) (l : List Load3) (t : Int) (hl : l.length ≤ 1000000) : ACalls Tryz.prog 40 [.agg (satA s), loadsA l, .int .i64 t] (.int .i64 (drainV s l t)) := by
  by_cases h : (properS l && satS s) = true
  · have h1 : properS l = true := by simp only [Bool.and_eq_true] at h; exact h.1
    have h2 : satS s = true := by simp only [Bool.and_eq_true] at h; exact h.2
    have k67 := Tryz.c67 l hl
    have k68 := Tryz.c68 s
    rw [h1] at k67
    rw [h2] at k68
    have k69 := Tryz.c69 s l t (by have := proper_len h1; omega) (proper_kind h1)
    refine ACalls.ofB Tryz.T Tryz.func40 rfl (by kernel_rfl) Tryz.mixed (Nat.le_of_ble_eq_true rfl) ?_
    intro F n' w0 m0 hG hro h1
    repeat' first|refine Q1 ?_|refine Q2 ?_|refine Q3 hG Tryz.T Tryz.keep40 (by kernel_rfl) ?_|refine Q4 hG Tryz.T Tryz.keep40 (by kernel_rfl) ?_|refine Q5 hG Tryz.T ?_|refine Q6 hG Tryz.T ?_|refine Q7 hG Tryz.T ?_|refine Q8 hG Tryz.T ?_|refine Q9 rfl ?_|refine QF rfl ?_|refine QC rfl (And.intro (fun h => ?_) (fun h => ?_))|((conv => whnf); first|refine anF ?_|refine anT ?_|refine And.intro (by kernel_rfl) ?_|refine Exists.intro _ (And.intro (k67) ?_)|refine Exists.intro _ (And.intro (k68) ?_)|refine Exists.intro _ (And.intro (k69) ?_)|refine And.intro (fun h => ?_) (fun h => ?_)|refine Or.inl ?_|fail)
    all_goals exact Ends.mk (Or.inl rfl) (AV.weak.of_eq (congrArg (AV.int .i64) (by rw [drainV, if_pos h])))
  · have k67 := Tryz.c67 l hl
    have k68 := Tryz.c68 s
    have hz : drainV s l t = 0 := by rw [drainV, if_neg h]
    rw [hz]
    cases h1 : properS l
    · rw [h1] at k67
      refine ACalls.ofB Tryz.T Tryz.func40 rfl (by kernel_rfl) Tryz.mixed (Nat.le_of_ble_eq_true rfl) ?_
      intro F n' w0 m0 hG hro h1
      repeat' first|refine Q1 ?_|refine Q2 ?_|refine Q3 hG Tryz.T Tryz.keep40 (by kernel_rfl) ?_|refine Q4 hG Tryz.T Tryz.keep40 (by kernel_rfl) ?_|refine Q5 hG Tryz.T ?_|refine Q6 hG Tryz.T ?_|refine Q7 hG Tryz.T ?_|refine Q8 hG Tryz.T ?_|refine Q9 rfl ?_|refine QF rfl ?_|refine QC rfl (And.intro (fun h => ?_) (fun h => ?_))|((conv => whnf); first|refine anF ?_|refine anT ?_|refine And.intro (by kernel_rfl) ?_|refine Exists.intro _ (And.intro (k67) ?_)|refine Exists.intro _ (And.intro (k68) ?_)|refine And.intro (fun h => ?_) (fun h => ?_)|refine Or.inl ?_|fail)
      all_goals exact Ends.mk (Or.inl rfl) (AV.weak.of_eq rfl)
    · have h2 : satS s = false := by rw [h1] at h; simpa using h
      rw [h1] at k67
      rw [h2] at k68
      refine ACalls.ofB Tryz.T Tryz.func40 rfl (by kernel_rfl) Tryz.mixed (Nat.le_of_ble_eq_true rfl) ?_
      intro F n' w0 m0 hG hro h1
      repeat' first|refine Q1 ?_|refine Q2 ?_|refine Q3 hG Tryz.T Tryz.keep40 (by kernel_rfl) ?_|refine Q4 hG Tryz.T Tryz.keep40 (by kernel_rfl) ?_|refine Q5 hG Tryz.T ?_|refine Q6 hG Tryz.T ?_|refine Q7 hG Tryz.T ?_|refine Q8 hG Tryz.T ?_|refine Q9 rfl ?_|refine QF rfl ?_|refine QC rfl (And.intro (fun h => ?_) (fun h => ?_))|((conv => whnf); first|refine anF ?_|refine anT ?_|refine And.intro (by kernel_rfl) ?_|refine Exists.intro _ (And.intro (k67) ?_)|refine Exists.intro _ (And.intro (k68) ?_)|refine And.intro (fun h => ?_) (fun h => ?_)|refine Or.inl ?_|fail)
      all_goals exact Ends.mk (Or.inl rfl) (AV.weak.of_eq rfl)
def netsCap (s : Nat → Int) (l : List Load3) (a b : Int) : List AV := [.ref (spellA a b), .ref (satA s), .ref [loadsA l]]
theorem Tryz.c63 (s : Nat → Int) (l : List Load3) (a b : Int) : ACalls Tryz.prog 132 [.agg (satA s), loadsA l, .agg (spellA a b)] (.clo 205 (netsCap s l a b)) := by
  refine ACalls.ofB Tryz.T Tryz.func132 rfl (by kernel_rfl) Tryz.mixed (Nat.le_of_ble_eq_true rfl) ?_
  intro F n' w0 m0 hG hro h1
  repeat' first|refine Q1 ?_|refine Q2 ?_|refine Q3 hG Tryz.T Tryz.keep132 (by kernel_rfl) ?_|refine Q4 hG Tryz.T Tryz.keep132 (by kernel_rfl) ?_|refine Q5 hG Tryz.T ?_|refine Q6 hG Tryz.T ?_|refine Q7 hG Tryz.T ?_|refine Q8 hG Tryz.T ?_|refine Q9 rfl ?_|refine QF rfl ?_|refine QC rfl (And.intro (fun h => ?_) (fun h => ?_))|((conv => whnf); first|refine anF ?_|refine anT ?_|refine And.intro (by kernel_rfl) ?_|refine And.intro (fun h => ?_) (fun h => ?_)|refine Or.inl ?_|fail)
  all_goals exact Ends.mk (Or.inl rfl) (AV.weak.of_eq rfl)
def netS (s : Nat → Int) (l : List Load3) (t : Int) : Int := netW s l (litS (orbO s) t) t
def netsL (s : Nat → Int) (l : List Load3) (a b : Int) : List (Int × Int) := pairsF a (fun i => netS s l (a + i)) (b - a).toNat
def pairV (p : Int × Int) : Array Value := #[.int .i64 p.1, .int .i64 p.2]
theorem Tryz.s80 (s : Nat → Int) (l : List Load3) (a b : Int) (ha : 0 ≤ a) (hb : b ≤ 1000000) (hl : l.length ≤ 1000) (hk : ∀ x ∈ l, x.k = 1 ∨ x.k = 2) : ASeq Tryz.prog pairV 205 (netsCap s l a b) (netsL s l a b) := by
  refine ASeq.of Tryz.T Tryz.keep205 Tryz.func205 rfl (by kernel_rfl) Tryz.mixed (by kernel_rfl) (Nat.le_of_ble_eq_true rfl) rfl (fun l => by kernel_rfl) ?_
  intro F n m y J Jx hY
  refine YP.loop (X := Nat) (fun i => ((false, i), ⟨(5, .int .i64 (a + i)) :: params 0 (.lit (.func (.yield y) #[] #[]) :: netsCap s l a b), []⟩)) (fun i => i ≤ (b - a).toNat) (fun i => (b - a).toNat - i) 0 (Nat.zero_le _) rfl
    (St.le.of ?_ ?_) (fun i hi => ?_)
  · refine And.intro (congrArg (fun z => some (AV.int .i64 z)) (show a = a + ((0 : Nat) : Int) by omega)) ?_
    repeat' (first | exact trivial | refine And.intro rfl ?_)
  · exact trivial
  · refine awpY_sound (keep := Tryz.keep205) hY Tryz.T _ _ _ _ (by kernel_rfl) (by kernel_rfl) ?_
    refine And.intro (fun h => ?_) (fun h => ?_)
    · have hib : i < (b - a).toNat := by have := of_decide_eq_true (by assumption : decide (a + (i : Int) < b) = true); omega
      refine Exists.intro _ (And.intro (Tryz.c69 s l (a + i) hl hk) ?_)
      refine Exists.intro _ (And.intro (Tryz.u77 s (a + i)) ?_)
      refine And.intro (fun h2 => ?_) (fun h2 => ?_)
      · refine And.intro rfl (Exists.intro (a + (i : Int), netS s l (a + i)) (And.intro ?_ (And.intro (congrArg (fun z => #[Value.int .i64 (a + (i : Int)), Value.int .i64 z]) ((if_pos h2).symm)) (And.intro ?_ ?_))))
        · simp [netsL, pairsF, List.getElem?_map, List.getElem?_range hib]
        · refine anF ?_
          refine Exists.intro (i + 1) (And.intro hib (And.intro (by omega) (And.intro rfl (St.le.of ?_ trivial))))
          refine And.intro (congrArg (fun z => some (AV.int .i64 z)) ((w64_in (by omega) (by omega)).trans (by omega))) ?_
          repeat' (first | exact trivial | refine And.intro rfl ?_)
        · refine anT ?_
          exact EndsY.mk (Or.inl rfl) (Or.inr rfl)
      · refine And.intro rfl (Exists.intro (a + (i : Int), netS s l (a + i)) (And.intro ?_ (And.intro (congrArg (fun z => #[Value.int .i64 (a + (i : Int)), Value.int .i64 z]) ((if_neg (fun h => tf h h2)).symm)) (And.intro ?_ ?_))))
        · simp [netsL, pairsF, List.getElem?_map, List.getElem?_range hib]
        · refine anF ?_
          refine Exists.intro (i + 1) (And.intro hib (And.intro (by omega) (And.intro rfl (St.le.of ?_ trivial))))
          refine And.intro (congrArg (fun z => some (AV.int .i64 z)) ((w64_in (by omega) (by omega)).trans (by omega))) ?_
          repeat' (first | exact trivial | refine And.intro rfl ?_)
        · refine anT ?_
          exact EndsY.mk (Or.inl rfl) (Or.inr rfl)
    · refine EndsY.mk (Or.inr rfl) (Or.inl ?_)
      simp [netsL, pairsF]
      have := of_decide_eq_false h
      omega
end Go.Proofs
namespace Go.Proofs
open Go Go.AI
set_option maxRecDepth 10000
theorem right_b {a b : Int} (h : rightS a b = true) : 0 ≤ a ∧ a < b ∧ b ≤ 1000000 := by
  simp only [rightS, inS, Bool.and_eq_true, decide_eq_true_eq] at h
  rw [w64_in (by omega) (by omega)] at h
  omega
theorem valid_b {s : Nat → Int} {l : List Load3} {a b : Int} (h : validS s l a b = true) : (0 ≤ a ∧ a < b ∧ b ≤ 1000000) ∧ b - a ≤ 4320 ∧ properS l = true ∧ satS s = true := by
  simp only [validS, Bool.and_eq_true, decide_eq_true_eq] at h
  have hb := right_b h.1.1.1
  refine ⟨hb, ?_, h.1.2, h.2⟩
  have := h.1.1.2
  rwa [w64_in (by omega) (by omega)] at this
theorem nets_len {s : Nat → Int} {l : List Load3} {a b : Int} : (netsL s l a b).length = (b - a).toNat := by simp [netsL, pairsF]
theorem pair_rd (m : Mem) (x : Int × Int) (i : Nat) (c : AV) (v : Value) (h1 : [AV.int .i64 x.1, AV.int .i64 x.2][i]? = some c) (h2 : (pairV x)[i]? = some v) : RD m c v := by
  match i, h1, h2 with
  | 0, h1, h2 => cases h1; cases h2; exact .int _ _
  | 1, h1, h2 => cases h1; cases h2; exact .int _ _
def lvS (rows : List (List AV)) : AV := match rows with
  | [] => .sl (.id 1009000) 0 []
  | r => .sl (.id 1009000) 1 r
theorem Tryz.c36 (s : Nat → Int) (l : List Load3) (a b : Int) (hl : l.length ≤ 1000000) (hv : validS s l a b = true) : ACalls Tryz.prog 65 [.agg (satA s), loadsA l, .agg (spellA a b)] (.tup [intsA (levRun (s 11) (netsL s l a b)).2, .int .i64 0]) := by
  obtain ⟨hab, h43, hp, hs⟩ := valid_b hv
  have h59 := Tryz.c59 s l a b hl
  rw [hv] at h59
  have hlen : (netsL s l a b).length ≤ 4320 := by rw [nets_len]; omega
  refine ACalls.ofB Tryz.T Tryz.func65 rfl (by kernel_rfl) Tryz.mixed (Nat.le_of_ble_eq_true rfl) ?_
  intro F n' w0 m0 hG hro h1
  repeat' first|refine Q1 ?_|refine Q2 ?_|refine Q3 hG Tryz.T Tryz.keep65 (by kernel_rfl) ?_|refine Q4 hG Tryz.T Tryz.keep65 (by kernel_rfl) ?_|refine Q5 hG Tryz.T ?_|refine Q6 hG Tryz.T ?_|refine Q7 hG Tryz.T ?_|refine Q8 hG Tryz.T ?_|refine Q9 rfl ?_|refine QF rfl ?_|refine QC rfl (And.intro (fun h => ?_) (fun h => ?_))|((conv => whnf); first|refine anF ?_|refine anT ?_|refine And.intro (by kernel_rfl) ?_|refine Exists.intro _ (And.intro (h59) ?_)|refine Exists.intro _ (And.intro (Tryz.c63 s l a b) ?_)|refine And.intro (fun h => ?_) (fun h => ?_)|refine Or.inl ?_|fail)
  refine ⟨SP.range hG hro h1 (α := Int × Int) (fun p => [.int .i64 p.1, .int .i64 p.2]) pairV (f := 205) (cap := netsCap s l a b) (items := netsL s l a b) rfl (Tryz.s80 s l a b hab.1 hab.2.2 (by have := proper_len hp; omega) (proper_kind hp)) (fun _ => rfl) (fun _ => rfl) pair_rd
    [(9, .loc 9 0), (8, .loc 8 0), (3, .loc 3 0)] (fun pre => [(9, [lvS ((levRun (s 11) pre).2.map fun h => [.int .i64 h])]), (8, [.int .i64 (levRun (s 11) pre).1]), (3, satA s)]) (St.le.of ?_ ?_) (by kernel_rfl) (by decide) ?_ ?_⟩
  · repeat' (first | exact trivial | refine And.intro rfl ?_)
  · repeat' (first | exact trivial | refine And.intro rfl ?_)
  · intro F' n'' m' hG pre x rest hx
    have hpl : pre.length < 4320 := by rw [hx] at hlen; simp at hlen; omega
    have hrl : ((levRun (s 11) pre).2.map fun h => [AV.int .i64 h]).length = pre.length := by rw [List.length_map, levRun_len]
    refine SPB.out (Q4 hG Tryz.T Tryz.keep65 (by kernel_rfl) ?_)
    conv => whnf
    refine And.intro rfl (And.intro (St.le.of ?_ ?_) ?_)
    · repeat' (first | exact trivial | refine And.intro rfl ?_)
    · repeat' (first | exact trivial | refine And.intro rfl ?_)
    · refine SPB.out ?_
      generalize hrw : ((levRun (s 11) pre).2.map fun h => [AV.int .i64 h]) = rows at hrl ⊢
      rcases rows with _ | ⟨y, r⟩
      · repeat' first|refine Q1 ?_|refine Q2 ?_|refine Q3 hG Tryz.T Tryz.keep65 (by kernel_rfl) ?_|refine Q4 hG Tryz.T Tryz.keep65 (by kernel_rfl) ?_|refine Q5 hG Tryz.T ?_|refine Q6 hG Tryz.T ?_|refine Q7 hG Tryz.T ?_|refine Q8 hG Tryz.T ?_|refine Q9 rfl ?_|refine QF rfl ?_|refine QC rfl (And.intro (fun h => ?_) (fun h => ?_))|((conv => whnf); first|refine anF ?_|refine anT ?_|refine And.intro (by kernel_rfl) ?_|refine And.intro (show (List.length ([] : List (List AV)) + 1) * 8 ≤ 70368744177664 by rw [hrl]; omega) ?_|refine And.intro (show List.length ([] : List (List AV)) + 1 ≤ 4611686018427387904 by rw [hrl]; omega) ?_|refine And.intro (fun h => ?_) (fun h => ?_)|refine Or.inl ?_|fail)
        refine St.le.of ?_ ?_
        · repeat' (first | exact trivial | refine And.intro rfl ?_)
        · refine And.intro ?_ (And.intro ?_ (And.intro rfl trivial))
          · rw [levRun_snoc, levStep, List.map_append, hrw]; rfl
          · rw [levRun_snoc]; rfl
      · repeat' first|refine Q1 ?_|refine Q2 ?_|refine Q3 hG Tryz.T Tryz.keep65 (by kernel_rfl) ?_|refine Q4 hG Tryz.T Tryz.keep65 (by kernel_rfl) ?_|refine Q5 hG Tryz.T ?_|refine Q6 hG Tryz.T ?_|refine Q7 hG Tryz.T ?_|refine Q8 hG Tryz.T ?_|refine Q9 rfl ?_|refine QF rfl ?_|refine QC rfl (And.intro (fun h => ?_) (fun h => ?_))|((conv => whnf); first|refine anF ?_|refine anT ?_|refine And.intro (by kernel_rfl) ?_|refine And.intro (show (List.length ((y :: r) : List (List AV)) + 1) * 8 ≤ 70368744177664 by rw [hrl]; omega) ?_|refine And.intro (show List.length ((y :: r) : List (List AV)) + 1 ≤ 4611686018427387904 by rw [hrl]; omega) ?_|refine And.intro (fun h => ?_) (fun h => ?_)|refine Or.inl ?_|fail)
        refine St.le.of ?_ ?_
        · repeat' (first | exact trivial | refine And.intro rfl ?_)
        · refine And.intro ?_ (And.intro ?_ (And.intro rfl trivial))
          · rw [levRun_snoc, levStep, List.map_append, hrw]; rfl
          · rw [levRun_snoc]; rfl
  · have hne : ((levRun (s 11) (netsL s l a b)).2.map fun h => [AV.int .i64 h]).length ≠ 0 := by rw [List.length_map, levRun_len, nets_len]; omega
    rw [show intsA (levRun (s 11) (netsL s l a b)).2 = .sl .no 1 ((levRun (s 11) (netsL s l a b)).2.map fun h => [AV.int .i64 h]) from rfl]
    generalize ((levRun (s 11) (netsL s l a b)).2.map fun h => [AV.int .i64 h]) = rows at hne ⊢
    rcases rows with _ | ⟨y, r⟩
    · exact absurd rfl hne
    · conv => whnf
      repeat' first|refine Q1 ?_|refine Q2 ?_|refine Q3 hG Tryz.T Tryz.keep65 (by kernel_rfl) ?_|refine Q4 hG Tryz.T Tryz.keep65 (by kernel_rfl) ?_|refine Q5 hG Tryz.T ?_|refine Q6 hG Tryz.T ?_|refine Q7 hG Tryz.T ?_|refine Q8 hG Tryz.T ?_|refine Q9 rfl ?_|refine QF rfl ?_|refine QC rfl (And.intro (fun h => ?_) (fun h => ?_))|((conv => whnf); first|refine anF ?_|refine anT ?_|refine And.intro (by kernel_rfl) ?_|refine And.intro (fun h => ?_) (fun h => ?_)|refine Or.inl ?_|fail)
      all_goals exact Ends.mk (Or.inl rfl) (AV.weak.of_eq rfl)
end Go.Proofs
namespace Go.Proofs
open Go Go.AI
set_option maxRecDepth 10000
theorem Tryz.c65 (n : Int) : ACalls Tryz.prog 217 [.int .i64 n] (.bool (decide (n < 0))) := by
  refine ACalls.ofB Tryz.T Tryz.func217 rfl (by kernel_rfl) Tryz.mixed (Nat.le_of_ble_eq_true rfl) ?_
  intro F n' w0 m0 hG hro h1
  repeat' first|refine Q1 ?_|refine Q2 ?_|refine Q3 hG Tryz.T Tryz.keep217 (by kernel_rfl) ?_|refine Q4 hG Tryz.T Tryz.keep217 (by kernel_rfl) ?_|refine Q5 hG Tryz.T ?_|refine Q6 hG Tryz.T ?_|refine Q7 hG Tryz.T ?_|refine Q8 hG Tryz.T ?_|refine Q9 rfl ?_|refine QF rfl ?_|refine QC rfl (And.intro (fun h => ?_) (fun h => ?_))|((conv => whnf); first|refine anF ?_|refine anT ?_|refine And.intro (by kernel_rfl) ?_|refine And.intro (fun h => ?_) (fun h => ?_)|refine Or.inl ?_|fail)
  all_goals exact Ends.mk (Or.inl rfl) (AV.weak.of_eq rfl)
def emptyS (s : Nat → Int) (l : List Load3) (a b : Int) : Int := let i := idxF (fun n => decide (n < 0)) (levRun (s 11) (netsL s l a b)).2 0; if i ≥ 0 then w64 (a + i) else -1
theorem Tryz.c38 (s : Nat → Int) (l : List Load3) (a b : Int) (hl : l.length ≤ 1000000) (hv : validS s l a b = true) : ACalls Tryz.prog 146 [.agg (satA s), loadsA l, .agg (spellA a b)] (.tup [.int .i64 (emptyS s l a b), .int .i64 0]) := by
  have k36 := Tryz.c36 s l a b hl hv
  obtain ⟨hab, h43, hp, hs⟩ := valid_b hv
  have k64 := Tryz.c64 (levRun (s 11) (netsL s l a b)).2 (fun n => decide (n < 0)) 217 _ [] (Or.inr ⟨rfl, rfl⟩) (by rw [levRun_len, nets_len]; omega) (fun n _ => Tryz.c65 n)
  refine ACalls.ofB Tryz.T Tryz.func146 rfl (by kernel_rfl) Tryz.mixed (Nat.le_of_ble_eq_true rfl) ?_
  intro F n' w0 m0 hG hro h1
  repeat' first|refine Q1 ?_|refine Q2 ?_|refine Q3 hG Tryz.T Tryz.keep146 (by kernel_rfl) ?_|refine Q4 hG Tryz.T Tryz.keep146 (by kernel_rfl) ?_|refine Q5 hG Tryz.T ?_|refine Q6 hG Tryz.T ?_|refine Q7 hG Tryz.T ?_|refine Q8 hG Tryz.T ?_|refine Q9 rfl ?_|refine QF rfl ?_|refine QC rfl (And.intro (fun h => ?_) (fun h => ?_))|((conv => whnf); first|refine anF ?_|refine anT ?_|refine And.intro (by kernel_rfl) ?_|refine Exists.intro _ (And.intro (k36) ?_)|refine Exists.intro _ (And.intro (k64) ?_)|refine And.intro (fun h => ?_) (fun h => ?_)|refine Or.inl ?_|fail)
  · exact Ends.mk (Or.inl rfl) (AV.weak.of_eq (congrArg (fun z => AV.tup [.int .i64 z, .int .i64 0]) (if_pos (of_decide_eq_true (by assumption))).symm))
  · exact Ends.mk (Or.inl rfl) (AV.weak.of_eq (congrArg (fun z => AV.tup [.int .i64 z, .int .i64 0]) (if_neg (of_decide_eq_false (by assumption))).symm))
end Go.Proofs
namespace Go.Proofs
open Go Go.AI
set_option maxRecDepth 10000
theorem ints_get (l : List Int) (i : Nat) (h : i < l.length) : (l.map fun h => [AV.int .i64 h])[(i : Int).toNat]? = some [.int .i64 (l.getD i 0)] := by simp [List.getElem?_eq_getElem h]
def row3A (x : Int × Int × Int) : List AV := [.int .i64 x.1, .int .i64 x.2.1, .int .i64 x.2.2]
def inI3 (x : Int × Int × Int) : Prop := inI x.1 ∧ inI x.2.1 ∧ inI x.2.2
end Go.Proofs
namespace Go.Proofs
open Go Go.AI
set_option maxRecDepth 10000
structure BCase where
  x : Nat → Int
  y : Nat → Int
  z : List (Int × Int × Int)
  from_ : Int
  long : Int
  hx : ∀ i, inI (x i)
  hy : ∀ i, inI (y i)
  hz : ∀ r ∈ z, inI3 r
  hf : inI from_
  hl : inI long
namespace BCase
def s (c : BCase) : Nat → Int := satM c.x c.y
end BCase
theorem inS_ok {n a b : Int} (h : a ≤ n ∧ n ≤ b) : inS n a b = true := by simp only [inS, Bool.and_eq_true, decide_eq_true_eq]; exact h
structure MFed (s : Nat → Int) : Prop where
  c : 100 ≤ s 11 ∧ s 11 ≤ 2099
  u : 0 ≤ s 12 ∧ s 12 ≤ 11
  i : 0 ≤ s 13 ∧ s 13 ≤ 3
  h : 2 ≤ s 14 ∧ s 14 ≤ 31
  d : 1 ≤ s 15 ∧ s 15 ≤ 20
theorem BCase.mfed (c : BCase) : MFed c.s := by
  have y1 := pick_rng (c.hy 1) (n := 2000) (by omega)
  have y2 := pick_rng (c.hy 2) (n := 12) (by omega)
  have y3 := pick_rng (c.hy 2) (n := 4) (by omega)
  have y4 := pick_rng (c.hy 2) (n := 30) (by omega)
  have y5 := pick_rng (c.hy 3) (n := 20) (by omega)
  refine ⟨?_, ?_, ?_, ?_, ?_⟩
  · show 100 ≤ w64 (100 + pickS (c.y 1) 2000) ∧ w64 (100 + pickS (c.y 1) 2000) ≤ 2099
    rw [w64_in (by omega) (by omega)]; omega
  · show 0 ≤ pickS (c.y 2) 12 ∧ pickS (c.y 2) 12 ≤ 11
    omega
  · show 0 ≤ pickS (c.y 2) 4 ∧ pickS (c.y 2) 4 ≤ 3
    omega
  · show 2 ≤ w64 (2 + pickS (c.y 2) 30) ∧ w64 (2 + pickS (c.y 2) 30) ≤ 31
    rw [w64_in (by omega) (by omega)]; omega
  · show 1 ≤ w64 (1 + pickS (c.y 3) 20) ∧ w64 (1 + pickS (c.y 3) 20) ≤ 20
    rw [w64_in (by omega) (by omega)]; omega
theorem orbS_ext {o p : Nat → Int} (h : ∀ i, i < 7 → o i = p i) : orbS o = orbS p := by
  simp only [orbS, h 0 (by omega), h 1 (by omega), h 2 (by omega), h 3 (by omega), h 4 (by omega), h 5 (by omega), h 6 (by omega)]
theorem BCase.orb (c : BCase) : ∀ i, i < 7 → orbO c.s i = madeO c.x i := by
  intro i hi
  match i, hi with
  | 0, _ => rfl
  | 1, _ => rfl
  | 2, _ => rfl
  | 3, _ => rfl
  | 4, _ => rfl
  | 5, _ => rfl
  | 6, _ => rfl
theorem BCase.pv (c : BCase) : PV (orbO c.s) := by
  rw [← orbS_iff, orbS_ext c.orb, orbS_iff]
  exact (made_pv c.hx).1
theorem BCase.sat (c : BCase) : satS c.s = true := by
  have m := c.mfed
  have mc := m.c; have mu := m.u; have mi := m.i; have mh := m.h; have md := m.d
  have p0 := pick_rng (c.hy 0) (n := 4) (by omega)
  have p1 := pick_rng (c.hy 1) (n := 200) (by omega)
  have p2 := pick_rng (c.hy 1) (n := 60) (by omega)
  have p3 := pick_rng (c.hy 2) (n := 9) (by omega)
  have p4 := pick_rng (c.hy 3) (n := 9) (by omega)
  have p5 := pick_rng (c.hy 3) (n := 4) (by omega)
  have p6 : 0 ≤ pickS (w64 ((c.y 0).tdiv 4)) 4 ∧ pickS (w64 ((c.y 0).tdiv 4)) 4 < 4 := pick_rng (w64_inI _) (by omega)
  have ho : orbS (fun i => c.s (i + 2)) = true := (orbS_iff _).2 c.pv
  have q0 : inS (c.s 0) 0 23 = true := by show inS (pickS 3 24) 0 23 = true; decide
  have q1 : inS (c.s 1) 0 15 = true := inS_ok (show 0 ≤ pickS (c.y 0) 4 ∧ pickS (c.y 0) 4 ≤ 15 by omega)
  have q9 : inS (c.s 9) 0 4 = true := inS_ok (show 0 ≤ pickS (c.y 0) 4 ∧ pickS (c.y 0) 4 ≤ 4 by omega)
  have q10 : inS (c.s 10) 1 1000000 = true := inS_ok (show 1 ≤ w64 (20 + pickS (c.y 1) 200) ∧ w64 (20 + pickS (c.y 1) 200) ≤ 1000000 by rw [w64_in (by omega) (by omega)]; omega)
  have q19 : inS (c.s 19) 0 60 = true := inS_ok (show 0 ≤ pickS (w64 ((c.y 0).tdiv 4)) 4 ∧ pickS (w64 ((c.y 0).tdiv 4)) 4 ≤ 60 by omega)
  have q20 : inS (c.s 20) 1 1000 = true := inS_ok (show 1 ≤ w64 (1 + pickS (c.y 2) 9) ∧ w64 (1 + pickS (c.y 2) 9) ≤ 1000 by rw [w64_in (by omega) (by omega)]; omega)
  have q16 : inS (c.s 16) 0 10000 = true := inS_ok (show 0 ≤ w64 (1 + pickS (c.y 3) 9) ∧ w64 (1 + pickS (c.y 3) 9) ≤ 10000 by rw [w64_in (by omega) (by omega)]; omega)
  have q17 : inS (c.s 17) 0 10000 = true := inS_ok (show 0 ≤ w64 (1 + pickS (c.y 3) 4) ∧ w64 (1 + pickS (c.y 3) 4) ≤ 10000 by rw [w64_in (by omega) (by omega)]; omega)
  have q18 : inS (c.s 18) 1 1000000 = true := inS_ok (show 1 ≤ w64 (5 + pickS (c.y 1) 60) ∧ w64 (5 + pickS (c.y 1) 60) ≤ 1000000 by rw [w64_in (by omega) (by omega)]; omega)
  have q11 : inS (c.s 11) 1 1000000 = true := inS_ok (by omega)
  have q12 : inS (c.s 12) 0 10000 = true := inS_ok (by omega)
  have q13 : inS (c.s 13) 0 10000 = true := inS_ok (by omega)
  have q14 : inS (c.s 14) 0 10000 = true := inS_ok (by omega)
  have q15 : inS (c.s 15) 0 10000 = true := inS_ok (by omega)
  simp only [satS, q0, q1, q9, q10, q11, q12, q13, q14, q15, q16, q17, q18, q19, q20, ho, Bool.and_self]
end Go.Proofs
namespace Go.Proofs
open Go Go.AI
set_option maxRecDepth 10000
theorem could_calm {o : Nat → Int} {t : Int} (h : o 6 = 0) : couldL o t = [celW o (w64 t)] := by
  have e : delL o t = [w64 t] := by
    unfold delL
    rw [h]
    simp
  unfold couldL
  rw [e]
  exact (ordC_eq (l := [celW o (w64 t)]) (List.Perm.refl _) (by simp)).symm
theorem lit_calm {o : Nat → Int} {t : Int} (h : o 6 = 0) : litS o t = (atS o t 0 && !darkS (celW o (w64 t)) t) := by
  unfold litS
  rw [could_calm h]
  simp
end Go.Proofs
namespace Go.Proofs
open Go Go.AI
set_option maxRecDepth 10000
theorem row3_of {n : Nat} {cs : List AV} (h : Fa (ShOK (n + 1)) [.int .i64, .int .i64, .int .i64] cs) : ∃ x : Int × Int × Int, inI3 x ∧ cs = row3A x := by
  obtain ⟨b0, q, rfl, h0, h⟩ := Fa.cons_inv h
  obtain ⟨b1, q, rfl, h1, h⟩ := Fa.cons_inv h
  obtain ⟨b2, q, rfl, h2, h⟩ := Fa.cons_inv h
  obtain rfl := Fa.nil_inv h
  obtain ⟨z0, rfl, i0⟩ := int_inv h0
  obtain ⟨z1, rfl, i1⟩ := int_inv h1
  obtain ⟨z2, rfl, i2⟩ := int_inv h2
  exact ⟨(z0, z1, z2), ⟨i0, i1, i2⟩, rfl⟩
theorem rows_of {n : Nat} {a : AV} (h : ShOK (n + 2) (.sl [.int .i64, .int .i64, .int .i64]) a) : ∃ z : List (Int × Int × Int), (∀ x ∈ z, inI3 x) ∧ a = .sl .no 3 (z.map row3A) := by
  obtain ⟨xs, rfl, h2⟩ := h
  suffices hs : ∀ l : List (List AV), (∀ x ∈ l, Fa (ShOK (n + 1)) [.int .i64, .int .i64, .int .i64] x) → ∃ z : List (Int × Int × Int), (∀ x ∈ z, inI3 x) ∧ l = z.map row3A by
    obtain ⟨z, g1, g2⟩ := hs xs h2
    exact ⟨z, g1, congrArg (AV.sl .no 3) g2⟩
  intro l
  induction l with
  | nil => exact fun _ => ⟨[], by simp, rfl⟩
  | cons y r ih =>
    intro h
    obtain ⟨z, g1, rfl⟩ := ih (fun x hx => h x (List.mem_cons_of_mem _ hx))
    obtain ⟨x, g2, rfl⟩ := row3_of (h y List.mem_cons_self)
    exact ⟨x :: z, fun w hw => by rcases List.mem_cons.1 hw with rfl | hw; exact g2; exact g1 w hw, rfl⟩
end Go.Proofs
namespace Go.Proofs
open Go Go.AI
set_option maxRecDepth 10000
theorem Tryz.z117 (n a b : Int) : ACalls Tryz.prog 164 [.int .i64 n, .int .i64 a, .int .i64 b] (.bool (inS n a b)) := by
  refine ACalls.ofB Tryz.T Tryz.func164 rfl (by kernel_rfl) Tryz.mixed (Nat.le_of_ble_eq_true rfl) ?_
  intro F n' w0 m0 hG hro h1
  repeat' first|refine Q1 ?_|refine Q2 ?_|refine Q3 hG Tryz.T Tryz.keep164 (by kernel_rfl) ?_|refine Q4 hG Tryz.T Tryz.keep164 (by kernel_rfl) ?_|refine Q5 hG Tryz.T ?_|refine Q6 hG Tryz.T ?_|refine Q7 hG Tryz.T ?_|refine Q8 hG Tryz.T ?_|refine Q9 rfl ?_|refine QF rfl ?_|refine QC rfl (And.intro (fun h => ?_) (fun h => ?_))|((conv => whnf); first|refine anF ?_|refine anT ?_|refine And.intro (by kernel_rfl) ?_|refine And.intro (fun h => ?_) (fun h => ?_)|refine Or.inl ?_|fail)
  all_goals refine Ends.mk (Or.inl rfl) (AV.weak.of_eq (congrArg AV.bool ?_))
  all_goals (simp_all [inS] <;> omega)
set_option maxHeartbeats 4000000 in
theorem Tryz.z61 (s : Nat → Int) : ACalls Tryz.prog 89 [.agg (satA s)] (.bool (satS s)) := by
  refine ACalls.ofB Tryz.T Tryz.func89 rfl (by kernel_rfl) Tryz.mixed (Nat.le_of_ble_eq_true rfl) ?_
  intro F n' w0 m0 hG hro h1
  repeat' first|refine Q1 ?_|refine Q2 ?_|refine Q3 hG Tryz.T Tryz.keep89 (by kernel_rfl) ?_|refine Q4 hG Tryz.T Tryz.keep89 (by kernel_rfl) ?_|refine Q5 hG Tryz.T ?_|refine Q6 hG Tryz.T ?_|refine Q7 hG Tryz.T ?_|refine Q8 hG Tryz.T ?_|refine Q9 rfl ?_|refine QF rfl ?_|refine QC rfl (And.intro (fun h => ?_) (fun h => ?_))|((conv => whnf); first|refine anF ?_|refine anT ?_|refine And.intro (by kernel_rfl) ?_|refine Exists.intro _ (And.intro (Tryz.z117 _ _ _) ?_)|refine Exists.intro _ (And.intro (Tryz.c18 (fun i => s (i + 2))) ?_)|refine And.intro (fun h => ?_) (fun h => ?_)|refine Or.inl ?_|fail)
  all_goals refine Ends.mk (Or.inl rfl) (AV.weak.of_eq (congrArg AV.bool ?_))
  all_goals (simp only [Bool.not_eq_true', Bool.not_eq_false'] at *)
  all_goals (simp only [satS, *, Bool.true_and, Bool.and_true, Bool.false_and, Bool.and_false])
end Go.Proofs
namespace Go.Proofs
open Go Go.AI
set_option maxRecDepth 10000
theorem lit_all {o : Nat → Int} (h : PV o) {t : Int} (h1 : 0 ≤ t) (h2 : t ≤ 1000000) : (litS o t = true ↔ ∀ d, -(o 6) ≤ d → d ≤ o 6 → darkS (celW o (t - d)) t = false) := by
  have s1 := h.s1
  have s2 := h.s2
  constructor
  · intro hl d g1 g2
    simp only [litS, Bool.and_eq_true, Bool.not_eq_true', List.any_eq_false] at hl
    have hm := (could_mem' (o := o) (t := t) ⟨h1, by omega⟩ ⟨s1, s2⟩ (celW o (t - d))).2 ⟨t - d, by omega, by omega, rfl⟩
    simpa using hl.2 _ hm
  · intro hd
    simp only [litS, Bool.and_eq_true, Bool.not_eq_true', List.any_eq_false]
    refine ⟨atS_ok h h1 h2 (by omega) (by omega), fun y hy => ?_⟩
    obtain ⟨d, d1, d2, rfl⟩ := (could_mem' (o := o) (t := t) ⟨h1, by omega⟩ ⟨s1, s2⟩ y).1 hy
    have := hd (t - d) (by omega) (by omega)
    rw [show t - (t - d) = d by omega] at this
    simpa using this
end Go.Proofs
namespace Go.Proofs
open Go Go.AI
set_option maxRecDepth 10000
theorem sat_fedZ {s : Nat → Int} (h : satS s = true) : Fed s := by
  simp only [satS, inS, Bool.and_eq_true, decide_eq_true_eq] at h
  exact ⟨by omega, by omega, by omega, by omega, by omega⟩
end Go.Proofs
