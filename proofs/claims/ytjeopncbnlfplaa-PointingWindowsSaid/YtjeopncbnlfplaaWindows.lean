/- PointingWindows answers true, whatever the input; no condition. -/
import Derived.Test.YtjeopncbnlfplaaPl
import Derived.Test.YtjeopncbnlfplaaRows
set_option linter.unusedSectionVars false
set_option linter.unusedVariables false
set_option linter.unusedSimpArgs false
namespace Go.Proofs
open Go Go.AI
set_option maxRecDepth 10000
set_option linter.unusedSimpArgs false

/-- The greatest of some numbers, or 0. -/
structure Most (p : Nat → Nat → Prop) (W : Nat → Nat → Int) (G : Int) : Prop where
  nn : 0 ≤ G
  up : ∀ i k, p i k → W i k ≤ G
  wit : G = 0 ∨ ∃ i k, p i k ∧ G = W i k
theorem Most.none {p : Nat → Nat → Prop} {W : Nat → Nat → Int} (h : ∀ i k, ¬ p i k) : Most p W 0 := ⟨Int.le_refl _, fun i k g => absurd g (h i k), .inl rfl⟩
theorem Most.more {p q : Nat → Nat → Prop} {W : Nat → Nat → Int} {G n : Int} {i k : Nat} (h : Most p W G) (hn : n = W i k) (hq : ∀ i' k', q i' k' ↔ p i' k' ∨ (i' = i ∧ k' = k)) : Most q W (max G n) := by
  subst hn
  refine ⟨by have := h.nn; omega, fun i' k' g => ?_, ?_⟩
  · rcases (hq i' k').1 g with g | ⟨rfl, rfl⟩
    · have := h.up i' k' g; omega
    · omega
  · by_cases c : W i k ≤ G
    · rw [Int.max_eq_left c]
      rcases h.wit with h | ⟨i', k', h1, h2⟩
      · exact .inl h
      · exact .inr ⟨i', k', (hq i' k').2 (.inl h1), h2⟩
    · rw [Int.max_eq_right (by omega)]
      exact .inr ⟨i, k, (hq i k).2 (.inr ⟨rfl, rfl⟩), rfl⟩
theorem Most.congr {p q : Nat → Nat → Prop} {W : Nat → Nat → Int} {G : Int} (h : Most p W G) (hq : ∀ i k, q i k ↔ p i k) : Most q W G :=
  ⟨h.nn, fun i k g => h.up i k ((hq i k).1 g), by rcases h.wit with h | ⟨i, k, h1, h2⟩; exact .inl h; exact .inr ⟨i, k, (hq i k).2 h1, h2⟩⟩
/-- The greatest heat is the greatest window sum, or 0. -/
theorem most_eq {g : Int → Int} {a : Int} {N : Nat} {M G : Int} (h1 : Most (fun j k => j < N ∧ k = 0) (fun j _ => hv g a (j + 1)) M) (h2 : Most (fun i k => i < k ∧ k ≤ N) (fun i k => sm g a k - sm g a i) G) : M = G := by
  have l1 : G ≤ M := by
    rcases h2.wit with h | ⟨i, k, ⟨g1, g2⟩, g3⟩
    · have := h1.nn; omega
    · have e1 := hv_ge g a k i (by omega)
      have e2 := h1.up (k - 1) 0 ⟨by omega, rfl⟩
      simp only [show k - 1 + 1 = k by omega] at e2
      omega
  have l2 : M ≤ G := by
    rcases h1.wit with h | ⟨j, k, ⟨g1, g2⟩, g3⟩
    · have := h2.nn; omega
    · obtain ⟨i, hi, e⟩ := hv_wit g a (j + 1)
      rcases Nat.lt_or_eq_of_le hi with hi | hi
      · have h3 : sm g a (j + 1) - sm g a i ≤ G := h2.up i (j + 1) ⟨hi, by omega⟩
        have g4 : M = hv g a (j + 1) := g3
        omega
      · subst hi
        have := h2.nn
        have g4 : M = hv g a (j + 1) := g3
        omega
  omega
set_option maxHeartbeats 8000000 in
theorem Try.x4 (c : Case) (hc : c.ok) (fi : Int) (hfi : inI fi) : ACalls Try.prog 4 [.agg c.A, .int .i64 fi] (.bool true) := by
  have hr := Case.rng hc
  have hlen := c.len
  have hval := Case.val hc
  have hH := HotOK.of hval
  have h18 := sat18' hval
  have lf := Case.lf_eq hc hfi
  have hne : w64 (c.b - c.a) ≠ 0 := by rw [hr.2.2.2.2]; omega
  have e1 : IntKind.i64.wrap (c.a + pickS fi (w64 (c.b - c.a))) = c.lf fi := rfl
  have e2 : IntKind.i64.wrap (c.lf fi + 30) = c.lf fi + 30 := w64_in (by omega) (by omega)
  obtain ⟨q, hq⟩ : ∃ q, q = min c.b (c.lf fi + 30) := ⟨_, rfl⟩
  have k20 := Try.c20 c.s c.l (c.lf fi) q (by omega) (span_of (by omega) (by omega) (by omega) (by omega)) hval
  have k22 := Try.c22 c.s c.l (c.lf fi) q (by omega) (span_of (by omega) (by omega) (by omega) (by omega)) hval
  have eq : q = min c.b (IntKind.i64.wrap (c.lf fi + 30)) := by rw [e2]; exact hq
  have hot := fun (_ : Unit) => hotS_iff c.s c.l (a := c.lf fi) (b := q) (by omega) (by omega)
  have hm := fun x => heats_mem hH (a := c.lf fi) (b := q) (by omega) (x := x)
  have lA := heatsL_len c.s c.l (c.lf fi) q
  have eA := heats_eq hH (a := c.lf fi) (b := q) (by omega)
  have k25 := fun (i k : Nat) (h1 : i < k) (h2 : k ≤ (q - c.lf fi).toNat) => Try.c25 c.s c.l (c.lf fi + i) (c.lf fi + k) (by omega) (span_of (by omega) (by omega) (by omega) (by omega)) hval
  have hw := fun (i k : Nat) (h1 : i < k) (h2 : k ≤ (q - c.lf fi).toNat) => window_at hH (a := c.lf fi) (i := i) (k := k) (by omega) (by omega)
  generalize heatsL c.s c.l (c.lf fi) q = A at *
  generalize hotS c.s c.l (c.lf fi) q = ht at *
  rw [eq] at k20 k22
  have mA : ((A.map fun h => [AV.int .i64 h]).length : Int) = A.length := by rw [List.length_map]
  have wA : IntKind.i64.wrap (min c.b (IntKind.i64.wrap (c.lf fi + 30)) - c.lf fi) = q - c.lf fi := by rw [← eq]; exact w64_in (by omega) (by omega)
  refine ACalls.ofB Try.TT_ok Try.func4 rfl (by kernel_rfl) Try.mixed (Nat.le_of_ble_eq_true rfl) ?_
  intro F n' w0 m0 hG hro h1
  repeat' first
    | refine SPB.seq ?_
    | refine SPB.block ?_
    | refine SPB.draw hG Try.TT_ok Try.keep4 (by kernel_rfl) ?_
    | refine SPB.reg hG Try.TT_ok Try.keep4 (by kernel_rfl) ?_
    | refine SPB.skip hG Try.TT_ok ?_
    | refine SPB.label hG Try.TT_ok ?_
    | refine SPB.ret hG Try.TT_ok ?_
    | refine SPB.exit hG Try.TT_ok ?_
    | refine SPB.condT rfl ?_
    | refine SPB.condF rfl ?_
    | refine SPB.cond rfl (And.intro (fun h => ?_) (fun h => ?_))
    | (conv => whnf
       first
         | refine And.intro (fun h => Bool.noConfusion (h : false = true)) (fun _ => ?_)
         | refine And.intro (fun _ => ?_) (fun h => Bool.noConfusion (h : true = false))
         | refine And.intro (by kernel_rfl) ?_
         | refine And.intro (fun h => ?_) (fun h => ?_)
         | fail)
  conv => whnf
  refine Exists.intro _ (And.intro (Try.c11) ?_)
  repeat' first
    | refine SPB.seq ?_
    | refine SPB.block ?_
    | refine SPB.draw hG Try.TT_ok Try.keep4 (by kernel_rfl) ?_
    | refine SPB.reg hG Try.TT_ok Try.keep4 (by kernel_rfl) ?_
    | refine SPB.skip hG Try.TT_ok ?_
    | refine SPB.label hG Try.TT_ok ?_
    | refine SPB.ret hG Try.TT_ok ?_
    | refine SPB.exit hG Try.TT_ok ?_
    | refine SPB.condT rfl ?_
    | refine SPB.condF rfl ?_
    | refine SPB.cond rfl (And.intro (fun h => ?_) (fun h => ?_))
    | (conv => whnf
       first
         | refine And.intro (fun h => Bool.noConfusion (h : false = true)) (fun _ => ?_)
         | refine And.intro (fun _ => ?_) (fun h => Bool.noConfusion (h : true = false))
         | refine And.intro (by kernel_rfl) ?_
         | refine And.intro (fun h => ?_) (fun h => ?_)
         | fail)
  conv => whnf
  refine Exists.intro _ (And.intro (Try.c12 c hc) ?_)
  repeat' first
    | refine SPB.seq ?_
    | refine SPB.block ?_
    | refine SPB.draw hG Try.TT_ok Try.keep4 (by kernel_rfl) ?_
    | refine SPB.reg hG Try.TT_ok Try.keep4 (by kernel_rfl) ?_
    | refine SPB.skip hG Try.TT_ok ?_
    | refine SPB.label hG Try.TT_ok ?_
    | refine SPB.ret hG Try.TT_ok ?_
    | refine SPB.exit hG Try.TT_ok ?_
    | refine SPB.condT rfl ?_
    | refine SPB.condF rfl ?_
    | refine SPB.cond rfl (And.intro (fun h => ?_) (fun h => ?_))
    | (conv => whnf
       first
         | refine And.intro (fun h => Bool.noConfusion (h : false = true)) (fun _ => ?_)
         | refine And.intro (fun _ => ?_) (fun h => Bool.noConfusion (h : true = false))
         | refine And.intro (by kernel_rfl) ?_
         | refine And.intro (fun h => ?_) (fun h => ?_)
         | fail)
  conv => whnf
  refine Exists.intro _ (And.intro (Try.c13 fi (w64 (c.b - c.a)) hne) ?_)
  repeat' first
    | refine SPB.seq ?_
    | refine SPB.block ?_
    | refine SPB.draw hG Try.TT_ok Try.keep4 (by kernel_rfl) ?_
    | refine SPB.reg hG Try.TT_ok Try.keep4 (by kernel_rfl) ?_
    | refine SPB.skip hG Try.TT_ok ?_
    | refine SPB.label hG Try.TT_ok ?_
    | refine SPB.ret hG Try.TT_ok ?_
    | refine SPB.exit hG Try.TT_ok ?_
    | refine SPB.condT rfl ?_
    | refine SPB.condF rfl ?_
    | refine SPB.cond rfl (And.intro (fun h => ?_) (fun h => ?_))
    | (conv => whnf
       first
         | refine And.intro (fun h => Bool.noConfusion (h : false = true)) (fun _ => ?_)
         | refine And.intro (fun _ => ?_) (fun h => Bool.noConfusion (h : true = false))
         | refine And.intro (by kernel_rfl) ?_
         | refine And.intro (fun h => ?_) (fun h => ?_)
         | fail)
  conv => whnf
  refine Exists.intro _ (And.intro (k20) ?_)
  repeat' first
    | refine SPB.seq ?_
    | refine SPB.block ?_
    | refine SPB.draw hG Try.TT_ok Try.keep4 (by kernel_rfl) ?_
    | refine SPB.reg hG Try.TT_ok Try.keep4 (by kernel_rfl) ?_
    | refine SPB.skip hG Try.TT_ok ?_
    | refine SPB.label hG Try.TT_ok ?_
    | refine SPB.ret hG Try.TT_ok ?_
    | refine SPB.exit hG Try.TT_ok ?_
    | refine SPB.condT rfl ?_
    | refine SPB.condF rfl ?_
    | refine SPB.cond rfl (And.intro (fun h => ?_) (fun h => ?_))
    | (conv => whnf
       first
         | refine And.intro (fun h => Bool.noConfusion (h : false = true)) (fun _ => ?_)
         | refine And.intro (fun _ => ?_) (fun h => Bool.noConfusion (h : true = false))
         | refine And.intro (by kernel_rfl) ?_
         | refine And.intro (fun h => ?_) (fun h => ?_)
         | fail)
  conv => whnf
  refine Exists.intro _ (And.intro (k22) ?_)
  repeat' first
    | refine SPB.seq ?_
    | refine SPB.block ?_
    | refine SPB.draw hG Try.TT_ok Try.keep4 (by kernel_rfl) ?_
    | refine SPB.reg hG Try.TT_ok Try.keep4 (by kernel_rfl) ?_
    | refine SPB.skip hG Try.TT_ok ?_
    | refine SPB.label hG Try.TT_ok ?_
    | refine SPB.ret hG Try.TT_ok ?_
    | refine SPB.exit hG Try.TT_ok ?_
    | refine SPB.condT rfl ?_
    | refine SPB.condF rfl ?_
    | refine SPB.cond rfl (And.intro (fun h => ?_) (fun h => ?_))
    | (conv => whnf
       first
         | refine And.intro (fun h => Bool.noConfusion (h : false = true)) (fun _ => ?_)
         | refine And.intro (fun _ => ?_) (fun h => Bool.noConfusion (h : true = false))
         | refine And.intro (by kernel_rfl) ?_
         | refine And.intro (fun h => ?_) (fun h => ?_)
         | fail)
  · exfalso
    have h := (by assumption : (((A.map fun h => [AV.int .i64 h]).length : Int) != IntKind.i64.wrap (min c.b (IntKind.i64.wrap (c.lf fi + 30)) - c.lf fi)) = true)
    rw [mA, wA] at h; simp at h; omega
  generalize hN : (q - c.lf fi).toNat = N at k25 hw lA
  refine SPB.loop (X := Nat × Int) (fun x => ⟨[(13, .int .i64 x.1), (12, .int .i64 x.2), (8, intsA A), (10, .int .i64 ht), (7, .loc 7 0), (6, aimsA c.l), (5, .loc 5 0)], [(7, [.int .i64 (c.lf fi), .int .i64 q]), (5, satA c.s)]⟩)
    (fun x => x.1 ≤ A.length ∧ Most (fun j k => j < x.1 ∧ k = 0) (fun j _ => hv (gS c.s c.l) (c.lf fi) (j + 1)) x.2) (fun x => A.length - x.1) (0, 0) ⟨Nat.zero_le _, Most.none fun i k h => by omega⟩ (St.le.of ?_ ?_) (fun x hx => ?_)
  · repeat' (first | exact trivial | refine And.intro rfl ?_)
  · refine And.intro ?_ ?_
    · rw [eq]; rfl
    · repeat' (first | exact trivial | refine And.intro rfl ?_)
  · obtain ⟨i, M⟩ := x
    obtain ⟨hi, hM⟩ := hx
    simp only at hi hM
    have hlt : decide ((i : Int) < ((A.map fun h => [AV.int .i64 h]).length : Int)) = true → i < A.length := fun h => by have := of_decide_eq_true h; omega
    have cA := fun h => hL_at (l := A) (i := i) (z := i) (hlt h) rfl
    have hAi : i < A.length → A.getD i 0 = hv (gS c.s c.l) (c.lf fi) (i + 1) := fun h => by rw [eA, getD_range (by omega)]
    repeat' first
      | refine SPB.seq ?_
      | refine SPB.block ?_
      | refine SPB.draw hG Try.TT_ok Try.keep4 (by kernel_rfl) ?_
      | refine SPB.reg hG Try.TT_ok Try.keep4 (by kernel_rfl) ?_
      | refine SPB.skip hG Try.TT_ok ?_
      | refine SPB.label hG Try.TT_ok ?_
      | refine SPB.ret hG Try.TT_ok ?_
      | refine SPB.exit hG Try.TT_ok ?_
      | refine SPB.condT rfl ?_
      | refine SPB.condF rfl ?_
      | refine SPB.cond rfl (And.intro (fun h => ?_) (fun h => ?_))
      | (conv => whnf
         first
           | refine And.intro (fun h => Bool.noConfusion (h : false = true)) (fun _ => ?_)
           | refine And.intro (fun _ => ?_) (fun h => Bool.noConfusion (h : true = false))
           | refine And.intro (by kernel_rfl) ?_
           | refine And.intro (cA (by assumption)).1 (Exists.intro _ (And.intro (cA (by assumption)).2 ?_))
           | refine And.intro (fun h => ?_) (fun h => ?_)
           | fail)
    · exfalso
      have h := of_decide_eq_true (by assumption : decide (A.getD i 0 < 0) = true)
      rw [hAi (hlt (by assumption))] at h
      have := hv_rng (gS_rng hH) (c.lf fi) (i + 1)
      omega
    · have hi2 := hlt (by assumption)
      refine Exists.intro (i + 1, max M (A.getD i 0)) (And.intro ⟨hi2, hM.more (i := i) (k := 0) (hAi hi2) (fun i' k' => by omega)⟩ (And.intro (by simp; omega) (St.le.of ?_ ?_)))
      · refine And.intro (congrArg some (le_next (by omega))) ?_
        repeat' (first | exact trivial | refine And.intro rfl ?_)
      · repeat' (first | exact trivial | refine And.intro rfl ?_)
    · have hi2 : i = A.length := by have := of_decide_eq_false (by assumption : decide ((i : Int) < ((A.map fun h => [AV.int .i64 h]).length : Int)) = false); omega
      subst hi2
      rw [lA] at hM
      clear cA hlt
      refine SPB.loop (X := Nat × Int) (fun x => ⟨[(15, .int .i64 (c.lf fi + (x.1 : Int))), (14, .int .i64 x.2), (12, .int .i64 M), (10, .int .i64 ht), (7, .loc 7 0), (6, aimsA c.l), (5, .loc 5 0)], [(7, [.int .i64 (c.lf fi), .int .i64 q]), (5, satA c.s)]⟩)
        (fun x => x.1 ≤ N ∧ Most (fun i k => i < x.1 ∧ i < k ∧ k ≤ N) (fun i k => sm (gS c.s c.l) (c.lf fi) k - sm (gS c.s c.l) (c.lf fi) i) x.2) (fun x => N - x.1) (0, 0) ⟨Nat.zero_le _, Most.none fun i k h => by omega⟩ (St.le.of ?_ ?_) (fun x hx => ?_)
      · refine And.intro (congrArg (fun z => some (AV.int .i64 z)) (show c.lf fi = c.lf fi + ((0 : Nat) : Int) by omega)) ?_
        repeat' (first | exact trivial | refine And.intro rfl ?_)
      · repeat' (first | exact trivial | refine And.intro rfl ?_)
      · obtain ⟨i, G⟩ := x
        obtain ⟨hi, hG2⟩ := hx
        simp only at hi hG2
        have wn : ∀ k : Nat, k ≤ N + 1 → IntKind.i64.wrap (c.lf fi + (k : Int) + 1) = c.lf fi + ((k + 1 : Nat) : Int) := fun k h => (w64_in (by omega) (by omega)).trans (by omega)
        repeat' first
          | refine SPB.seq ?_
          | refine SPB.block ?_
          | refine SPB.draw hG Try.TT_ok Try.keep4 (by kernel_rfl) ?_
          | refine SPB.reg hG Try.TT_ok Try.keep4 (by kernel_rfl) ?_
          | refine SPB.skip hG Try.TT_ok ?_
          | refine SPB.label hG Try.TT_ok ?_
          | refine SPB.ret hG Try.TT_ok ?_
          | refine SPB.exit hG Try.TT_ok ?_
          | refine SPB.condT rfl ?_
          | refine SPB.condF rfl ?_
          | refine SPB.cond rfl (And.intro (fun h => ?_) (fun h => ?_))
          | (conv => whnf
             first
               | refine And.intro (fun h => Bool.noConfusion (h : false = true)) (fun _ => ?_)
               | refine And.intro (fun _ => ?_) (fun h => Bool.noConfusion (h : true = false))
               | refine And.intro (by kernel_rfl) ?_
               | refine And.intro (fun h => ?_) (fun h => ?_)
               | fail)
        · have hi2 : i < N := by have := of_decide_eq_true (by assumption : decide (c.lf fi + (i : Int) < q) = true); omega
          refine SPB.loop (X := Nat × Int) (fun x => ⟨[(16, .int .i64 (c.lf fi + (x.1 : Int))), (15, .int .i64 (c.lf fi + (i : Int))), (14, .int .i64 x.2), (12, .int .i64 M), (10, .int .i64 ht), (7, .loc 7 0), (6, aimsA c.l), (5, .loc 5 0)], [(7, [.int .i64 (c.lf fi), .int .i64 q]), (5, satA c.s)]⟩)
            (fun x => i < x.1 ∧ x.1 ≤ N + 1 ∧ Most (fun i' k => (i' < i ∧ i' < k ∧ k ≤ N) ∨ (i' = i ∧ i < k ∧ k < x.1)) (fun i k => sm (gS c.s c.l) (c.lf fi) k - sm (gS c.s c.l) (c.lf fi) i) x.2) (fun x => N + 1 - x.1) (i + 1, G) ⟨by simp, by simp; omega, hG2.congr fun i' k' => by omega⟩ (St.le.of ?_ ?_) (fun x hx => ?_)
          · refine And.intro (congrArg (fun z => some (AV.int .i64 z)) (wn i (by omega))) ?_
            repeat' (first | exact trivial | refine And.intro rfl ?_)
          · repeat' (first | exact trivial | refine And.intro rfl ?_)
          · obtain ⟨k, G⟩ := x
            obtain ⟨hk, hk2, hMG⟩ := hx
            simp only at hk hk2 hMG
            have hkl : decide (c.lf fi + (k : Int) ≤ q) = true → k ≤ N := fun h => by have := of_decide_eq_true h; omega
            have kk := fun h => k25 i k hk (hkl h)
            repeat' first
              | refine SPB.seq ?_
              | refine SPB.block ?_
              | refine SPB.draw hG Try.TT_ok Try.keep4 (by kernel_rfl) ?_
              | refine SPB.reg hG Try.TT_ok Try.keep4 (by kernel_rfl) ?_
              | refine SPB.skip hG Try.TT_ok ?_
              | refine SPB.label hG Try.TT_ok ?_
              | refine SPB.ret hG Try.TT_ok ?_
              | refine SPB.exit hG Try.TT_ok ?_
              | refine SPB.condT rfl ?_
              | refine SPB.condF rfl ?_
              | refine SPB.cond rfl (And.intro (fun h => ?_) (fun h => ?_))
              | (conv => whnf
                 first
                   | refine And.intro (fun h => Bool.noConfusion (h : false = true)) (fun _ => ?_)
                   | refine And.intro (fun _ => ?_) (fun h => Bool.noConfusion (h : true = false))
                   | refine And.intro (by kernel_rfl) ?_
                   | refine Exists.intro _ (And.intro (kk (by assumption)) ?_)
                   | refine And.intro (fun h => ?_) (fun h => ?_)
                   | fail)
            · have hk3 := hkl (by assumption)
              refine Exists.intro (k + 1, max G (sumRun (gainsL c.s c.l (c.lf fi + i) (c.lf fi + k)))) (And.intro ⟨by simp; omega, by simp; omega, hMG.more (hw i k hk hk3) (fun i' k' => by omega)⟩ (And.intro (by simp; omega) (St.le.of ?_ ?_)))
              · refine And.intro (congrArg (fun z => some (AV.int .i64 z)) (wn k (by omega))) ?_
                repeat' (first | exact trivial | refine And.intro rfl ?_)
              · repeat' (first | exact trivial | refine And.intro rfl ?_)
            · have hk3 : k = N + 1 := by have := of_decide_eq_false (by assumption : decide (c.lf fi + (k : Int) ≤ q) = false); omega
              subst hk3
              refine Exists.intro (i + 1, G) (And.intro ⟨hi2, hMG.congr fun i' k' => by omega⟩ (And.intro (by simp; omega) (St.le.of ?_ ?_)))
              · refine And.intro (congrArg (fun z => some (AV.int .i64 z)) (wn i (by omega))) ?_
                repeat' (first | exact trivial | refine And.intro rfl ?_)
              · repeat' (first | exact trivial | refine And.intro rfl ?_)
        all_goals
          have hi2 : i = N := by have := of_decide_eq_false (by assumption : decide (c.lf fi + (i : Int) < q) = false); omega
          subst hi2
          have hMG : M = G := most_eq hM (hG2.congr fun i' k' => by omega)
        · refine Ends.mk (Or.inl rfl) (AV.weak.of_eq (congrArg AV.bool ?_))
          rcases hot () with ⟨h1, h2⟩ | ⟨h1, y, h2, h3⟩
          · have h4 : G ≤ c.s 18 := by
              rw [← hMG]
              rcases hM.wit with h | ⟨j, k, ⟨g1, g2⟩, g3⟩
              · omega
              · rw [g3]; exact h2 _ ((hm _).2 ⟨j, by omega, rfl⟩)
            show ((ht == -1) == decide (G ≤ c.s 18)) = true
            rw [h1, decide_eq_true h4]; rfl
          · have h4 : ¬ G ≤ c.s 18 := by
              obtain ⟨j, g1, g2⟩ := (hm y).1 h2
              have := hM.up j 0 ⟨by omega, rfl⟩
              rw [← g2] at this
              omega
            show ((ht == -1) == decide (G ≤ c.s 18)) = true
            rw [decide_eq_false h4, show (ht == -1) = false from beq_eq_false_iff_ne.2 (by omega)]; rfl
        · exfalso
          exact beq_eq_false_iff_ne.1 (by assumption : (M == G) = false) hMG

end Go.Proofs


namespace Go.Proofs
open Go Go.AI Go.Proofs.Ytjeopncbnlfplaa
set_option maxRecDepth 100000
theorem Try.own : ownKnob Try.prog.godebug = none := by kernel_rfl
theorem Try.laidOut : laidOutB Try.prog = true := by kernel_rfl
theorem Try.reads26 : (Try.prog.readableRec 26 && Nat.blt 26 Try.prog.types.size) = true := by kernel_rfl
theorem Try.reads3 : (Try.prog.readableRec 3 && Nat.blt 3 Try.prog.types.size) = true := by kernel_rfl
def case0 : Value := .agg #[.int .i64 0, .int .i64 0, .int .i64 0, .int .i64 0, .int .i64 0, .int .i64 0, .int .i64 0, .int .i64 0, .int .i64 0, .int .i64 0, .int .i64 0, .int .i64 0, .slice none 0 0]
def lawSh : List (Bool × List Sh) := [(true, caseSh), (false, [.int .i64])]
theorem Try.shs : paramSh Try.prog 8 [26, 3] = some lawSh := by kernel_rfl
theorem Try.lifted (law : ∀ avs, PArgs 8 lawSh avs → ACalls Try.prog 4 avs (.bool true)) (os : Os) (started : os.Started) (H : Type) (enc : TypeId × Value → H) :
    ReturnsInHanded {} Try.checked os 4 .any (Rows.pointingWindowsSpec.pre6 enc Try.prog Try.f4 Rows.pointingWindowsRow.domain false) (Rows.pointingWindowsSpec.post enc Try.prog Try.f4 false true false false) :=
  law_lifted (C := Try.checked) (tb := 4) Try.own started (by kernel_rfl) Try.func4
    (ChangeSpec.witness6 (enc := enc) (C := Try.checked) false ⟨#[], #[case0, .int .i64 0], []⟩ 8 (by kernel_rfl) (by kernel_rfl) (by kernel_rfl) (by kernel_rfl))
    rfl (by kernel_rfl) (by kernel_rfl) (fun ds h => by
      match ds, h with
      | [d, d0], _ => rfl) Try.shs Try.laidOut (fun t ht => by
      have e : Try.f4.params.toList = [26, 3] := by kernel_rfl
      rw [e] at ht
      simp only [List.mem_cons, List.not_mem_nil, or_false] at ht
      have h26 := Try.reads26
      have h3 := Try.reads3
      simp only [Bool.and_eq_true] at h26 h3
      have g : t = 26 ∨ t = 3 := by rcases ht with h | h <;> first | exact .inl h | exact .inr h
      rcases g with rfl | rfl
      · exact ⟨h26.1, Nat.le_of_ble_eq_true h26.2⟩
      · exact ⟨h3.1, Nat.le_of_ble_eq_true h3.2⟩) law
theorem Try.row (law : ∀ avs, PArgs 8 lawSh avs → ACalls Try.prog 4 avs (.bool true)) : Rows.PointingWindowsSaid :=
  OpenClaim.holds_of_wide (p := Try.pinned) (s := Rows.pointingWindowsSpec) (c := Rows.pointingWindowsRow) 4 Try.f4 rfl rfl rfl rfl rfl rfl rfl ⟨rfl, rfl, rfl, rfl, rfl⟩ rfl rfl rfl rfl rfl (by kernel_rfl) Try.func4 (by kernel_rfl)
    (of_decide_eq_true (by kernel_rfl)) (by unfold Func.isWrapper; first | (rw [if_pos (by decide +kernel)]; kernel_rfl) | (rw [if_neg (by decide +kernel)]; exact ⟨rfl, rfl⟩))
    (fun os started H enc _ => Try.lifted law os started H enc)
theorem pargs_agg {n : Nat} {L : List Sh} {r : List (Bool × List Sh)} {avs : List AV} (h : PArgs n ((true, L) :: r) avs) : ∃ cs q, avs = .agg cs :: q ∧ Fa (ShOK n) L cs ∧ PArgs n r q := by
  match avs, h with
  | _ :: q, h =>
    obtain ⟨⟨cs, rfl, h1⟩, h2⟩ := h
    exact ⟨cs, q, rfl, h1, h2⟩
  | [], h => exact h.elim
theorem pargs_int {n : Nat} {r : List (Bool × List Sh)} {avs : List AV} (h : PArgs (n + 1) ((false, [.int .i64]) :: r) avs) : ∃ z q, avs = .int .i64 z :: q ∧ inI z ∧ PArgs (n + 1) r q := by
  match avs, h with
  | _ :: q, h =>
    obtain ⟨⟨s, e, h1⟩, h2⟩ := h
    cases e
    obtain ⟨z, rfl, hz⟩ := int_inv h1
    exact ⟨z, q, rfl, hz, h2⟩
  | [], h => exact h.elim
theorem pargs_nil {n : Nat} {avs : List AV} (h : PArgs n [] avs) : avs = [] := by
  match avs, h with
  | [], _ => rfl
  | _ :: _, h => exact h.elim
end Go.Proofs
namespace Go.Proofs.Ytjeopncbnlfplaa
open Go Go.AI
/-- PointingWindows answers true, whatever the input. -/
theorem pointingWindows : Rows.PointingWindowsSaid := Try.row fun avs h => by
  obtain ⟨cs, q, rfl, h1, h⟩ := pargs_agg h
  obtain ⟨z0, q, rfl, i0, h⟩ := pargs_int h
  obtain rfl := pargs_nil h
  obtain ⟨c, hc, rfl⟩ := case_of h1
  exact Go.Proofs.Try.x4 c hc z0 i0
end Go.Proofs.Ytjeopncbnlfplaa


