/- The statement PointingPairs: for every input the law answers true and the input reads as it did. No condition. -/
import Derived.Test.YtjeopncbnlfplaaConB
import Derived.Test.YtjeopncbnlfplaaRows
set_option linter.unusedSectionVars false
set_option linter.unusedVariables false
set_option linter.unusedSimpArgs false
namespace Go.Proofs
open Go Go.AI
set_option maxRecDepth 10000
def ordP (l : List Aim3) (j : Nat) : Prop := (aimAt l (j - 1)).b ≤ (aimAt l j).a
def gapP (s : Nat → Int) (l : List Aim3) (j : Nat) : Prop := slewK s (aimAt l (j - 1)).k (aimAt l j).k ≤ (aimAt l j).a - (aimAt l (j - 1)).b
def slM (s : Nat → Int) (x y : Aim3) : Int := s 19 * max (x.k - y.k) (y.k - x.k)
section
variable {c : Case} (hc : c.ok)
include hc
theorem Case.h19 : 0 ≤ c.s 19 ∧ c.s 19 ≤ 3 := by
  have i4 : inI (w64 ((c.y 0).tdiv 4)) := by
    unfold inI w64; rw [IntKind.wrap_i64]; omega
  have := pick_rng i4 (n := 4) (by omega)
  exact ⟨this.1, Int.le_of_lt_add_one this.2⟩
theorem slM_rng {x y : Aim3} (hx : AimOK c.s c.t 10 x) (hy : AimOK c.s c.t 10 y) : 0 ≤ slM c.s x y ∧ slM c.s x y ≤ 24 ∧ slewK c.s x.k y.k = slM c.s x y := by
  have h9 := Case.h9 hc
  have h19 := Case.h19 hc
  have := hx.k1; have := hx.k2; have := hy.k1; have := hy.k2
  have m1 : 0 ≤ max (x.k - y.k) (y.k - x.k) := by omega
  have m2 : max (x.k - y.k) (y.k - x.k) ≤ 8 := by omega
  have p1 : 0 ≤ slM c.s x y := Int.mul_nonneg h19.1 m1
  have p2 : slM c.s x y ≤ 3 * 8 := Int.mul_le_mul h19.2 m2 m1 (by omega)
  refine ⟨p1, by omega, ?_⟩
  unfold slewK
  rw [w64_in (n := x.k - y.k) (by omega) (by omega), w64_in (n := y.k - x.k) (by omega) (by omega)]
  exact w64_in (by show _ ≤ slM c.s x y; omega) (by show slM c.s x y ≤ _; omega)
theorem slM_tri (x y z : Aim3) : slM c.s x z ≤ slM c.s x y + slM c.s y z := by
  have h19 := Case.h19 hc
  unfold slM
  rw [← Int.mul_add]
  exact Int.mul_le_mul_of_nonneg_left (by omega) h19.1
theorem slM_symm (x y : Aim3) : slM c.s x y = slM c.s y x := by unfold slM; rw [Int.max_comm]
theorem fit_iff {x y : Aim3} (hx : AimOK c.s c.t 10 x) (hy : AimOK c.s c.t 10 y) : fitP c.s x y = true ↔ if y.a < x.a then x.a ≥ y.b + slM c.s x y else y.a ≥ x.b + slM c.s x y := by
  have ht := Case.ht hc
  obtain ⟨p1, p2, p3⟩ := slM_rng hc hx hy
  obtain ⟨q1, q2, q3⟩ := slM_rng hc hy hx
  have := hx.hi; have := hx.lo; have := hx.ab; have := hy.hi; have := hy.lo; have := hy.ab
  unfold fitP fit1
  rw [slM_symm hc x y]
  rw [slM_symm hc x y] at p1 p2 p3
  split
  · rw [q3, w64_in (n := y.b + _) (by omega) (by omega)]; simp
  · rw [p3, w64_in (n := x.b + _) (by omega) (by omega)]; simp
theorem aok {i : Nat} (h : i < c.l.length) : AimOK c.s c.t 10 (aimAt c.l i) := Case.aims hc _ (aimAt_mem h)
theorem pairs_all (hg : ∀ j, 1 ≤ j → j < c.l.length → gapP c.s c.l j) : ∀ k, k < c.l.length → ∀ i, i < k → (aimAt c.l i).b + slM c.s (aimAt c.l i) (aimAt c.l k) ≤ (aimAt c.l k).a := by
  intro k
  induction k with
  | zero => intro _ i hi; omega
  | succ k ih =>
    intro hk i hi
    have g := hg (k + 1) (by omega) hk
    unfold gapP at g
    simp only [Nat.add_sub_cancel] at g
    rw [(slM_rng hc (aok hc (by omega)) (aok hc hk)).2.2] at g
    rcases Nat.lt_succ_iff_lt_or_eq.1 hi with h | rfl
    · have h1 := ih (by omega) i h
      have h2 := slM_tri hc (aimAt c.l i) (aimAt c.l k) (aimAt c.l (k + 1))
      have := (aok hc (show k < c.l.length by omega)).ab
      omega
    · omega
theorem pairs_fit (hg : ∀ j, 1 ≤ j → j < c.l.length → gapP c.s c.l j) {i k : Nat} (hk : k < c.l.length) (hi : i < k) : fitP c.s (aimAt c.l i) (aimAt c.l k) = true := by
  have h1 := pairs_all hc hg k hk i hi
  have hi' : i < c.l.length := by omega
  have := (aok hc hi').ab
  have := (slM_rng hc (aok hc hi') (aok hc hk)).1
  rw [fit_iff hc (aok hc hi') (aok hc hk), if_neg (by omega)]
  exact h1
theorem ord_all (ho : ∀ j, 1 ≤ j → j < c.l.length → ordP c.l j) : ∀ k, k < c.l.length → ∀ i, i < k → (aimAt c.l i).b ≤ (aimAt c.l k).a := by
  intro k
  induction k with
  | zero => intro _ i hi; omega
  | succ k ih =>
    intro hk i hi
    have g := ho (k + 1) (by omega) hk
    unfold ordP at g
    simp only [Nat.add_sub_cancel] at g
    rcases Nat.lt_succ_iff_lt_or_eq.1 hi with h | rfl
    · have h1 := ih (by omega) i h
      have := (aok hc (show k < c.l.length by omega)).ab
      omega
    · exact g
theorem fit_gap (ho : ∀ j, 1 ≤ j → j < c.l.length → ordP c.l j) {i k : Nat} (hk : k < c.l.length) (hi : i < k) : fitP c.s (aimAt c.l i) (aimAt c.l k) = true ↔ slewK c.s (aimAt c.l i).k (aimAt c.l k).k ≤ (aimAt c.l k).a - (aimAt c.l i).b := by
  have h1 := ord_all hc ho k hk i hi
  have hi' : i < c.l.length := by omega
  have := (aok hc hi').ab
  rw [fit_iff hc (aok hc hi') (aok hc hk), if_neg (by omega), (slM_rng hc (aok hc hi') (aok hc hk)).2.2]
  omega
/-- Exposures that overlap, or stand in another order, and fit. -/
theorem fit_order {i k : Nat} (hk : k < c.l.length) (hi : i < k) (hf : fitP c.s (aimAt c.l i) (aimAt c.l k) = true) (hlt : (aimAt c.l k).a < (aimAt c.l i).b) : (aimAt c.l k).b ≤ (aimAt c.l i).a := by
  have hi' : i < c.l.length := by omega
  have := (slM_rng hc (aok hc hi') (aok hc hk)).1
  rw [fit_iff hc (aok hc hi') (aok hc hk)] at hf
  split at hf <;> omega
end
end Go.Proofs


namespace Go.Proofs
open Go Go.AI
set_option maxRecDepth 10000
set_option linter.unusedSimpArgs false

def prB (l : List Aim3) (i : Nat) (b : Bool) (s : Nat → Int) : Prop := (∀ j, 1 ≤ j → j < i → ordP l j) ∧ (b = true → ∀ j, 1 ≤ j → j < i → gapP s l j) ∧ (b = false → ∃ j, 1 ≤ j ∧ j < i ∧ ¬ gapP s l j)
def prSh (c : Case) (x : Nat × Bool) : St := ⟨[(7, .int .i64 x.1), (6, .bool x.2), (4, aimsA c.l), (3, .loc 3 0)], [(3, satA c.s)]⟩
set_option maxHeartbeats 8000000 in
theorem Try.x6 (c : Case) (hc : c.ok) : ACalls Try.prog 6 [.agg c.A] (.bool true) := by
  obtain ⟨one, two, is, hsl, hno, hyes⟩ := slew_facts c.s c.l
  have k16 := Try.c16 c.s c.l (by have := c.len; omega) (Case.val hc)
  rw [hsl] at k16
  have hlen := c.len
  have hml : ((c.l.map aimA).length : Int) = c.l.length := by rw [List.length_map]
  refine ACalls.ofB Try.TT_ok Try.func6 rfl (by kernel_rfl) Try.mixed (Nat.le_of_ble_eq_true rfl) ?_
  intro F n' w0 m0 hG hro h1
  repeat' first
    | refine SPB.seq ?_
    | refine SPB.block ?_
    | refine SPB.draw hG Try.TT_ok Try.keep6 (by kernel_rfl) ?_
    | refine SPB.reg hG Try.TT_ok Try.keep6 (by kernel_rfl) ?_
    | refine SPB.skip hG Try.TT_ok ?_
    | refine SPB.label hG Try.TT_ok ?_
    | refine SPB.ret hG Try.TT_ok ?_
    | refine SPB.exit hG Try.TT_ok ?_
    | refine SPB.condT rfl ?_
    | refine SPB.condF rfl ?_
    | refine SPB.cond rfl (And.intro (fun h => ?_) (fun h => ?_))
    | (conv => whnf
       first
         | refine And.intro (fun h => Bool.noConfusion (h : false = true)) (fun _ => ?_)
         | refine And.intro (fun _ => ?_) (fun h => Bool.noConfusion (h : true = false))
         | refine And.intro (by kernel_rfl) ?_
         | refine Exists.intro _ (And.intro (Try.c11) ?_)
         | refine Exists.intro _ (And.intro (Try.c12 c hc) ?_)
         | refine And.intro (fun h => ?_) (fun h => ?_))
  refine SPB.loop (X := Nat × Bool) (prSh c) (fun x => 1 ≤ x.1 ∧ (x.1 ≤ c.l.length ∨ x.1 = 1) ∧ prB c.l x.1 x.2 c.s) (fun x => c.l.length - x.1) (1, true) ⟨Nat.le_refl _, .inr rfl, fun j h1 h2 => by omega, fun _ j h1 h2 => by omega, fun h => Bool.noConfusion h⟩ (St.le.of ?_ ?_) (fun x hi => ?_)
  · repeat' (first | exact trivial | refine And.intro rfl ?_)
  · repeat' (first | exact trivial | refine And.intro rfl ?_)
  · obtain ⟨i, b⟩ := x
    obtain ⟨hi1, hi, hpr⟩ := hi
    simp only at hi1 hi hpr
    have hlt : decide ((i : Int) < ((c.l.map aimA).length : Int)) = true → i < c.l.length := fun h => by have := of_decide_eq_true h; omega
    have wi : IntKind.i64.wrap ((i : Int) - 1) = ((i - 1 : Nat) : Int) := (w64_in (by omega) (by omega)).trans (by omega)
    have ci := fun h => hx_at (l := c.l) (i := i) (hlt h) rfl
    have cp := fun h => hx_at (l := c.l) (i := i - 1) (z := IntKind.i64.wrap ((i : Int) - 1)) (by have := hlt h; omega) wi
    have cT : (!is) = false → 0 ≤ two ∧ (c.l.map aimA)[two.toNat]? = some (aimA (aimAt c.l two.toNat)) := fun h => by
      obtain ⟨i0, k0, rfl, rfl, h1, h2, _⟩ := hyes (notF h)
      exact hx_at (by omega) (by omega)
    have cO : (!is) = false → 0 ≤ one ∧ (c.l.map aimA)[one.toNat]? = some (aimA (aimAt c.l one.toNat)) := fun h => by
      obtain ⟨i0, k0, rfl, rfl, h1, h2, _⟩ := hyes (notF h)
      exact hx_at (by omega) (by omega)
    have kF : (!is) = false → ACalls Try.prog 18 [.agg (satA c.s), .agg (aimA (aimAt c.l one.toNat)), .agg (aimA (aimAt c.l two.toNat))] (.int .i64 (slewK c.s (aimAt c.l one.toNat).k (aimAt c.l two.toNat).k)) := fun h => by
      obtain ⟨i0, k0, rfl, rfl, h1, h2, _⟩ := hyes (notF h)
      exact Try.c18 _ _ _ (val2 (Case.val hc) (aimAt_mem (by omega)) (aimAt_mem (by omega)))
    have hge : decide ((i : Int) < ((c.l.map aimA).length : Int)) = false → (∀ j, 1 ≤ j → j < c.l.length → ordP c.l j) ∧ is = !b := fun h => by
      have h1 : c.l.length ≤ i := by have := of_decide_eq_false h; omega
      have ho : ∀ j, 1 ≤ j → j < c.l.length → ordP c.l j := fun j h2 h3 => hpr.1 j h2 (by omega)
      refine ⟨ho, ?_⟩
      cases b with
      | true =>
        cases his : is with
        | false => rfl
        | true =>
          obtain ⟨i0, k0, _, _, h2, h3, h4⟩ := hyes his
          rw [pairs_fit hc (fun j h5 h6 => hpr.2.1 rfl j h5 (by omega)) h3 h2] at h4
          cases h4
      | false =>
        cases his : is with
        | true => rfl
        | false =>
          obtain ⟨j, h2, h3, h4⟩ := hpr.2.2 rfl
          have hj : j < c.l.length := by rcases hi with hi | hi <;> omega
          exact absurd ((fit_gap hc ho hj (show j - 1 < j by omega)).1 ((hno his).2.2 j hj (j - 1) (by omega))) h4
    have hord : decide ((aimAt c.l i).a < (aimAt c.l (i - 1)).b) = false → ∀ j, 1 ≤ j → j < i + 1 → ordP c.l j := fun h j h1 h2 => by
      rcases Nat.lt_succ_iff_lt_or_eq.1 h2 with h3 | rfl
      · exact hpr.1 j h1 h3
      · have := of_decide_eq_false h; unfold ordP; omega
    have k18 := fun h => Try.c18 c.s (aimAt c.l (i - 1)) (aimAt c.l i) (val2 (Case.val hc) (aimAt_mem (by have := hlt h; omega)) (aimAt_mem (hlt h)))
    repeat' first
      | refine SPB.seq ?_
      | refine SPB.block ?_
      | refine SPB.draw hG Try.TT_ok Try.keep6 (by kernel_rfl) ?_
      | refine SPB.reg hG Try.TT_ok Try.keep6 (by kernel_rfl) ?_
      | refine SPB.skip hG Try.TT_ok ?_
      | refine SPB.label hG Try.TT_ok ?_
      | refine SPB.ret hG Try.TT_ok ?_
      | refine SPB.exit hG Try.TT_ok ?_
      | refine SPB.condT rfl ?_
      | refine SPB.condF rfl ?_
      | refine SPB.cond rfl (And.intro (fun h => ?_) (fun h => ?_))
      | (conv => whnf
         first
           | refine And.intro (fun h => Bool.noConfusion (h : false = true)) (fun _ => ?_)
           | refine And.intro (fun _ => ?_) (fun h => Bool.noConfusion (h : true = false))
           | refine And.intro (by kernel_rfl) ?_
           | refine And.intro (ci (by assumption)).1 (Exists.intro _ (And.intro (ci (by assumption)).2 ?_))
           | refine And.intro (cp (by assumption)).1 (Exists.intro _ (And.intro (cp (by assumption)).2 ?_))
           | refine And.intro (cT (by assumption)).1 (Exists.intro _ (And.intro (cT (by assumption)).2 ?_))
           | refine And.intro (cO (by assumption)).1 (Exists.intro _ (And.intro (cO (by assumption)).2 ?_))
           | refine Exists.intro _ (And.intro (k18 (by assumption)) ?_)
           | refine Exists.intro _ (And.intro (kF (by assumption)) ?_)
           | refine Exists.intro _ (And.intro (k16) ?_)
           | refine And.intro (fun h => ?_) (fun h => ?_))
    · exact Ends.mk (Or.inl rfl) (AV.weak.of_eq rfl)
    · refine Ends.mk (Or.inl rfl) (AV.weak.of_eq (congrArg AV.bool ?_))
      have hlt2 := hlt (by assumption : decide ((i : Int) < ((c.l.map aimA).length : Int)) = true)
      have his : is = false := by assumption
      exact decide_eq_true (fit_order hc hlt2 (show i - 1 < i by omega) ((hno his).2.2 i hlt2 (i - 1) (by omega)) (of_decide_eq_true (by assumption : decide ((aimAt c.l i).a < (aimAt c.l (i - 1)).b) = true)))
    · have hlt2 := hlt (by assumption : decide ((i : Int) < ((c.l.map aimA).length : Int)) = true)
      have hb : b = true := by assumption
      subst hb
      have x1 := aok hc hlt2
      have x2 := aok hc (show i - 1 < c.l.length by omega)
      have ht := Case.ht hc
      have e88 : IntKind.i64.wrap ((aimAt c.l i).a - (aimAt c.l (i - 1)).b) = (aimAt c.l i).a - (aimAt c.l (i - 1)).b := w64_in (by have := x1.lo; have := x2.hi; omega) (by have := x1.hi; have := x1.ab; have := x2.lo; have := x2.ab; omega)
      refine Exists.intro (i + 1, decide (IntKind.i64.wrap ((aimAt c.l i).a - (aimAt c.l (i - 1)).b) ≥ slewK c.s (aimAt c.l (i - 1)).k (aimAt c.l i).k)) (And.intro ⟨by simp, .inl hlt2, hord (by assumption : decide ((aimAt c.l i).a < (aimAt c.l (i - 1)).b) = false), fun hD j h1 h2 => ?_, fun hD => ⟨i, hi1, by simp, fun g => ?_⟩⟩ (And.intro (by simp; omega) (St.le.of ?_ ?_)))
      · rcases Nat.lt_succ_iff_lt_or_eq.1 h2 with h3 | h3
        · exact hpr.2.1 rfl j h1 h3
        · subst h3; have := of_decide_eq_true hD; rw [e88] at this; exact this
      · have := of_decide_eq_false hD; rw [e88] at this; exact this g
      · refine And.intro (congrArg some (le_next (by omega))) ?_
        repeat' (first | exact trivial | refine And.intro rfl ?_)
      · repeat' (first | exact trivial | refine And.intro rfl ?_)
    · have hlt2 := hlt (by assumption : decide ((i : Int) < ((c.l.map aimA).length : Int)) = true)
      have hb : b = false := by assumption
      subst hb
      refine Exists.intro (i + 1, false) (And.intro ⟨by simp, .inl hlt2, hord (by assumption : decide ((aimAt c.l i).a < (aimAt c.l (i - 1)).b) = false), fun h => Bool.noConfusion h, fun _ => ?_⟩ (And.intro (by simp; omega) (St.le.of ?_ ?_)))
      · obtain ⟨j, h1, h2, h3⟩ := hpr.2.2 rfl
        exact ⟨j, h1, by simp; omega, h3⟩
      · refine And.intro (congrArg some (le_next (by omega))) ?_
        repeat' (first | exact trivial | refine And.intro rfl ?_)
      · repeat' (first | exact trivial | refine And.intro rfl ?_)
    · have h1 := (hge (by assumption : decide ((i : Int) < ((c.l.map aimA).length : Int)) = false)).2
      have h2 : (is == b) = true := by assumption
      rw [h1] at h2
      cases b <;> cases h2
    · refine Ends.mk (Or.inl rfl) (AV.weak.of_eq (congrArg AV.bool ?_))
      rw [(hno (notT (by assumption : (!is) = true))).2.1]; rfl
    · have h2 : (one == 0) = false := by assumption
      rw [(hno (notT (by assumption : (!is) = true))).1] at h2
      cases h2
    · have h3 := of_decide_eq_true (by assumption : decide (one < 0) = true)
      obtain ⟨i0, k0, e1, e2, h1, h2, _⟩ := hyes (notF (by assumption : (!is) = false))
      omega
    · have h3 := of_decide_eq_true (by assumption : decide (one ≥ two) = true)
      obtain ⟨i0, k0, e1, e2, h1, h2, _⟩ := hyes (notF (by assumption : (!is) = false))
      omega
    · have h3 := of_decide_eq_true (by assumption : decide (two ≥ ((c.l.map aimA).length : Int)) = true)
      obtain ⟨i0, k0, e1, e2, h1, h2, _⟩ := hyes (notF (by assumption : (!is) = false))
      omega
    · refine Ends.mk (Or.inl rfl) (AV.weak.of_eq (congrArg AV.bool ?_))
      have hg := hge (by assumption : decide ((i : Int) < ((c.l.map aimA).length : Int)) = false)
      obtain ⟨i0, k0, rfl, rfl, h1, h2, h3⟩ := hyes (notF (by assumption : (!is) = false))
      simp only [Int.toNat_natCast]
      have x1 := aok hc h2
      have x2 := aok hc (show i0 < c.l.length by omega)
      have ht := Case.ht hc
      have e : IntKind.i64.wrap ((aimAt c.l k0).a - (aimAt c.l i0).b) = (aimAt c.l k0).a - (aimAt c.l i0).b := w64_in (by have := x1.lo; have := x2.hi; omega) (by have := x1.hi; have := x1.ab; have := x2.lo; have := x2.ab; omega)
      have hn : ¬ _ := fun g => Bool.noConfusion (h3.symm.trans ((fit_gap hc hg.1 h2 h1).2 g))
      exact decide_eq_true (by rw [e]; omega)

end Go.Proofs


namespace Go.Proofs
open Go Go.AI Go.Proofs.Ytjeopncbnlfplaa
set_option maxRecDepth 100000
theorem Try.own : ownKnob Try.prog.godebug = none := by kernel_rfl
theorem Try.laidOut : laidOutB Try.prog = true := by kernel_rfl
theorem Try.reads26 : (Try.prog.readableRec 26 && Nat.blt 26 Try.prog.types.size) = true := by kernel_rfl
def case0 : Value := .agg #[.int .i64 0, .int .i64 0, .int .i64 0, .int .i64 0, .int .i64 0, .int .i64 0, .int .i64 0, .int .i64 0, .int .i64 0, .int .i64 0, .int .i64 0, .int .i64 0, .slice none 0 0]
theorem Try.sh6 : paramSh Try.prog 8 [26] = some [(true, caseSh)] := by kernel_rfl
theorem Try.lifted6 (law : ∀ avs, PArgs 8 [(true, caseSh)] avs → ACalls Try.prog 6 avs (.bool true)) (os : Os) (started : os.Started) (H : Type) (enc : TypeId × Value → H) :
    ReturnsInHanded {} Try.checked os 6 .any (Rows.pointingPairsSpec.pre6 enc Try.prog Try.f6 Rows.pointingPairsRow.domain false) (Rows.pointingPairsSpec.post enc Try.prog Try.f6 false true false false) :=
  law_lifted (C := Try.checked) (tb := 4) Try.own started (by kernel_rfl) Try.func6
    (ChangeSpec.witness6 (enc := enc) (C := Try.checked) false ⟨#[], #[case0], []⟩ 8 (by kernel_rfl) (by kernel_rfl) (by kernel_rfl) (by kernel_rfl))
    rfl (by kernel_rfl) (by kernel_rfl) (fun ds h => by
      match ds, h with
      | [d], _ => rfl) Try.sh6 Try.laidOut (fun t ht => by
      have e : Try.f6.params.toList = [26] := by kernel_rfl
      rw [e] at ht
      simp only [List.mem_singleton] at ht
      subst ht
      have := Try.reads26
      simp only [Bool.and_eq_true] at this
      exact ⟨this.1, Nat.le_of_ble_eq_true this.2⟩) law
theorem Try.row6 (law : ∀ avs, PArgs 8 [(true, caseSh)] avs → ACalls Try.prog 6 avs (.bool true)) : Rows.PointingPairsSaid :=
  OpenClaim.holds_of_wide (p := Try.pinned) (s := Rows.pointingPairsSpec) (c := Rows.pointingPairsRow) 6 Try.f6 rfl rfl rfl rfl rfl rfl rfl ⟨rfl, rfl, rfl, rfl, rfl⟩ rfl rfl rfl rfl rfl (by kernel_rfl) Try.func6 (by kernel_rfl)
    (of_decide_eq_true (by kernel_rfl)) (by unfold Func.isWrapper; first | (rw [if_pos (by decide +kernel)]; kernel_rfl) | (rw [if_neg (by decide +kernel)]; exact ⟨rfl, rfl⟩))
    (fun os started H enc _ => Try.lifted6 law os started H enc)
theorem args1 {n : Nat} {L : List Sh} {avs : List AV} (h : PArgs n [(true, L)] avs) : ∃ cs, Fa (ShOK n) L cs ∧ avs = [.agg cs] := by
  match avs, h with
  | [a], h =>
    obtain ⟨⟨cs, rfl, h1⟩, _⟩ := h
    exact ⟨cs, h1, rfl⟩
  | [], h => exact h.elim
  | _ :: _ :: _, h => exact h.2.elim
end Go.Proofs
namespace Go.Proofs.Ytjeopncbnlfplaa
open Go Go.AI
/-- PointingPairs answers true, whatever the input. -/
theorem pointingPairs : Rows.PointingPairsSaid := Try.row6 fun avs h => by
  obtain ⟨cs, h1, rfl⟩ := args1 h
  obtain ⟨c, hc, rfl⟩ := case_of h1
  exact Go.Proofs.Try.x6 c hc
end Go.Proofs.Ytjeopncbnlfplaa


