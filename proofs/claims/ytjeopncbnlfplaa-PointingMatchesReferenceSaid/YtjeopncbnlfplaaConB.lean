/- Contracts of the functions, part 2: called with arguments that read so, each hands back what is typed. The conditions are those typed. -/
import Derived.Test.YtjeopncbnlfplaaConA
set_option linter.unusedSectionVars false
set_option linter.unusedVariables false
set_option linter.unusedSimpArgs false
namespace Go.Proofs
open Go Go.AI
set_option maxRecDepth 10000
set_option linter.unusedSimpArgs false

theorem span_b {a b : Int} (h : spanS a b = true) : 0 ≤ a ∧ a < b ∧ b ≤ 1000000 := by simp only [spanS, Bool.and_eq_true, decide_eq_true_eq] at h; omega
theorem absT {p : Prop} {b : Bool} (h : (!b) = true) (g : b = true) : p := by rw [g] at h; cases h
def heatsL (s : Nat → Int) (l : List Aim3) (a b : Int) : List Int := (heatRun (gainsL s l a b)).2
theorem Try.c20 (s : Nat → Int) (l : List Aim3) (a b : Int) (hl : l.length ≤ 1000000) (hs : spanS a b = true) (hv : valS s l = true) : ACalls Try.prog 20 [.agg (satA s), aimsA l, .agg (spellA a b)] (.tup [intsA (heatsL s l a b), .int .i64 0]) := by
  obtain ⟨ha, hab, hb⟩ := span_b hs
  refine ACalls.of Try.TT_ok Try.keep20 Try.func20 rfl (by kernel_rfl) Try.mixed (by kernel_rfl) (Nat.le_of_ble_eq_true rfl) ?_
  intro F n' w0 m0 hG hro h1
  refine Exists.intro _ (And.intro (Try.c41 a b) (And.intro (fun h => absT h hs) (fun h => ?_)))
  refine Exists.intro _ (And.intro (Try.c14 s l hl) (And.intro (fun h => absT h hv) (fun h => ?_)))
  refine Exists.intro _ (And.intro (Try.c42 s l a b ha (Int.le_of_lt hab) hb hl) ?_)
  exact Ends.mk (Or.inl rfl) (AV.weak.of_eq rfl)
theorem Try.b20 (s : Nat → Int) (l : List Aim3) (a b : Int) (hl : l.length ≤ 1000000) (hs : (spanS a b && valS s l) = false) : ACalls Try.prog 20 [.agg (satA s), aimsA l, .agg (spellA a b)] (.tup [intsA [], .int .i64 120]) := by
  refine ACalls.of Try.TT_ok Try.keep20 Try.func20 rfl (by kernel_rfl) Try.mixed (by kernel_rfl) (Nat.le_of_ble_eq_true rfl) ?_
  intro F n' w0 m0 hG hro h1
  repeat' (conv => whnf
           first
           | refine And.intro (fun h => Bool.noConfusion (h : false = true)) (fun _ => ?_)
           | refine And.intro (fun _ => ?_) (fun h => Bool.noConfusion (h : true = false))
           | refine Exists.intro _ (And.intro (Try.c41 a b) ?_)
           | refine Exists.intro _ (And.intro (Try.c14 s l hl) ?_)
           | refine And.intro (fun h => ?_) (fun h => ?_))
  · exact Ends.mk (Or.inl rfl) (AV.weak.of_eq rfl)
  · exact Ends.mk (Or.inl rfl) (AV.weak.of_eq rfl)
  · have h1 := notF (by assumption : (!spanS a b) = false)
    have h2 := notF (by assumption : (!(areS s l && satS s)) = false)
    rw [h1, show valS s l = true from h2] at hs; cases hs
theorem Try.c46 (s : Nat → Int) (h : Int) : ACalls Try.prog 46 [.int .i64 h, .ref (satA s)] (.bool (decide (h > s 18))) := by
  refine ACalls.of Try.TT_ok Try.keep46 Try.func46 rfl (by kernel_rfl) Try.mixed (by kernel_rfl) (Nat.le_of_ble_eq_true rfl) ?_
  intro F n' w0 m0 hG hro h1
  repeat' (conv => whnf
           first
           | refine And.intro (fun h => Bool.noConfusion (h : false = true)) (fun _ => ?_)
           | refine And.intro (fun _ => ?_) (fun h => Bool.noConfusion (h : true = false))
           | refine And.intro (fun h => ?_) (fun h => ?_))
  all_goals exact Ends.mk (Or.inl rfl) (AV.weak.of_eq rfl)
theorem heatsL_len (s : Nat → Int) (l : List Aim3) (a b : Int) : (heatsL s l a b).length = (b - a).toNat := by rw [heatsL, heatRun_len, gainsL]; simp
def hotS (s : Nat → Int) (l : List Aim3) (a b : Int) : Int := let i := idxF (fun h => decide (h > s 18)) (heatsL s l a b) 0; if i ≥ 0 then w64 (a + i) else -1
theorem Try.c22 (s : Nat → Int) (l : List Aim3) (a b : Int) (hl : l.length ≤ 1000000) (hs : spanS a b = true) (hv : valS s l = true) : ACalls Try.prog 22 [.agg (satA s), aimsA l, .agg (spellA a b)] (.tup [.int .i64 (hotS s l a b), .int .i64 0]) := by
  obtain ⟨ha, hab, hb⟩ := span_b hs
  refine ACalls.of Try.TT_ok Try.keep22 Try.func22 rfl (by kernel_rfl) Try.mixed (by kernel_rfl) (Nat.le_of_ble_eq_true rfl) ?_
  intro F n' w0 m0 hG hro h1
  refine Exists.intro _ (And.intro (Try.c41 a b) (And.intro (fun h => absT h hs) (fun h => ?_)))
  refine Exists.intro _ (And.intro (Try.c14 s l hl) (And.intro (fun h => absT h hv) (fun h => ?_)))
  refine Exists.intro _ (And.intro (Try.c42 s l a b ha (Int.le_of_lt hab) hb hl) ?_)
  refine Exists.intro _ (And.intro (Try.c45 (heatsL s l a b) (fun h => decide (h > s 18)) 46 _ [.ref (satA s)] (Or.inl rfl) (by rw [heatsL_len]; omega) (fun h _ => Try.c46 s h)) ?_)
  refine And.intro (fun h => ?_) (fun h => ?_)
  · refine Ends.mk (Or.inl rfl) (AV.weak.of_eq ?_)
    rw [hotS, if_pos (of_decide_eq_true h)]; rfl
  · refine Ends.mk (Or.inl rfl) (AV.weak.of_eq ?_)
    rw [hotS, if_neg (of_decide_eq_false h)]; rfl
theorem Try.b22 (s : Nat → Int) (l : List Aim3) (a b : Int) (hl : l.length ≤ 1000000) (hs : (spanS a b && valS s l) = false) : ACalls Try.prog 22 [.agg (satA s), aimsA l, .agg (spellA a b)] (.tup [.int .i64 0, .int .i64 120]) := by
  refine ACalls.of Try.TT_ok Try.keep22 Try.func22 rfl (by kernel_rfl) Try.mixed (by kernel_rfl) (Nat.le_of_ble_eq_true rfl) ?_
  intro F n' w0 m0 hG hro h1
  have hs2 : spanS a b = true → (areS s l && satS s) = true → False := fun h1 h2 => by rw [h1, show valS s l = true from h2] at hs; cases hs
  repeat' (conv => whnf
           first
           | refine And.intro (fun h => Bool.noConfusion (h : false = true)) (fun _ => ?_)
           | refine And.intro (fun _ => ?_) (fun h => Bool.noConfusion (h : true = false))
           | refine Exists.intro _ (And.intro (Try.c41 a b) ?_)
           | refine Exists.intro _ (And.intro (Try.c14 s l hl) ?_)
           | refine And.intro (fun h => ?_) (fun h => (hs2 (notF (by assumption : (!spanS a b) = false)) (notF h)).elim)
           | refine And.intro (fun h => ?_) (fun h => ?_))
  · exact Ends.mk (Or.inl rfl) (AV.weak.of_eq rfl)
  · exact Ends.mk (Or.inl rfl) (AV.weak.of_eq rfl)
/-- The sum of gains. -/
def sumRun (pre : List (Int × Int)) : Int := pre.foldl (fun r p => w64 (r + p.2)) 0
theorem sumRun_snoc (pre : List (Int × Int)) (x : Int × Int) : sumRun (pre ++ [x]) = w64 (sumRun pre + x.2) := by simp [sumRun, List.foldl_append]
theorem pair_rd (m : Mem) (x : Int × Int) (i : Nat) (c : AV) (v : Value) (h1 : [AV.int .i64 x.1, AV.int .i64 x.2][i]? = some c) (h2 : (pairV x)[i]? = some v) : RD m c v := by
  match i, h1, h2 with
  | 0, h1, h2 => cases h1; cases h2; exact .int _ _
  | 1, h1, h2 => cases h1; cases h2; exact .int _ _
theorem Try.c25 (s : Nat → Int) (l : List Aim3) (a b : Int) (hl : l.length ≤ 1000000) (hs : spanS a b = true) (hv : valS s l = true) : ACalls Try.prog 25 [.agg (satA s), aimsA l, .agg (spellA a b)] (.tup [.int .i64 (sumRun (gainsL s l a b)), .int .i64 0]) := by
  obtain ⟨ha, hab, hb⟩ := span_b hs
  refine ACalls.of Try.TT_ok Try.keep25 Try.func25 rfl (by kernel_rfl) Try.mixed (by kernel_rfl) (Nat.le_of_ble_eq_true rfl) ?_
  intro F n' w0 m0 hG hro h1
  refine Exists.intro _ (And.intro (Try.c41 a b) (And.intro (fun h => absT h hs) (fun h => ?_)))
  refine Exists.intro _ (And.intro (Try.c14 s l hl) (And.intro (fun h => absT h hv) (fun h => ?_)))
  refine Exists.intro _ (And.intro (Try.c47 s l a b) ?_)
  refine SP.range hG hro h1 (α := Int × Int) (fun p => [.int .i64 p.1, .int .i64 p.2]) pairV (f := 64) (cap := gainsCap s l a b) (items := gainsL s l a b) rfl (Try.c64 s l a b ha hb hl) (fun _ => rfl) (fun _ => rfl) pair_rd
    [(6, .loc 6 0)] (fun pre => [(6, [.int .i64 (sumRun pre)])]) (St.le.of ?_ ?_) (by kernel_rfl) (by decide) ?_ ?_
  · repeat' (first | exact trivial | refine And.intro rfl ?_)
  · repeat' (first | exact trivial | refine And.intro rfl ?_)
  · intro F' n' m' hG' pre x rest hit
    refine awp_sound (keep := Try.keep25) hG' Try.TT_ok _ _ _ (by kernel_rfl) ?_
    refine And.intro rfl (And.intro (St.le.of ?_ ?_) (awp_sound (keep := Try.keep25) hG' Try.TT_ok _ _ _ (by kernel_rfl) ?_))
    · repeat' (first | exact trivial | refine And.intro rfl ?_)
    · repeat' (first | exact trivial | refine And.intro rfl ?_)
    · refine St.le.of ?_ ?_
      · repeat' (first | exact trivial | refine And.intro rfl ?_)
      · refine And.intro ?_ trivial
        rw [sumRun_snoc]; rfl
  · exact Ends.mk (Or.inl rfl) (AV.weak.of_eq rfl)
end Go.Proofs


namespace Go.Proofs
open Go Go.AI
set_option maxRecDepth 10000
set_option linter.unusedSimpArgs false

structure WS where
  sum : Int
  least : Int
  frm : Int
  bf : Int
  bt : Int
  most : Int
def wsIn (w : WS) (t : Int) : WS := if w.sum ≤ w.least then { w with least := w.sum, frm := t } else w
def wsOut (a t : Int) (w : WS) : WS := if t = a ∨ w64 (w.sum - w.least) > w.most then { w with bf := w.frm, bt := w64 (t + 1), most := w64 (w.sum - w.least) } else w
def wsStep (a : Int) (w : WS) (p : Int × Int) : WS := wsOut a p.1 { wsIn w p.1 with sum := w64 ((wsIn w p.1).sum + p.2) }
def worstRun (a : Int) (pre : List (Int × Int)) : WS := pre.foldl (wsStep a) ⟨0, 0, a, 0, 0, 0⟩
theorem worstRun_snoc (a : Int) (pre : List (Int × Int)) (x : Int × Int) : worstRun a (pre ++ [x]) = wsStep a (worstRun a pre) x := by simp [worstRun, List.foldl_append]
def wsB (a b : Int) (w : WS) : List (Nat × List AV) := [(13, [.int .i64 w.most]), (12, [.int .i64 w.bf, .int .i64 w.bt]), (9, [.int .i64 w.sum]), (10, [.int .i64 w.least]), (11, [.int .i64 w.frm]), (5, [.int .i64 a, .int .i64 b]), (6, [.int .i64 0, .int .i64 0])]
section
variable {a t g : Int} {pre : List (Int × Int)}
theorem wsA (h1 : (worstRun a pre).sum ≤ (worstRun a pre).least) (h2 : t = a ∨ (worstRun a pre).most < w64 (w64 ((worstRun a pre).sum + g) - (worstRun a pre).sum)) :
    worstRun a (pre ++ [(t, g)]) = ⟨w64 ((worstRun a pre).sum + g), (worstRun a pre).sum, t, t, w64 (t + 1), w64 (w64 ((worstRun a pre).sum + g) - (worstRun a pre).sum)⟩ := by
  rw [worstRun_snoc]; simp only [wsStep, wsIn, wsOut, if_pos h1, gt_iff_lt, if_pos h2]
theorem wsB1 (h1 : (worstRun a pre).sum ≤ (worstRun a pre).least) (h2 : ¬(t = a ∨ (worstRun a pre).most < w64 (w64 ((worstRun a pre).sum + g) - (worstRun a pre).sum))) :
    worstRun a (pre ++ [(t, g)]) = ⟨w64 ((worstRun a pre).sum + g), (worstRun a pre).sum, t, (worstRun a pre).bf, (worstRun a pre).bt, (worstRun a pre).most⟩ := by
  rw [worstRun_snoc]; simp only [wsStep, wsIn, wsOut, if_pos h1, gt_iff_lt, if_neg h2]
theorem wsC (h1 : ¬(worstRun a pre).sum ≤ (worstRun a pre).least) (h2 : t = a ∨ (worstRun a pre).most < w64 (w64 ((worstRun a pre).sum + g) - (worstRun a pre).least)) :
    worstRun a (pre ++ [(t, g)]) = ⟨w64 ((worstRun a pre).sum + g), (worstRun a pre).least, (worstRun a pre).frm, (worstRun a pre).frm, w64 (t + 1), w64 (w64 ((worstRun a pre).sum + g) - (worstRun a pre).least)⟩ := by
  rw [worstRun_snoc]; simp only [wsStep, wsIn, wsOut, if_neg h1, gt_iff_lt, if_pos h2]
theorem wsD (h1 : ¬(worstRun a pre).sum ≤ (worstRun a pre).least) (h2 : ¬(t = a ∨ (worstRun a pre).most < w64 (w64 ((worstRun a pre).sum + g) - (worstRun a pre).least))) :
    worstRun a (pre ++ [(t, g)]) = ⟨w64 ((worstRun a pre).sum + g), (worstRun a pre).least, (worstRun a pre).frm, (worstRun a pre).bf, (worstRun a pre).bt, (worstRun a pre).most⟩ := by
  rw [worstRun_snoc]; simp only [wsStep, wsIn, wsOut, if_neg h1, gt_iff_lt, if_neg h2]
end
theorem leT_cast {bx : List (Nat × List AV)} {a b : Int} {w u : WS} (e : w = u) (h : leT bx (wsB a b u)) : leT bx (wsB a b w) := e ▸ h
theorem Try.c27 (s : Nat → Int) (l : List Aim3) (a b : Int) (hl : l.length ≤ 1000000) (hs : spanS a b = true) (hv : valS s l = true) : ACalls Try.prog 27 [.agg (satA s), aimsA l, .agg (spellA a b)]
    (.tup [.agg [.int .i64 (worstRun a (gainsL s l a b)).bf, .int .i64 (worstRun a (gainsL s l a b)).bt], .int .i64 (worstRun a (gainsL s l a b)).most, .int .i64 0]) := by
  obtain ⟨ha, hab, hb⟩ := span_b hs
  refine ACalls.of Try.TT_ok Try.keep27 Try.func27 rfl (by kernel_rfl) Try.mixed (by kernel_rfl) (Nat.le_of_ble_eq_true rfl) ?_
  intro F n' w0 m0 hG hro h1
  refine Exists.intro _ (And.intro (Try.c41 a b) (And.intro (fun h => absT h hs) (fun h => ?_)))
  refine Exists.intro _ (And.intro (Try.c14 s l hl) (And.intro (fun h => absT h hv) (fun h => ?_)))
  refine And.intro (by kernel_rfl) ?_
  refine Exists.intro _ (And.intro (Try.c47 s l a b) ?_)
  refine SP.range hG hro h1 (α := Int × Int) (fun p => [.int .i64 p.1, .int .i64 p.2]) pairV (f := 64) (cap := gainsCap s l a b) (items := gainsL s l a b) rfl (Try.c64 s l a b ha hb hl) (fun _ => rfl) (fun _ => rfl) pair_rd
    [(13, .loc 13 0), (12, .loc 12 0), (9, .loc 9 0), (10, .loc 10 0), (11, .loc 11 0), (5, .loc 5 0), (6, .loc 6 0)] (fun pre => wsB a b (worstRun a pre)) (St.le.of ?_ ?_) (by kernel_rfl) (by decide) ?_ ?_
  · repeat' (first | exact trivial | refine And.intro rfl ?_)
  · repeat' (first | exact trivial | refine And.intro rfl ?_)
  · intro F' n' m' hG' pre x rest hit
    refine awp_sound (keep := Try.keep27) hG' Try.TT_ok _ _ _ (by kernel_rfl) ?_
    refine And.intro rfl (And.intro (St.le.of ?_ ?_) (awp_sound (keep := Try.keep27) hG' Try.TT_ok _ _ _ (by kernel_rfl) ?_))
    · repeat' (first | exact trivial | refine And.intro rfl ?_)
    · repeat' (first | exact trivial | refine And.intro rfl ?_)
    · obtain ⟨t, g⟩ := x
      repeat' (conv => whnf
               first
               | refine And.intro (fun h => Bool.noConfusion (h : false = true)) (fun _ => ?_)
               | refine And.intro (fun _ => ?_) (fun h => Bool.noConfusion (h : true = false))
               | refine And.intro (fun h => ?_) (fun h => ?_)
               | refine And.intro (by kernel_rfl) ?_)
      all_goals simp only [decide_eq_true_eq, decide_eq_false_iff_not, beq_iff_eq, beq_eq_false_iff_ne, gt_iff_lt] at *
      · exact St.le.of (by repeat' (first | exact trivial | refine And.intro rfl ?_)) (leT_cast (wsA (by assumption) (Or.inl (by assumption))) (by repeat' (first | exact trivial | refine And.intro rfl ?_)))
      · exact St.le.of (by repeat' (first | exact trivial | refine And.intro rfl ?_)) (leT_cast (wsA (by assumption) (Or.inr (by assumption))) (by repeat' (first | exact trivial | refine And.intro rfl ?_)))
      · exact St.le.of (by repeat' (first | exact trivial | refine And.intro rfl ?_)) (leT_cast (wsB1 (by assumption) (by rintro (h | h) <;> contradiction)) (by repeat' (first | exact trivial | refine And.intro rfl ?_)))
      · exact St.le.of (by repeat' (first | exact trivial | refine And.intro rfl ?_)) (leT_cast (wsC (by assumption) (Or.inl (by assumption))) (by repeat' (first | exact trivial | refine And.intro rfl ?_)))
      · exact St.le.of (by repeat' (first | exact trivial | refine And.intro rfl ?_)) (leT_cast (wsC (by assumption) (Or.inr (by assumption))) (by repeat' (first | exact trivial | refine And.intro rfl ?_)))
      · exact St.le.of (by repeat' (first | exact trivial | refine And.intro rfl ?_)) (leT_cast (wsD (by assumption) (by rintro (h | h) <;> contradiction)) (by repeat' (first | exact trivial | refine And.intro rfl ?_)))
  · refine And.intro (by kernel_rfl) ?_
    exact Ends.mk (Or.inl rfl) (AV.weak.of_eq rfl)
end Go.Proofs


namespace Go.Proofs
open Go Go.AI
set_option maxRecDepth 10000
set_option linter.unusedSimpArgs false

def maxL (l : List Int) : Int := match l with
  | [] => 0
  | x :: r => r.foldl max x
theorem maxL_snoc (l : List Int) (y : Int) (h : l ≠ []) : maxL (l ++ [y]) = max (maxL l) y := by
  cases l with
  | nil => exact absurd rfl h
  | cons x r => simp [maxL, List.foldl_append]
theorem take_snoc {α : Type} {l : List α} {i : Nat} (hi : i < l.length) : l.take (i + 1) = l.take i ++ [l[i]] := by rw [List.take_add_one, List.getElem?_eq_getElem hi]; rfl
theorem Try.c51 (l : List Int) (hne : l ≠ []) (hl : l.length ≤ 1000000) : ACalls Try.prog 51 [intsA l] (.int .i64 (maxL l)) := by
  have hpos : 0 < l.length := List.length_pos_iff.2 hne
  refine ACalls.of Try.TT_ok Try.keep51 Try.func51 rfl (by kernel_rfl) Try.mixed (by kernel_rfl) (Nat.le_of_ble_eq_true rfl) ?_
  intro F n' w0 m0 hG hro h1
  refine And.intro (fun h => ?_) (fun h => ?_)
  · have := of_decide_eq_true h; simp at this; omega
  have hx0 : (l.map fun h => [AV.int .i64 h])[(0 : Int).toNat]? = some [AV.int .i64 l[0]] := by simp [List.getElem?_eq_getElem hpos]
  refine And.intro (by omega) (Exists.intro _ (And.intro hx0 ?_))
  refine SP.loop (X := Nat) (fun i => ⟨[(4, .int .i64 i), (3, .int .i64 (maxL (l.take i))), (0, intsA l)], []⟩) (fun i => 1 ≤ i ∧ i ≤ l.length) (fun i => l.length - i) 1 ⟨Nat.le_refl _, hpos⟩ (St.le.of ?_ ?_) (fun i hi => ?_)
  · refine And.intro rfl (And.intro (congrArg (fun z => some (AV.int .i64 z)) ?_) ?_)
    · rw [take_snoc hpos]; rfl
    · repeat' (first | exact trivial | refine And.intro rfl ?_)
  · repeat' (first | exact trivial | refine And.intro rfl ?_)
  · obtain ⟨hi1, hi⟩ := hi
    refine awp_sound (keep := Try.keep51) hG Try.TT_ok _ _ _ (by kernel_rfl) ?_
    refine And.intro (fun h => ?_) (fun h => ?_)
    · have hi2 : i < l.length := by have := of_decide_eq_true h; simp at this; omega
      have hx : (l.map fun h => [AV.int .i64 h])[(i : Int).toNat]? = some [AV.int .i64 l[i]] := by simp [List.getElem?_eq_getElem hi2]
      refine And.intro (by omega) (Exists.intro _ (And.intro hx ?_))
      refine Exists.intro (i + 1) (And.intro ⟨by omega, hi2⟩ (And.intro (by omega) (St.le.of ?_ trivial)))
      refine And.intro (congrArg some (le_next (by omega))) (And.intro (congrArg (fun z => some (AV.int .i64 z)) ?_) ?_)
      · rw [take_snoc hi2, maxL_snoc _ _ (by intro hc; exact (List.take_eq_nil_iff.1 hc).elim (fun h => by omega) hne)]; rfl
      · repeat' (first | exact trivial | refine And.intro rfl ?_)
    · have e : l.take i = l := List.take_of_length_le (by have := of_decide_eq_false h; simp at this; omega)
      refine Ends.mk (Or.inl rfl) (AV.weak.of_eq (congrArg (AV.int .i64) ?_))
      rw [e]
theorem Try.c52 (l : List Aim3) : ACalls Try.prog 52 [aimsA l] (.sl .full 3 (l.map aimA)) := by
  refine ACalls.of Try.TT_ok Try.keep52 Try.func52 rfl (by kernel_rfl) Try.mixed (by kernel_rfl) (Nat.le_of_ble_eq_true rfl) ?_
  intro F n' w0 m0 hG hro h1
  refine And.intro (by omega) (And.intro (by omega) (And.intro (by simp) (And.intro (by simp) ?_)))
  refine Ends.mk (Or.inl rfl) (AV.weak.of_eq ?_)
  simp [AV.pub, AV.pub1, List.take_of_length_le]
theorem Try.c50 (s : Nat → Int) (x y : Aim3) : ACalls Try.prog 50 [.agg (aimA y), .ref (satA s), .ref (aimA x)] (.bool (!fitP s x y)) := by
  refine ACalls.of Try.TT_ok Try.keep50 Try.func50 rfl (by kernel_rfl) Try.mixed (by kernel_rfl) (Nat.le_of_ble_eq_true rfl) ?_
  intro F n' w0 m0 hG hro h1
  refine Exists.intro _ (And.intro (Try.c38 s x y) ?_)
  exact Ends.mk (Or.inl rfl) (AV.weak.of_eq rfl)

theorem Try.i48 (n a b : Int) : ACalls Try.prog 48 [.int .i64 n, .int .i64 a, .int .i64 b] (.bool (inS n a b)) := Try.c48 n a b
def newAim (t n k : Int) : Aim3 := ⟨t, w64 (t + n), k⟩
/-- A further exposure from this minute on fits, and it is not too hot. -/
def okT (s : Nat → Int) (l : List Aim3) (a b n k t : Int) : Bool := !(l.any fun x => !fitP s (newAim t n k) x) && decide (maxL (heatsL s (l ++ [newAim t n k]) a b) ≤ s 18)
def freeC (a b n : Int) : Nat := (b - n - a + 1).toNat
def freeS (s : Nat → Int) (l : List Aim3) (a b n k : Int) : Int := ((List.range (freeC a b n)).findSome? fun (i : Nat) => if okT s l a b n k (a + i) then some (a + (i : Int)) else none).getD (-1)
def freeV (s : Nat → Int) (l : List Aim3) (a b n k : Int) : Bool := spanS a b && inS n 1 60 && inS k (w64 (0 - s 9)) (s 9) && decide (l.length < 64) && valS s l
def freeSh (s : Nat → Int) (l : List Aim3) (a b n k : Int) (x : Nat × Bool) : St := ⟨(13, .int .i64 (a + x.1)) :: (1, aimsA l) :: (3, .int .i64 n) :: (4, .int .i64 k) :: (7, .loc 7 0) :: [(5, bif x.2 then .loc 5 0 else .ref (satA s))], (7, spellA a b) :: (bif x.2 then [(5, satA s)] else [])⟩
theorem Try.c29 (s : Nat → Int) (l : List Aim3) (a b n k : Int) (hv : freeV s l a b n k = true) : ACalls Try.prog 29 [.agg (satA s), aimsA l, .agg (spellA a b), .int .i64 n, .int .i64 k] (.tup [.int .i64 (freeS s l a b n k), .int .i64 0]) := by
  obtain ⟨⟨⟨⟨hs, hn⟩, hk⟩, hl⟩, hvv⟩ : (((spanS a b = true ∧ inS n 1 60 = true) ∧ inS k (w64 (0 - s 9)) (s 9) = true) ∧ l.length < 64) ∧ valS s l = true := by simpa [freeV] using hv
  obtain ⟨ha, hab, hb⟩ := span_b hs
  have hn2 : 1 ≤ n ∧ n ≤ 60 := by simpa [inS] using hn
  refine ACalls.of Try.TT_ok Try.keep29 Try.func29 rfl (by kernel_rfl) Try.mixed (by kernel_rfl) (Nat.le_of_ble_eq_true rfl) ?_
  intro F n' w0 m0 hG hro h1
  refine Exists.intro _ (And.intro (Try.c41 a b) (And.intro (fun h => ?_) (fun h => absurd h (by rw [hs]; exact Bool.noConfusion))))
  refine Exists.intro _ (And.intro (Try.i48 _ _ _) (And.intro (fun h => ?_) (fun h => absurd h (by rw [hn]; exact Bool.noConfusion))))
  refine Exists.intro _ (And.intro (Try.i48 _ _ _) (And.intro (fun h => ?_) (fun h => absurd h (by rw [show IntKind.i64.wrap (0 - s 9) = w64 (0 - s 9) from rfl, hk]; exact Bool.noConfusion))))
  refine And.intro (fun h => absT h (decide_eq_true (by rw [List.length_map]; omega))) (fun h => ?_)
  refine Exists.intro _ (And.intro (Try.c14 s l (by omega)) (And.intro (fun h => absT h hvv) (fun h => ?_)))
  refine SP.loop (X := Nat × Bool) (freeSh s l a b n k) (fun x => x.1 ≤ freeC a b n ∧ ∀ j, j < x.1 → okT s l a b n k (a + (j : Int)) = false) (fun x => freeC a b n - x.1) (0, true) ⟨Nat.zero_le _, fun j hj => absurd hj (Nat.not_lt_zero _)⟩ (St.le.of ?_ ?_) (fun x hx => ?_)
  · refine And.intro (congrArg (fun z => some (AV.int .i64 z)) (show a = a + ((0 : Nat) : Int) by omega)) ?_
    repeat' (first | exact trivial | refine And.intro rfl ?_)
  · repeat' (first | exact trivial | refine And.intro rfl ?_)
  · obtain ⟨i, first⟩ := x
    obtain ⟨hi, hall⟩ := hx
    have hfc : freeC a b n = (b - n - a + 1).toNat := rfl
    simp only at hi hall
    have e1 : IntKind.i64.wrap (a + (i : Int) + n) = a + (i : Int) + n := w64_in (by omega) (by omega)
    have e2 : (AV.int .i64 (IntKind.i64.wrap (a + (i : Int) + 1))) = AV.int .i64 (a + ((i + 1 : Nat) : Int)) := congrArg _ ((w64_in (by omega) (by omega)).trans (by omega))
    cases first
    all_goals refine awp_sound (keep := Try.keep29) hG Try.TT_ok _ _ _ (by kernel_rfl) ?_
    all_goals refine And.intro (fun h => ?_) (fun h => ?_)
    · have h2 := of_decide_eq_true h
      rw [e1] at h2
      have hi2 : i < freeC a b n := by omega
      refine Exists.intro _ (And.intro (Try.c49 l (fun x => !fitP s (newAim (a + i) n k) x) 50 _ [.ref (satA s), .ref (aimA (newAim (a + i) n k))] (Or.inl rfl) (by omega) (fun x _ => Try.c50 s _ x)) ?_)
      refine And.intro (fun h3 => ?_) (fun h3 => ?_)
      · refine Exists.intro (i + 1, false) (And.intro ⟨hi2, fun j hj => ?_⟩ (And.intro (by omega) (St.le.of ?_ ?_)))
        · rcases Nat.lt_succ_iff_lt_or_eq.1 hj with h | rfl
          · exact hall j h
          · rw [okT, h3]; rfl
        · refine And.intro (congrArg some e2) ?_
          repeat' (first | exact trivial | refine And.intro rfl ?_)
        · repeat' (first | exact trivial | refine And.intro rfl ?_)
      · refine Exists.intro _ (And.intro (Try.c52 l) ?_)
        have hlen : (l.map aimA).length = l.length := List.length_map _
        refine And.intro (show (_ + 1) * 24 ≤ 70368744177664 by rw [hlen]; omega) (And.intro (show _ + 1 ≤ 4611686018427387904 by rw [hlen]; omega) ?_)
        have happ : l.map aimA ++ [aimA (newAim (a + i) n k)] = (l ++ [newAim (a + i) n k]).map aimA := by simp
        have c42 := Try.c42 s (l ++ [newAim (a + i) n k]) a b ha (Int.le_of_lt hab) hb (by simp; omega)
        rw [aimsA, ← happ] at c42
        refine Exists.intro _ (And.intro c42 ?_)
        have hh := heatsL_len s (l ++ [newAim (a + i) n k]) a b
        refine Exists.intro _ (And.intro (Try.c51 (heatsL s (l ++ [newAim (a + i) n k]) a b) (by intro hc; rw [hc] at hh; simp at hh; omega) (by omega)) ?_)
        refine And.intro (by kernel_rfl) ?_
        refine And.intro (fun h4 => ?_) (fun h4 => ?_)
        · refine Ends.mk (Or.inl rfl) (AV.weak.of_eq ?_)
          have e : freeS s l a b n k = a + (i : Int) := by
            rw [freeS, find_some (v := a + (i : Int)) hi2 (fun j hj => by rw [hall j hj]; rfl) (by rw [okT, h3, h4]; rfl)]; rfl
          rw [e]; rfl
        · refine Exists.intro (i + 1, false) (And.intro ⟨hi2, fun j hj => ?_⟩ (And.intro (by omega) (St.le.of ?_ ?_)))
          · rcases Nat.lt_succ_iff_lt_or_eq.1 hj with h | rfl
            · exact hall j h
            · rw [okT, h3, h4]; rfl
          · refine And.intro (congrArg some e2) ?_
            repeat' (first | exact trivial | refine And.intro rfl ?_)
          · repeat' (first | exact trivial | refine And.intro rfl ?_)
    · have h2 := of_decide_eq_false h
      rw [e1] at h2
      refine Ends.mk (Or.inl rfl) (AV.weak.of_eq ?_)
      rw [freeS, find_none (fun j hj => by rw [hall j (by omega)]; rfl)]; rfl
    · have h2 := of_decide_eq_true h
      rw [e1] at h2
      have hi2 : i < freeC a b n := by omega
      refine Exists.intro _ (And.intro (Try.c49 l (fun x => !fitP s (newAim (a + i) n k) x) 50 _ [.ref (satA s), .ref (aimA (newAim (a + i) n k))] (Or.inl rfl) (by omega) (fun x _ => Try.c50 s _ x)) ?_)
      refine And.intro (fun h3 => ?_) (fun h3 => ?_)
      · refine Exists.intro (i + 1, false) (And.intro ⟨hi2, fun j hj => ?_⟩ (And.intro (by omega) (St.le.of ?_ ?_)))
        · rcases Nat.lt_succ_iff_lt_or_eq.1 hj with h | rfl
          · exact hall j h
          · rw [okT, h3]; rfl
        · refine And.intro (congrArg some e2) ?_
          repeat' (first | exact trivial | refine And.intro rfl ?_)
        · repeat' (first | exact trivial | refine And.intro rfl ?_)
      · refine Exists.intro _ (And.intro (Try.c52 l) ?_)
        have hlen : (l.map aimA).length = l.length := List.length_map _
        refine And.intro (show (_ + 1) * 24 ≤ 70368744177664 by rw [hlen]; omega) (And.intro (show _ + 1 ≤ 4611686018427387904 by rw [hlen]; omega) ?_)
        have happ : l.map aimA ++ [aimA (newAim (a + i) n k)] = (l ++ [newAim (a + i) n k]).map aimA := by simp
        have c42 := Try.c42 s (l ++ [newAim (a + i) n k]) a b ha (Int.le_of_lt hab) hb (by simp; omega)
        rw [aimsA, ← happ] at c42
        refine Exists.intro _ (And.intro c42 ?_)
        have hh := heatsL_len s (l ++ [newAim (a + i) n k]) a b
        refine Exists.intro _ (And.intro (Try.c51 (heatsL s (l ++ [newAim (a + i) n k]) a b) (by intro hc; rw [hc] at hh; simp at hh; omega) (by omega)) ?_)
        refine And.intro (by kernel_rfl) ?_
        refine And.intro (fun h4 => ?_) (fun h4 => ?_)
        · refine Ends.mk (Or.inl rfl) (AV.weak.of_eq ?_)
          have e : freeS s l a b n k = a + (i : Int) := by
            rw [freeS, find_some (v := a + (i : Int)) hi2 (fun j hj => by rw [hall j hj]; rfl) (by rw [okT, h3, h4]; rfl)]; rfl
          rw [e]; rfl
        · refine Exists.intro (i + 1, false) (And.intro ⟨hi2, fun j hj => ?_⟩ (And.intro (by omega) (St.le.of ?_ ?_)))
          · rcases Nat.lt_succ_iff_lt_or_eq.1 hj with h | rfl
            · exact hall j h
            · rw [okT, h3, h4]; rfl
          · refine And.intro (congrArg some e2) ?_
            repeat' (first | exact trivial | refine And.intro rfl ?_)
          · repeat' (first | exact trivial | refine And.intro rfl ?_)
    · have h2 := of_decide_eq_false h
      rw [e1] at h2
      refine Ends.mk (Or.inl rfl) (AV.weak.of_eq ?_)
      rw [freeS, find_none (fun j hj => by rw [hall j (by omega)]; rfl)]; rfl
end Go.Proofs


namespace Go.Proofs
open Go Go.AI
set_option maxRecDepth 10000
set_option linter.unusedSimpArgs false

def inI (z : Int) : Prop := -9223372036854775808 ≤ z ∧ z ≤ 9223372036854775807
theorem pick_rng {c n : Int} (hc : inI c) (hn : 0 < n) : 0 ≤ pickS c n ∧ pickS c n < n := by
  obtain ⟨h1, h2⟩ := hc
  unfold pickS
  split
  · rename_i h
    rw [w64_in (n := c + 1) (by omega) (by omega), w64_in (by omega) (by omega)]
    exact ⟨Int.tmod_nonneg _ (by omega), Int.tmod_lt_of_pos _ hn⟩
  · exact ⟨Int.tmod_nonneg _ (by omega), Int.tmod_lt_of_pos _ hn⟩
def perS (x : Nat → Int) : Int := w64 (2 * w64 (10 + pickS (x 0) 90))
def madeO (x : Nat → Int) (i : Nat) : Int := match i with
  | 0 => perS x
  | 1 => pickS (x 1) (perS x)
  | 2 => pickS (x 2) 10000
  | 3 => w64 (w64 (pickS (x 2) 10000 + 4000) + pickS (x 3) 10000)
  | 4 => pickS (x 4) 48000
  | 5 => w64 (pickS (x 5) 1601 - 800)
  | _ => pickS (x 6) 4
theorem per_rng {x : Nat → Int} (h : inI (x 0)) : perS x = 2 * (10 + pickS (x 0) 90) ∧ 20 ≤ perS x ∧ perS x ≤ 198 := by
  have := pick_rng h (n := 90) (by omega)
  have e : perS x = 2 * (10 + pickS (x 0) 90) := by unfold perS; rw [w64_in (n := 10 + _) (by omega) (by omega), w64_in (by omega) (by omega)]
  exact ⟨e, by omega, by omega⟩
theorem Try.c55 (x : Nat → Int) (hx : inI (x 0)) : ACalls Try.prog 55 [.agg (orbA x)] (.agg (orbA (madeO x))) := by
  have hp := (per_rng hx).2
  refine ACalls.ofB Try.TT_ok Try.func55 rfl (by kernel_rfl) Try.mixed (Nat.le_of_ble_eq_true rfl) ?_
  intro F n' w0 m0 hG hro h1
  repeat' first
    | refine SPB.seq ?_
    | refine SPB.block ?_
    | refine SPB.draw hG Try.TT_ok Try.keep55 (by kernel_rfl) ?_
    | refine SPB.reg hG Try.TT_ok Try.keep55 (by kernel_rfl) ?_
    | refine SPB.skip hG Try.TT_ok ?_
    | refine SPB.label hG Try.TT_ok ?_
    | refine SPB.ret hG Try.TT_ok ?_
    | refine SPB.exit hG Try.TT_ok ?_
    | refine SPB.condT rfl ?_
    | refine SPB.condF rfl ?_
    | refine SPB.cond rfl (And.intro (fun h => ?_) (fun h => ?_))
    | (conv => whnf
       first
         | refine And.intro (fun h => Bool.noConfusion (h : false = true)) (fun _ => ?_)
         | refine And.intro (fun _ => ?_) (fun h => Bool.noConfusion (h : true = false))
         | refine And.intro (by kernel_rfl) ?_
         | refine Exists.intro _ (And.intro (Try.c66 _ _ (show perS x ≠ 0 by omega)) ?_)
         | refine Exists.intro _ (And.intro (Try.c66 _ _ (by decide)) ?_)
         | refine And.intro (by decide) (And.intro (by decide) ?_)
         | refine And.intro (fun h => ?_) (fun h => ?_))
  all_goals exact Ends.mk (Or.inl rfl) (AV.weak.of_eq rfl)
def i4A (y : Nat → Int) : List AV := [.int .i64 (y 0), .int .i64 (y 1), .int .i64 (y 2), .int .i64 (y 3)]
/-- A satellite that integers determine. -/
def satM (x y : Nat → Int) (i : Nat) : Int := match i with
  | 0 => pickS 1 24
  | 1 => pickS (y 0) 4
  | 2 => madeO x 0
  | 3 => madeO x 1
  | 4 => madeO x 2
  | 5 => madeO x 3
  | 6 => madeO x 4
  | 7 => madeO x 5
  | 8 => madeO x 6
  | 9 => pickS (y 0) 4
  | 10 => w64 (20 + pickS (y 1) 200)
  | 11 => w64 (100 + pickS (y 1) 2000)
  | 12 => pickS (y 2) 12
  | 13 => pickS (y 2) 4
  | 14 => w64 (2 + pickS (y 2) 30)
  | 15 => w64 (1 + pickS (y 3) 20)
  | 16 => w64 (1 + pickS (y 3) 9)
  | 17 => w64 (1 + pickS (y 3) 4)
  | 18 => w64 (5 + pickS (y 1) 60)
  | 19 => pickS (w64 ((y 0).tdiv 4)) 4
  | _ => w64 (1 + pickS (y 2) 9)
set_option maxHeartbeats 4000000 in
theorem Try.c32 (x y : Nat → Int) (hx : inI (x 0)) : ACalls Try.prog 32 [.int .i64 1, .agg (orbA x), .agg (i4A y)] (.agg (satA (satM x y))) := by
  refine ACalls.ofB Try.TT_ok Try.func32 rfl (by kernel_rfl) Try.mixed (Nat.le_of_ble_eq_true rfl) ?_
  intro F n' w0 m0 hG hro h1
  repeat' first
    | refine SPB.seq ?_
    | refine SPB.block ?_
    | refine SPB.draw hG Try.TT_ok Try.keep32 (by kernel_rfl) ?_
    | refine SPB.reg hG Try.TT_ok Try.keep32 (by kernel_rfl) ?_
    | refine SPB.skip hG Try.TT_ok ?_
    | refine SPB.label hG Try.TT_ok ?_
    | refine SPB.ret hG Try.TT_ok ?_
    | refine SPB.exit hG Try.TT_ok ?_
    | refine SPB.condT rfl ?_
    | refine SPB.condF rfl ?_
    | refine SPB.cond rfl (And.intro (fun h => ?_) (fun h => ?_))
    | (conv => whnf
       first
         | refine And.intro (fun h => Bool.noConfusion (h : false = true)) (fun _ => ?_)
         | refine And.intro (fun _ => ?_) (fun h => Bool.noConfusion (h : true = false))
         | refine And.intro (by kernel_rfl) ?_
         | refine Exists.intro _ (And.intro (Try.c55 x hx) ?_)
         | refine Exists.intro _ (And.intro (Try.c54 _ _ (by decide)) ?_)
         | refine And.intro (show (4 : Int) ≠ 0 by decide) ?_
         | refine And.intro (by decide) (And.intro (by decide) ?_)
         | refine And.intro (fun h => ?_) (fun h => ?_))
  all_goals exact Ends.mk (Or.inl rfl) (AV.weak.of_eq rfl)
end Go.Proofs


namespace Go.Proofs
open Go Go.AI
set_option maxRecDepth 10000
set_option linter.unusedSimpArgs false

def wdS (s : Nat → Int) : Int := w64 (w64 (2 * s 9) + 1)
def aimF (f t : Int) (r : Aim3) : Int := if r.a < 0 then max f (w64 (t - pickS r.a 6)) else w64 (t + pickS r.a 12)
def aimNew (s : Nat → Int) (f t : Int) (r : Aim3) : Aim3 := ⟨aimF f t r, w64 (w64 (aimF f t r + 1) + pickS r.b 6), w64 (pickS r.k (wdS s) - s 9)⟩
/-- The exposures that numbers determine, and the last one's end. -/
def aimsRun (s : Nat → Int) (f : Int) (rows : List Aim3) : List Aim3 × Int := rows.foldl (fun p r => (p.1 ++ [aimNew s f p.2 r], (aimNew s f p.2 r).b)) ([], f)
theorem aimsRun_snoc (s : Nat → Int) (f : Int) (l : List Aim3) (r : Aim3) : aimsRun s f (l ++ [r]) = ((aimsRun s f l).1 ++ [aimNew s f (aimsRun s f l).2 r], (aimNew s f (aimsRun s f l).2 r).b) := by simp [aimsRun, List.foldl_append]
theorem aimsRun_len (s : Nat → Int) (f : Int) (rows : List Aim3) : (aimsRun s f rows).1.length = rows.length := by
  suffices h : ∀ (p : List Aim3 × Int), (rows.foldl (fun p r => (p.1 ++ [aimNew s f p.2 r], (aimNew s f p.2 r).b)) p).1.length = p.1.length + rows.length by simpa [aimsRun] using h ([], f)
  induction rows with
  | nil => intro r; simp
  | cons p t ih => intro r; simp [ih]; omega
set_option maxHeartbeats 4000000 in
theorem Try.c33 (s : Nat → Int) (f : Int) (rows : List Aim3) (h9 : 0 ≤ s 9 ∧ s 9 ≤ 4) : ACalls Try.prog 33 [.agg (satA s), .int .i64 f, aimsA rows] (aimsA (aimsRun s f (rows.take 10)).1) := by
  have hwd : wdS s ≠ 0 := by unfold wdS; rw [w64_in (n := 2 * s 9) (by omega) (by omega), w64_in (by omega) (by omega)]; omega
  refine ACalls.ofB Try.TT_ok Try.func33 rfl (by kernel_rfl) Try.mixed (Nat.le_of_ble_eq_true rfl) ?_
  intro F n' w0 m0 hG hro h1
  repeat' first
    | refine SPB.seq ?_
    | refine SPB.block ?_
    | refine SPB.draw hG Try.TT_ok Try.keep33 (by kernel_rfl) ?_
    | refine SPB.reg hG Try.TT_ok Try.keep33 (by kernel_rfl) ?_
    | refine SPB.skip hG Try.TT_ok ?_
    | refine SPB.label hG Try.TT_ok ?_
    | refine SPB.ret hG Try.TT_ok ?_
    | refine SPB.exit hG Try.TT_ok ?_
    | refine SPB.condT rfl ?_
    | refine SPB.condF rfl ?_
    | refine SPB.cond rfl (And.intro (fun h => ?_) (fun h => ?_))
    | (conv => whnf
       first
         | refine And.intro (fun h => Bool.noConfusion (h : false = true)) (fun _ => ?_)
         | refine And.intro (fun _ => ?_) (fun h => Bool.noConfusion (h : true = false))
         | refine And.intro (by kernel_rfl) ?_
         | refine And.intro (fun h => ?_) (fun h => ?_))
  refine SPB.loop (X := Nat) (fun i => ⟨[(9, .int .i64 i), (8, .int .i64 (aimsRun s f (rows.take i)).2), (7, .sl (.id 7) 3 ((aimsRun s f (rows.take i)).1.map aimA)), (1, .int .i64 f), (2, aimsA rows), (3, .loc 3 0)], [(3, satA s)]⟩)
    (fun i => i ≤ rows.length ∧ i ≤ 10) (fun i => rows.length - i) 0 ⟨Nat.zero_le _, Nat.zero_le _⟩ (St.le.of ?_ ?_) (fun i hi => ?_)
  · repeat' (first | exact trivial | refine And.intro rfl ?_)
  · repeat' (first | exact trivial | refine And.intro rfl ?_)
  · obtain ⟨hi, hi10⟩ := hi
    have done : ¬ (i < rows.length ∧ i < 10) → aimsRun s f (rows.take i) = aimsRun s f (rows.take 10) := fun h => by
      congr 1
      rcases Nat.lt_or_ge i 10 with h10 | h10
      · rw [List.take_of_length_le (by omega), List.take_of_length_le (by omega)]
      · rw [show i = 10 by omega]
    have hlen : ((aimsRun s f (rows.take i)).1.map aimA).length ≤ 10 := by rw [List.length_map, aimsRun_len, List.length_take]; omega
    have hx : decide ((i : Int) < ((rows.map aimA).length : Int)) = true → (rows.map aimA)[(i : Int).toNat]? = some (aimA (aimAt rows i)) := fun h => by
      have h2 : i < rows.length := by have := of_decide_eq_true h; simp at this; omega
      simp [aimAt_eq h2, List.getElem?_eq_getElem h2]
    have next : decide ((i : Int) < ((rows.map aimA).length : Int)) = true → aimsRun s f (rows.take (i + 1)) = ((aimsRun s f (rows.take i)).1 ++ [aimNew s f (aimsRun s f (rows.take i)).2 (aimAt rows i)], (aimNew s f (aimsRun s f (rows.take i)).2 (aimAt rows i)).b) := fun h => by
      have h2 : i < rows.length := by have := of_decide_eq_true h; simp at this; omega
      rw [take_snoc h2, aimsRun_snoc, aimAt_eq h2]
    repeat' first
      | refine SPB.seq ?_
      | refine SPB.block ?_
      | refine SPB.draw hG Try.TT_ok Try.keep33 (by kernel_rfl) ?_
      | refine SPB.reg hG Try.TT_ok Try.keep33 (by kernel_rfl) ?_
      | refine SPB.skip hG Try.TT_ok ?_
      | refine SPB.label hG Try.TT_ok ?_
      | refine SPB.ret hG Try.TT_ok ?_
      | refine SPB.exit hG Try.TT_ok ?_
      | refine SPB.condT rfl ?_
      | refine SPB.condF rfl ?_
      | refine SPB.cond rfl (And.intro (fun h => ?_) (fun h => ?_))
      | (conv => whnf
         first
           | refine And.intro (fun h => Bool.noConfusion (h : false = true)) (fun _ => ?_)
           | refine And.intro (fun _ => ?_) (fun h => Bool.noConfusion (h : true = false))
           | refine And.intro (by kernel_rfl) ?_
           | refine And.intro (Int.natCast_nonneg i) (Exists.intro (aimA (aimAt rows i)) (And.intro (hx (by assumption)) ?_))
           | refine And.intro (show _ * 24 ≤ 70368744177664 by simp only [List.length_cons, List.length_nil]; omega) (And.intro (show _ + _ ≤ 4611686018427387904 by simp only [List.length_cons, List.length_nil]; omega) ?_)
           | refine Exists.intro _ (And.intro (Try.c56 (aimAt rows i).a 12 (by decide)) ?_)
           | refine Exists.intro _ (And.intro (Try.c56 (aimAt rows i).a 6 (by decide)) ?_)
           | refine Exists.intro _ (And.intro (Try.c56 (aimAt rows i).b 6 (by decide)) ?_)
           | refine Exists.intro _ (And.intro (Try.c56 (aimAt rows i).k (wdS s) hwd) ?_)
           | refine And.intro (by decide) (And.intro (by decide) ?_)
           | refine And.intro (fun h => ?_) (fun h => ?_))
    · have hlt : decide ((i : Int) < ((rows.map aimA).length : Int)) = true := by assumption
      have hlt2 : i < rows.length := by have := of_decide_eq_true hlt; simp at this; omega
      have hlt3 : i < 10 := by have := of_decide_eq_true (by assumption : decide ((i : Int) < 10) = true); omega
      have hF : aimF f (aimsRun s f (rows.take i)).2 (aimAt rows i) = max f (w64 ((aimsRun s f (rows.take i)).2 - pickS (aimAt rows i).a 6)) := if_pos (of_decide_eq_true (by assumption : decide ((aimAt rows i).a < 0) = true))
      refine Exists.intro (i + 1) (And.intro ⟨hlt2, hlt3⟩ (And.intro (by omega) (St.le.of ?_ ?_)))
      · refine And.intro (congrArg some (le_next (by omega))) (And.intro ?_ (And.intro ?_ ?_))
        · rw [next hlt, aimNew, hF]; rfl
        · rw [next hlt, aimNew, hF, List.map_append]; rfl
        · repeat' (first | exact trivial | refine And.intro rfl ?_)
      · repeat' (first | exact trivial | refine And.intro rfl ?_)
    · have hlt : decide ((i : Int) < ((rows.map aimA).length : Int)) = true := by assumption
      have hlt2 : i < rows.length := by have := of_decide_eq_true hlt; simp at this; omega
      have hlt3 : i < 10 := by have := of_decide_eq_true (by assumption : decide ((i : Int) < 10) = true); omega
      have hF : aimF f (aimsRun s f (rows.take i)).2 (aimAt rows i) = w64 ((aimsRun s f (rows.take i)).2 + pickS (aimAt rows i).a 12) := if_neg (of_decide_eq_false (by assumption : decide ((aimAt rows i).a < 0) = false))
      refine Exists.intro (i + 1) (And.intro ⟨hlt2, hlt3⟩ (And.intro (by omega) (St.le.of ?_ ?_)))
      · refine And.intro (congrArg some (le_next (by omega))) (And.intro ?_ (And.intro ?_ ?_))
        · rw [next hlt, aimNew, hF]; rfl
        · rw [next hlt, aimNew, hF, List.map_append]; rfl
        · repeat' (first | exact trivial | refine And.intro rfl ?_)
      · repeat' (first | exact trivial | refine And.intro rfl ?_)
    · refine Ends.mk (Or.inl rfl) (AV.weak.of_eq ?_)
      rw [← done (fun h => by have := of_decide_eq_false (by assumption : decide ((i : Int) < 10) = false); omega)]; rfl
    · refine Ends.mk (Or.inl rfl) (AV.weak.of_eq ?_)
      rw [← done (fun h => by have := of_decide_eq_false (by assumption : decide ((i : Int) < ((rows.map aimA).length : Int)) = false); simp at this; omega)]; rfl
def caseA (x y : Nat → Int) (f : Int) (rows : List Aim3) : List AV := [.int .i64 (x 0), .int .i64 (x 1), .int .i64 (x 2), .int .i64 (x 3), .int .i64 (x 4), .int .i64 (x 5), .int .i64 (x 6), .int .i64 (y 0), .int .i64 (y 1), .int .i64 (y 2), .int .i64 (y 3), .int .i64 f, aimsA rows]
def endRun (b : Int) (l : List Aim3) : Int := l.foldl (fun r x => max r (w64 (x.b + 3))) b
theorem endRun_snoc (b : Int) (l : List Aim3) (x : Aim3) : endRun b (l ++ [x]) = max (endRun b l) (w64 (x.b + 3)) := by simp [endRun, List.foldl_append]
structure Case where
  x : Nat → Int
  y : Nat → Int
  f : Int
  rows : List Aim3
def Case.A (c : Case) : List AV := caseA c.x c.y c.f c.rows
def Case.s (c : Case) : Nat → Int := satM c.x c.y
def Case.t (c : Case) : Int := pickS c.f 900000
def Case.l (c : Case) : List Aim3 := (aimsRun c.s c.t (c.rows.take 10)).1
def Case.a (c : Case) : Int := max 0 (w64 (c.t - 3))
def Case.b (c : Case) : Int := endRun (w64 (c.t + 10)) c.l
def Case.ok (c : Case) : Prop := (∀ i, inI (c.x i)) ∧ (∀ i, inI (c.y i)) ∧ inI c.f ∧ ∀ r ∈ c.rows, inI r.a ∧ inI r.b ∧ inI r.k

end Go.Proofs


namespace Go.Proofs
open Go Go.AI
set_option maxRecDepth 10000
set_option linter.unusedSimpArgs false

theorem Case.h9 {c : Case} (h : c.ok) : 0 ≤ c.s 9 ∧ c.s 9 ≤ 4 := by
  have := pick_rng (h.2.1 0) (n := 4) (by omega)
  exact ⟨this.1, Int.le_of_lt this.2⟩
theorem Case.len {c : Case} : c.l.length ≤ 10 := by rw [Case.l, aimsRun_len, List.length_take]; omega
set_option maxHeartbeats 4000000 in
theorem Try.c12 (c : Case) (hc : c.ok) : ACalls Try.prog 12 [.agg c.A] (.tup [.agg (satA c.s), aimsA c.l, .agg (spellA c.a c.b)]) := by
  have hlen := c.len
  refine ACalls.ofB Try.TT_ok Try.func12 rfl (by kernel_rfl) Try.mixed (Nat.le_of_ble_eq_true rfl) ?_
  intro F n' w0 m0 hG hro h1
  repeat' first
    | refine SPB.seq ?_
    | refine SPB.block ?_
    | refine SPB.draw hG Try.TT_ok Try.keep12 (by kernel_rfl) ?_
    | refine SPB.reg hG Try.TT_ok Try.keep12 (by kernel_rfl) ?_
    | refine SPB.skip hG Try.TT_ok ?_
    | refine SPB.label hG Try.TT_ok ?_
    | refine SPB.ret hG Try.TT_ok ?_
    | refine SPB.exit hG Try.TT_ok ?_
    | refine SPB.condT rfl ?_
    | refine SPB.condF rfl ?_
    | refine SPB.cond rfl (And.intro (fun h => ?_) (fun h => ?_))
    | (conv => whnf
       first
         | refine And.intro (fun h => Bool.noConfusion (h : false = true)) (fun _ => ?_)
         | refine And.intro (fun _ => ?_) (fun h => Bool.noConfusion (h : true = false))
         | refine And.intro (by kernel_rfl) ?_
         | refine Exists.intro _ (And.intro (Try.c32 c.x c.y (hc.1 0)) ?_)
         | refine Exists.intro _ (And.intro (Try.c13 c.f 900000 (by decide)) ?_)
         | refine Exists.intro _ (And.intro (Try.c33 c.s c.t c.rows (Case.h9 hc)) ?_)
         | refine And.intro (fun h => ?_) (fun h => ?_))
  refine SPB.loop (X := Nat) (fun i => ⟨[(9, .int .i64 i), (8, .loc 8 0), (7, aimsA c.l), (5, .loc 5 0), (4, .loc 4 0), (2, .loc 2 0)], [(8, [.int .i64 c.a, .int .i64 (endRun (w64 (c.t + 10)) (c.l.take i))]), (5, satA c.s), (4, [.int .i64 0, .int .i64 0]), (2, satA fun _ => 0)]⟩)
    (fun i => i ≤ c.l.length) (fun i => c.l.length - i) 0 (Nat.zero_le _) (St.le.of ?_ ?_) (fun i hi => ?_)
  · repeat' (first | exact trivial | refine And.intro rfl ?_)
  · repeat' (first | exact trivial | refine And.intro rfl ?_)
  · have hx : decide ((i : Int) < ((c.l.map aimA).length : Int)) = true → (c.l.map aimA)[(i : Int).toNat]? = some (aimA (aimAt c.l i)) := fun h => by
      have h2 : i < c.l.length := by have := of_decide_eq_true h; simp at this; omega
      simp [aimAt_eq h2, List.getElem?_eq_getElem h2]
    have next : decide ((i : Int) < ((c.l.map aimA).length : Int)) = true → endRun (w64 (c.t + 10)) (c.l.take (i + 1)) = max (endRun (w64 (c.t + 10)) (c.l.take i)) (w64 ((aimAt c.l i).b + 3)) := fun h => by
      have h2 : i < c.l.length := by have := of_decide_eq_true h; simp at this; omega
      rw [take_snoc h2, endRun_snoc, aimAt_eq h2]
    repeat' first
      | refine SPB.seq ?_
      | refine SPB.block ?_
      | refine SPB.draw hG Try.TT_ok Try.keep12 (by kernel_rfl) ?_
      | refine SPB.reg hG Try.TT_ok Try.keep12 (by kernel_rfl) ?_
      | refine SPB.skip hG Try.TT_ok ?_
      | refine SPB.label hG Try.TT_ok ?_
      | refine SPB.ret hG Try.TT_ok ?_
      | refine SPB.exit hG Try.TT_ok ?_
      | refine SPB.condT rfl ?_
      | refine SPB.condF rfl ?_
      | refine SPB.cond rfl (And.intro (fun h => ?_) (fun h => ?_))
      | (conv => whnf
         first
           | refine And.intro (fun h => Bool.noConfusion (h : false = true)) (fun _ => ?_)
           | refine And.intro (fun _ => ?_) (fun h => Bool.noConfusion (h : true = false))
           | refine And.intro (by kernel_rfl) ?_
           | refine And.intro (Int.natCast_nonneg i) (Exists.intro (aimA (aimAt c.l i)) (And.intro (hx (by assumption)) ?_))
           | refine And.intro (fun h => ?_) (fun h => ?_))
    · have hlt : decide ((i : Int) < ((c.l.map aimA).length : Int)) = true := by assumption
      have hlt2 : i < c.l.length := by have := of_decide_eq_true hlt; simp at this; omega
      refine Exists.intro (i + 1) (And.intro hlt2 (And.intro (by omega) (St.le.of ?_ ?_)))
      · refine And.intro (congrArg some (le_next (by omega))) ?_
        repeat' (first | exact trivial | refine And.intro rfl ?_)
      · refine And.intro ?_ ?_
        · rw [next hlt]; rfl
        · repeat' (first | exact trivial | refine And.intro rfl ?_)
    · have e : c.l.take i = c.l := List.take_of_length_le (by have := of_decide_eq_false (by assumption : decide ((i : Int) < ((c.l.map aimA).length : Int)) = false); simp at this; omega)
      refine Ends.mk (Or.inl rfl) (AV.weak.of_eq ?_)
      rw [e]; rfl

end Go.Proofs


namespace Go.Proofs
open Go Go.AI
set_option maxRecDepth 10000
set_option linter.unusedSimpArgs false

theorem eq_len {a b : List Int} (h : a.length ≠ b.length) : decide (a = b) = false := decide_eq_false fun e => h (congrArg _ e)
theorem Try.c24 (a b : List Int) (ha : a.length ≤ 1000000) : ACalls Try.prog 24 [intsA a, intsA b] (.bool (decide (a = b))) := by
  refine ACalls.ofB Try.TT_ok Try.func24 rfl (by kernel_rfl) Try.mixed (Nat.le_of_ble_eq_true rfl) ?_
  intro F n' w0 m0 hG hro h1
  repeat' first
    | refine SPB.seq ?_
    | refine SPB.block ?_
    | refine SPB.draw hG Try.TT_ok Try.keep24 (by kernel_rfl) ?_
    | refine SPB.reg hG Try.TT_ok Try.keep24 (by kernel_rfl) ?_
    | refine SPB.skip hG Try.TT_ok ?_
    | refine SPB.label hG Try.TT_ok ?_
    | refine SPB.ret hG Try.TT_ok ?_
    | refine SPB.exit hG Try.TT_ok ?_
    | refine SPB.condT rfl ?_
    | refine SPB.condF rfl ?_
    | refine SPB.cond rfl (And.intro (fun h => ?_) (fun h => ?_))
    | (conv => whnf
       first
         | refine And.intro (fun h => Bool.noConfusion (h : false = true)) (fun _ => ?_)
         | refine And.intro (fun _ => ?_) (fun h => Bool.noConfusion (h : true = false))
         | refine And.intro (by kernel_rfl) ?_
         | refine And.intro (fun h => ?_) (fun h => ?_))
  · refine Ends.mk (Or.inl rfl) (AV.weak.of_eq (congrArg AV.bool ?_))
    have h2 : a.length ≠ b.length := by have := (by assumption : (_ != _) = true); simp at this; omega
    exact (eq_len h2).symm
  · have hl : a.length = b.length := by have := (by assumption : (_ != _) = false); simp at this; omega
    refine SPB.loop (X := Nat) (fun i => ⟨[(5, .int .i64 i), (0, intsA a), (1, intsA b)], []⟩) (fun i => i ≤ a.length ∧ a.take i = b.take i) (fun i => a.length - i) 0 ⟨Nat.zero_le _, rfl⟩ (St.le.of ?_ ?_) (fun i hi => ?_)
    · repeat' (first | exact trivial | refine And.intro rfl ?_)
    · repeat' (first | exact trivial | refine And.intro rfl ?_)
    · obtain ⟨hi, heq⟩ := hi
      have hxa : decide ((i : Int) < ((a.map fun h => [AV.int .i64 h]).length : Int)) = true → (a.map fun h => [AV.int .i64 h])[(i : Int).toNat]? = some [AV.int .i64 (a.getD i 0)] := fun h => by
        have h2 : i < a.length := by have := of_decide_eq_true h; simp at this; omega
        simp [List.getElem?_eq_getElem h2]
      have hxb : decide ((i : Int) < ((a.map fun h => [AV.int .i64 h]).length : Int)) = true → (b.map fun h => [AV.int .i64 h])[(i : Int).toNat]? = some [AV.int .i64 (b.getD i 0)] := fun h => by
        have h2 : i < b.length := by have := of_decide_eq_true h; simp at this; omega
        simp [List.getElem?_eq_getElem h2]
      repeat' first
        | refine SPB.seq ?_
        | refine SPB.block ?_
        | refine SPB.draw hG Try.TT_ok Try.keep24 (by kernel_rfl) ?_
        | refine SPB.reg hG Try.TT_ok Try.keep24 (by kernel_rfl) ?_
        | refine SPB.skip hG Try.TT_ok ?_
        | refine SPB.label hG Try.TT_ok ?_
        | refine SPB.ret hG Try.TT_ok ?_
        | refine SPB.exit hG Try.TT_ok ?_
        | refine SPB.condT rfl ?_
        | refine SPB.condF rfl ?_
        | refine SPB.cond rfl (And.intro (fun h => ?_) (fun h => ?_))
        | (conv => whnf
           first
             | refine And.intro (fun h => Bool.noConfusion (h : false = true)) (fun _ => ?_)
             | refine And.intro (fun _ => ?_) (fun h => Bool.noConfusion (h : true = false))
             | refine And.intro (by kernel_rfl) ?_
             | refine And.intro (Int.natCast_nonneg i) (Exists.intro _ (And.intro (hxa (by assumption)) ?_))
             | refine And.intro (Int.natCast_nonneg i) (Exists.intro _ (And.intro (hxb (by assumption)) ?_))
             | refine And.intro (fun h => ?_) (fun h => ?_))
      · have hlt : decide ((i : Int) < ((a.map fun h => [AV.int .i64 h]).length : Int)) = true := by assumption
        have h2 : i < a.length := by have := of_decide_eq_true hlt; simp at this; omega
        refine Ends.mk (Or.inl rfl) (AV.weak.of_eq (congrArg AV.bool ?_))
        have hne : (a.getD i 0 != b.getD i 0) = true := by assumption
        refine (decide_eq_false fun e => ?_).symm
        rw [e] at hne
        simp at hne
      · have hlt : decide ((i : Int) < ((a.map fun h => [AV.int .i64 h]).length : Int)) = true := by assumption
        have h2 : i < a.length := by have := of_decide_eq_true hlt; simp at this; omega
        have hne : (a.getD i 0 != b.getD i 0) = false := by assumption
        refine Exists.intro (i + 1) (And.intro ⟨h2, ?_⟩ (And.intro (by omega) (St.le.of ?_ ?_)))
        · rw [take_snoc h2, take_snoc (hl ▸ h2), heq]
          simp [List.getElem?_eq_getElem h2, List.getElem?_eq_getElem (show i < b.length by omega)] at hne
          rw [hne]
        · refine And.intro (congrArg some (le_next (by omega))) ?_
          repeat' (first | exact trivial | refine And.intro rfl ?_)
        · repeat' (first | exact trivial | refine And.intro rfl ?_)
      · have h2 : ¬ i < a.length := by have := of_decide_eq_false (by assumption : decide ((i : Int) < ((a.map fun h => [AV.int .i64 h]).length : Int)) = false); simp at this; omega
        refine Ends.mk (Or.inl rfl) (AV.weak.of_eq (congrArg AV.bool ?_))
        rw [List.take_of_length_le (by omega), List.take_of_length_le (by omega)] at heq
        exact (decide_eq_true heq).symm
def exS (i : Nat) : Int := match i with
  | 0 => 1 | 2 => 96 | 4 => 4000 | 5 => 20000 | 9 => 4 | 10 => 1 | 11 => 1 | 16 => 5 | 17 => 1 | 18 => 12 | 19 => 2 | 20 => 1 | _ => 0
def exW (i : Nat) : Int := match i with
  | 0 => 1 | 2 => 96 | 4 => 4000 | 5 => 20000 | 9 => 4 | 10 => 1 | 11 => 1 | 16 => 5 | 17 => 1 | 18 => 12 | 19 => 3 | 20 => 1 | _ => 0
def exL : List Aim3 := [⟨10, 13, 1⟩, ⟨18, 20, -1⟩]
theorem Try.c31 : ACalls Try.prog 31 [] (.tup [.agg (satA exS), .sl .full 3 (exL.map aimA)]) := by
  refine ACalls.ofB Try.TT_ok Try.func31 rfl (by kernel_rfl) Try.mixed (Nat.le_of_ble_eq_true rfl) ?_
  intro F n' w0 m0 hG hro h1
  repeat' first
    | refine SPB.seq ?_
    | refine SPB.block ?_
    | refine SPB.draw hG Try.TT_ok Try.keep31 (by kernel_rfl) ?_
    | refine SPB.reg hG Try.TT_ok Try.keep31 (by kernel_rfl) ?_
    | refine SPB.skip hG Try.TT_ok ?_
    | refine SPB.label hG Try.TT_ok ?_
    | refine SPB.ret hG Try.TT_ok ?_
    | refine SPB.exit hG Try.TT_ok ?_
    | refine SPB.condT rfl ?_
    | refine SPB.condF rfl ?_
    | refine SPB.cond rfl (And.intro (fun h => ?_) (fun h => ?_))
    | (conv => whnf
       first
         | refine And.intro (fun h => Bool.noConfusion (h : false = true)) (fun _ => ?_)
         | refine And.intro (fun _ => ?_) (fun h => Bool.noConfusion (h : true = false))
         | refine And.intro (by kernel_rfl) ?_
         | refine And.intro (fun h => ?_) (fun h => ?_))
  all_goals exact Ends.mk (Or.inl rfl) (AV.weak.of_eq rfl)

end Go.Proofs


namespace Go.Proofs
open Go Go.AI
set_option maxRecDepth 10000
set_option linter.unusedSimpArgs false

theorem Try.k20 : ACalls Try.prog 20 [.agg (satA exS), .sl .full 3 (exL.map aimA), .agg (spellA 10 20)] (.tup [intsA [4, 8, 12, 11, 10, 9, 8, 7, 11, 15], .int .i64 0]) := by
  have h := (Try.c20 exS exL 10 20 (Nat.le_of_ble_eq_true rfl) (by kernel_rfl) (by kernel_rfl)).sl1 (o := .full)
  rwa [show heatsL exS exL 10 20 = [4, 8, 12, 11, 10, 9, 8, 7, 11, 15] by kernel_rfl] at h
theorem Try.k22 : ACalls Try.prog 22 [.agg (satA exS), .sl .full 3 (exL.map aimA), .agg (spellA 10 20)] (.tup [.int .i64 19, .int .i64 0]) := by
  have h := (Try.c22 exS exL 10 20 (Nat.le_of_ble_eq_true rfl) (by kernel_rfl) (by kernel_rfl)).sl1 (o := .full)
  rwa [show hotS exS exL 10 20 = 19 by kernel_rfl] at h
theorem Try.k27 : ACalls Try.prog 27 [.agg (satA exS), .sl .full 3 (exL.map aimA), .agg (spellA 10 20)] (.tup [.agg [.int .i64 10, .int .i64 20], .int .i64 15, .int .i64 0]) := by
  have h := (Try.c27 exS exL 10 20 (Nat.le_of_ble_eq_true rfl) (by kernel_rfl) (by kernel_rfl)).sl1 (o := .full)
  rwa [show (worstRun 10 (gainsL exS exL 10 20)).bf = 10 by kernel_rfl, show (worstRun 10 (gainsL exS exL 10 20)).bt = 20 by kernel_rfl, show (worstRun 10 (gainsL exS exL 10 20)).most = 15 by kernel_rfl] at h
theorem Try.k25 : ACalls Try.prog 25 [.agg (satA exS), .sl .full 3 (exL.map aimA), .agg (spellA 10 13)] (.tup [.int .i64 12, .int .i64 0]) := by
  have h := (Try.c25 exS exL 10 13 (Nat.le_of_ble_eq_true rfl) (by kernel_rfl) (by kernel_rfl)).sl1 (o := .full)
  rwa [show sumRun (gainsL exS exL 10 13) = 12 by kernel_rfl] at h
theorem Try.k16 : ACalls Try.prog 16 [.agg (satA exS), .sl .full 3 (exL.map aimA)] (.tup [.int .i64 0, .int .i64 0, .bool false, .int .i64 0]) := by
  have h := (Try.c16 exS exL (Nat.le_of_ble_eq_true rfl) (by kernel_rfl)).sl1 (o := .full)
  rwa [show slewO exS exL = none by kernel_rfl] at h
theorem Try.k16w : ACalls Try.prog 16 [.agg (satA exW), .sl .full 3 (exL.map aimA)] (.tup [.int .i64 0, .int .i64 1, .bool true, .int .i64 0]) := by
  have h := (Try.c16 exW exL (Nat.le_of_ble_eq_true rfl) (by kernel_rfl)).sl1 (o := .full)
  rwa [show slewO exW exL = some (0, 1) by kernel_rfl] at h
theorem Try.k29 : ACalls Try.prog 29 [.agg (satA exS), .sl .no 3 ((exL.take 1).map aimA), .agg (spellA 10 30), .int .i64 1, .int .i64 1] (.tup [.int .i64 17, .int .i64 0]) := by
  have h := Try.c29 exS (exL.take 1) 10 30 1 1 (by kernel_rfl)
  rwa [show freeS exS (exL.take 1) 10 30 1 1 = 17 by kernel_rfl] at h
theorem Try.kb20 : ACalls Try.prog 20 [.agg (satA exS), .sl .full 3 (exL.map aimA), .agg (spellA 10 10)] (.tup [intsA [], .int .i64 120]) := (Try.b20 exS exL 10 10 (Nat.le_of_ble_eq_true rfl) (by kernel_rfl)).sl1
theorem Try.k24 : ACalls Try.prog 24 [intsA [4, 8, 12, 11, 10, 9, 8, 7, 11, 15], .sl .full 1 (([4, 8, 12, 11, 10, 9, 8, 7, 11, 15] : List Int).map fun h => [.int .i64 h])] (.bool true) := by
  have h := (Try.c24 [4, 8, 12, 11, 10, 9, 8, 7, 11, 15] [4, 8, 12, 11, 10, 9, 8, 7, 11, 15] (Nat.le_of_ble_eq_true rfl)).sl1 (o := .full)
  rwa [show decide (([4, 8, 12, 11, 10, 9, 8, 7, 11, 15] : List Int) = [4, 8, 12, 11, 10, 9, 8, 7, 11, 15]) = true by kernel_rfl] at h
theorem Try.k18 : ACalls Try.prog 18 [.agg (satA exS), .agg (aimA ⟨10, 13, 1⟩), .agg (aimA ⟨18, 20, -1⟩)] (.int .i64 4) := by
  have h := Try.c18 exS ⟨10, 13, 1⟩ ⟨18, 20, -1⟩ (by kernel_rfl)
  rwa [show slewK exS (⟨10, 13, 1⟩ : Aim3).k (⟨18, 20, -1⟩ : Aim3).k = 4 by kernel_rfl] at h
theorem Try.k14 : ACalls Try.prog 14 [.agg (satA exS), .sl .full 3 (exL.map aimA)] (.bool true) := by
  have h := (Try.c14 exS exL (Nat.le_of_ble_eq_true rfl)).sl1 (o := .full)
  rwa [show (areS exS exL && satS exS) = true by kernel_rfl] at h
theorem Try.k14z : ACalls Try.prog 14 [.agg (satA fun _ => 0), .sl .full 0 []] (.bool false) := by
  have h := (Try.c14 (fun _ => 0) [] (Nat.le_of_ble_eq_true rfl)).weak (us := [.agg (satA fun _ => 0), .sl .full 0 []]) (.cons (.refl _) (.cons AV.weak.slnil .nil))
  rwa [show (areS (fun _ => 0) [] && satS fun _ => 0) = false by kernel_rfl] at h
set_option maxHeartbeats 8000000 in
theorem Try.c11 : ACalls Try.prog 11 [] (.bool true) := by
  refine ACalls.ofB Try.TT_ok Try.func11 rfl (by kernel_rfl) Try.mixed (Nat.le_of_ble_eq_true rfl) ?_
  intro F n' w0 m0 hG hro h1
  repeat' first
    | refine SPB.seq ?_
    | refine SPB.block ?_
    | refine SPB.draw hG Try.TT_ok Try.keep11 (by kernel_rfl) ?_
    | refine SPB.reg hG Try.TT_ok Try.keep11 (by kernel_rfl) ?_
    | refine SPB.skip hG Try.TT_ok ?_
    | refine SPB.label hG Try.TT_ok ?_
    | refine SPB.ret hG Try.TT_ok ?_
    | refine SPB.exit hG Try.TT_ok ?_
    | refine SPB.condT rfl ?_
    | refine SPB.condF rfl ?_
    | refine SPB.cond rfl (And.intro (fun h => ?_) (fun h => ?_))
    | (conv => whnf
       first
         | refine And.intro (fun h => Bool.noConfusion (h : false = true)) (fun _ => ?_)
         | refine And.intro (fun _ => ?_) (fun h => Bool.noConfusion (h : true = false))
         | refine And.intro (by kernel_rfl) ?_
         | refine Exists.intro _ (And.intro (Try.c31) ?_)
         | refine Exists.intro _ (And.intro (Try.k20) ?_)
         | refine Exists.intro _ (And.intro (Try.k22) ?_)
         | refine Exists.intro _ (And.intro (Try.k27) ?_)
         | refine Exists.intro _ (And.intro (Try.k25) ?_)
         | refine Exists.intro _ (And.intro (Try.k16) ?_)
         | refine Exists.intro _ (And.intro (Try.k16w) ?_)
         | refine Exists.intro _ (And.intro (Try.k29) ?_)
         | refine Exists.intro _ (And.intro (Try.kb20) ?_)
         | refine Exists.intro _ (And.intro (Try.k24) ?_)
         | refine Exists.intro _ (And.intro (Try.k18) ?_)
         | refine Exists.intro _ (And.intro (Try.k14) ?_)
         | refine Exists.intro _ (And.intro (Try.k14z) ?_)
         | refine And.intro (by decide) (Exists.intro _ (And.intro rfl ?_))
         | refine And.intro (by decide) (And.intro (by decide) ?_)
         | refine And.intro (show Int.toNat 1 ≤ (List.map aimA exL).length by decide) ?_
         | refine And.intro (fun h => ?_) (fun h => ?_))
  all_goals exact Ends.mk (Or.inl rfl) (AV.weak.of_eq rfl)

end Go.Proofs


namespace Go.Proofs
open Go Go.AI
set_option maxRecDepth 10000
theorem wd_eq {s : Nat → Int} (h9 : 0 ≤ s 9 ∧ s 9 ≤ 4) : wdS s = 2 * s 9 + 1 := by unfold wdS; rw [w64_in (n := 2 * s 9) (by omega) (by omega), w64_in (by omega) (by omega)]
/-- What holds of a made exposure. -/
structure AimOK (s : Nat → Int) (f : Int) (n : Nat) (x : Aim3) : Prop where
  lo : f ≤ x.a
  ab : x.a < x.b
  sh : x.b ≤ x.a + 6
  hi : x.b ≤ f + 17 * (n : Int)
  k1 : -(s 9) ≤ x.k
  k2 : x.k ≤ s 9
theorem aimNew_ok {s : Nat → Int} {f t : Int} {r : Aim3} {n : Nat} (h9 : 0 ≤ s 9 ∧ s 9 ≤ 4) (hf : 0 ≤ f ∧ f ≤ 900000) (hr : inI r.a ∧ inI r.b ∧ inI r.k) (ht : f ≤ t ∧ t ≤ f + 17 * (n : Int)) (hn : n ≤ 10) : AimOK s f (n + 1) (aimNew s f t r) := by
  have p12 := pick_rng hr.1 (n := 12) (by omega)
  have p6 := pick_rng hr.1 (n := 6) (by omega)
  have q6 := pick_rng hr.2.1 (n := 6) (by omega)
  have pk := pick_rng hr.2.2 (n := wdS s) (by rw [wd_eq h9]; omega)
  have e := wd_eq h9
  have ha : f ≤ aimF f t r ∧ aimF f t r ≤ t + 11 := by
    unfold aimF
    split
    · rw [w64_in (by omega) (by omega)]; omega
    · rw [w64_in (by omega) (by omega)]; omega
  have hb : (aimNew s f t r).b = aimF f t r + 1 + pickS r.b 6 := by
    show w64 (w64 (aimF f t r + 1) + pickS r.b 6) = _
    rw [w64_in (n := aimF f t r + 1) (by omega) (by omega), w64_in (by omega) (by omega)]
  have hk : (aimNew s f t r).k = pickS r.k (wdS s) - s 9 := w64_in (by omega) (by omega)
  have haa : (aimNew s f t r).a = aimF f t r := rfl
  constructor <;> (first | rw [haa, hb] | rw [hk] | rw [hb] | rw [haa]) <;> omega
theorem aims_ok {s : Nat → Int} {f : Int} {rows : List Aim3} (h9 : 0 ≤ s 9 ∧ s 9 ≤ 4) (hf : 0 ≤ f ∧ f ≤ 900000) (hr : ∀ r ∈ rows, inI r.a ∧ inI r.b ∧ inI r.k) (hn : rows.length ≤ 10) :
    ∀ i : Nat, i ≤ rows.length → (f ≤ (aimsRun s f (rows.take i)).2 ∧ (aimsRun s f (rows.take i)).2 ≤ f + 17 * (i : Int)) ∧ ∀ x ∈ (aimsRun s f (rows.take i)).1, AimOK s f i x := by
  intro i
  induction i with
  | zero => intro _; simp [aimsRun]
  | succ i ih =>
    intro hi
    obtain ⟨h1, h2⟩ := ih (by omega)
    have hi2 : i < rows.length := hi
    have hnew := aimNew_ok h9 hf (hr rows[i] (List.getElem_mem hi2)) h1 (by omega)
    rw [take_snoc hi2, aimsRun_snoc]
    refine ⟨⟨?_, ?_⟩, fun x hx => ?_⟩
    · have := hnew.lo; have := hnew.ab; show f ≤ (aimNew s f _ _).b; omega
    · exact hnew.hi
    · rcases List.mem_append.1 hx with hx | hx
      · have := h2 x hx
        exact ⟨this.lo, this.ab, this.sh, by have := this.hi; omega, this.k1, this.k2⟩
      · rw [List.mem_singleton.1 hx]; exact hnew
section
variable {c : Case} (h : c.ok)
include h
theorem Case.ht : 0 ≤ c.t ∧ c.t ≤ 899999 := by
  have := pick_rng h.2.2.1 (n := 900000) (by omega)
  exact ⟨this.1, Int.le_of_lt_add_one (by simpa [Case.t] using this.2)⟩
theorem Case.aims : ∀ x ∈ c.l, AimOK c.s c.t 10 x := by
  have ht := Case.ht h
  intro x hx
  have := (aims_ok (rows := c.rows.take 10) (Case.h9 h) ⟨ht.1, by omega⟩ (fun r hr => h.2.2.2 r (List.mem_of_mem_take hr)) (by rw [List.length_take]; omega) _ (Nat.le_refl _)).2
  rw [List.take_length] at this
  have := this x hx
  have hl : (c.rows.take 10).length ≤ 10 := by rw [List.length_take]; omega
  exact ⟨this.lo, this.ab, this.sh, by have := this.hi; omega, this.k1, this.k2⟩
theorem endRun_rng (b m : Int) : ∀ (l : List Aim3), (∀ x ∈ l, 0 ≤ x.b ∧ x.b ≤ m ∧ m ≤ 2000000) → b ≤ m + 10 → ∀ r, b ≤ r → r ≤ m + 10 → r ≤ endRun r l ∧ endRun r l ≤ m + 10 ∧ ∀ x ∈ l, x.b + 3 ≤ endRun r l := by
  intro l
  induction l with
  | nil => intro _ _ r _ h2; simp [endRun, h2]
  | cons x t ih =>
    intro hx hb r h1 h2
    have hx0 := hx x List.mem_cons_self
    have e : w64 (x.b + 3) = x.b + 3 := w64_in (by omega) (by omega)
    have := ih (fun y hy => hx y (List.mem_cons_of_mem _ hy)) hb (max r (w64 (x.b + 3))) (by omega) (by rw [e]; omega)
    rw [show endRun r (x :: t) = endRun (max r (w64 (x.b + 3))) t from rfl]
    refine ⟨by omega, this.2.1, fun y hy => ?_⟩
    rcases List.mem_cons.1 hy with rfl | hy
    · omega
    · exact this.2.2 y hy
end
theorem Case.ab {c : Case} (h : c.ok) : c.a = max 0 (c.t - 3) ∧ c.t + 10 ≤ c.b ∧ c.b ≤ c.t + 190 ∧ ∀ x ∈ c.l, x.b + 3 ≤ c.b := by
  have ht := Case.ht h
  have e1 : c.a = max 0 (c.t - 3) := by unfold Case.a; rw [w64_in (by omega) (by omega)]
  have e2 : w64 (c.t + 10) = c.t + 10 := w64_in (by omega) (by omega)
  have hx := Case.aims h
  have := endRun_rng h (c.t + 10) (c.t + 170) c.l (fun x hm => by have h1 := (hx x hm).hi; have h2 := (hx x hm).lo; have h3 := (hx x hm).ab; omega) (by omega) (c.t + 10) (by omega) (by omega)
  rw [Case.b, e2]
  exact ⟨e1, this.1, by omega, this.2.2⟩
theorem Case.span {c : Case} (h : c.ok) : spanS c.a c.b = true := by
  have ht := Case.ht h
  have := Case.ab h
  simp only [spanS, Bool.and_eq_true, decide_eq_true_eq]
  rw [w64_in (by omega) (by omega)]
  omega
theorem inS_of {n a b : Int} (h1 : a ≤ n) (h2 : n ≤ b) : inS n a b = true := by simp [inS, h1, h2]
theorem Case.sat {c : Case} (h : c.ok) : satS c.s = true := by
  obtain ⟨hx, hy, _, _⟩ := h
  have p := fun (i : Nat) (n : Int) (hn : 0 < n) => pick_rng (hy i) hn
  have q := fun (i : Nat) (n : Int) (hn : 0 < n) => pick_rng (hx i) hn
  have hper := per_rng (hx 0)
  have hph := pick_rng (hx 1) (n := perS c.x) (by omega)
  have i4 : inI (w64 ((c.y 0).tdiv 4)) := by
    unfold inI w64; rw [IntKind.wrap_i64]; omega
  have p4 := pick_rng i4 (n := 4) (by omega)
  have a1 := p 0 4 (by omega); have a2 := p 1 200 (by omega); have a3 := p 1 2000 (by omega); have a4 := p 2 12 (by omega); have a5 := p 2 4 (by omega); have a6 := p 2 30 (by omega)
  have a7 := p 3 20 (by omega); have a8 := p 3 9 (by omega); have a9 := p 3 4 (by omega); have a10 := p 1 60 (by omega); have a11 := p 2 9 (by omega)
  have b2 := q 2 10000 (by omega); have b3 := q 3 10000 (by omega); have b4 := q 4 48000 (by omega); have b5 := q 5 1601 (by omega); have b6 := q 6 4 (by omega)
  have e1 : pickS 1 24 = 1 := by kernel_rfl
  have w := fun (a b : Int) (h1 : 0 ≤ b) (h2 : b ≤ 100000) (h3 : 0 ≤ a ∧ a ≤ 100000) => w64_in (n := a + b) (by omega) (by omega)
  simp only [satS, orbS, Bool.and_eq_true]
  have ev : (perS c.x).tmod 2 = 0 := by rw [hper.1]; exact Int.mul_tmod_right _ _
  refine ⟨⟨⟨⟨?_, ?_, ?_, ?_, ?_, ?_⟩, ⟨?_, ?_, ?_, ?_, ?_⟩⟩, ⟨?_, ?_, ?_⟩⟩, ⟨⟨⟨⟨⟨⟨?_, ?_⟩, ?_⟩, ⟨⟨?_, ?_⟩, ?_⟩⟩, ?_⟩, ?_⟩, ?_⟩⟩
  · show inS (pickS 1 24) 0 23 = true; rw [e1]; rfl
  · exact inS_of a1.1 (by show pickS _ _ ≤ _; omega)
  · exact inS_of a1.1 (by show pickS _ _ ≤ _; omega)
  · show inS (w64 (20 + pickS (c.y 1) 200)) 1 1000000 = true; rw [w _ _ a2.1 (by omega) (by omega)]; exact inS_of (by omega) (by omega)
  · exact inS_of p4.1 (by show pickS _ _ ≤ _; omega)
  · show inS (w64 (1 + pickS (c.y 2) 9)) 1 1000 = true; rw [w _ _ a11.1 (by omega) (by omega)]; exact inS_of (by omega) (by omega)
  · show inS (w64 (100 + pickS (c.y 1) 2000)) 1 1000000 = true; rw [w _ _ a3.1 (by omega) (by omega)]; exact inS_of (by omega) (by omega)
  · exact inS_of a4.1 (by show pickS _ _ ≤ _; omega)
  · exact inS_of a5.1 (by show pickS _ _ ≤ _; omega)
  · show inS (w64 (2 + pickS (c.y 2) 30)) 0 10000 = true; rw [w _ _ a6.1 (by omega) (by omega)]; exact inS_of (by omega) (by omega)
  · show inS (w64 (1 + pickS (c.y 3) 20)) 0 10000 = true; rw [w _ _ a7.1 (by omega) (by omega)]; exact inS_of (by omega) (by omega)
  · show inS (w64 (1 + pickS (c.y 3) 9)) 0 10000 = true; rw [w _ _ a8.1 (by omega) (by omega)]; exact inS_of (by omega) (by omega)
  · show inS (w64 (1 + pickS (c.y 3) 4)) 0 10000 = true; rw [w _ _ a9.1 (by omega) (by omega)]; exact inS_of (by omega) (by omega)
  · show inS (w64 (5 + pickS (c.y 1) 60)) 1 1000000 = true; rw [w _ _ a10.1 (by omega) (by omega)]; exact inS_of (by omega) (by omega)
  · show inS (perS c.x) 20 2000 = true; exact inS_of (by omega) (by omega)
  · exact decide_eq_true ev
  · show inS (pickS (c.x 1) (perS c.x)) 0 (w64 (perS c.x - 1)) = true; rw [w64_in (by omega) (by omega)]; exact inS_of (by omega) (by omega)
  · exact inS_of b2.1 (by show pickS _ _ ≤ _; omega)
  · show inS (w64 (w64 (pickS (c.x 2) 10000 + 4000) + pickS (c.x 3) 10000)) 0 23999 = true; rw [w _ 4000 (by omega) (by omega) (by omega), w _ _ b3.1 (by omega) (by omega)]; exact inS_of (by omega) (by omega)
  · show decide (pickS (c.x 2) 10000 < w64 (w64 (pickS (c.x 2) 10000 + 4000) + pickS (c.x 3) 10000)) = true; rw [w _ 4000 (by omega) (by omega) (by omega), w _ _ b3.1 (by omega) (by omega)]; exact decide_eq_true (by omega)
  · exact inS_of b4.1 (by show pickS _ _ ≤ _; omega)
  · show inS (w64 (pickS (c.x 5) 1601 - 800)) (-2000) 2000 = true; rw [w64_in (by omega) (by omega)]; exact inS_of (by omega) (by omega)
  · exact inS_of b6.1 (by show pickS _ _ ≤ _; omega)
theorem Case.val {c : Case} (h : c.ok) : valS c.s c.l = true := by
  have hx := Case.aims h
  have ht := Case.ht h
  have h9 := Case.h9 h
  rw [valS, Case.sat h, Bool.and_true, areS, Bool.and_eq_true, decide_eq_true_eq]
  refine ⟨List.all_eq_true.2 fun x hm => ?_, by have := c.len; omega⟩
  obtain ⟨h1, h2, h3, h4, h5, h6⟩ := hx x hm
  simp only [aimS, inS, Bool.and_eq_true, decide_eq_true_eq]
  rw [w64_in (n := x.b - x.a) (by omega) (by omega), w64_in (n := 0 - _) (by omega) (by omega)]
  omega
end Go.Proofs


namespace Go.Proofs
open Go Go.AI
set_option maxRecDepth 10000
set_option linter.unusedSimpArgs false

theorem i64_min : IntKind.i64.min = -9223372036854775808 := by kernel_rfl
theorem i64_max : IntKind.i64.max = 9223372036854775807 := by kernel_rfl
def caseSh : List Sh := [.int .i64, .int .i64, .int .i64, .int .i64, .int .i64, .int .i64, .int .i64, .int .i64, .int .i64, .int .i64, .int .i64, .int .i64, .sl [.int .i64, .int .i64, .int .i64]]
theorem Fa.cons_inv {α β : Type} {R : α → β → Prop} {a : α} {l : List α} {r : List β} (h : Fa R (a :: l) r) : ∃ b q, r = b :: q ∧ R a b ∧ Fa R l q := by
  cases r with
  | nil => exact h.elim
  | cons b q => exact ⟨b, q, rfl, h.1, h.2⟩
theorem Fa.nil_inv {α β : Type} {R : α → β → Prop} {r : List β} (h : Fa R ([] : List α) r) : r = [] := by
  cases r with
  | nil => rfl
  | cons b q => exact h.elim
theorem int_inv {n : Nat} {a : AV} (h : ShOK (n + 1) (.int .i64) a) : ∃ z, a = .int .i64 z ∧ inI z := by
  obtain ⟨z, h1, h2, h3⟩ := h
  rw [i64_min] at h2; rw [i64_max] at h3
  exact ⟨z, h1, h2, h3⟩
theorem rows_inv {n : Nat} : ∀ (xs : List (List AV)), (∀ x ∈ xs, Fa (ShOK (n + 1)) [.int .i64, .int .i64, .int .i64] x) → ∃ rows : List Aim3, xs = rows.map aimA ∧ ∀ r ∈ rows, inI r.a ∧ inI r.b ∧ inI r.k
  | [], _ => ⟨[], rfl, by simp⟩
  | x :: xs, h => by
    obtain ⟨rows, h1, h2⟩ := rows_inv xs fun y hy => h y (List.mem_cons_of_mem _ hy)
    have h0 := h x List.mem_cons_self
    obtain ⟨a, q, rfl, ha, h0⟩ := Fa.cons_inv h0
    obtain ⟨b, q, rfl, hb, h0⟩ := Fa.cons_inv h0
    obtain ⟨k, q, rfl, hk, h0⟩ := Fa.cons_inv h0
    obtain rfl := Fa.nil_inv h0
    obtain ⟨a, rfl, ia⟩ := int_inv ha
    obtain ⟨b, rfl, ib⟩ := int_inv hb
    obtain ⟨k, rfl, ik⟩ := int_inv hk
    refine ⟨⟨a, b, k⟩ :: rows, by rw [h1]; rfl, fun r hr => ?_⟩
    rcases List.mem_cons.1 hr with rfl | hr
    · exact ⟨ia, ib, ik⟩
    · exact h2 r hr
/-- The first argument of these laws is a case. -/
theorem case_of {cs : List AV} (h : Fa (ShOK 8) caseSh cs) : ∃ c : Case, c.ok ∧ cs = c.A := by
  unfold caseSh at h
  obtain ⟨a0, q, rfl, h0, h⟩ := Fa.cons_inv h
  obtain ⟨a1, q, rfl, h1, h⟩ := Fa.cons_inv h
  obtain ⟨a2, q, rfl, h2, h⟩ := Fa.cons_inv h
  obtain ⟨a3, q, rfl, h3, h⟩ := Fa.cons_inv h
  obtain ⟨a4, q, rfl, h4, h⟩ := Fa.cons_inv h
  obtain ⟨a5, q, rfl, h5, h⟩ := Fa.cons_inv h
  obtain ⟨a6, q, rfl, h6, h⟩ := Fa.cons_inv h
  obtain ⟨a7, q, rfl, h7, h⟩ := Fa.cons_inv h
  obtain ⟨a8, q, rfl, h8, h⟩ := Fa.cons_inv h
  obtain ⟨a9, q, rfl, h9, h⟩ := Fa.cons_inv h
  obtain ⟨a10, q, rfl, h10, h⟩ := Fa.cons_inv h
  obtain ⟨a11, q, rfl, h11, h⟩ := Fa.cons_inv h
  obtain ⟨a12, q, rfl, h12, h⟩ := Fa.cons_inv h
  obtain rfl := Fa.nil_inv h
  obtain ⟨z0, rfl, i0⟩ := int_inv h0
  obtain ⟨z1, rfl, i1⟩ := int_inv h1
  obtain ⟨z2, rfl, i2⟩ := int_inv h2
  obtain ⟨z3, rfl, i3⟩ := int_inv h3
  obtain ⟨z4, rfl, i4⟩ := int_inv h4
  obtain ⟨z5, rfl, i5⟩ := int_inv h5
  obtain ⟨z6, rfl, i6⟩ := int_inv h6
  obtain ⟨z7, rfl, i7⟩ := int_inv h7
  obtain ⟨z8, rfl, i8⟩ := int_inv h8
  obtain ⟨z9, rfl, i9⟩ := int_inv h9
  obtain ⟨z10, rfl, i10⟩ := int_inv h10
  obtain ⟨z11, rfl, i11⟩ := int_inv h11
  obtain ⟨xs, rfl, hx⟩ := h12
  obtain ⟨rows, rfl, hr⟩ := rows_inv xs hx
  refine ⟨⟨fun i => match i with | 0 => z0 | 1 => z1 | 2 => z2 | 3 => z3 | 4 => z4 | 5 => z5 | _ => z6, fun i => match i with | 0 => z7 | 1 => z8 | 2 => z9 | _ => z10, z11, rows⟩, ⟨fun i => ?_, fun i => ?_, i11, hr⟩, rfl⟩
  · dsimp only; split <;> assumption
  · dsimp only; split <;> assumption
theorem slew_facts (s : Nat → Int) (l : List Aim3) : ∃ (one two : Int) (is : Bool), slewA (slewO s l) = [.int .i64 one, .int .i64 two, .bool is, .int .i64 0] ∧
    (is = false → one = 0 ∧ two = 0 ∧ ∀ k, k < l.length → ∀ i, i < k → fitP s (aimAt l i) (aimAt l k) = true) ∧
    (is = true → ∃ i k : Nat, one = i ∧ two = k ∧ i < k ∧ k < l.length ∧ fitP s (aimAt l i) (aimAt l k) = false) := by
  cases h : slewO s l with
  | none =>
    refine ⟨0, 0, false, rfl, fun _ => ⟨rfl, rfl, fun k hk i hi => ?_⟩, fun h => Bool.noConfusion h⟩
    have h1 := List.findSome?_eq_none_iff.1 h k (List.mem_range.2 hk)
    have h2 := List.findSome?_eq_none_iff.1 h1 i (List.mem_range.2 hi)
    unfold slewI at h2
    split at h2
    · assumption
    · cases h2
  | some p =>
    obtain ⟨i, k⟩ := p
    refine ⟨i, k, true, rfl, fun h => Bool.noConfusion h, fun _ => ⟨i, k, rfl, rfl, ?_⟩⟩
    obtain ⟨k', hk1, hk2⟩ := List.exists_of_findSome?_eq_some h
    obtain ⟨i', hi1, hi2⟩ := List.exists_of_findSome?_eq_some hk2
    unfold slewI at hi2
    split at hi2
    · cases hi2
    · cases hi2
      exact ⟨List.mem_range.1 hi1, List.mem_range.1 hk1, Bool.eq_false_iff.2 (by assumption : ¬ fitP s (aimAt l i) (aimAt l k) = true)⟩
theorem aimAt_mem {l : List Aim3} {i : Nat} (h : i < l.length) : aimAt l i ∈ l := by rw [aimAt_eq h]; exact List.getElem_mem h
theorem val2 {s : Nat → Int} {l : List Aim3} (h : valS s l = true) {x y : Aim3} (hx : x ∈ l) (hy : y ∈ l) : valS s [x, y] = true := by
  simp only [valS, areS, Bool.and_eq_true, List.all_eq_true, decide_eq_true_eq] at h ⊢
  refine ⟨⟨fun z hz => ?_, by simp⟩, h.2⟩
  simp only [List.mem_cons, List.not_mem_nil, or_false] at hz
  rcases hz with rfl | rfl
  · exact h.1.1 _ hx
  · exact h.1.1 _ hy
theorem hx_at {l : List Aim3} {i : Nat} (h : i < l.length) {z : Int} (hz : z = i) : 0 ≤ z ∧ (l.map aimA)[z.toNat]? = some (aimA (aimAt l i)) := by
  subst hz
  exact ⟨by omega, by simp [aimAt_eq h, List.getElem?_eq_getElem h]⟩
end Go.Proofs


