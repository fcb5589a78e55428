/- Contracts of the functions, part 2: called with arguments that read so, each hands back what is typed. The conditions are those typed. -/
import Derived.Test.YtoccmkmnkoldmaaGreatConA
set_option linter.unusedSectionVars false
set_option linter.unusedVariables false
set_option linter.unusedSimpArgs false

namespace Go.Proofs
open Go Go.AI
set_option maxRecDepth 10000
set_option linter.unusedSimpArgs false

def inS (n a b : Int) : Bool := decide (a ≤ n) && decide (n ≤ b)
def orbA (o : Nat → Int) : List AV := [.int .i64 (o 0), .int .i64 (o 1), .int .i64 (o 2), .int .i64 (o 3), .int .i64 (o 4), .int .i64 (o 5), .int .i64 (o 6)]
def movA (o : Nat → Int) (t : Int) : List AV := [.int .i64 (o 0), .int .i64 (o 1), .int .i64 (o 2), .int .i64 (o 3), .int .i64 (o 4), .int .i64 (o 5), .int .i64 (o 6), .int .i64 t]
def orbS (o : Nat → Int) : Bool := inS (o 0) 20 2000 && decide ((o 0).tmod 2 = 0) && inS (o 1) 0 (w64 (o 0 - 1)) && (inS (o 2) 0 23999 && inS (o 3) 0 23999 && decide (o 2 < o 3)) && inS (o 4) 0 47999 && inS (o 5) (-2000) 2000 && inS (o 6) 0 10
def arW (n c : Int) : Int := (w64 (n.tmod c + c)).tmod c
def rowW (o : Nat → Int) (t : Int) : Int := w64 (o 2 + w64 ((w64 (w64 (w64 (o 3 - o 2) * 2) * min (arW (w64 (t + o 1)) (o 0)) (w64 (o 0 - arW (w64 (t + o 1)) (o 0))))).tdiv (o 0)))
def colW (o : Nat → Int) (t : Int) : Int := arW (w64 (o 4 + w64 (o 5 * t))) 48000
def celW (o : Nat → Int) (t : Int) : Int × Int := (w64 ((colW o t).tdiv 1000), w64 ((rowW o t).tdiv 1000))
def atS (o : Nat → Int) (t late : Int) : Bool := inS t 0 1000000 && inS late (-10) 10 && orbS o
theorem Tryz.c44 (n a b : Int) : ACalls Tryz.prog 150 [.int .i64 n, .int .i64 a, .int .i64 b] (.bool (inS n a b)) := by
  refine ACalls.ofB Tryz.TT_ok Tryz.func150 rfl (by kernel_rfl) Tryz.mixed (Nat.le_of_ble_eq_true rfl) ?_
  intro F n' w0 m0 hG hro h1
  repeat' first
    | refine SPB.seq ?_
    | refine SPB.block ?_
    | refine SPB.draw hG Tryz.TT_ok Tryz.keep150 (by kernel_rfl) ?_
    | refine SPB.reg hG Tryz.TT_ok Tryz.keep150 (by kernel_rfl) ?_
    | refine SPB.skip hG Tryz.TT_ok ?_
    | refine SPB.label hG Tryz.TT_ok ?_
    | refine SPB.ret hG Tryz.TT_ok ?_
    | refine SPB.exit hG Tryz.TT_ok ?_
    | refine SPB.condT rfl ?_
    | refine SPB.condF rfl ?_
    | refine SPB.cond rfl (And.intro (fun h => ?_) (fun h => ?_))
    | (conv => whnf
       first
         | refine And.intro (fun h => Bool.noConfusion (h : false = true)) (fun _ => ?_)
         | refine And.intro (fun _ => ?_) (fun h => Bool.noConfusion (h : true = false))
         | refine And.intro (by kernel_rfl) ?_
         | refine And.intro (fun h => ?_) (fun h => ?_)
         | refine Or.inl ?_
         | fail)
  all_goals refine Ends.mk (Or.inl rfl) (AV.weak.of_eq (congrArg AV.bool ?_))
  all_goals (simp_all [inS] <;> omega)
theorem Tryz.c70 (n c : Int) (hc : c ≠ 0) : ACalls Tryz.prog 191 [.int .i64 n, .int .i64 c] (.int .i64 (arW n c)) := by
  refine ACalls.ofB Tryz.TT_ok Tryz.func191 rfl (by kernel_rfl) Tryz.mixed (Nat.le_of_ble_eq_true rfl) ?_
  intro F n' w0 m0 hG hro h1
  repeat' first
    | refine SPB.seq ?_
    | refine SPB.block ?_
    | refine SPB.draw hG Tryz.TT_ok Tryz.keep191 (by kernel_rfl) ?_
    | refine SPB.reg hG Tryz.TT_ok Tryz.keep191 (by kernel_rfl) ?_
    | refine SPB.skip hG Tryz.TT_ok ?_
    | refine SPB.label hG Tryz.TT_ok ?_
    | refine SPB.ret hG Tryz.TT_ok ?_
    | refine SPB.exit hG Tryz.TT_ok ?_
    | refine SPB.condT rfl ?_
    | refine SPB.condF rfl ?_
    | refine SPB.cond rfl (And.intro (fun h => ?_) (fun h => ?_))
    | (conv => whnf
       first
         | refine And.intro (fun h => Bool.noConfusion (h : false = true)) (fun _ => ?_)
         | refine And.intro (fun _ => ?_) (fun h => Bool.noConfusion (h : true = false))
         | refine And.intro (by kernel_rfl) ?_
         | refine And.intro hc ?_
         | refine And.intro (fun h => ?_) (fun h => ?_)
         | refine Or.inl ?_
         | fail)
  all_goals exact Ends.mk (Or.inl rfl) (AV.weak.of_eq rfl)
set_option maxHeartbeats 4000000 in
theorem Tryz.c17 (o : Nat → Int) : ACalls Tryz.prog 115 [.agg (orbA o)] (.bool (orbS o)) := by
  refine ACalls.ofB Tryz.TT_ok Tryz.func115 rfl (by kernel_rfl) Tryz.mixed (Nat.le_of_ble_eq_true rfl) ?_
  intro F n' w0 m0 hG hro h1
  repeat' first
    | refine SPB.seq ?_
    | refine SPB.block ?_
    | refine SPB.draw hG Tryz.TT_ok Tryz.keep115 (by kernel_rfl) ?_
    | refine SPB.reg hG Tryz.TT_ok Tryz.keep115 (by kernel_rfl) ?_
    | refine SPB.skip hG Tryz.TT_ok ?_
    | refine SPB.label hG Tryz.TT_ok ?_
    | refine SPB.ret hG Tryz.TT_ok ?_
    | refine SPB.exit hG Tryz.TT_ok ?_
    | refine SPB.condT rfl ?_
    | refine SPB.condF rfl ?_
    | refine SPB.cond rfl (And.intro (fun h => ?_) (fun h => ?_))
    | (conv => whnf
       first
         | refine And.intro (fun h => Bool.noConfusion (h : false = true)) (fun _ => ?_)
         | refine And.intro (fun _ => ?_) (fun h => Bool.noConfusion (h : true = false))
         | refine And.intro (by kernel_rfl) ?_
         | refine Exists.intro _ (And.intro (Tryz.c44 _ _ _) ?_)
         | refine And.intro (by decide) ?_
         | refine And.intro (fun h => ?_) (fun h => ?_)
         | refine Or.inl ?_
         | fail)
  all_goals refine Ends.mk (Or.inl rfl) (AV.weak.of_eq (congrArg AV.bool ?_))
  all_goals (dsimp only [orbS, inS, w64]; rw [Bool.eq_iff_iff]; simp only [inS, Bool.and_eq_true, Bool.and_eq_false_iff, decide_eq_true_eq, decide_eq_false_iff_not, beq_iff_eq, beq_eq_false_iff_ne, bne_iff_ne, bne_eq_false_iff_eq, Bool.not_eq_true', Bool.not_eq_false', Bool.false_eq_true, false_iff] at *; generalize IntKind.i64.wrap (o 0 - 1) = q at *; generalize (o 0).tmod 2 = r at *; omega)
theorem Tryz.c46 (o : Nat → Int) (t late : Int) : ACalls Tryz.prog 104 [.agg (orbA o), .int .i64 t, .int .i64 late] (.tup [.agg (movA o (w64 (t - late))), .bool (atS o t late)]) := by
  refine ACalls.ofB Tryz.TT_ok Tryz.func104 rfl (by kernel_rfl) Tryz.mixed (Nat.le_of_ble_eq_true rfl) ?_
  intro F n' w0 m0 hG hro h1
  repeat' first
    | refine SPB.seq ?_
    | refine SPB.block ?_
    | refine SPB.draw hG Tryz.TT_ok Tryz.keep104 (by kernel_rfl) ?_
    | refine SPB.reg hG Tryz.TT_ok Tryz.keep104 (by kernel_rfl) ?_
    | refine SPB.skip hG Tryz.TT_ok ?_
    | refine SPB.label hG Tryz.TT_ok ?_
    | refine SPB.ret hG Tryz.TT_ok ?_
    | refine SPB.exit hG Tryz.TT_ok ?_
    | refine SPB.condT rfl ?_
    | refine SPB.condF rfl ?_
    | refine SPB.cond rfl (And.intro (fun h => ?_) (fun h => ?_))
    | (conv => whnf
       first
         | refine And.intro (fun h => Bool.noConfusion (h : false = true)) (fun _ => ?_)
         | refine And.intro (fun _ => ?_) (fun h => Bool.noConfusion (h : true = false))
         | refine And.intro (by kernel_rfl) ?_
         | refine Exists.intro _ (And.intro (Tryz.c44 _ _ _) ?_)
         | refine Exists.intro _ (And.intro (Tryz.c17 o) ?_)
         | refine And.intro (fun h => ?_) (fun h => ?_)
         | refine Or.inl ?_
         | fail)
  all_goals refine Ends.mk (Or.inl rfl) (AV.weak.of_eq (congrArg (fun b => AV.tup [.agg (movA o (w64 (t - late))), .bool b]) ?_))
  all_goals simp only [atS, *, Bool.true_and, Bool.and_true, Bool.false_and, Bool.and_false]
theorem Tryz.c47 (o : Nat → Int) (t : Int) (h0 : o 0 ≠ 0) : ACalls Tryz.prog 152 [.agg (movA o t)] (.int .i64 (rowW o t)) := by
  refine ACalls.ofB Tryz.TT_ok Tryz.func152 rfl (by kernel_rfl) Tryz.mixed (Nat.le_of_ble_eq_true rfl) ?_
  intro F n' w0 m0 hG hro h1
  repeat' first
    | refine SPB.seq ?_
    | refine SPB.block ?_
    | refine SPB.draw hG Tryz.TT_ok Tryz.keep152 (by kernel_rfl) ?_
    | refine SPB.reg hG Tryz.TT_ok Tryz.keep152 (by kernel_rfl) ?_
    | refine SPB.skip hG Tryz.TT_ok ?_
    | refine SPB.label hG Tryz.TT_ok ?_
    | refine SPB.ret hG Tryz.TT_ok ?_
    | refine SPB.exit hG Tryz.TT_ok ?_
    | refine SPB.condT rfl ?_
    | refine SPB.condF rfl ?_
    | refine SPB.cond rfl (And.intro (fun h => ?_) (fun h => ?_))
    | (conv => whnf
       first
         | refine And.intro (fun h => Bool.noConfusion (h : false = true)) (fun _ => ?_)
         | refine And.intro (fun _ => ?_) (fun h => Bool.noConfusion (h : true = false))
         | refine And.intro (by kernel_rfl) ?_
         | refine Exists.intro _ (And.intro (Tryz.c70 _ _ h0) ?_)
         | refine And.intro h0 ?_
         | refine And.intro (fun h => ?_) (fun h => ?_)
         | refine Or.inl ?_
         | fail)
  all_goals exact Ends.mk (Or.inl rfl) (AV.weak.of_eq rfl)
theorem Tryz.c50 (o : Nat → Int) (t : Int) : ACalls Tryz.prog 151 [.agg (movA o t)] (.int .i64 (colW o t)) := by
  refine ACalls.ofB Tryz.TT_ok Tryz.func151 rfl (by kernel_rfl) Tryz.mixed (Nat.le_of_ble_eq_true rfl) ?_
  intro F n' w0 m0 hG hro h1
  repeat' first
    | refine SPB.seq ?_
    | refine SPB.block ?_
    | refine SPB.draw hG Tryz.TT_ok Tryz.keep151 (by kernel_rfl) ?_
    | refine SPB.reg hG Tryz.TT_ok Tryz.keep151 (by kernel_rfl) ?_
    | refine SPB.skip hG Tryz.TT_ok ?_
    | refine SPB.label hG Tryz.TT_ok ?_
    | refine SPB.ret hG Tryz.TT_ok ?_
    | refine SPB.exit hG Tryz.TT_ok ?_
    | refine SPB.condT rfl ?_
    | refine SPB.condF rfl ?_
    | refine SPB.cond rfl (And.intro (fun h => ?_) (fun h => ?_))
    | (conv => whnf
       first
         | refine And.intro (fun h => Bool.noConfusion (h : false = true)) (fun _ => ?_)
         | refine And.intro (fun _ => ?_) (fun h => Bool.noConfusion (h : true = false))
         | refine And.intro (by kernel_rfl) ?_
         | refine Exists.intro _ (And.intro (Tryz.c70 _ _ (by decide)) ?_)
         | refine And.intro (fun h => ?_) (fun h => ?_)
         | refine Or.inl ?_
         | fail)
  all_goals exact Ends.mk (Or.inl rfl) (AV.weak.of_eq rfl)
theorem Tryz.c51 (o : Nat → Int) (t : Int) (h0 : o 0 ≠ 0) : ACalls Tryz.prog 105 [.agg (movA o t)] (.agg (cellA (celW o t))) := by
  refine ACalls.ofB Tryz.TT_ok Tryz.func105 rfl (by kernel_rfl) Tryz.mixed (Nat.le_of_ble_eq_true rfl) ?_
  intro F n' w0 m0 hG hro h1
  repeat' first
    | refine SPB.seq ?_
    | refine SPB.block ?_
    | refine SPB.draw hG Tryz.TT_ok Tryz.keep105 (by kernel_rfl) ?_
    | refine SPB.reg hG Tryz.TT_ok Tryz.keep105 (by kernel_rfl) ?_
    | refine SPB.skip hG Tryz.TT_ok ?_
    | refine SPB.label hG Tryz.TT_ok ?_
    | refine SPB.ret hG Tryz.TT_ok ?_
    | refine SPB.exit hG Tryz.TT_ok ?_
    | refine SPB.condT rfl ?_
    | refine SPB.condF rfl ?_
    | refine SPB.cond rfl (And.intro (fun h => ?_) (fun h => ?_))
    | (conv => whnf
       first
         | refine And.intro (fun h => Bool.noConfusion (h : false = true)) (fun _ => ?_)
         | refine And.intro (fun _ => ?_) (fun h => Bool.noConfusion (h : true = false))
         | refine And.intro (by kernel_rfl) ?_
         | refine Exists.intro _ (And.intro (Tryz.c50 o t) ?_)
         | refine Exists.intro _ (And.intro (Tryz.c47 o t h0) ?_)
         | refine And.intro (by decide) ?_
         | refine And.intro (fun h => ?_) (fun h => ?_)
         | refine Or.inl ?_
         | fail)
  all_goals exact Ends.mk (Or.inl rfl) (AV.weak.of_eq rfl)
theorem orb0 {o : Nat → Int} {t late : Int} (h : atS o t late = true) : o 0 ≠ 0 := by
  simp only [atS, orbS, inS, Bool.and_eq_true, decide_eq_true_eq] at h; omega

theorem Tryz.c24 (o : Nat → Int) (t late : Int) (h : atS o t late = true) : ACalls Tryz.prog 50 [.agg (orbA o), .int .i64 t, .int .i64 late] (.tup [.agg (cellA (celW o (w64 (t - late)))), .int .i64 0]) := by
  have h46 := Tryz.c46 o t late
  rw [h] at h46
  refine ACalls.ofB Tryz.TT_ok Tryz.func50 rfl (by kernel_rfl) Tryz.mixed (Nat.le_of_ble_eq_true rfl) ?_
  intro F n' w0 m0 hG hro h1
  repeat' first
    | refine SPB.seq ?_
    | refine SPB.block ?_
    | refine SPB.draw hG Tryz.TT_ok Tryz.keep50 (by kernel_rfl) ?_
    | refine SPB.reg hG Tryz.TT_ok Tryz.keep50 (by kernel_rfl) ?_
    | refine SPB.skip hG Tryz.TT_ok ?_
    | refine SPB.label hG Tryz.TT_ok ?_
    | refine SPB.ret hG Tryz.TT_ok ?_
    | refine SPB.exit hG Tryz.TT_ok ?_
    | refine SPB.condT rfl ?_
    | refine SPB.condF rfl ?_
    | refine SPB.cond rfl (And.intro (fun h => ?_) (fun h => ?_))
    | (conv => whnf
       first
         | refine And.intro (fun h => Bool.noConfusion (h : false = true)) (fun _ => ?_)
         | refine And.intro (fun _ => ?_) (fun h => Bool.noConfusion (h : true = false))
         | refine And.intro (by kernel_rfl) ?_
         | refine Exists.intro _ (And.intro (h46) ?_)
         | refine Exists.intro _ (And.intro (Tryz.c51 o (w64 (t - late)) (orb0 h)) ?_)
         | refine And.intro (fun h => ?_) (fun h => ?_)
         | refine Or.inl ?_
         | fail)
  all_goals exact Ends.mk (Or.inl rfl) (AV.weak.of_eq rfl)
theorem Tryz.b24 (o : Nat → Int) (t late : Int) (h : atS o t late = false) : ACalls Tryz.prog 50 [.agg (orbA o), .int .i64 t, .int .i64 late] (.tup [.agg [.int .i64 0, .int .i64 0], .int .i64 70]) := by
  have h46 := Tryz.c46 o t late
  rw [h] at h46
  refine ACalls.ofB Tryz.TT_ok Tryz.func50 rfl (by kernel_rfl) Tryz.mixed (Nat.le_of_ble_eq_true rfl) ?_
  intro F n' w0 m0 hG hro h1
  repeat' first
    | refine SPB.seq ?_
    | refine SPB.block ?_
    | refine SPB.draw hG Tryz.TT_ok Tryz.keep50 (by kernel_rfl) ?_
    | refine SPB.reg hG Tryz.TT_ok Tryz.keep50 (by kernel_rfl) ?_
    | refine SPB.skip hG Tryz.TT_ok ?_
    | refine SPB.label hG Tryz.TT_ok ?_
    | refine SPB.ret hG Tryz.TT_ok ?_
    | refine SPB.exit hG Tryz.TT_ok ?_
    | refine SPB.condT rfl ?_
    | refine SPB.condF rfl ?_
    | refine SPB.cond rfl (And.intro (fun h => ?_) (fun h => ?_))
    | (conv => whnf
       first
         | refine And.intro (fun h => Bool.noConfusion (h : false = true)) (fun _ => ?_)
         | refine And.intro (fun _ => ?_) (fun h => Bool.noConfusion (h : true = false))
         | refine And.intro (by kernel_rfl) ?_
         | refine Exists.intro _ (And.intro (h46) ?_)
         | refine And.intro (fun h => ?_) (fun h => ?_)
         | refine Or.inl ?_
         | fail)
  all_goals exact Ends.mk (Or.inl rfl) (AV.weak.of_eq rfl)
end Go.Proofs



namespace Go.Proofs
open Go Go.AI
set_option maxRecDepth 10000
set_option linter.unusedSimpArgs false

theorem Tryz.c52 (o : Nat → Int) (t : Int) : ACalls Tryz.prog 164 [.agg (orbA o), .int .i64 t] (.clo 196 [.ref (orbA o), .ref [.int .i64 t]]) := by
  refine ACalls.ofB Tryz.TT_ok Tryz.func164 rfl (by kernel_rfl) Tryz.mixed (Nat.le_of_ble_eq_true rfl) ?_
  intro F n' w0 m0 hG hro h1
  repeat' first
    | refine SPB.seq ?_
    | refine SPB.block ?_
    | refine SPB.draw hG Tryz.TT_ok Tryz.keep164 (by kernel_rfl) ?_
    | refine SPB.reg hG Tryz.TT_ok Tryz.keep164 (by kernel_rfl) ?_
    | refine SPB.skip hG Tryz.TT_ok ?_
    | refine SPB.label hG Tryz.TT_ok ?_
    | refine SPB.ret hG Tryz.TT_ok ?_
    | refine SPB.exit hG Tryz.TT_ok ?_
    | refine SPB.condT rfl ?_
    | refine SPB.condF rfl ?_
    | refine SPB.cond rfl (And.intro (fun h => ?_) (fun h => ?_))
    | (conv => whnf
       first
         | refine And.intro (fun h => Bool.noConfusion (h : false = true)) (fun _ => ?_)
         | refine And.intro (fun _ => ?_) (fun h => Bool.noConfusion (h : true = false))
         | refine And.intro (by kernel_rfl) ?_
         | refine And.intro (fun h => ?_) (fun h => ?_)
         | refine Or.inl ?_
         | fail)
  all_goals exact Ends.mk (Or.inl rfl) (AV.weak.of_eq rfl)
def movV (o : Nat → Int) (x : Int) : Array Value := #[.agg #[.int .i64 (o 0), .int .i64 (o 1), .int .i64 (o 2), .int .i64 (o 3), .int .i64 (o 4), .int .i64 (o 5), .int .i64 (o 6), .int .i64 x]]
def delL (o : Nat → Int) (t : Int) : List Int := (List.range (2 * o 6 + 1).toNat).map fun (i : Nat) => w64 (t - ((i : Int) - o 6))
theorem Tryz.s71 (o : Nat → Int) (t : Int) (h0 : 0 ≤ o 6) (h1 : o 6 ≤ 10) : ASeq Tryz.prog (movV o) 196 [.ref (orbA o), .ref [.int .i64 t]] (delL o t) := by
  refine ASeq.of Tryz.TT_ok Tryz.keep196 Tryz.func196 rfl (by kernel_rfl) Tryz.mixed (by kernel_rfl) (Nat.le_of_ble_eq_true rfl) rfl (fun l => by kernel_rfl) ?_
  intro F n m y J Jx hY
  refine YP.loop (X := Nat) (fun i => ((false, i), ⟨(4, .int .i64 ((i : Int) - o 6)) :: params 0 (.lit (.func (.yield y) #[] #[]) :: [.ref (orbA o), .ref [.int .i64 t]]), []⟩)) (fun i => i ≤ (2 * o 6 + 1).toNat) (fun i => (2 * o 6 + 1).toNat - i) 0 (Nat.zero_le _) rfl
    (St.le.of ?_ ?_) (fun i hi => ?_)
  · refine And.intro (congrArg (fun z => some (AV.int .i64 z)) ((w64_in (by omega) (by omega)).trans (by omega))) ?_
    repeat' (first | exact trivial | refine And.intro rfl ?_)
  · exact trivial
  · refine awpY_sound (keep := Tryz.keep196) hY Tryz.TT_ok _ _ _ _ (by kernel_rfl) (by kernel_rfl) ?_
    refine And.intro (fun h => ?_) (fun h => ?_)
    · have hib : i < (2 * o 6 + 1).toNat := by have := of_decide_eq_true h; omega
      refine And.intro rfl (Exists.intro (w64 (t - ((i : Int) - o 6))) (And.intro ?_ (And.intro rfl (And.intro ?_ ?_))))
      · simp [delL, List.getElem?_map, List.getElem?_range hib]
      · refine And.intro (fun h => Bool.noConfusion (h : false = true)) (fun _ => ?_)
        refine Exists.intro (i + 1) (And.intro hib (And.intro (by omega) (And.intro rfl (St.le.of ?_ trivial))))
        refine And.intro (congrArg (fun z => some (AV.int .i64 z)) ((w64_in (by omega) (by omega)).trans (by omega))) ?_
        repeat' (first | exact trivial | refine And.intro rfl ?_)
      · refine And.intro (fun _ => ?_) (fun h => Bool.noConfusion (h : true = false))
        exact EndsY.mk (Or.inl rfl) (Or.inr rfl)
    · refine EndsY.mk (Or.inr rfl) (Or.inl ?_)
      simp [delL]
      have := of_decide_eq_false h
      omega
theorem Tryz.c57 (rows : List (List AV)) : ACalls Tryz.prog 167 [.mapv rows] (.clo 199 [.ref [.mapv rows]]) := by
  refine ACalls.ofB Tryz.TT_ok Tryz.func167 rfl (by kernel_rfl) Tryz.mixed (Nat.le_of_ble_eq_true rfl) ?_
  intro F n' w0 m0 hG hro h1
  repeat' first
    | refine SPB.seq ?_
    | refine SPB.block ?_
    | refine SPB.draw hG Tryz.TT_ok Tryz.keep167 (by kernel_rfl) ?_
    | refine SPB.reg hG Tryz.TT_ok Tryz.keep167 (by kernel_rfl) ?_
    | refine SPB.skip hG Tryz.TT_ok ?_
    | refine SPB.label hG Tryz.TT_ok ?_
    | refine SPB.ret hG Tryz.TT_ok ?_
    | refine SPB.exit hG Tryz.TT_ok ?_
    | refine SPB.condT rfl ?_
    | refine SPB.condF rfl ?_
    | refine SPB.cond rfl (And.intro (fun h => ?_) (fun h => ?_))
    | (conv => whnf
       first
         | refine And.intro (fun h => Bool.noConfusion (h : false = true)) (fun _ => ?_)
         | refine And.intro (fun _ => ?_) (fun h => Bool.noConfusion (h : true = false))
         | refine And.intro (by kernel_rfl) ?_
         | refine And.intro (fun h => ?_) (fun h => ?_)
         | refine Or.inl ?_
         | fail)
  all_goals exact Ends.mk (Or.inl rfl) (AV.weak.of_eq rfl)
end Go.Proofs



namespace Go.Proofs
open Go Go.AI
set_option maxRecDepth 10000
set_option linter.unusedSimpArgs false

def insC (l : List (Int × Int)) (x : Int × Int) : List (Int × Int) := if x ∈ l then l else l ++ [x]
/-- The cells of a row of minutes, each once. -/
def keysOf (o : Nat → Int) (pre : List Int) : List (Int × Int) := pre.foldl (fun l x => insC l (celW o x)) []
theorem keysOf_snoc (o : Nat → Int) (pre : List Int) (x : Int) : keysOf o (pre ++ [x]) = insC (keysOf o pre) (celW o x) := by simp [keysOf, List.foldl_append]
theorem c2_inj {x y : Int × Int} (h : c2 x = c2 y) : x = y := by
  simp only [c2, List.cons.injEq, and_true] at h
  exact Prod.ext h.1 h.2
theorem updK_cells (x : Int × Int) : ∀ l : List (Int × Int), updK (c2 x) (.bool true) (cellsK l) = cellsK (insC l x)
  | [] => rfl
  | y :: r => by
    have ih := updK_cells x r
    show updK (c2 x) (.bool true) ((c2 y, .bool true) :: cellsK r) = _
    rw [updK]
    by_cases h : c2 y = c2 x
    · rw [if_pos h]
      have := c2_inj h
      subst this
      rw [insC, if_pos List.mem_cons_self]; rfl
    · rw [if_neg h, ih]
      have hne : x ≠ y := fun e => h (by rw [e])
      unfold insC
      by_cases hx : x ∈ r
      · rw [if_pos hx, if_pos (List.mem_cons_of_mem _ hx)]; rfl
      · rw [if_neg hx, if_neg (by simp [hne, hx])]; rfl
theorem keysOf_len (o : Nat → Int) (pre : List Int) : (keysOf o pre).length ≤ pre.length := by
  suffices h : ∀ (l : List (Int × Int)), (pre.foldl (fun l x => insC l (celW o x)) l).length ≤ l.length + pre.length by simpa [keysOf] using h []
  induction pre with
  | nil => intro l; simp
  | cons x r ih =>
    intro l
    have := ih (insC l (celW o x))
    have h2 : (insC l (celW o x)).length ≤ l.length + 1 := by unfold insC; split <;> simp
    simp only [List.foldl_cons, List.length_cons]
    omega
theorem insC_ne (l : List (Int × Int)) (x : Int × Int) : insC l x ≠ [] := by
  unfold insC
  split
  · rename_i h; intro e; rw [e] at h; cases h
  · simp
theorem delL_len (o : Nat → Int) (t : Int) : (delL o t).length = (2 * o 6 + 1).toNat := by simp [delL]
theorem keysOf_ne (o : Nat → Int) (t : Int) (h0 : 0 ≤ o 6) : keysOf o (delL o t) ≠ [] := by
  have hl : (delL o t).length ≠ 0 := by rw [delL_len]; omega
  rcases List.eq_nil_or_concat (delL o t) with h | ⟨l, x, h⟩
  · rw [h] at hl; exact absurd rfl hl
  · rw [h, List.concat_eq_append, keysOf_snoc]; exact insC_ne _ _
theorem mov_rd (o : Nat → Int) (m : Mem) (x : Int) (i : Nat) (c : AV) (v : Value) (h1 : [AV.agg (movA o x)][i]? = some c) (h2 : (movV o x)[i]? = some v) : RD m c v := by
  match i, h1, h2 with
  | 0, h1, h2 => cases h1; cases h2; exact RD.ints m [o 0, o 1, o 2, o 3, o 4, o 5, o 6, x]
def couldL (o : Nat → Int) (t : Int) : List (Int × Int) := ordC (keysOf o (delL o t))
set_option maxHeartbeats 4000000 in
theorem Tryz.c26 (o : Nat → Int) (t : Int) (h : atS o t 0 = true) : ACalls Tryz.prog 118 [.agg (orbA o), .int .i64 t] (.tup [cellsA (couldL o t), .int .i64 0]) := by
  have h46 := Tryz.c46 o t 0
  rw [h] at h46
  have h00 := orb0 h
  have h6 : 0 ≤ o 6 ∧ o 6 ≤ 10 := by simp only [atS, orbS, inS, Bool.and_eq_true, decide_eq_true_eq] at h; omega
  refine ACalls.ofB Tryz.TT_ok Tryz.func118 rfl (by kernel_rfl) Tryz.mixed (Nat.le_of_ble_eq_true rfl) ?_
  intro F n' w0 m0 hG hro h1
  repeat' first
    | refine SPB.seq ?_
    | refine SPB.block ?_
    | refine SPB.draw hG Tryz.TT_ok Tryz.keep118 (by kernel_rfl) ?_
    | refine SPB.reg hG Tryz.TT_ok Tryz.keep118 (by kernel_rfl) ?_
    | refine SPB.skip hG Tryz.TT_ok ?_
    | refine SPB.label hG Tryz.TT_ok ?_
    | refine SPB.ret hG Tryz.TT_ok ?_
    | refine SPB.exit hG Tryz.TT_ok ?_
    | refine SPB.condT rfl ?_
    | refine SPB.condF rfl ?_
    | refine SPB.cond rfl (And.intro (fun h => ?_) (fun h => ?_))
    | (conv => whnf
       first
         | refine And.intro (fun h => Bool.noConfusion (h : false = true)) (fun _ => ?_)
         | refine And.intro (fun _ => ?_) (fun h => Bool.noConfusion (h : true = false))
         | refine And.intro (by kernel_rfl) ?_
         | refine Exists.intro _ (And.intro (h46) ?_)
         | refine Exists.intro _ (And.intro (Tryz.c52 o t) ?_)
         | refine fun b => ?_
         | refine And.intro (fun h => ?_) (fun h => ?_)
         | refine Or.inl ?_
         | fail)
  refine ⟨SP.rangeN hG hro h1 (α := Int) (fun x => [.agg (movA o x)]) (movV o) (f := 196) (cap := [.ref (orbA o), .ref [.int .i64 t]]) (nx := fun p x => ∃ r, delL o t = p ++ x :: r) (fin := fun p => p = delL o t) rfl (Tryz.s71 o t h6.1 h6.2) (fun _ => rfl) (fun _ => rfl) (mov_rd o)
    (fun pre => [(8, .loc 8 0), (xk 19, .me .ents 19 b (rowsK (cellsK (keysOf o pre))))]) [8, xk 19] (fun _ => rfl) (fun _ => [(8, [.lit (.map (some b))])]) (St.le.of ?_ ?_) (by kernel_rfl) (by decide) ?_ ?_⟩
  · repeat' (first | exact trivial | refine And.intro rfl ?_)
  · repeat' (first | exact trivial | refine And.intro rfl ?_)
  · intro F' n'' m' hG pre x hx
    have hlen : ∀ p ∈ cellsK (keysOf o pre), p.1.length = 2 := fun p hp => by
      obtain ⟨q, _, rfl⟩ := List.mem_map.1 hp; rfl
    refine SPB.out (SPB.reg hG Tryz.TT_ok Tryz.keep118 (by kernel_rfl) ?_)
    conv => whnf
    refine And.intro rfl (And.intro (St.le.of ?_ ?_) ?_)
    · repeat' (first | exact trivial | refine And.intro rfl ?_)
    · repeat' (first | exact trivial | refine And.intro rfl ?_)
    · refine SPB.out ?_
      repeat' first
        | refine SPB.seq ?_
        | refine SPB.block ?_
        | refine SPB.draw hG Tryz.TT_ok Tryz.keep118 (by kernel_rfl) ?_
        | refine SPB.reg hG Tryz.TT_ok Tryz.keep118 (by kernel_rfl) ?_
        | refine SPB.skip hG Tryz.TT_ok ?_
        | refine SPB.label hG Tryz.TT_ok ?_
        | refine SPB.ret hG Tryz.TT_ok ?_
        | refine SPB.exit hG Tryz.TT_ok ?_
        | refine SPB.condT rfl ?_
        | refine SPB.condF rfl ?_
        | refine SPB.cond rfl (And.intro (fun h => ?_) (fun h => ?_))
        | (conv => whnf
           first
             | refine And.intro (fun h => Bool.noConfusion (h : false = true)) (fun _ => ?_)
             | refine And.intro (fun _ => ?_) (fun h => Bool.noConfusion (h : true = false))
             | refine And.intro (by kernel_rfl) ?_
             | refine Exists.intro _ (And.intro (Tryz.c51 o x h00) ?_)
             | refine Exists.intro 19 (Exists.intro (cellsK (keysOf o pre)) (Exists.intro (c2 (celW o x)) (And.intro (And.intro rfl (And.intro rfl (And.intro rfl hlen))) ?_)))
             | refine And.intro (fun h => ?_) (fun h => ?_)
             | refine Or.inl ?_
             | fail)
      refine St.le.of ?_ ?_
      · refine And.intro rfl (And.intro (congrArg (fun z => some (AV.me .ents 19 b (rowsK z))) ?_) trivial)
        rw [keysOf_snoc]
        exact updK_cells _ _
      · repeat' (first | exact trivial | refine And.intro rfl ?_)
  · intro p hp
    subst hp
    conv => whnf
    refine SPB.frzMap 19 8 (b := b) (rows := rowsK (cellsK (keysOf o (delL o t)))) rfl rfl ?_
    repeat' first
      | refine SPB.seq ?_
      | refine SPB.block ?_
      | refine SPB.draw hG Tryz.TT_ok Tryz.keep118 (by kernel_rfl) ?_
      | refine SPB.reg hG Tryz.TT_ok Tryz.keep118 (by kernel_rfl) ?_
      | refine SPB.skip hG Tryz.TT_ok ?_
      | refine SPB.label hG Tryz.TT_ok ?_
      | refine SPB.ret hG Tryz.TT_ok ?_
      | refine SPB.exit hG Tryz.TT_ok ?_
      | refine SPB.condT rfl ?_
      | refine SPB.condF rfl ?_
      | refine SPB.cond rfl (And.intro (fun h => ?_) (fun h => ?_))
      | (conv => whnf
         first
           | refine And.intro (fun h => Bool.noConfusion (h : false = true)) (fun _ => ?_)
           | refine And.intro (fun _ => ?_) (fun h => Bool.noConfusion (h : true = false))
           | refine And.intro (by kernel_rfl) ?_
           | refine Exists.intro _ (And.intro (Tryz.c57 _) ?_)
           | refine Exists.intro _ (And.intro (Tryz.c56 (keysOf o (delL o t)) (keysOf_ne o t h6.1) (Nat.le_trans (keysOf_len _ _) (by rw [delL_len]; omega))) ?_)
           | refine And.intro (fun h => ?_) (fun h => ?_)
           | refine Or.inl ?_
           | fail)
    exact Ends.mk (Or.inl rfl) (AV.weak.of_eq rfl)
end Go.Proofs



namespace Go.Proofs
open Go Go.AI
set_option maxRecDepth 10000
set_option linter.unusedSimpArgs false

def pickS (c n : Int) : Int := if c < 0 then (w64 (0 - w64 (c + 1))).tmod n else c.tmod n

theorem Tryz.c43 (c n : Int) (hn : n ≠ 0) : ACalls Tryz.prog 158 [.int .i64 c, .int .i64 n] (.int .i64 (pickS c n)) := by
  refine ACalls.ofB Tryz.TT_ok Tryz.func158 rfl (by kernel_rfl) Tryz.mixed (Nat.le_of_ble_eq_true rfl) ?_
  intro F n' w0 m0 hG hro h1
  repeat' first
    | refine SPB.seq ?_
    | refine SPB.block ?_
    | refine SPB.draw hG Tryz.TT_ok Tryz.keep158 (by kernel_rfl) ?_
    | refine SPB.reg hG Tryz.TT_ok Tryz.keep158 (by kernel_rfl) ?_
    | refine SPB.skip hG Tryz.TT_ok ?_
    | refine SPB.label hG Tryz.TT_ok ?_
    | refine SPB.ret hG Tryz.TT_ok ?_
    | refine SPB.exit hG Tryz.TT_ok ?_
    | refine SPB.condT rfl ?_
    | refine SPB.condF rfl ?_
    | refine SPB.cond rfl (And.intro (fun h => ?_) (fun h => ?_))
    | (conv => whnf
       first
         | refine And.intro (fun h => Bool.noConfusion (h : false = true)) (fun _ => ?_)
         | refine And.intro (fun _ => ?_) (fun h => Bool.noConfusion (h : true = false))
         | refine And.intro (by kernel_rfl) ?_
         | refine And.intro hn ?_
         | refine And.intro (fun h => ?_) (fun h => ?_)
         | refine Or.inl ?_
         | fail)
  all_goals refine Ends.mk (Or.inl rfl) (AV.weak.of_eq (congrArg (AV.int .i64) ?_))
  all_goals (simp_all [pickS, w64] <;> omega)
def arL (n c : Int) : Int := if n.tmod c < 0 then w64 (n.tmod c + c) else n.tmod c
theorem Tryz.b26 (o : Nat → Int) (t : Int) (h : atS o t 0 = false) : ACalls Tryz.prog 118 [.agg (orbA o), .int .i64 t] (.tup [.sl .no 2 [], .int .i64 70]) := by
  have h46 := Tryz.c46 o t 0
  rw [h] at h46
  refine ACalls.ofB Tryz.TT_ok Tryz.func118 rfl (by kernel_rfl) Tryz.mixed (Nat.le_of_ble_eq_true rfl) ?_
  intro F n' w0 m0 hG hro h1
  repeat' first
    | refine SPB.seq ?_
    | refine SPB.block ?_
    | refine SPB.draw hG Tryz.TT_ok Tryz.keep118 (by kernel_rfl) ?_
    | refine SPB.reg hG Tryz.TT_ok Tryz.keep118 (by kernel_rfl) ?_
    | refine SPB.skip hG Tryz.TT_ok ?_
    | refine SPB.label hG Tryz.TT_ok ?_
    | refine SPB.ret hG Tryz.TT_ok ?_
    | refine SPB.exit hG Tryz.TT_ok ?_
    | refine SPB.condT rfl ?_
    | refine SPB.condF rfl ?_
    | refine SPB.cond rfl (And.intro (fun h => ?_) (fun h => ?_))
    | (conv => whnf
       first
         | refine And.intro (fun h => Bool.noConfusion (h : false = true)) (fun _ => ?_)
         | refine And.intro (fun _ => ?_) (fun h => Bool.noConfusion (h : true = false))
         | refine And.intro (by kernel_rfl) ?_
         | refine Exists.intro _ (And.intro (h46) ?_)
         | refine And.intro (fun h => ?_) (fun h => ?_)
         | refine Or.inl ?_
         | fail)
  all_goals exact Ends.mk (Or.inl rfl) (AV.weak.of_eq rfl)
/-- The cell in which a satellite must be. -/
def mustS (o : Nat → Int) (t : Int) : (Int × Int) × Bool := match couldL o t with
  | [x] => (x, true)
  | _ => ((0, 0), false)
theorem cells_get (l : List (Int × Int)) (i : Nat) (x : Int × Int) (h : l[i]? = some x) : (l.map cellA)[i]? = some [.int .i64 x.1, .int .i64 x.2] := by rw [List.getElem?_map, h]; rfl
/-- The cells of a spell. -/
def trackL (o : Nat → Int) (t : Int) (n : Nat) : List (Int × Int) := (List.range n).map fun (i : Nat) => celW o (t + i)
theorem trackL_snoc (o : Nat → Int) (t : Int) (n : Nat) : trackL o t (n + 1) = trackL o t n ++ [celW o (t + n)] := by simp [trackL, List.range_succ]
def rowT (o : Nat → Int) (t : Int) (n : Nat) : AV := match n with
  | 0 => .sl (.id 10) 2 []
  | n + 1 => .sl (.id 10) 2 ((trackL o t (n + 1)).map cellA)
def madeO (x : Nat → Int) : Nat → Int
  | 0 => w64 (2 * w64 (10 + pickS (x 0) 90))
  | 1 => pickS (x 1) (w64 (2 * w64 (10 + pickS (x 0) 90)))
  | 2 => pickS (x 2) 10000
  | 3 => w64 (w64 (pickS (x 2) 10000 + 4000) + pickS (x 3) 10000)
  | 4 => pickS (x 4) 48000
  | 5 => w64 (pickS (x 5) 1601 - 800)
  | _ => pickS (x 6) 4
theorem Tryz.c16 (x : Nat → Int) (h0 : w64 (2 * w64 (10 + pickS (x 0) 90)) ≠ 0) : ACalls Tryz.prog 108 [.agg (orbA x)] (.agg (orbA (madeO x))) := by
  refine ACalls.ofB Tryz.TT_ok Tryz.func108 rfl (by kernel_rfl) Tryz.mixed (Nat.le_of_ble_eq_true rfl) ?_
  intro F n' w0 m0 hG hro h1
  repeat' first
    | refine SPB.seq ?_
    | refine SPB.block ?_
    | refine SPB.draw hG Tryz.TT_ok Tryz.keep108 (by kernel_rfl) ?_
    | refine SPB.reg hG Tryz.TT_ok Tryz.keep108 (by kernel_rfl) ?_
    | refine SPB.skip hG Tryz.TT_ok ?_
    | refine SPB.label hG Tryz.TT_ok ?_
    | refine SPB.ret hG Tryz.TT_ok ?_
    | refine SPB.exit hG Tryz.TT_ok ?_
    | refine SPB.condT rfl ?_
    | refine SPB.condF rfl ?_
    | refine SPB.cond rfl (And.intro (fun h => ?_) (fun h => ?_))
    | (conv => whnf
       first
         | refine And.intro (fun h => Bool.noConfusion (h : false = true)) (fun _ => ?_)
         | refine And.intro (fun _ => ?_) (fun h => Bool.noConfusion (h : true = false))
         | refine And.intro (by kernel_rfl) ?_
         | refine Exists.intro _ (And.intro (Tryz.c43 _ _ h0) ?_)
         | refine Exists.intro _ (And.intro (Tryz.c43 _ _ (by decide)) ?_)
         | refine And.intro (Int.le_of_sub_nonneg (by decide)) ?_
         | refine And.intro (fun h => ?_) (fun h => ?_)
         | refine Or.inl ?_
         | fail)
  all_goals exact Ends.mk (Or.inl rfl) (AV.weak.of_eq rfl)
end Go.Proofs



namespace Go.Proofs
open Go Go.AI
set_option maxRecDepth 10000
def inI (z : Int) : Prop := -9223372036854775808 ≤ z ∧ z ≤ 9223372036854775807
theorem pick_rng {c n : Int} (hc : inI c) (hn : 0 < n) : 0 ≤ pickS c n ∧ pickS c n < n := by
  obtain ⟨h1, h2⟩ := hc
  unfold pickS
  split
  · rename_i h
    rw [w64_in (n := c + 1) (by omega) (by omega), w64_in (by omega) (by omega)]
    exact ⟨Int.tmod_nonneg _ (by omega), Int.tmod_lt_of_pos _ hn⟩
  · exact ⟨Int.tmod_nonneg _ (by omega), Int.tmod_lt_of_pos _ hn⟩
/-- A valid orbit. -/
structure PV (o : Nat → Int) : Prop where
  p1 : 20 ≤ o 0
  p2 : o 0 ≤ 2000
  ev : o 0 % 2 = 0
  h1 : 0 ≤ o 1
  h2 : o 1 ≤ o 0 - 1
  l1 : 0 ≤ o 2
  l2 : o 2 < o 3
  l3 : o 3 ≤ 23999
  n1 : 0 ≤ o 4
  n2 : o 4 ≤ 47999
  t1 : -2000 ≤ o 5
  t2 : o 5 ≤ 2000
  s1 : 0 ≤ o 6
  s2 : o 6 ≤ 10
theorem orbS_iff (o : Nat → Int) : orbS o = true ↔ PV o := by
  have hm : (o 0).tmod 2 = 0 ↔ o 0 % 2 = 0 := by
    rw [← Int.dvd_iff_emod_eq_zero, ← Int.dvd_iff_tmod_eq_zero]
  simp only [orbS, inS, Bool.and_eq_true, decide_eq_true_eq, hm]
  constructor
  · rintro ⟨⟨⟨⟨⟨⟨h1, h2⟩, h3⟩, h4⟩, h5⟩, h6⟩, h7⟩
    rw [w64_in (by omega) (by omega)] at h3
    exact ⟨by omega, by omega, by omega, by omega, by omega, by omega, by omega, by omega, by omega, by omega, by omega, by omega, by omega, by omega⟩
  · rintro ⟨a, b, c, d, e, f, g, h, i, j, k, l, m, n⟩
    rw [w64_in (by omega) (by omega)]
    omega
/-- The orbit that integers determine is a valid one. -/
theorem made_pv {x : Nat → Int} (h : ∀ i, inI (x i)) : PV (madeO x) ∧ (madeO x 0 ≤ 198 ∧ madeO x 3 ≥ madeO x 2 + 4000 ∧ madeO x 6 ≤ 3 ∧ -800 ≤ madeO x 5 ∧ madeO x 5 ≤ 800) := by
  have a0 := pick_rng (h 0) (n := 90) (by omega)
  have a2 := pick_rng (h 2) (n := 10000) (by omega)
  have a3 := pick_rng (h 3) (n := 10000) (by omega)
  have a4 := pick_rng (h 4) (n := 48000) (by omega)
  have a5 := pick_rng (h 5) (n := 1601) (by omega)
  have a6 := pick_rng (h 6) (n := 4) (by omega)
  have e0 : madeO x 0 = 2 * (10 + pickS (x 0) 90) := by
    rw [show madeO x 0 = w64 (2 * w64 (10 + pickS (x 0) 90)) from rfl]
    rw [w64_in (n := 10 + pickS (x 0) 90) (by omega) (by omega), w64_in (by omega) (by omega)]
  have a1 := pick_rng (h 1) (n := madeO x 0) (by omega)
  have e1 : madeO x 1 = pickS (x 1) (madeO x 0) := rfl
  have e2 : madeO x 2 = pickS (x 2) 10000 := rfl
  have e3 : madeO x 3 = pickS (x 2) 10000 + 4000 + pickS (x 3) 10000 := by
    show w64 (w64 (pickS (x 2) 10000 + 4000) + pickS (x 3) 10000) = _
    rw [w64_in (n := pickS (x 2) 10000 + 4000) (by omega) (by omega), w64_in (by omega) (by omega)]
  have e4 : madeO x 4 = pickS (x 4) 48000 := rfl
  have e5 : madeO x 5 = pickS (x 5) 1601 - 800 := w64_in (by omega) (by omega)
  have e6 : madeO x 6 = pickS (x 6) 4 := rfl
  refine ⟨⟨by omega, by omega, by omega, by omega, by omega, by omega, by omega, by omega, by omega, by omega, by omega, by omega, by omega, by omega⟩, by omega, by omega, by omega, by omega, by omega⟩
theorem made_ne {x : Nat → Int} (h : ∀ i, inI (x i)) : w64 (2 * w64 (10 + pickS (x 0) 90)) ≠ 0 := by
  have := (made_pv h).1.p1
  intro e
  have e2 : madeO x 0 = w64 (2 * w64 (10 + pickS (x 0) 90)) := rfl
  rw [e2, e] at this
  omega
theorem atS_ok {o : Nat → Int} (h : PV o) {t late : Int} (h1 : 0 ≤ t) (h2 : t ≤ 1000000) (h3 : -10 ≤ late) (h4 : late ≤ 10) : atS o t late = true := by
  simp only [atS, inS, Bool.and_eq_true, decide_eq_true_eq, (orbS_iff o).2 h, and_true]
  omega
theorem Fa.cons_inv {α β : Type} {R : α → β → Prop} {a : α} {l : List α} {r : List β} (h : Fa R (a :: l) r) : ∃ b q, r = b :: q ∧ R a b ∧ Fa R l q := by
  cases r with
  | nil => exact h.elim
  | cons b q => exact ⟨b, q, rfl, h.1, h.2⟩
theorem Fa.nil_inv {α β : Type} {R : α → β → Prop} {r : List β} (h : Fa R ([] : List α) r) : r = [] := by
  cases r with
  | nil => rfl
  | cons b q => exact h.elim
theorem i64_min : IntKind.i64.min = -9223372036854775808 := by decide
theorem i64_max : IntKind.i64.max = 9223372036854775807 := by decide
theorem int_inv {n : Nat} {a : AV} (h : ShOK (n + 1) (.int .i64) a) : ∃ z, a = .int .i64 z ∧ inI z := by
  obtain ⟨z, h1, h2, h3⟩ := h
  rw [i64_min] at h2; rw [i64_max] at h3
  exact ⟨z, h1, h2, h3⟩
def sevn (a b c d e f g : Int) : Nat → Int
  | 0 => a | 1 => b | 2 => c | 3 => d | 4 => e | 5 => f | 6 => g | _ => 0
theorem seven_of {n : Nat} {cs : List AV} (h : Fa (ShOK (n + 1)) [.int .i64, .int .i64, .int .i64, .int .i64, .int .i64, .int .i64, .int .i64] cs) : ∃ x : Nat → Int, (∀ i, inI (x i)) ∧ cs = orbA x := by
  obtain ⟨b0, q, rfl, h0, h⟩ := Fa.cons_inv h
  obtain ⟨b1, q, rfl, h1, h⟩ := Fa.cons_inv h
  obtain ⟨b2, q, rfl, h2, h⟩ := Fa.cons_inv h
  obtain ⟨b3, q, rfl, h3, h⟩ := Fa.cons_inv h
  obtain ⟨b4, q, rfl, h4, h⟩ := Fa.cons_inv h
  obtain ⟨b5, q, rfl, h5, h⟩ := Fa.cons_inv h
  obtain ⟨b6, q, rfl, h6, h⟩ := Fa.cons_inv h
  obtain rfl := Fa.nil_inv h
  obtain ⟨z0, rfl, i0⟩ := int_inv h0
  obtain ⟨z1, rfl, i1⟩ := int_inv h1
  obtain ⟨z2, rfl, i2⟩ := int_inv h2
  obtain ⟨z3, rfl, i3⟩ := int_inv h3
  obtain ⟨z4, rfl, i4⟩ := int_inv h4
  obtain ⟨z5, rfl, i5⟩ := int_inv h5
  obtain ⟨z6, rfl, i6⟩ := int_inv h6
  refine ⟨sevn z0 z1 z2 z3 z4 z5 z6, fun i => ?_, rfl⟩
  by_cases e0 : i = 0; · subst e0; exact i0
  by_cases e1 : i = 1; · subst e1; exact i1
  by_cases e2 : i = 2; · subst e2; exact i2
  by_cases e3 : i = 3; · subst e3; exact i3
  by_cases e4 : i = 4; · subst e4; exact i4
  by_cases e5 : i = 5; · subst e5; exact i5
  by_cases e6 : i = 6; · subst e6; exact i6
  have : sevn z0 z1 z2 z3 z4 z5 z6 i = 0 := by
    unfold sevn
    split <;> first | rfl | omega
  rw [this]
  exact ⟨by omega, by omega⟩
end Go.Proofs



namespace Go.Proofs
open Go Go.AI
/-- Around a circle. -/
theorem arW_eq {n c : Int} (hc : 0 < c) (hc2 : c ≤ 1000000) (h1 : -1000000000000 ≤ n) (h2 : n ≤ 1000000000000) : arW n c = n % c := by
  unfold arW
  have h3 : n.tmod c = n - c * n.tdiv c := by have := Int.tmod_def n c; exact this
  have hb : -c < n.tmod c ∧ n.tmod c < c := by
    constructor
    · have := Int.lt_tmod_of_pos n hc; exact this
    · exact Int.tmod_lt_of_pos n hc
  rw [w64_in (by omega) (by omega), Int.tmod_eq_emod_of_nonneg (by omega), h3]
  have : n - c * n.tdiv c + c = n + c * (1 - n.tdiv c) := by rw [Int.mul_sub, Int.mul_one]; omega
  rw [this, Int.add_mul_emod_self_left]
theorem arL_eq {n c : Int} (hc : 0 < c) (hc2 : c ≤ 1000000) (h1 : -1000000000000 ≤ n) (h2 : n ≤ 1000000000000) : arL n c = n % c := by
  have h := arW_eq hc hc2 h1 h2
  unfold arL
  have hb : -c < n.tmod c ∧ n.tmod c < c := ⟨Int.lt_tmod_of_pos n hc, Int.tmod_lt_of_pos n hc⟩
  unfold arW at h
  rw [w64_in (by omega) (by omega)] at h
  generalize n.tmod c = q at *
  split
  · rw [w64_in (by omega) (by omega)]
    rw [Int.tmod_eq_of_lt (by omega) (by omega)] at h
    exact h
  · have e : (q + c).tmod c = q := by
      rw [Int.tmod_eq_emod_of_nonneg (by omega), Int.add_emod_right, Int.emod_eq_of_lt (by omega) (by omega)]
    rw [e] at h
    exact h
def uM (o : Nat → Int) (t : Int) : Int := (t + o 1) % o 0
def vM (o : Nat → Int) (t : Int) : Int := min (uM o t) (o 0 - uM o t)
def rowM (o : Nat → Int) (t : Int) : Int := o 2 + (o 3 - o 2) * 2 * vM o t / o 0
def colM (o : Nat → Int) (t : Int) : Int := (o 4 + o 5 * t) % 48000
section
variable {o : Nat → Int} (h : PV o)
include h
theorem uM_rng (t : Int) : 0 ≤ uM o t ∧ uM o t < o 0 := ⟨Int.emod_nonneg _ (by have := h.p1; omega), Int.emod_lt_of_pos _ (by have := h.p1; omega)⟩
theorem vM_rng (t : Int) : 0 ≤ vM o t ∧ 2 * vM o t ≤ o 0 := by have := uM_rng h t; unfold vM; omega
theorem dv_rng (t : Int) : 0 ≤ (o 3 - o 2) * 2 * vM o t ∧ (o 3 - o 2) * 2 * vM o t ≤ (o 3 - o 2) * o 0 := by
  have hv := vM_rng h t
  have := h.l2
  rw [Int.mul_assoc]
  exact ⟨Int.mul_nonneg (by omega) (by omega), Int.mul_le_mul_of_nonneg_left hv.2 (by omega)⟩
theorem row_eq {t : Int} (h1 : -1000 ≤ t) (h2 : t ≤ 2000000) : rowW o t = rowM o t := by
  obtain ⟨p1, p2, ev, g1, g2, l1, l2, l3, n1, n2, t1, t2, s1, s2⟩ := h
  have h : PV o := ⟨p1, p2, ev, g1, g2, l1, l2, l3, n1, n2, t1, t2, s1, s2⟩
  have hu := uM_rng h t
  have hv := vM_rng h t
  have hd := dv_rng h t
  have hd2 : (o 3 - o 2) * o 0 ≤ 23999 * 2000 := Int.mul_le_mul (by omega) p2 (by omega) (by omega)
  have e1 : arW (w64 (t + o 1)) (o 0) = uM o t := by
    rw [w64_in (by omega) (by omega)]
    exact arW_eq (by omega) (by omega) (by omega) (by omega)
  unfold rowW rowM
  rw [e1, w64_in (n := o 0 - uM o t) (by omega) (by omega), show min (uM o t) (o 0 - uM o t) = vM o t from rfl, w64_in (n := o 3 - o 2) (by omega) (by omega), w64_in (n := (o 3 - o 2) * 2) (by omega) (by omega), w64_in (n := (o 3 - o 2) * 2 * vM o t) (by omega) (by omega),
    Int.tdiv_eq_ediv_of_nonneg hd.1]
  have hq : 0 ≤ (o 3 - o 2) * 2 * vM o t / o 0 ∧ (o 3 - o 2) * 2 * vM o t / o 0 ≤ 23999 * 2000 :=
    ⟨Int.ediv_nonneg hd.1 (by omega), Int.le_trans (Int.ediv_le_self _ hd.1) (by omega)⟩
  rw [w64_in (n := (o 3 - o 2) * 2 * vM o t / o 0) (by omega) (by omega), w64_in (by omega) (by omega)]
theorem mul_rng {t : Int} (h1 : -1000 ≤ t) (h2 : t ≤ 2000000) : -4000000000 ≤ o 5 * t ∧ o 5 * t ≤ 4000000000 := by
  have a := h.t1
  have b := h.t2
  constructor
  · by_cases ht : 0 ≤ t
    · have := Int.mul_le_mul_of_nonneg_right a ht; omega
    · have := Int.mul_le_mul_of_nonpos_right b (show t ≤ 0 by omega); omega
  · by_cases ht : 0 ≤ t
    · have := Int.mul_le_mul_of_nonneg_right b ht; omega
    · have := Int.mul_le_mul_of_nonpos_right a (show t ≤ 0 by omega); omega
theorem col_eq {t : Int} (h1 : -1000 ≤ t) (h2 : t ≤ 2000000) : colW o t = colM o t := by
  have hm := mul_rng h h1 h2
  have a := h.n1
  have b := h.n2
  unfold colW colM
  rw [w64_in (n := o 5 * t) (by omega) (by omega), w64_in (by omega) (by omega)]
  exact arW_eq (by omega) (by omega) (by omega) (by omega)
theorem row_rng (t : Int) : o 2 ≤ rowM o t ∧ rowM o t ≤ o 3 := by
  have hd := dv_rng h t
  have p := h.p1
  unfold rowM
  have h1 : 0 ≤ (o 3 - o 2) * 2 * vM o t / o 0 := Int.ediv_nonneg hd.1 (by omega)
  have h2 : (o 3 - o 2) * 2 * vM o t / o 0 ≤ o 3 - o 2 := Int.ediv_le_of_le_mul (by omega) hd.2
  omega
theorem vM_step (t : Int) : vM o (t + 1) ≤ vM o t + 1 ∧ vM o t ≤ vM o (t + 1) + 1 := by
  have p := h.p1
  have hu := uM_rng h t
  have : uM o (t + 1) = uM o t + 1 ∨ (uM o (t + 1) = 0 ∧ uM o t = o 0 - 1) := by
    unfold uM
    unfold uM at hu
    have e : (t + 1 + o 1) % o 0 = ((t + o 1) % o 0 + 1) % o 0 := by
      rw [Int.emod_add_emod]; congr 1; omega
    rw [e]
    by_cases hh : (t + o 1) % o 0 + 1 < o 0
    · left; exact Int.emod_eq_of_lt (by omega) hh
    · right
      have : (t + o 1) % o 0 + 1 = o 0 := by omega
      rw [this, Int.emod_self]; exact ⟨rfl, by omega⟩
  unfold vM
  omega
theorem row_smooth (t : Int) : rowM o (t + 1) - rowM o t ≤ ((o 3 - o 2) * 2 + o 0 - 1) / o 0 ∧ rowM o t - rowM o (t + 1) ≤ ((o 3 - o 2) * 2 + o 0 - 1) / o 0 := by
  have p := h.p1
  have hl := h.l2
  have hv := vM_step h t
  have key : ∀ a b : Int, a ≤ b + 1 → (o 3 - o 2) * 2 * a / o 0 - (o 3 - o 2) * 2 * b / o 0 ≤ ((o 3 - o 2) * 2 + o 0 - 1) / o 0 := fun a b hab => by
    have h1 : (o 3 - o 2) * 2 * a ≤ (o 3 - o 2) * 2 * b + (o 3 - o 2) * 2 := by
      have := Int.mul_le_mul_of_nonneg_left hab (show 0 ≤ (o 3 - o 2) * 2 by omega)
      rw [Int.mul_add, Int.mul_one] at this
      exact this
    generalize (o 3 - o 2) * 2 * a = A at *
    generalize (o 3 - o 2) * 2 * b = B at *
    generalize (o 3 - o 2) * 2 = D at *
    generalize o 0 = c at *
    have q1 := Int.mul_ediv_add_emod A c
    have q2 := Int.mul_ediv_add_emod B c
    have q3 := Int.mul_ediv_add_emod (D + c - 1) c
    have r1 := Int.emod_nonneg A (show c ≠ 0 by omega)
    have r2 := Int.emod_lt_of_pos B (show 0 < c by omega)
    have r3 := Int.emod_lt_of_pos (D + c - 1) (show 0 < c by omega)
    refine Int.le_of_not_gt fun hg => ?_
    have h2 : (D + c - 1) / c + 1 ≤ A / c - B / c := by omega
    have h3 := Int.mul_le_mul_of_nonneg_left h2 (show 0 ≤ c by omega)
    rw [Int.mul_add, Int.mul_sub, Int.mul_one] at h3
    omega
  have e1 := key _ _ hv.1
  have e2 := key _ _ hv.2
  unfold rowM
  omega
omit h in
theorem col_step (t d : Int) : colM o (t + d) = (colM o t + o 5 * d) % 48000 := by
  unfold colM
  rw [Int.emod_add_emod, Int.mul_add]
  congr 1
  omega
end
end Go.Proofs


