/- The law OrbitTracks: its function answers true at every input. No condition. -/
import Derived.Test.YtoccmkmnkoldmaaConB
import Derived.Test.YtoccmkmnkoldmaaRows
set_option linter.unusedSectionVars false
set_option linter.unusedVariables false
set_option linter.unusedSimpArgs false
namespace Go.Proofs
open Go Go.AI
set_option maxRecDepth 10000
set_option linter.unusedSimpArgs false

theorem trackL_len (o : Nat → Int) (t : Int) (n : Nat) : (trackL o t n).length = n := by simp [trackL]
theorem trackL_get (o : Nat → Int) (t : Int) (n i : Nat) (h : i < n) : (trackL o t n)[i]? = some (celW o (t + i)) := by simp [trackL, h]
theorem trackL_app (o : Nat → Int) (t : Int) (n k : Nat) : trackL o t (n + k) = trackL o t n ++ trackL o (t + n) k := by
  induction k with
  | zero => simp [trackL]
  | succ k ih => rw [← Nat.add_assoc, trackL_snoc, ih, trackL_snoc, List.append_assoc]; congr 4; omega
set_option maxHeartbeats 8000000 in
theorem Try.x8 (x : Nat → Int) (t long at_ late : Int) (hx : ∀ i, inI (x i)) (ht : inI t) (hlo : inI long) (hat : inI at_) (hla : inI late) : ACalls Try.prog 8 [.agg (orbA x), .int .i64 t, .int .i64 long, .int .i64 at_, .int .i64 late] (.bool true) := by
  obtain ⟨hv, _⟩ := made_pv hx
  have p1 := pick_rng ht (n := 5000) (by omega)
  have p2 := pick_rng hlo (n := 60) (by omega)
  have p4 := pick_rng hla (n := 21) (by omega)
  have h00 : madeO x 0 ≠ 0 := by have := hv.p1; omega
  have k16 := Try.c16 x (made_ne hx)
  generalize madeO x = o at *
  have e1 : IntKind.i64.wrap (pickS t 5000 + pickS long 60) = pickS t 5000 + pickS long 60 := w64_in (by omega) (by omega)
  have e2 : IntKind.i64.wrap (IntKind.i64.wrap (pickS t 5000 + pickS long 60) - pickS t 5000) = pickS long 60 := by rw [e1]; exact (w64_in (by omega) (by omega)).trans (by omega)
  have e3 : IntKind.i64.wrap (IntKind.i64.wrap (IntKind.i64.wrap (pickS t 5000 + pickS long 60) - pickS t 5000) + 1) = pickS long 60 + 1 := by rw [e2]; exact w64_in (by omega) (by omega)
  have h19 : IntKind.i64.wrap (IntKind.i64.wrap (IntKind.i64.wrap (pickS t 5000 + pickS long 60) - pickS t 5000) + 1) ≠ 0 := by rw [e3]; omega
  have k19 := Try.c19 at_ _ h19
  rw [show pickS at_ (IntKind.i64.wrap (IntKind.i64.wrap (IntKind.i64.wrap (pickS t 5000 + pickS long 60) - pickS t 5000) + 1)) = pickS at_ (pickS long 60 + 1) by rw [e3]] at k19
  have p3 := pick_rng hat (n := pickS long 60 + 1) (by omega)
  have e4 : IntKind.i64.wrap (pickS t 5000 + pickS at_ (pickS long 60 + 1)) = pickS t 5000 + pickS at_ (pickS long 60 + 1) := w64_in (by omega) (by omega)
  have e5 : IntKind.i64.wrap (pickS late 21 - 10) = pickS late 21 - 10 := w64_in (by omega) (by omega)
  have k31 := Try.c31 o (pickS t 5000) (IntKind.i64.wrap (pickS t 5000 + pickS long 60)) (IntKind.i64.wrap (pickS late 21 - 10)) (atS_ok hv (by omega) (by omega) (by omega) (by omega)) (by rw [e1]; simp [inS]; omega) (by omega)
  have k31a := Try.c31 o (pickS t 5000) (IntKind.i64.wrap (pickS t 5000 + pickS at_ (pickS long 60 + 1))) (IntKind.i64.wrap (pickS late 21 - 10)) (atS_ok hv (by omega) (by omega) (by omega) (by omega)) (by rw [e4]; simp [inS]; omega) (by omega)
  have k31b := Try.c31 o (IntKind.i64.wrap (pickS t 5000 + pickS at_ (pickS long 60 + 1))) (IntKind.i64.wrap (pickS t 5000 + pickS long 60)) (IntKind.i64.wrap (pickS late 21 - 10)) (atS_ok hv (by omega) (by omega) (by omega) (by omega)) (by rw [e1, e4]; simp [inS]; omega) (by omega)
  have hcat : trackL o (pickS t 5000 - IntKind.i64.wrap (pickS late 21 - 10)) (IntKind.i64.wrap (pickS t 5000 + pickS long 60) - pickS t 5000).toNat = trackL o (pickS t 5000 - IntKind.i64.wrap (pickS late 21 - 10)) (IntKind.i64.wrap (pickS t 5000 + pickS at_ (pickS long 60 + 1)) - pickS t 5000).toNat ++
      trackL o (IntKind.i64.wrap (pickS t 5000 + pickS at_ (pickS long 60 + 1)) - IntKind.i64.wrap (pickS late 21 - 10)) (IntKind.i64.wrap (pickS t 5000 + pickS long 60) - IntKind.i64.wrap (pickS t 5000 + pickS at_ (pickS long 60 + 1))).toNat := by
    rw [e1, e4, show (pickS t 5000 + pickS long 60 - pickS t 5000).toNat = (pickS t 5000 + pickS at_ (pickS long 60 + 1) - pickS t 5000).toNat + (pickS t 5000 + pickS long 60 - (pickS t 5000 + pickS at_ (pickS long 60 + 1))).toNat by omega, trackL_app]
    congr 2
    omega
  have hlen : (trackL o (pickS t 5000 - IntKind.i64.wrap (pickS late 21 - 10)) (IntKind.i64.wrap (pickS t 5000 + pickS long 60) - pickS t 5000).toNat).length = (pickS long 60).toNat := by rw [trackL_len, e1]; omega
  have hget : ∀ i, i < (pickS long 60).toNat → (trackL o (pickS t 5000 - IntKind.i64.wrap (pickS late 21 - 10)) (IntKind.i64.wrap (pickS t 5000 + pickS long 60) - pickS t 5000).toNat)[i]? = some (celW o (pickS t 5000 - IntKind.i64.wrap (pickS late 21 - 10) + i)) := fun i hi => trackL_get _ _ _ _ (by rw [e1]; omega)
  generalize trackL o (pickS t 5000 - IntKind.i64.wrap (pickS late 21 - 10)) (IntKind.i64.wrap (pickS t 5000 + pickS long 60) - pickS t 5000).toNat = l at *
  generalize trackL o (pickS t 5000 - IntKind.i64.wrap (pickS late 21 - 10)) (IntKind.i64.wrap (pickS t 5000 + pickS at_ (pickS long 60 + 1)) - pickS t 5000).toNat = la at *
  generalize trackL o (IntKind.i64.wrap (pickS t 5000 + pickS at_ (pickS long 60 + 1)) - IntKind.i64.wrap (pickS late 21 - 10)) (IntKind.i64.wrap (pickS t 5000 + pickS long 60) - IntKind.i64.wrap (pickS t 5000 + pickS at_ (pickS long 60 + 1))).toNat = lb at *
  have hab : la.length + lb.length = l.length := by rw [hcat, List.length_append]
  have hml : ((l.map cellA).length : Int) = pickS long 60 := by rw [List.length_map, hlen]; omega
  have k30 : ACalls Try.prog 30 [cellsA l, .sl .no 2 ((([] : List (List AV)) ++ la.map cellA) ++ lb.map cellA)] (.bool true) := by
    have h := Try.c30 l (la ++ lb) (by omega)
    rw [decide_eq_true hcat] at h
    simpa [cellsA] using h
  have r1 : ((([] : List (List AV))).length + (la.map cellA).length) * 16 ≤ 70368744177664 := by simp; omega
  have r2 : (([] : List (List AV))).length + (la.map cellA).length ≤ 4611686018427387904 := by simp; omega
  have r3 : ((([] : List (List AV)) ++ la.map cellA).length + (lb.map cellA).length) * 16 ≤ 70368744177664 := by simp; omega
  have r4 : (([] : List (List AV)) ++ la.map cellA).length + (lb.map cellA).length ≤ 4611686018427387904 := by simp; omega
  refine ACalls.ofB Try.TT_ok Try.func8 rfl (by kernel_rfl) Try.mixed (Nat.le_of_ble_eq_true rfl) ?_
  intro F n' w0 m0 hG hro h1
  repeat' first
    | refine SPB.seq ?_
    | refine SPB.block ?_
    | refine SPB.draw hG Try.TT_ok Try.keep8 (by kernel_rfl) ?_
    | refine SPB.reg hG Try.TT_ok Try.keep8 (by kernel_rfl) ?_
    | refine SPB.skip hG Try.TT_ok ?_
    | refine SPB.label hG Try.TT_ok ?_
    | refine SPB.ret hG Try.TT_ok ?_
    | refine SPB.exit hG Try.TT_ok ?_
    | refine SPB.condT rfl ?_
    | refine SPB.condF rfl ?_
    | refine SPB.cond rfl (And.intro (fun h => ?_) (fun h => ?_))
    | (conv => whnf
       first
         | refine And.intro (fun h => Bool.noConfusion (h : false = true)) (fun _ => ?_)
         | refine And.intro (fun _ => ?_) (fun h => Bool.noConfusion (h : true = false))
         | refine And.intro (by kernel_rfl) ?_
         | refine And.intro (fun h => ?_) (fun h => ?_)
         | refine Or.inl ?_
         | fail)
  conv => whnf
  refine Exists.intro _ (And.intro (Try.c15) ?_)
  repeat' first
    | refine SPB.seq ?_
    | refine SPB.block ?_
    | refine SPB.draw hG Try.TT_ok Try.keep8 (by kernel_rfl) ?_
    | refine SPB.reg hG Try.TT_ok Try.keep8 (by kernel_rfl) ?_
    | refine SPB.skip hG Try.TT_ok ?_
    | refine SPB.label hG Try.TT_ok ?_
    | refine SPB.ret hG Try.TT_ok ?_
    | refine SPB.exit hG Try.TT_ok ?_
    | refine SPB.condT rfl ?_
    | refine SPB.condF rfl ?_
    | refine SPB.cond rfl (And.intro (fun h => ?_) (fun h => ?_))
    | (conv => whnf
       first
         | refine And.intro (fun h => Bool.noConfusion (h : false = true)) (fun _ => ?_)
         | refine And.intro (fun _ => ?_) (fun h => Bool.noConfusion (h : true = false))
         | refine And.intro (by kernel_rfl) ?_
         | refine And.intro (fun h => ?_) (fun h => ?_)
         | refine Or.inl ?_
         | fail)
  conv => whnf
  refine Exists.intro _ (And.intro (k16) ?_)
  repeat' first
    | refine SPB.seq ?_
    | refine SPB.block ?_
    | refine SPB.draw hG Try.TT_ok Try.keep8 (by kernel_rfl) ?_
    | refine SPB.reg hG Try.TT_ok Try.keep8 (by kernel_rfl) ?_
    | refine SPB.skip hG Try.TT_ok ?_
    | refine SPB.label hG Try.TT_ok ?_
    | refine SPB.ret hG Try.TT_ok ?_
    | refine SPB.exit hG Try.TT_ok ?_
    | refine SPB.condT rfl ?_
    | refine SPB.condF rfl ?_
    | refine SPB.cond rfl (And.intro (fun h => ?_) (fun h => ?_))
    | (conv => whnf
       first
         | refine And.intro (fun h => Bool.noConfusion (h : false = true)) (fun _ => ?_)
         | refine And.intro (fun _ => ?_) (fun h => Bool.noConfusion (h : true = false))
         | refine And.intro (by kernel_rfl) ?_
         | refine And.intro (fun h => ?_) (fun h => ?_)
         | refine Or.inl ?_
         | fail)
  conv => whnf
  refine Exists.intro _ (And.intro (Try.c19 t 5000 (by decide)) ?_)
  repeat' first
    | refine SPB.seq ?_
    | refine SPB.block ?_
    | refine SPB.draw hG Try.TT_ok Try.keep8 (by kernel_rfl) ?_
    | refine SPB.reg hG Try.TT_ok Try.keep8 (by kernel_rfl) ?_
    | refine SPB.skip hG Try.TT_ok ?_
    | refine SPB.label hG Try.TT_ok ?_
    | refine SPB.ret hG Try.TT_ok ?_
    | refine SPB.exit hG Try.TT_ok ?_
    | refine SPB.condT rfl ?_
    | refine SPB.condF rfl ?_
    | refine SPB.cond rfl (And.intro (fun h => ?_) (fun h => ?_))
    | (conv => whnf
       first
         | refine And.intro (fun h => Bool.noConfusion (h : false = true)) (fun _ => ?_)
         | refine And.intro (fun _ => ?_) (fun h => Bool.noConfusion (h : true = false))
         | refine And.intro (by kernel_rfl) ?_
         | refine And.intro (fun h => ?_) (fun h => ?_)
         | refine Or.inl ?_
         | fail)
  conv => whnf
  refine Exists.intro _ (And.intro (Try.c19 long 60 (by decide)) ?_)
  repeat' first
    | refine SPB.seq ?_
    | refine SPB.block ?_
    | refine SPB.draw hG Try.TT_ok Try.keep8 (by kernel_rfl) ?_
    | refine SPB.reg hG Try.TT_ok Try.keep8 (by kernel_rfl) ?_
    | refine SPB.skip hG Try.TT_ok ?_
    | refine SPB.label hG Try.TT_ok ?_
    | refine SPB.ret hG Try.TT_ok ?_
    | refine SPB.exit hG Try.TT_ok ?_
    | refine SPB.condT rfl ?_
    | refine SPB.condF rfl ?_
    | refine SPB.cond rfl (And.intro (fun h => ?_) (fun h => ?_))
    | (conv => whnf
       first
         | refine And.intro (fun h => Bool.noConfusion (h : false = true)) (fun _ => ?_)
         | refine And.intro (fun _ => ?_) (fun h => Bool.noConfusion (h : true = false))
         | refine And.intro (by kernel_rfl) ?_
         | refine And.intro (fun h => ?_) (fun h => ?_)
         | refine Or.inl ?_
         | fail)
  conv => whnf
  refine Exists.intro _ (And.intro (k19) ?_)
  repeat' first
    | refine SPB.seq ?_
    | refine SPB.block ?_
    | refine SPB.draw hG Try.TT_ok Try.keep8 (by kernel_rfl) ?_
    | refine SPB.reg hG Try.TT_ok Try.keep8 (by kernel_rfl) ?_
    | refine SPB.skip hG Try.TT_ok ?_
    | refine SPB.label hG Try.TT_ok ?_
    | refine SPB.ret hG Try.TT_ok ?_
    | refine SPB.exit hG Try.TT_ok ?_
    | refine SPB.condT rfl ?_
    | refine SPB.condF rfl ?_
    | refine SPB.cond rfl (And.intro (fun h => ?_) (fun h => ?_))
    | (conv => whnf
       first
         | refine And.intro (fun h => Bool.noConfusion (h : false = true)) (fun _ => ?_)
         | refine And.intro (fun _ => ?_) (fun h => Bool.noConfusion (h : true = false))
         | refine And.intro (by kernel_rfl) ?_
         | refine And.intro (fun h => ?_) (fun h => ?_)
         | refine Or.inl ?_
         | fail)
  conv => whnf
  refine Exists.intro _ (And.intro (Try.c19 late 21 (by decide)) ?_)
  repeat' first
    | refine SPB.seq ?_
    | refine SPB.block ?_
    | refine SPB.draw hG Try.TT_ok Try.keep8 (by kernel_rfl) ?_
    | refine SPB.reg hG Try.TT_ok Try.keep8 (by kernel_rfl) ?_
    | refine SPB.skip hG Try.TT_ok ?_
    | refine SPB.label hG Try.TT_ok ?_
    | refine SPB.ret hG Try.TT_ok ?_
    | refine SPB.exit hG Try.TT_ok ?_
    | refine SPB.condT rfl ?_
    | refine SPB.condF rfl ?_
    | refine SPB.cond rfl (And.intro (fun h => ?_) (fun h => ?_))
    | (conv => whnf
       first
         | refine And.intro (fun h => Bool.noConfusion (h : false = true)) (fun _ => ?_)
         | refine And.intro (fun _ => ?_) (fun h => Bool.noConfusion (h : true = false))
         | refine And.intro (by kernel_rfl) ?_
         | refine And.intro (fun h => ?_) (fun h => ?_)
         | refine Or.inl ?_
         | fail)
  conv => whnf
  refine Exists.intro _ (And.intro (k31) ?_)
  repeat' first
    | refine SPB.seq ?_
    | refine SPB.block ?_
    | refine SPB.draw hG Try.TT_ok Try.keep8 (by kernel_rfl) ?_
    | refine SPB.reg hG Try.TT_ok Try.keep8 (by kernel_rfl) ?_
    | refine SPB.skip hG Try.TT_ok ?_
    | refine SPB.label hG Try.TT_ok ?_
    | refine SPB.ret hG Try.TT_ok ?_
    | refine SPB.exit hG Try.TT_ok ?_
    | refine SPB.condT rfl ?_
    | refine SPB.condF rfl ?_
    | refine SPB.cond rfl (And.intro (fun h => ?_) (fun h => ?_))
    | (conv => whnf
       first
         | refine And.intro (fun h => Bool.noConfusion (h : false = true)) (fun _ => ?_)
         | refine And.intro (fun _ => ?_) (fun h => Bool.noConfusion (h : true = false))
         | refine And.intro (by kernel_rfl) ?_
         | refine And.intro (fun h => ?_) (fun h => ?_)
         | refine Or.inl ?_
         | fail)
  conv => whnf
  refine Exists.intro _ (And.intro (k31a) ?_)
  repeat' first
    | refine SPB.seq ?_
    | refine SPB.block ?_
    | refine SPB.draw hG Try.TT_ok Try.keep8 (by kernel_rfl) ?_
    | refine SPB.reg hG Try.TT_ok Try.keep8 (by kernel_rfl) ?_
    | refine SPB.skip hG Try.TT_ok ?_
    | refine SPB.label hG Try.TT_ok ?_
    | refine SPB.ret hG Try.TT_ok ?_
    | refine SPB.exit hG Try.TT_ok ?_
    | refine SPB.condT rfl ?_
    | refine SPB.condF rfl ?_
    | refine SPB.cond rfl (And.intro (fun h => ?_) (fun h => ?_))
    | (conv => whnf
       first
         | refine And.intro (fun h => Bool.noConfusion (h : false = true)) (fun _ => ?_)
         | refine And.intro (fun _ => ?_) (fun h => Bool.noConfusion (h : true = false))
         | refine And.intro (by kernel_rfl) ?_
         | refine And.intro (fun h => ?_) (fun h => ?_)
         | refine Or.inl ?_
         | fail)
  conv => whnf
  refine Exists.intro _ (And.intro (k31b) ?_)
  repeat' first
    | refine SPB.seq ?_
    | refine SPB.block ?_
    | refine SPB.draw hG Try.TT_ok Try.keep8 (by kernel_rfl) ?_
    | refine SPB.reg hG Try.TT_ok Try.keep8 (by kernel_rfl) ?_
    | refine SPB.skip hG Try.TT_ok ?_
    | refine SPB.label hG Try.TT_ok ?_
    | refine SPB.ret hG Try.TT_ok ?_
    | refine SPB.exit hG Try.TT_ok ?_
    | refine SPB.condT rfl ?_
    | refine SPB.condF rfl ?_
    | refine SPB.cond rfl (And.intro (fun h => ?_) (fun h => ?_))
    | (conv => whnf
       first
         | refine And.intro (fun h => Bool.noConfusion (h : false = true)) (fun _ => ?_)
         | refine And.intro (fun _ => ?_) (fun h => Bool.noConfusion (h : true = false))
         | refine And.intro (by kernel_rfl) ?_
         | refine Exists.intro _ (And.intro (k30) ?_)
         | refine And.intro r1 ?_
         | refine And.intro r2 ?_
         | refine And.intro r3 ?_
         | refine And.intro r4 ?_
         | refine And.intro (fun h => ?_) (fun h => ?_)
         | refine Or.inl ?_
         | fail)
  · exact absurd (by assumption : (((l.map cellA).length : Int) != IntKind.i64.wrap (IntKind.i64.wrap (pickS t 5000 + pickS long 60) - pickS t 5000)) = true) (by rw [hml, e2]; simp)
  · refine SPB.loop (X := Nat) (fun i => ⟨[(21, .int .i64 i), (15, cellsA l), (14, .int .i64 (IntKind.i64.wrap (pickS late 21 - 10))), (12, .loc 12 0), (11, .loc 11 0)], [(12, [.int .i64 (pickS t 5000), .int .i64 (IntKind.i64.wrap (pickS t 5000 + pickS long 60))]), (11, orbA o)]⟩)
      (fun i => i ≤ l.length) (fun i => l.length - i) 0 (Nat.zero_le _) (St.le.of ?_ ?_) (fun i hi => ?_)
    · repeat' (first | exact trivial | refine And.intro rfl ?_)
    · repeat' (first | exact trivial | refine And.intro rfl ?_)
    · have hlt : decide ((i : Int) < ((l.map cellA).length : Int)) = true → i < (pickS long 60).toNat := fun h => by have := of_decide_eq_true h; omega
      have hxx : decide ((i : Int) < ((l.map cellA).length : Int)) = true → (l.map cellA)[(i : Int).toNat]? = some [.int .i64 (celW o (pickS t 5000 - IntKind.i64.wrap (pickS late 21 - 10) + i)).1, .int .i64 (celW o (pickS t 5000 - IntKind.i64.wrap (pickS late 21 - 10) + i)).2] := fun h =>
        cells_get _ _ _ (hget i (hlt h))
      have k24 : decide ((i : Int) < ((l.map cellA).length : Int)) = true → ACalls Try.prog 24 [.agg (orbA o), .int .i64 (IntKind.i64.wrap (pickS t 5000 + i)), .int .i64 (IntKind.i64.wrap (pickS late 21 - 10))] (.tup [.agg (cellA (celW o (pickS t 5000 - IntKind.i64.wrap (pickS late 21 - 10) + i))), .int .i64 0]) := fun h => by
        have h2 := hlt h
        have e6 : IntKind.i64.wrap (pickS t 5000 + i) = pickS t 5000 + i := w64_in (by omega) (by omega)
        have h3 := Try.c24 o (IntKind.i64.wrap (pickS t 5000 + i)) (IntKind.i64.wrap (pickS late 21 - 10)) (atS_ok hv (by omega) (by omega) (by omega) (by omega))
        rw [show w64 (IntKind.i64.wrap (pickS t 5000 + i) - IntKind.i64.wrap (pickS late 21 - 10)) = pickS t 5000 - IntKind.i64.wrap (pickS late 21 - 10) + i by rw [e6]; exact (w64_in (by omega) (by omega)).trans (by omega)] at h3
        exact h3
      repeat' first
        | refine SPB.seq ?_
        | refine SPB.block ?_
        | refine SPB.draw hG Try.TT_ok Try.keep8 (by kernel_rfl) ?_
        | refine SPB.reg hG Try.TT_ok Try.keep8 (by kernel_rfl) ?_
        | refine SPB.skip hG Try.TT_ok ?_
        | refine SPB.label hG Try.TT_ok ?_
        | refine SPB.ret hG Try.TT_ok ?_
        | refine SPB.exit hG Try.TT_ok ?_
        | refine SPB.condT rfl ?_
        | refine SPB.condF rfl ?_
        | refine SPB.cond rfl (And.intro (fun h => ?_) (fun h => ?_))
        | (conv => whnf
           first
             | refine And.intro (fun h => Bool.noConfusion (h : false = true)) (fun _ => ?_)
             | refine And.intro (fun _ => ?_) (fun h => Bool.noConfusion (h : true = false))
             | refine And.intro (by kernel_rfl) ?_
             | refine Exists.intro _ (And.intro (k24 (by assumption)) ?_)
             | refine And.intro (Int.natCast_nonneg i) (Exists.intro _ (And.intro (hxx (by assumption)) ?_))
             | refine And.intro (fun h => ?_) (fun h => ?_)
             | refine Or.inl ?_
             | fail)
      · rename_i h
        exact absurd h (by simp)
      · have h2 := hlt (by assumption)
        refine Exists.intro (i + 1) (And.intro (by omega) (And.intro (by omega) (St.le.of ?_ ?_)))
        · refine And.intro (congrArg some (le_next (by omega))) ?_
          repeat' (first | exact trivial | refine And.intro rfl ?_)
        · repeat' (first | exact trivial | refine And.intro rfl ?_)
      · exact Ends.mk (Or.inl rfl) (AV.weak.of_eq rfl)
end Go.Proofs


namespace Go.Proofs
open Go Go.AI Go.Proofs.Ytoccmkmnkoldmaa
set_option maxRecDepth 100000
theorem Try.own : ownKnob Try.prog.godebug = none := by kernel_rfl
theorem Try.laidOut : laidOutB Try.prog = true := by kernel_rfl
theorem Try.reads22 : (Try.prog.readableRec 22 && Nat.blt 22 Try.prog.types.size) = true := by kernel_rfl
theorem Try.reads3 : (Try.prog.readableRec 3 && Nat.blt 3 Try.prog.types.size) = true := by kernel_rfl
def seven0 : Value := .agg #[.int .i64 0, .int .i64 0, .int .i64 0, .int .i64 0, .int .i64 0, .int .i64 0, .int .i64 0]
def sevenSh : List Sh := [.int .i64, .int .i64, .int .i64, .int .i64, .int .i64, .int .i64, .int .i64]
def lawSh : List (Bool × List Sh) := [(true, sevenSh), (false, [.int .i64]), (false, [.int .i64]), (false, [.int .i64]), (false, [.int .i64])]
theorem Try.shs : paramSh Try.prog 8 [22, 3, 3, 3, 3] = some lawSh := by kernel_rfl
theorem Try.lifted (law : ∀ avs, PArgs 8 lawSh avs → ACalls Try.prog 8 avs (.bool true)) (os : Os) (started : os.Started) (H : Type) (enc : TypeId × Value → H) :
    ReturnsInHanded {} Try.checked os 8 .any (Rows.orbitTracksSpec.pre6 enc Try.prog Try.f8 Rows.orbitTracksRow.domain false) (Rows.orbitTracksSpec.post enc Try.prog Try.f8 false true false false) :=
  law_lifted (C := Try.checked) (tb := 4) Try.own started (by kernel_rfl) Try.func8
    (ChangeSpec.witness6 (enc := enc) (C := Try.checked) false ⟨#[], #[seven0, .int .i64 0, .int .i64 0, .int .i64 0, .int .i64 0], []⟩ 8 (by kernel_rfl) (by kernel_rfl) (by kernel_rfl) (by kernel_rfl))
    rfl (by kernel_rfl) (by kernel_rfl) (fun ds h => by
      match ds, h with
      | [d, d0, d1, d2, d3], _ => rfl) Try.shs Try.laidOut (fun t ht => by
      have e : Try.f8.params.toList = [22, 3, 3, 3, 3] := by kernel_rfl
      rw [e] at ht
      simp only [List.mem_cons, List.not_mem_nil, or_false] at ht
      have h22 := Try.reads22
      have h3 := Try.reads3
      simp only [Bool.and_eq_true] at h22 h3
      have g : t = 22 ∨ t = 3 := by rcases ht with h | h | h | h | h <;> first | exact .inl h | exact .inr h
      rcases g with rfl | rfl
      · exact ⟨h22.1, Nat.le_of_ble_eq_true h22.2⟩
      · exact ⟨h3.1, Nat.le_of_ble_eq_true h3.2⟩) law
theorem Try.row (law : ∀ avs, PArgs 8 lawSh avs → ACalls Try.prog 8 avs (.bool true)) : Rows.OrbitTracksSaid :=
  OpenClaim.holds_of_wide (p := Try.pinned) (s := Rows.orbitTracksSpec) (c := Rows.orbitTracksRow) 8 Try.f8 rfl rfl rfl rfl rfl rfl rfl ⟨rfl, rfl, rfl, rfl, rfl⟩ rfl rfl rfl rfl rfl (by kernel_rfl) Try.func8 (by kernel_rfl)
    (of_decide_eq_true (by kernel_rfl)) (by unfold Func.isWrapper; first | (rw [if_pos (by decide +kernel)]; kernel_rfl) | (rw [if_neg (by decide +kernel)]; exact ⟨rfl, rfl⟩))
    (fun os started H enc _ => Try.lifted law os started H enc)
theorem pargs_agg {n : Nat} {L : List Sh} {r : List (Bool × List Sh)} {avs : List AV} (h : PArgs n ((true, L) :: r) avs) : ∃ cs q, avs = .agg cs :: q ∧ Fa (ShOK n) L cs ∧ PArgs n r q := by
  match avs, h with
  | _ :: q, h =>
    obtain ⟨⟨cs, rfl, h1⟩, h2⟩ := h
    exact ⟨cs, q, rfl, h1, h2⟩
  | [], h => exact h.elim
theorem pargs_int {n : Nat} {r : List (Bool × List Sh)} {avs : List AV} (h : PArgs (n + 1) ((false, [.int .i64]) :: r) avs) : ∃ z q, avs = .int .i64 z :: q ∧ inI z ∧ PArgs (n + 1) r q := by
  match avs, h with
  | _ :: q, h =>
    obtain ⟨⟨s, e, h1⟩, h2⟩ := h
    cases e
    obtain ⟨z, rfl, hz⟩ := int_inv h1
    exact ⟨z, q, rfl, hz, h2⟩
  | [], h => exact h.elim
theorem pargs_nil {n : Nat} {avs : List AV} (h : PArgs n [] avs) : avs = [] := by
  match avs, h with
  | [], _ => rfl
  | _ :: _, h => exact h.elim
end Go.Proofs
namespace Go.Proofs.Ytoccmkmnkoldmaa
open Go Go.AI
/-- OrbitTracks answers true, whatever the input. -/
theorem orbitTracks : Rows.OrbitTracksSaid := Try.row fun avs h => by
  obtain ⟨cs, q, rfl, h1, h⟩ := pargs_agg h
  obtain ⟨z0, q, rfl, i0, h⟩ := pargs_int h
  obtain ⟨z1, q, rfl, i1, h⟩ := pargs_int h
  obtain ⟨z2, q, rfl, i2, h⟩ := pargs_int h
  obtain ⟨z3, q, rfl, i3, h⟩ := pargs_int h
  obtain rfl := pargs_nil h
  obtain ⟨x, hx, rfl⟩ := seven_of h1
  exact Go.Proofs.Try.x8 x z0 z1 z2 z3 hx i0 i1 i2 i3
end Go.Proofs.Ytoccmkmnkoldmaa


