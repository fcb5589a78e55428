/- The law OrbitReturns: its function answers true at every input. No condition. -/
import Derived.Test.YtoccmkmnkoldmaaConB
import Derived.Test.YtoccmkmnkoldmaaRows
set_option linter.unusedSectionVars false
set_option linter.unusedVariables false
set_option linter.unusedSimpArgs false
namespace Go.Proofs
open Go Go.AI
set_option maxRecDepth 10000
set_option linter.unusedSimpArgs false

theorem uM_period {o : Nat → Int} (t : Int) : uM o (t + o 0) = uM o t := by
  unfold uM
  rw [show t + o 0 + o 1 = t + o 1 + o 0 by omega, Int.add_emod_right]
theorem rowM_period {o : Nat → Int} (t : Int) : rowM o (t + o 0) = rowM o t := by unfold rowM vM; rw [uM_period]
theorem rowM_back {o : Nat → Int} (h : PV o) (t : Int) : rowM o (t + 2 * (o 0 - uM o t)) = rowM o t := by
  have hp := h.p1
  have hu := uM_rng h t
  have hb := uM_rng h (t + 2 * (o 0 - uM o t))
  have e : uM o (t + 2 * (o 0 - uM o t)) = (o 0 - uM o t) % o 0 := by
    generalize hq : uM o t = u at *
    unfold uM at *
    have h1 : (t + o 1) = o 0 * ((t + o 1) / o 0) + u := by rw [← hq]; exact (Int.mul_ediv_add_emod _ _).symm
    have h2 : t + 2 * (o 0 - u) + o 1 = (o 0 - u) + o 0 * ((t + o 1) / o 0 + 1) := by rw [Int.mul_add, Int.mul_one]; omega
    rw [h2, Int.add_mul_emod_self_left]
  have hv : vM o (t + 2 * (o 0 - uM o t)) = vM o t := by
    unfold vM
    rw [e]
    by_cases h0 : uM o t = 0
    · rw [h0, Int.sub_zero, Int.emod_self]; omega
    · rw [Int.emod_eq_of_lt (by omega) (by omega)]; omega
  unfold rowM
  rw [hv]
set_option maxHeartbeats 8000000 in
theorem Try.x5 (x : Nat → Int) (t : Int) (hx : ∀ i, inI (x i)) (ht : inI t) : ACalls Try.prog 5 [.agg (orbA x), .int .i64 t] (.bool true) := by
  obtain ⟨hv, _⟩ := made_pv hx
  have p1 := pick_rng ht (n := 5000) (by omega)
  have h00 : madeO x 0 ≠ 0 := by have := hv.p1; omega
  have k16 := Try.c16 x (made_ne hx)
  generalize madeO x = o at *
  have hp := hv.p1
  have hp2 := hv.p2
  have hh1 := hv.h1
  have hh2 := hv.h2
  have hu := uM_rng hv (pickS t 5000)
  have e1 : IntKind.i64.wrap (pickS t 5000 + o 0) = pickS t 5000 + o 0 := w64_in (by omega) (by omega)
  have e2 : IntKind.i64.wrap (pickS t 5000 + o 1) = pickS t 5000 + o 1 := w64_in (by omega) (by omega)
  have e3 : arL (IntKind.i64.wrap (pickS t 5000 + o 1)) (o 0) = uM o (pickS t 5000) := by rw [e2]; exact arL_eq (by omega) (by omega) (by omega) (by omega)
  have k33 := Try.c33 (IntKind.i64.wrap (pickS t 5000 + o 1)) (o 0) h00
  rw [e3] at k33
  have e4 : IntKind.i64.wrap (o 0 - uM o (pickS t 5000)) = o 0 - uM o (pickS t 5000) := w64_in (by omega) (by omega)
  have e5 : IntKind.i64.wrap (2 * (o 0 - uM o (pickS t 5000))) = 2 * (o 0 - uM o (pickS t 5000)) := w64_in (by omega) (by omega)
  have e6 : IntKind.i64.wrap (pickS t 5000 + 2 * (o 0 - uM o (pickS t 5000))) = pickS t 5000 + 2 * (o 0 - uM o (pickS t 5000)) := w64_in (by omega) (by omega)
  have eb : IntKind.i64.wrap (pickS t 5000 + IntKind.i64.wrap (2 * IntKind.i64.wrap (o 0 - uM o (pickS t 5000)))) = pickS t 5000 + 2 * (o 0 - uM o (pickS t 5000)) := by rw [e4, e5, e6]
  have k20 := Try.c20 o (pickS t 5000) 0 (atS_ok hv (by omega) (by omega) (by omega) (by omega))
  have k22 := Try.c22 o (pickS t 5000) 0 (atS_ok hv (by omega) (by omega) (by omega) (by omega))
  have k20' := Try.c20 o (IntKind.i64.wrap (pickS t 5000 + o 0)) 0 (atS_ok hv (by omega) (by omega) (by omega) (by omega))
  have k22' := Try.c22 o (IntKind.i64.wrap (pickS t 5000 + o 0)) 0 (atS_ok hv (by omega) (by omega) (by omega) (by omega))
  have k20b := Try.c20 o (IntKind.i64.wrap (pickS t 5000 + IntKind.i64.wrap (2 * IntKind.i64.wrap (o 0 - uM o (pickS t 5000))))) 0 (atS_ok hv (by omega) (by omega) (by omega) (by omega))
  have w1 : w64 (pickS t 5000 - 0) = pickS t 5000 := by rw [Int.sub_zero]; exact w64_in (by omega) (by omega)
  have w2 : w64 (IntKind.i64.wrap (pickS t 5000 + o 0) - 0) = pickS t 5000 + o 0 := by rw [Int.sub_zero, e1]; exact w64_in (by omega) (by omega)
  have w3 : w64 (IntKind.i64.wrap (pickS t 5000 + IntKind.i64.wrap (2 * IntKind.i64.wrap (o 0 - uM o (pickS t 5000)))) - 0) = pickS t 5000 + 2 * (o 0 - uM o (pickS t 5000)) := by rw [Int.sub_zero, eb]; exact w64_in (by omega) (by omega)
  rw [w1, row_eq hv (by omega) (by omega)] at k20
  rw [w1, col_eq hv (by omega) (by omega)] at k22
  rw [w2, row_eq hv (by omega) (by omega), rowM_period] at k20'
  rw [w2, col_eq hv (by omega) (by omega), col_step] at k22'
  rw [w3, row_eq hv (by omega) (by omega), rowM_back hv] at k20b
  have t1 := hv.t1
  have t2 := hv.t2
  have hcm : 0 ≤ colM o (pickS t 5000) ∧ colM o (pickS t 5000) < 48000 := ⟨Int.emod_nonneg _ (by omega), Int.emod_lt_of_pos _ (by omega)⟩
  have hm := mul_rng hv (t := o 0) (by omega) (by omega)
  have g1 : IntKind.i64.wrap (o 5 * o 0) = o 5 * o 0 := w64_in (by omega) (by omega)
  have g2 : IntKind.i64.wrap (colM o (pickS t 5000) + o 5 * o 0) = colM o (pickS t 5000) + o 5 * o 0 := w64_in (by omega) (by omega)
  have g3 : arL (colM o (pickS t 5000) + o 5 * o 0) 48000 = (colM o (pickS t 5000) + o 5 * o 0) % 48000 := arL_eq (by omega) (by omega) (by omega) (by omega)
  refine ACalls.ofB Try.TT_ok Try.func5 rfl (by kernel_rfl) Try.mixed (Nat.le_of_ble_eq_true rfl) ?_
  intro F n' w0 m0 hG hro h1
  repeat' first
    | refine SPB.seq ?_
    | refine SPB.block ?_
    | refine SPB.draw hG Try.TT_ok Try.keep5 (by kernel_rfl) ?_
    | refine SPB.reg hG Try.TT_ok Try.keep5 (by kernel_rfl) ?_
    | refine SPB.skip hG Try.TT_ok ?_
    | refine SPB.label hG Try.TT_ok ?_
    | refine SPB.ret hG Try.TT_ok ?_
    | refine SPB.exit hG Try.TT_ok ?_
    | refine SPB.condT rfl ?_
    | refine SPB.condF rfl ?_
    | refine SPB.cond rfl (And.intro (fun h => ?_) (fun h => ?_))
    | (conv => whnf
       first
         | refine And.intro (fun h => Bool.noConfusion (h : false = true)) (fun _ => ?_)
         | refine And.intro (fun _ => ?_) (fun h => Bool.noConfusion (h : true = false))
         | refine And.intro (by kernel_rfl) ?_
         | refine And.intro (fun h => ?_) (fun h => ?_)
         | refine Or.inl ?_
         | fail)
  conv => whnf
  refine Exists.intro _ (And.intro (Try.c15) ?_)
  repeat' first
    | refine SPB.seq ?_
    | refine SPB.block ?_
    | refine SPB.draw hG Try.TT_ok Try.keep5 (by kernel_rfl) ?_
    | refine SPB.reg hG Try.TT_ok Try.keep5 (by kernel_rfl) ?_
    | refine SPB.skip hG Try.TT_ok ?_
    | refine SPB.label hG Try.TT_ok ?_
    | refine SPB.ret hG Try.TT_ok ?_
    | refine SPB.exit hG Try.TT_ok ?_
    | refine SPB.condT rfl ?_
    | refine SPB.condF rfl ?_
    | refine SPB.cond rfl (And.intro (fun h => ?_) (fun h => ?_))
    | (conv => whnf
       first
         | refine And.intro (fun h => Bool.noConfusion (h : false = true)) (fun _ => ?_)
         | refine And.intro (fun _ => ?_) (fun h => Bool.noConfusion (h : true = false))
         | refine And.intro (by kernel_rfl) ?_
         | refine And.intro (fun h => ?_) (fun h => ?_)
         | refine Or.inl ?_
         | fail)
  conv => whnf
  refine Exists.intro _ (And.intro (k16) ?_)
  repeat' first
    | refine SPB.seq ?_
    | refine SPB.block ?_
    | refine SPB.draw hG Try.TT_ok Try.keep5 (by kernel_rfl) ?_
    | refine SPB.reg hG Try.TT_ok Try.keep5 (by kernel_rfl) ?_
    | refine SPB.skip hG Try.TT_ok ?_
    | refine SPB.label hG Try.TT_ok ?_
    | refine SPB.ret hG Try.TT_ok ?_
    | refine SPB.exit hG Try.TT_ok ?_
    | refine SPB.condT rfl ?_
    | refine SPB.condF rfl ?_
    | refine SPB.cond rfl (And.intro (fun h => ?_) (fun h => ?_))
    | (conv => whnf
       first
         | refine And.intro (fun h => Bool.noConfusion (h : false = true)) (fun _ => ?_)
         | refine And.intro (fun _ => ?_) (fun h => Bool.noConfusion (h : true = false))
         | refine And.intro (by kernel_rfl) ?_
         | refine And.intro (fun h => ?_) (fun h => ?_)
         | refine Or.inl ?_
         | fail)
  conv => whnf
  refine Exists.intro _ (And.intro (Try.c19 t 5000 (by decide)) ?_)
  repeat' first
    | refine SPB.seq ?_
    | refine SPB.block ?_
    | refine SPB.draw hG Try.TT_ok Try.keep5 (by kernel_rfl) ?_
    | refine SPB.reg hG Try.TT_ok Try.keep5 (by kernel_rfl) ?_
    | refine SPB.skip hG Try.TT_ok ?_
    | refine SPB.label hG Try.TT_ok ?_
    | refine SPB.ret hG Try.TT_ok ?_
    | refine SPB.exit hG Try.TT_ok ?_
    | refine SPB.condT rfl ?_
    | refine SPB.condF rfl ?_
    | refine SPB.cond rfl (And.intro (fun h => ?_) (fun h => ?_))
    | (conv => whnf
       first
         | refine And.intro (fun h => Bool.noConfusion (h : false = true)) (fun _ => ?_)
         | refine And.intro (fun _ => ?_) (fun h => Bool.noConfusion (h : true = false))
         | refine And.intro (by kernel_rfl) ?_
         | refine And.intro (fun h => ?_) (fun h => ?_)
         | refine Or.inl ?_
         | fail)
  conv => whnf
  refine Exists.intro _ (And.intro (k20) ?_)
  repeat' first
    | refine SPB.seq ?_
    | refine SPB.block ?_
    | refine SPB.draw hG Try.TT_ok Try.keep5 (by kernel_rfl) ?_
    | refine SPB.reg hG Try.TT_ok Try.keep5 (by kernel_rfl) ?_
    | refine SPB.skip hG Try.TT_ok ?_
    | refine SPB.label hG Try.TT_ok ?_
    | refine SPB.ret hG Try.TT_ok ?_
    | refine SPB.exit hG Try.TT_ok ?_
    | refine SPB.condT rfl ?_
    | refine SPB.condF rfl ?_
    | refine SPB.cond rfl (And.intro (fun h => ?_) (fun h => ?_))
    | (conv => whnf
       first
         | refine And.intro (fun h => Bool.noConfusion (h : false = true)) (fun _ => ?_)
         | refine And.intro (fun _ => ?_) (fun h => Bool.noConfusion (h : true = false))
         | refine And.intro (by kernel_rfl) ?_
         | refine And.intro (fun h => ?_) (fun h => ?_)
         | refine Or.inl ?_
         | fail)
  conv => whnf
  refine Exists.intro _ (And.intro (k20') ?_)
  repeat' first
    | refine SPB.seq ?_
    | refine SPB.block ?_
    | refine SPB.draw hG Try.TT_ok Try.keep5 (by kernel_rfl) ?_
    | refine SPB.reg hG Try.TT_ok Try.keep5 (by kernel_rfl) ?_
    | refine SPB.skip hG Try.TT_ok ?_
    | refine SPB.label hG Try.TT_ok ?_
    | refine SPB.ret hG Try.TT_ok ?_
    | refine SPB.exit hG Try.TT_ok ?_
    | refine SPB.condT rfl ?_
    | refine SPB.condF rfl ?_
    | refine SPB.cond rfl (And.intro (fun h => ?_) (fun h => ?_))
    | (conv => whnf
       first
         | refine And.intro (fun h => Bool.noConfusion (h : false = true)) (fun _ => ?_)
         | refine And.intro (fun _ => ?_) (fun h => Bool.noConfusion (h : true = false))
         | refine And.intro (by kernel_rfl) ?_
         | refine And.intro (fun h => ?_) (fun h => ?_)
         | refine Or.inl ?_
         | fail)
  conv => whnf
  refine Exists.intro _ (And.intro (k22) ?_)
  repeat' first
    | refine SPB.seq ?_
    | refine SPB.block ?_
    | refine SPB.draw hG Try.TT_ok Try.keep5 (by kernel_rfl) ?_
    | refine SPB.reg hG Try.TT_ok Try.keep5 (by kernel_rfl) ?_
    | refine SPB.skip hG Try.TT_ok ?_
    | refine SPB.label hG Try.TT_ok ?_
    | refine SPB.ret hG Try.TT_ok ?_
    | refine SPB.exit hG Try.TT_ok ?_
    | refine SPB.condT rfl ?_
    | refine SPB.condF rfl ?_
    | refine SPB.cond rfl (And.intro (fun h => ?_) (fun h => ?_))
    | (conv => whnf
       first
         | refine And.intro (fun h => Bool.noConfusion (h : false = true)) (fun _ => ?_)
         | refine And.intro (fun _ => ?_) (fun h => Bool.noConfusion (h : true = false))
         | refine And.intro (by kernel_rfl) ?_
         | refine And.intro (fun h => ?_) (fun h => ?_)
         | refine Or.inl ?_
         | fail)
  conv => whnf
  refine Exists.intro _ (And.intro (k22') ?_)
  repeat' first
    | refine SPB.seq ?_
    | refine SPB.block ?_
    | refine SPB.draw hG Try.TT_ok Try.keep5 (by kernel_rfl) ?_
    | refine SPB.reg hG Try.TT_ok Try.keep5 (by kernel_rfl) ?_
    | refine SPB.skip hG Try.TT_ok ?_
    | refine SPB.label hG Try.TT_ok ?_
    | refine SPB.ret hG Try.TT_ok ?_
    | refine SPB.exit hG Try.TT_ok ?_
    | refine SPB.condT rfl ?_
    | refine SPB.condF rfl ?_
    | refine SPB.cond rfl (And.intro (fun h => ?_) (fun h => ?_))
    | (conv => whnf
       first
         | refine And.intro (fun h => Bool.noConfusion (h : false = true)) (fun _ => ?_)
         | refine And.intro (fun _ => ?_) (fun h => Bool.noConfusion (h : true = false))
         | refine And.intro (by kernel_rfl) ?_
         | refine And.intro (fun h => ?_) (fun h => ?_)
         | refine Or.inl ?_
         | fail)
  conv => whnf
  refine Exists.intro _ (And.intro (k33) ?_)
  repeat' first
    | refine SPB.seq ?_
    | refine SPB.block ?_
    | refine SPB.draw hG Try.TT_ok Try.keep5 (by kernel_rfl) ?_
    | refine SPB.reg hG Try.TT_ok Try.keep5 (by kernel_rfl) ?_
    | refine SPB.skip hG Try.TT_ok ?_
    | refine SPB.label hG Try.TT_ok ?_
    | refine SPB.ret hG Try.TT_ok ?_
    | refine SPB.exit hG Try.TT_ok ?_
    | refine SPB.condT rfl ?_
    | refine SPB.condF rfl ?_
    | refine SPB.cond rfl (And.intro (fun h => ?_) (fun h => ?_))
    | (conv => whnf
       first
         | refine And.intro (fun h => Bool.noConfusion (h : false = true)) (fun _ => ?_)
         | refine And.intro (fun _ => ?_) (fun h => Bool.noConfusion (h : true = false))
         | refine And.intro (by kernel_rfl) ?_
         | refine And.intro (fun h => ?_) (fun h => ?_)
         | refine Or.inl ?_
         | fail)
  conv => whnf
  refine Exists.intro _ (And.intro (k20b) ?_)
  repeat' first
    | refine SPB.seq ?_
    | refine SPB.block ?_
    | refine SPB.draw hG Try.TT_ok Try.keep5 (by kernel_rfl) ?_
    | refine SPB.reg hG Try.TT_ok Try.keep5 (by kernel_rfl) ?_
    | refine SPB.skip hG Try.TT_ok ?_
    | refine SPB.label hG Try.TT_ok ?_
    | refine SPB.ret hG Try.TT_ok ?_
    | refine SPB.exit hG Try.TT_ok ?_
    | refine SPB.condT rfl ?_
    | refine SPB.condF rfl ?_
    | refine SPB.cond rfl (And.intro (fun h => ?_) (fun h => ?_))
    | (conv => whnf
       first
         | refine And.intro (fun h => Bool.noConfusion (h : false = true)) (fun _ => ?_)
         | refine And.intro (fun _ => ?_) (fun h => Bool.noConfusion (h : true = false))
         | refine And.intro (by kernel_rfl) ?_
         | refine Exists.intro _ (And.intro (Try.c33 _ 48000 (by decide)) ?_)
         | refine And.intro (fun h => ?_) (fun h => ?_)
         | refine Or.inl ?_
         | fail)
  all_goals refine Ends.mk (Or.inl rfl) (AV.weak.of_eq (congrArg AV.bool ?_))
  all_goals (clear hG k20 k20' k22 k22' k16 k20b k33)
  all_goals (simp only [g1, g2, g3, beq_self_eq_true, Bool.true_eq_false] at *)
end Go.Proofs


namespace Go.Proofs
open Go Go.AI Go.Proofs.Ytoccmkmnkoldmaa
set_option maxRecDepth 100000
theorem Try.own : ownKnob Try.prog.godebug = none := by kernel_rfl
theorem Try.laidOut : laidOutB Try.prog = true := by kernel_rfl
theorem Try.reads22 : (Try.prog.readableRec 22 && Nat.blt 22 Try.prog.types.size) = true := by kernel_rfl
theorem Try.reads3 : (Try.prog.readableRec 3 && Nat.blt 3 Try.prog.types.size) = true := by kernel_rfl
def seven0 : Value := .agg #[.int .i64 0, .int .i64 0, .int .i64 0, .int .i64 0, .int .i64 0, .int .i64 0, .int .i64 0]
def sevenSh : List Sh := [.int .i64, .int .i64, .int .i64, .int .i64, .int .i64, .int .i64, .int .i64]
def lawSh : List (Bool × List Sh) := [(true, sevenSh), (false, [.int .i64])]
theorem Try.shs : paramSh Try.prog 8 [22, 3] = some lawSh := by kernel_rfl
theorem Try.lifted (law : ∀ avs, PArgs 8 lawSh avs → ACalls Try.prog 5 avs (.bool true)) (os : Os) (started : os.Started) (H : Type) (enc : TypeId × Value → H) :
    ReturnsInHanded {} Try.checked os 5 .any (Rows.orbitReturnsSpec.pre6 enc Try.prog Try.f5 Rows.orbitReturnsRow.domain false) (Rows.orbitReturnsSpec.post enc Try.prog Try.f5 false true false false) :=
  law_lifted (C := Try.checked) (tb := 4) Try.own started (by kernel_rfl) Try.func5
    (ChangeSpec.witness6 (enc := enc) (C := Try.checked) false ⟨#[], #[seven0, .int .i64 0], []⟩ 8 (by kernel_rfl) (by kernel_rfl) (by kernel_rfl) (by kernel_rfl))
    rfl (by kernel_rfl) (by kernel_rfl) (fun ds h => by
      match ds, h with
      | [d, d0], _ => rfl) Try.shs Try.laidOut (fun t ht => by
      have e : Try.f5.params.toList = [22, 3] := by kernel_rfl
      rw [e] at ht
      simp only [List.mem_cons, List.not_mem_nil, or_false] at ht
      have h22 := Try.reads22
      have h3 := Try.reads3
      simp only [Bool.and_eq_true] at h22 h3
      have g : t = 22 ∨ t = 3 := by rcases ht with h | h <;> first | exact .inl h | exact .inr h
      rcases g with rfl | rfl
      · exact ⟨h22.1, Nat.le_of_ble_eq_true h22.2⟩
      · exact ⟨h3.1, Nat.le_of_ble_eq_true h3.2⟩) law
theorem Try.row (law : ∀ avs, PArgs 8 lawSh avs → ACalls Try.prog 5 avs (.bool true)) : Rows.OrbitReturnsSaid :=
  OpenClaim.holds_of_wide (p := Try.pinned) (s := Rows.orbitReturnsSpec) (c := Rows.orbitReturnsRow) 5 Try.f5 rfl rfl rfl rfl rfl rfl rfl ⟨rfl, rfl, rfl, rfl, rfl⟩ rfl rfl rfl rfl rfl (by kernel_rfl) Try.func5 (by kernel_rfl)
    (of_decide_eq_true (by kernel_rfl)) (by unfold Func.isWrapper; first | (rw [if_pos (by decide +kernel)]; kernel_rfl) | (rw [if_neg (by decide +kernel)]; exact ⟨rfl, rfl⟩))
    (fun os started H enc _ => Try.lifted law os started H enc)
theorem pargs_agg {n : Nat} {L : List Sh} {r : List (Bool × List Sh)} {avs : List AV} (h : PArgs n ((true, L) :: r) avs) : ∃ cs q, avs = .agg cs :: q ∧ Fa (ShOK n) L cs ∧ PArgs n r q := by
  match avs, h with
  | _ :: q, h =>
    obtain ⟨⟨cs, rfl, h1⟩, h2⟩ := h
    exact ⟨cs, q, rfl, h1, h2⟩
  | [], h => exact h.elim
theorem pargs_int {n : Nat} {r : List (Bool × List Sh)} {avs : List AV} (h : PArgs (n + 1) ((false, [.int .i64]) :: r) avs) : ∃ z q, avs = .int .i64 z :: q ∧ inI z ∧ PArgs (n + 1) r q := by
  match avs, h with
  | _ :: q, h =>
    obtain ⟨⟨s, e, h1⟩, h2⟩ := h
    cases e
    obtain ⟨z, rfl, hz⟩ := int_inv h1
    exact ⟨z, q, rfl, hz, h2⟩
  | [], h => exact h.elim
theorem pargs_nil {n : Nat} {avs : List AV} (h : PArgs n [] avs) : avs = [] := by
  match avs, h with
  | [], _ => rfl
  | _ :: _, h => exact h.elim
end Go.Proofs
namespace Go.Proofs.Ytoccmkmnkoldmaa
open Go Go.AI
/-- OrbitReturns answers true, whatever the input. -/
theorem orbitReturns : Rows.OrbitReturnsSaid := Try.row fun avs h => by
  obtain ⟨cs, q, rfl, h1, h⟩ := pargs_agg h
  obtain ⟨z0, q, rfl, i0, h⟩ := pargs_int h
  obtain rfl := pargs_nil h
  obtain ⟨x, hx, rfl⟩ := seven_of h1
  exact Go.Proofs.Try.x5 x z0 hx i0
end Go.Proofs.Ytoccmkmnkoldmaa


