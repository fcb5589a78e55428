/- The law OrbitDelays: its function answers true at every input. No condition. -/
import Derived.Test.YtoccmkmnkoldmaaConB
import Derived.Test.YtoccmkmnkoldmaaRows
set_option linter.unusedSectionVars false
set_option linter.unusedVariables false
set_option linter.unusedSimpArgs false
namespace Go.Proofs
open Go Go.AI
set_option maxRecDepth 10000
set_option linter.unusedSimpArgs false

set_option maxHeartbeats 4000000 in
theorem Try.x4 (x : Nat → Int) (t late : Int) (hx : ∀ i, inI (x i)) (ht : inI t) (hl : inI late) : ACalls Try.prog 4 [.agg (orbA x), .int .i64 t, .int .i64 late] (.bool true) := by
  obtain ⟨hv, _⟩ := made_pv hx
  have p1 := pick_rng ht (n := 5000) (by omega)
  have p2 := pick_rng hl (n := 21) (by omega)
  have e1 : IntKind.i64.wrap (20 + pickS t 5000) = 20 + pickS t 5000 := w64_in (by omega) (by omega)
  have e2 : IntKind.i64.wrap (pickS late 21 - 10) = pickS late 21 - 10 := w64_in (by omega) (by omega)
  generalize ha : IntKind.i64.wrap (20 + pickS t 5000) = a at e1
  generalize hd : IntKind.i64.wrap (pickS late 21 - 10) = d at e2
  have e3 : IntKind.i64.wrap (a - d) = a - d := w64_in (by omega) (by omega)
  generalize hc : IntKind.i64.wrap (a - d) = c at e3
  have v1 := atS_ok hv (t := a) (late := d) (by omega) (by omega) (by omega) (by omega)
  have v2 := atS_ok hv (t := c) (late := 0) (by omega) (by omega) (by omega) (by omega)
  have w1 : w64 (a - d) = c := hc
  have w2 : w64 (c - 0) = c := by rw [Int.sub_zero]; exact w64_in (by omega) (by omega)
  have k20 := Try.c20 (madeO x) a d v1
  have k20' := Try.c20 (madeO x) c 0 v2
  have k22 := Try.c22 (madeO x) a d v1
  have k22' := Try.c22 (madeO x) c 0 v2
  have k24 := Try.c24 (madeO x) a d v1
  have k24' := Try.c24 (madeO x) c 0 v2
  rw [w1] at k20 k22 k24
  rw [w2] at k20' k22' k24'
  subst hc; subst ha; subst hd
  refine ACalls.ofB Try.TT_ok Try.func4 rfl (by kernel_rfl) Try.mixed (Nat.le_of_ble_eq_true rfl) ?_
  intro F n' w0 m0 hG hro h1
  have k16 := Try.c16 x (made_ne hx)
  repeat' first
    | refine SPB.seq ?_
    | refine SPB.block ?_
    | refine SPB.draw hG Try.TT_ok Try.keep4 (by kernel_rfl) ?_
    | refine SPB.reg hG Try.TT_ok Try.keep4 (by kernel_rfl) ?_
    | refine SPB.skip hG Try.TT_ok ?_
    | refine SPB.label hG Try.TT_ok ?_
    | refine SPB.ret hG Try.TT_ok ?_
    | refine SPB.exit hG Try.TT_ok ?_
    | refine SPB.condT rfl ?_
    | refine SPB.condF rfl ?_
    | refine SPB.cond rfl (And.intro (fun h => ?_) (fun h => ?_))
    | (conv => whnf
       first
         | refine And.intro (fun h => Bool.noConfusion (h : false = true)) (fun _ => ?_)
         | refine And.intro (fun _ => ?_) (fun h => Bool.noConfusion (h : true = false))
         | refine And.intro (by kernel_rfl) ?_
         | refine And.intro (by decide) ?_
         | refine And.intro (fun h => ?_) (fun h => ?_)
         | refine Or.inl ?_
         | fail)
  conv => whnf
  refine Exists.intro _ (And.intro (Try.c15) ?_)
  repeat' first
    | refine SPB.seq ?_
    | refine SPB.block ?_
    | refine SPB.draw hG Try.TT_ok Try.keep4 (by kernel_rfl) ?_
    | refine SPB.reg hG Try.TT_ok Try.keep4 (by kernel_rfl) ?_
    | refine SPB.skip hG Try.TT_ok ?_
    | refine SPB.label hG Try.TT_ok ?_
    | refine SPB.ret hG Try.TT_ok ?_
    | refine SPB.exit hG Try.TT_ok ?_
    | refine SPB.condT rfl ?_
    | refine SPB.condF rfl ?_
    | refine SPB.cond rfl (And.intro (fun h => ?_) (fun h => ?_))
    | (conv => whnf
       first
         | refine And.intro (fun h => Bool.noConfusion (h : false = true)) (fun _ => ?_)
         | refine And.intro (fun _ => ?_) (fun h => Bool.noConfusion (h : true = false))
         | refine And.intro (by kernel_rfl) ?_
         | refine And.intro (by decide) ?_
         | refine And.intro (fun h => ?_) (fun h => ?_)
         | refine Or.inl ?_
         | fail)
  conv => whnf
  refine Exists.intro _ (And.intro (k16) ?_)
  repeat' first
    | refine SPB.seq ?_
    | refine SPB.block ?_
    | refine SPB.draw hG Try.TT_ok Try.keep4 (by kernel_rfl) ?_
    | refine SPB.reg hG Try.TT_ok Try.keep4 (by kernel_rfl) ?_
    | refine SPB.skip hG Try.TT_ok ?_
    | refine SPB.label hG Try.TT_ok ?_
    | refine SPB.ret hG Try.TT_ok ?_
    | refine SPB.exit hG Try.TT_ok ?_
    | refine SPB.condT rfl ?_
    | refine SPB.condF rfl ?_
    | refine SPB.cond rfl (And.intro (fun h => ?_) (fun h => ?_))
    | (conv => whnf
       first
         | refine And.intro (fun h => Bool.noConfusion (h : false = true)) (fun _ => ?_)
         | refine And.intro (fun _ => ?_) (fun h => Bool.noConfusion (h : true = false))
         | refine And.intro (by kernel_rfl) ?_
         | refine And.intro (by decide) ?_
         | refine And.intro (fun h => ?_) (fun h => ?_)
         | refine Or.inl ?_
         | fail)
  conv => whnf
  refine Exists.intro _ (And.intro (Try.c19 t 5000 (by decide)) ?_)
  repeat' first
    | refine SPB.seq ?_
    | refine SPB.block ?_
    | refine SPB.draw hG Try.TT_ok Try.keep4 (by kernel_rfl) ?_
    | refine SPB.reg hG Try.TT_ok Try.keep4 (by kernel_rfl) ?_
    | refine SPB.skip hG Try.TT_ok ?_
    | refine SPB.label hG Try.TT_ok ?_
    | refine SPB.ret hG Try.TT_ok ?_
    | refine SPB.exit hG Try.TT_ok ?_
    | refine SPB.condT rfl ?_
    | refine SPB.condF rfl ?_
    | refine SPB.cond rfl (And.intro (fun h => ?_) (fun h => ?_))
    | (conv => whnf
       first
         | refine And.intro (fun h => Bool.noConfusion (h : false = true)) (fun _ => ?_)
         | refine And.intro (fun _ => ?_) (fun h => Bool.noConfusion (h : true = false))
         | refine And.intro (by kernel_rfl) ?_
         | refine And.intro (by decide) ?_
         | refine And.intro (fun h => ?_) (fun h => ?_)
         | refine Or.inl ?_
         | fail)
  conv => whnf
  refine Exists.intro _ (And.intro (Try.c19 late 21 (by decide)) ?_)
  repeat' first
    | refine SPB.seq ?_
    | refine SPB.block ?_
    | refine SPB.draw hG Try.TT_ok Try.keep4 (by kernel_rfl) ?_
    | refine SPB.reg hG Try.TT_ok Try.keep4 (by kernel_rfl) ?_
    | refine SPB.skip hG Try.TT_ok ?_
    | refine SPB.label hG Try.TT_ok ?_
    | refine SPB.ret hG Try.TT_ok ?_
    | refine SPB.exit hG Try.TT_ok ?_
    | refine SPB.condT rfl ?_
    | refine SPB.condF rfl ?_
    | refine SPB.cond rfl (And.intro (fun h => ?_) (fun h => ?_))
    | (conv => whnf
       first
         | refine And.intro (fun h => Bool.noConfusion (h : false = true)) (fun _ => ?_)
         | refine And.intro (fun _ => ?_) (fun h => Bool.noConfusion (h : true = false))
         | refine And.intro (by kernel_rfl) ?_
         | refine And.intro (by decide) ?_
         | refine And.intro (fun h => ?_) (fun h => ?_)
         | refine Or.inl ?_
         | fail)
  conv => whnf
  refine Exists.intro _ (And.intro (k20) ?_)
  repeat' first
    | refine SPB.seq ?_
    | refine SPB.block ?_
    | refine SPB.draw hG Try.TT_ok Try.keep4 (by kernel_rfl) ?_
    | refine SPB.reg hG Try.TT_ok Try.keep4 (by kernel_rfl) ?_
    | refine SPB.skip hG Try.TT_ok ?_
    | refine SPB.label hG Try.TT_ok ?_
    | refine SPB.ret hG Try.TT_ok ?_
    | refine SPB.exit hG Try.TT_ok ?_
    | refine SPB.condT rfl ?_
    | refine SPB.condF rfl ?_
    | refine SPB.cond rfl (And.intro (fun h => ?_) (fun h => ?_))
    | (conv => whnf
       first
         | refine And.intro (fun h => Bool.noConfusion (h : false = true)) (fun _ => ?_)
         | refine And.intro (fun _ => ?_) (fun h => Bool.noConfusion (h : true = false))
         | refine And.intro (by kernel_rfl) ?_
         | refine And.intro (by decide) ?_
         | refine And.intro (fun h => ?_) (fun h => ?_)
         | refine Or.inl ?_
         | fail)
  conv => whnf
  refine Exists.intro _ (And.intro (k20') ?_)
  repeat' first
    | refine SPB.seq ?_
    | refine SPB.block ?_
    | refine SPB.draw hG Try.TT_ok Try.keep4 (by kernel_rfl) ?_
    | refine SPB.reg hG Try.TT_ok Try.keep4 (by kernel_rfl) ?_
    | refine SPB.skip hG Try.TT_ok ?_
    | refine SPB.label hG Try.TT_ok ?_
    | refine SPB.ret hG Try.TT_ok ?_
    | refine SPB.exit hG Try.TT_ok ?_
    | refine SPB.condT rfl ?_
    | refine SPB.condF rfl ?_
    | refine SPB.cond rfl (And.intro (fun h => ?_) (fun h => ?_))
    | (conv => whnf
       first
         | refine And.intro (fun h => Bool.noConfusion (h : false = true)) (fun _ => ?_)
         | refine And.intro (fun _ => ?_) (fun h => Bool.noConfusion (h : true = false))
         | refine And.intro (by kernel_rfl) ?_
         | refine And.intro (by decide) ?_
         | refine And.intro (fun h => ?_) (fun h => ?_)
         | refine Or.inl ?_
         | fail)
  conv => whnf
  refine Exists.intro _ (And.intro (k22) ?_)
  repeat' first
    | refine SPB.seq ?_
    | refine SPB.block ?_
    | refine SPB.draw hG Try.TT_ok Try.keep4 (by kernel_rfl) ?_
    | refine SPB.reg hG Try.TT_ok Try.keep4 (by kernel_rfl) ?_
    | refine SPB.skip hG Try.TT_ok ?_
    | refine SPB.label hG Try.TT_ok ?_
    | refine SPB.ret hG Try.TT_ok ?_
    | refine SPB.exit hG Try.TT_ok ?_
    | refine SPB.condT rfl ?_
    | refine SPB.condF rfl ?_
    | refine SPB.cond rfl (And.intro (fun h => ?_) (fun h => ?_))
    | (conv => whnf
       first
         | refine And.intro (fun h => Bool.noConfusion (h : false = true)) (fun _ => ?_)
         | refine And.intro (fun _ => ?_) (fun h => Bool.noConfusion (h : true = false))
         | refine And.intro (by kernel_rfl) ?_
         | refine And.intro (by decide) ?_
         | refine And.intro (fun h => ?_) (fun h => ?_)
         | refine Or.inl ?_
         | fail)
  conv => whnf
  refine Exists.intro _ (And.intro (k22') ?_)
  repeat' first
    | refine SPB.seq ?_
    | refine SPB.block ?_
    | refine SPB.draw hG Try.TT_ok Try.keep4 (by kernel_rfl) ?_
    | refine SPB.reg hG Try.TT_ok Try.keep4 (by kernel_rfl) ?_
    | refine SPB.skip hG Try.TT_ok ?_
    | refine SPB.label hG Try.TT_ok ?_
    | refine SPB.ret hG Try.TT_ok ?_
    | refine SPB.exit hG Try.TT_ok ?_
    | refine SPB.condT rfl ?_
    | refine SPB.condF rfl ?_
    | refine SPB.cond rfl (And.intro (fun h => ?_) (fun h => ?_))
    | (conv => whnf
       first
         | refine And.intro (fun h => Bool.noConfusion (h : false = true)) (fun _ => ?_)
         | refine And.intro (fun _ => ?_) (fun h => Bool.noConfusion (h : true = false))
         | refine And.intro (by kernel_rfl) ?_
         | refine And.intro (by decide) ?_
         | refine And.intro (fun h => ?_) (fun h => ?_)
         | refine Or.inl ?_
         | fail)
  conv => whnf
  refine Exists.intro _ (And.intro (k24) ?_)
  repeat' first
    | refine SPB.seq ?_
    | refine SPB.block ?_
    | refine SPB.draw hG Try.TT_ok Try.keep4 (by kernel_rfl) ?_
    | refine SPB.reg hG Try.TT_ok Try.keep4 (by kernel_rfl) ?_
    | refine SPB.skip hG Try.TT_ok ?_
    | refine SPB.label hG Try.TT_ok ?_
    | refine SPB.ret hG Try.TT_ok ?_
    | refine SPB.exit hG Try.TT_ok ?_
    | refine SPB.condT rfl ?_
    | refine SPB.condF rfl ?_
    | refine SPB.cond rfl (And.intro (fun h => ?_) (fun h => ?_))
    | (conv => whnf
       first
         | refine And.intro (fun h => Bool.noConfusion (h : false = true)) (fun _ => ?_)
         | refine And.intro (fun _ => ?_) (fun h => Bool.noConfusion (h : true = false))
         | refine And.intro (by kernel_rfl) ?_
         | refine And.intro (by decide) ?_
         | refine And.intro (fun h => ?_) (fun h => ?_)
         | refine Or.inl ?_
         | fail)
  conv => whnf
  refine Exists.intro _ (And.intro (k24') ?_)
  repeat' first
    | refine SPB.seq ?_
    | refine SPB.block ?_
    | refine SPB.draw hG Try.TT_ok Try.keep4 (by kernel_rfl) ?_
    | refine SPB.reg hG Try.TT_ok Try.keep4 (by kernel_rfl) ?_
    | refine SPB.skip hG Try.TT_ok ?_
    | refine SPB.label hG Try.TT_ok ?_
    | refine SPB.ret hG Try.TT_ok ?_
    | refine SPB.exit hG Try.TT_ok ?_
    | refine SPB.condT rfl ?_
    | refine SPB.condF rfl ?_
    | refine SPB.cond rfl (And.intro (fun h => ?_) (fun h => ?_))
    | (conv => whnf
       first
         | refine And.intro (fun h => Bool.noConfusion (h : false = true)) (fun _ => ?_)
         | refine And.intro (fun _ => ?_) (fun h => Bool.noConfusion (h : true = false))
         | refine And.intro (by kernel_rfl) ?_
         | refine And.intro (by decide) ?_
         | refine And.intro (fun h => ?_) (fun h => ?_)
         | refine Or.inl ?_
         | fail)
  all_goals refine Ends.mk (Or.inl rfl) (AV.weak.of_eq (congrArg AV.bool ?_))
  all_goals clear hG hro h1 k20 k20' k22 k22' k24 k24' k16 v1 v2
  all_goals first
    | rfl
    | (simp only [celW, w64, beq_self_eq_true, Bool.true_and, Bool.and_self, Bool.true_eq_false] at *; done)
    | (simp [celW, w64])
    | (exfalso; simp [celW, w64] at *; done)
end Go.Proofs


namespace Go.Proofs
open Go Go.AI Go.Proofs.Ytoccmkmnkoldmaa
set_option maxRecDepth 100000
theorem Try.own : ownKnob Try.prog.godebug = none := by kernel_rfl
theorem Try.laidOut : laidOutB Try.prog = true := by kernel_rfl
theorem Try.reads22 : (Try.prog.readableRec 22 && Nat.blt 22 Try.prog.types.size) = true := by kernel_rfl
theorem Try.reads3 : (Try.prog.readableRec 3 && Nat.blt 3 Try.prog.types.size) = true := by kernel_rfl
def seven0 : Value := .agg #[.int .i64 0, .int .i64 0, .int .i64 0, .int .i64 0, .int .i64 0, .int .i64 0, .int .i64 0]
def sevenSh : List Sh := [.int .i64, .int .i64, .int .i64, .int .i64, .int .i64, .int .i64, .int .i64]
def lawSh : List (Bool × List Sh) := [(true, sevenSh), (false, [.int .i64]), (false, [.int .i64])]
theorem Try.shs : paramSh Try.prog 8 [22, 3, 3] = some lawSh := by kernel_rfl
theorem Try.lifted (law : ∀ avs, PArgs 8 lawSh avs → ACalls Try.prog 4 avs (.bool true)) (os : Os) (started : os.Started) (H : Type) (enc : TypeId × Value → H) :
    ReturnsInHanded {} Try.checked os 4 .any (Rows.orbitDelaysSpec.pre6 enc Try.prog Try.f4 Rows.orbitDelaysRow.domain false) (Rows.orbitDelaysSpec.post enc Try.prog Try.f4 false true false false) :=
  law_lifted (C := Try.checked) (tb := 4) Try.own started (by kernel_rfl) Try.func4
    (ChangeSpec.witness6 (enc := enc) (C := Try.checked) false ⟨#[], #[seven0, .int .i64 0, .int .i64 0], []⟩ 8 (by kernel_rfl) (by kernel_rfl) (by kernel_rfl) (by kernel_rfl))
    rfl (by kernel_rfl) (by kernel_rfl) (fun ds h => by
      match ds, h with
      | [d, d0, d1], _ => rfl) Try.shs Try.laidOut (fun t ht => by
      have e : Try.f4.params.toList = [22, 3, 3] := by kernel_rfl
      rw [e] at ht
      simp only [List.mem_cons, List.not_mem_nil, or_false] at ht
      have h22 := Try.reads22
      have h3 := Try.reads3
      simp only [Bool.and_eq_true] at h22 h3
      have g : t = 22 ∨ t = 3 := by rcases ht with h | h | h <;> first | exact .inl h | exact .inr h
      rcases g with rfl | rfl
      · exact ⟨h22.1, Nat.le_of_ble_eq_true h22.2⟩
      · exact ⟨h3.1, Nat.le_of_ble_eq_true h3.2⟩) law
theorem Try.row (law : ∀ avs, PArgs 8 lawSh avs → ACalls Try.prog 4 avs (.bool true)) : Rows.OrbitDelaysSaid :=
  OpenClaim.holds_of_wide (p := Try.pinned) (s := Rows.orbitDelaysSpec) (c := Rows.orbitDelaysRow) 4 Try.f4 rfl rfl rfl rfl rfl rfl rfl ⟨rfl, rfl, rfl, rfl, rfl⟩ rfl rfl rfl rfl rfl (by kernel_rfl) Try.func4 (by kernel_rfl)
    (of_decide_eq_true (by kernel_rfl)) (by unfold Func.isWrapper; first | (rw [if_pos (by decide +kernel)]; kernel_rfl) | (rw [if_neg (by decide +kernel)]; exact ⟨rfl, rfl⟩))
    (fun os started H enc _ => Try.lifted law os started H enc)
theorem pargs_agg {n : Nat} {L : List Sh} {r : List (Bool × List Sh)} {avs : List AV} (h : PArgs n ((true, L) :: r) avs) : ∃ cs q, avs = .agg cs :: q ∧ Fa (ShOK n) L cs ∧ PArgs n r q := by
  match avs, h with
  | _ :: q, h =>
    obtain ⟨⟨cs, rfl, h1⟩, h2⟩ := h
    exact ⟨cs, q, rfl, h1, h2⟩
  | [], h => exact h.elim
theorem pargs_int {n : Nat} {r : List (Bool × List Sh)} {avs : List AV} (h : PArgs (n + 1) ((false, [.int .i64]) :: r) avs) : ∃ z q, avs = .int .i64 z :: q ∧ inI z ∧ PArgs (n + 1) r q := by
  match avs, h with
  | _ :: q, h =>
    obtain ⟨⟨s, e, h1⟩, h2⟩ := h
    cases e
    obtain ⟨z, rfl, hz⟩ := int_inv h1
    exact ⟨z, q, rfl, hz, h2⟩
  | [], h => exact h.elim
theorem pargs_nil {n : Nat} {avs : List AV} (h : PArgs n [] avs) : avs = [] := by
  match avs, h with
  | [], _ => rfl
  | _ :: _, h => exact h.elim
end Go.Proofs
namespace Go.Proofs.Ytoccmkmnkoldmaa
open Go Go.AI
/-- OrbitDelays answers true, whatever the input. -/
theorem orbitDelays : Rows.OrbitDelaysSaid := Try.row fun avs h => by
  obtain ⟨cs, q, rfl, h1, h⟩ := pargs_agg h
  obtain ⟨z0, q, rfl, i0, h⟩ := pargs_int h
  obtain ⟨z1, q, rfl, i1, h⟩ := pargs_int h
  obtain rfl := pargs_nil h
  obtain ⟨x, hx, rfl⟩ := seven_of h1
  exact Go.Proofs.Try.x4 x z0 z1 hx i0 i1
end Go.Proofs.Ytoccmkmnkoldmaa


