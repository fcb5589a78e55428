/- PointingWorst answers true, whatever the input; no condition. -/
import Derived.Test.YtjeopncbnlfplaaPl
import Derived.Test.YtjeopncbnlfplaaRows
set_option linter.unusedSectionVars false
set_option linter.unusedVariables false
set_option linter.unusedSimpArgs false
namespace Go.Proofs
open Go Go.AI
set_option maxRecDepth 10000
set_option linter.unusedSimpArgs false

def Case.of2 (c : Case) (a : Int) : Int := w64 (c.a + pickS a (w64 (c.b - c.a)))
def Case.to2 (c : Case) (a b : Int) : Int := w64 (w64 (c.of2 a + 1) + pickS b (w64 (c.b - c.of2 a)))
set_option maxHeartbeats 8000000 in
theorem Try.x5 (c : Case) (hc : c.ok) (p q : Int) (hp : inI p) (hq : inI q) : ACalls Try.prog 5 [.agg c.A, .int .i64 p, .int .i64 q] (.bool true) := by
  have hr := Case.rng hc
  have hlen := c.len
  have hval := Case.val hc
  have hH := HotOK.of hval
  have hne : w64 (c.b - c.a) ≠ 0 := by rw [hr.2.2.2.2]; omega
  have lf := Case.lf_eq hc hp
  have ef : c.of2 p = c.lf p := rfl
  have wd : w64 (c.b - c.of2 p) = c.b - c.of2 p := w64_in (by omega) (by omega)
  have hne2 : w64 (c.b - c.of2 p) ≠ 0 := by omega
  have pq := pick_rng hq (n := w64 (c.b - c.of2 p)) (by omega)
  have et : c.to2 p q = c.of2 p + 1 + pickS q (w64 (c.b - c.of2 p)) := by
    unfold Case.to2
    rw [w64_in (n := c.of2 p + 1) (by omega) (by omega), w64_in (by omega) (by omega)]
  obtain ⟨i1, k1, hik, hkn, ebf, ebt, emo, best⟩ := worst_facts hH (a := c.a) (b := c.b) (by omega) (by omega) (by omega)
  have kW := Try.c27 c.s c.l c.a c.b (by omega) (Case.span hc) hval
  generalize (worstRun c.a (gainsL c.s c.l c.a c.b)).bf = bf at *
  generalize (worstRun c.a (gainsL c.s c.l c.a c.b)).bt = bt at *
  have k1s := Try.c25 c.s c.l bf bt (by omega) (span_of (by omega) (by omega) (by omega) (by omega)) hval
  have k2s := Try.c25 c.s c.l (c.of2 p) (c.to2 p q) (by omega) (span_of (by omega) (by omega) (by omega) (by omega)) hval
  obtain ⟨i2, hi2⟩ : ∃ i2 : Nat, c.of2 p = c.a + i2 := ⟨(c.of2 p - c.a).toNat, by omega⟩
  obtain ⟨k2, hk2⟩ : ∃ k2 : Nat, c.to2 p q = c.a + k2 := ⟨(c.to2 p q - c.a).toNat, by omega⟩
  have s1 := window_at hH (a := c.a) (i := i1) (k := k1) (by omega) (by omega)
  have s2 := window_at hH (a := c.a) (i := i2) (k := k2) (by omega) (by omega)
  rw [← hi2, ← hk2] at s2
  rw [← ebf, ← ebt] at s1
  have hb := best i2 k2 (by omega) (by omega)
  rw [← s2] at hb
  rw [← s1] at emo
  generalize sumRun (gainsL c.s c.l bf bt) = n1 at *
  generalize sumRun (gainsL c.s c.l (c.of2 p) (c.to2 p q)) = n2 at *
  generalize (worstRun c.a (gainsL c.s c.l c.a c.b)).most = mo at *
  have e1 : IntKind.i64.wrap (c.a + pickS p (w64 (c.b - c.a))) = c.a + i2 := hi2
  have e2 : IntKind.i64.wrap (IntKind.i64.wrap (c.a + i2 + 1) + pickS q (w64 (c.b - c.of2 p))) = c.a + k2 := by rw [← e1]; exact hk2
  refine ACalls.ofB Try.TT_ok Try.func5 rfl (by kernel_rfl) Try.mixed (Nat.le_of_ble_eq_true rfl) ?_
  intro F n' w0 m0 hG hro h1
  repeat' first
    | refine SPB.seq ?_
    | refine SPB.block ?_
    | refine SPB.draw hG Try.TT_ok Try.keep5 (by kernel_rfl) ?_
    | refine SPB.reg hG Try.TT_ok Try.keep5 (by kernel_rfl) ?_
    | refine SPB.skip hG Try.TT_ok ?_
    | refine SPB.label hG Try.TT_ok ?_
    | refine SPB.ret hG Try.TT_ok ?_
    | refine SPB.exit hG Try.TT_ok ?_
    | refine SPB.condT rfl ?_
    | refine SPB.condF rfl ?_
    | refine SPB.cond rfl (And.intro (fun h => ?_) (fun h => ?_))
    | (conv => whnf
       first
         | refine And.intro (fun h => Bool.noConfusion (h : false = true)) (fun _ => ?_)
         | refine And.intro (fun _ => ?_) (fun h => Bool.noConfusion (h : true = false))
         | refine And.intro (by kernel_rfl) ?_
         | refine And.intro (fun h => ?_) (fun h => ?_)
         | fail)
  conv => whnf
  refine Exists.intro _ (And.intro (Try.c11) ?_)
  repeat' first
    | refine SPB.seq ?_
    | refine SPB.block ?_
    | refine SPB.draw hG Try.TT_ok Try.keep5 (by kernel_rfl) ?_
    | refine SPB.reg hG Try.TT_ok Try.keep5 (by kernel_rfl) ?_
    | refine SPB.skip hG Try.TT_ok ?_
    | refine SPB.label hG Try.TT_ok ?_
    | refine SPB.ret hG Try.TT_ok ?_
    | refine SPB.exit hG Try.TT_ok ?_
    | refine SPB.condT rfl ?_
    | refine SPB.condF rfl ?_
    | refine SPB.cond rfl (And.intro (fun h => ?_) (fun h => ?_))
    | (conv => whnf
       first
         | refine And.intro (fun h => Bool.noConfusion (h : false = true)) (fun _ => ?_)
         | refine And.intro (fun _ => ?_) (fun h => Bool.noConfusion (h : true = false))
         | refine And.intro (by kernel_rfl) ?_
         | refine And.intro (fun h => ?_) (fun h => ?_)
         | fail)
  conv => whnf
  refine Exists.intro _ (And.intro (Try.c12 c hc) ?_)
  repeat' first
    | refine SPB.seq ?_
    | refine SPB.block ?_
    | refine SPB.draw hG Try.TT_ok Try.keep5 (by kernel_rfl) ?_
    | refine SPB.reg hG Try.TT_ok Try.keep5 (by kernel_rfl) ?_
    | refine SPB.skip hG Try.TT_ok ?_
    | refine SPB.label hG Try.TT_ok ?_
    | refine SPB.ret hG Try.TT_ok ?_
    | refine SPB.exit hG Try.TT_ok ?_
    | refine SPB.condT rfl ?_
    | refine SPB.condF rfl ?_
    | refine SPB.cond rfl (And.intro (fun h => ?_) (fun h => ?_))
    | (conv => whnf
       first
         | refine And.intro (fun h => Bool.noConfusion (h : false = true)) (fun _ => ?_)
         | refine And.intro (fun _ => ?_) (fun h => Bool.noConfusion (h : true = false))
         | refine And.intro (by kernel_rfl) ?_
         | refine And.intro (fun h => ?_) (fun h => ?_)
         | fail)
  conv => whnf
  refine Exists.intro _ (And.intro (kW) ?_)
  repeat' first
    | refine SPB.seq ?_
    | refine SPB.block ?_
    | refine SPB.draw hG Try.TT_ok Try.keep5 (by kernel_rfl) ?_
    | refine SPB.reg hG Try.TT_ok Try.keep5 (by kernel_rfl) ?_
    | refine SPB.skip hG Try.TT_ok ?_
    | refine SPB.label hG Try.TT_ok ?_
    | refine SPB.ret hG Try.TT_ok ?_
    | refine SPB.exit hG Try.TT_ok ?_
    | refine SPB.condT rfl ?_
    | refine SPB.condF rfl ?_
    | refine SPB.cond rfl (And.intro (fun h => ?_) (fun h => ?_))
    | (conv => whnf
       first
         | refine And.intro (fun h => Bool.noConfusion (h : false = true)) (fun _ => ?_)
         | refine And.intro (fun _ => ?_) (fun h => Bool.noConfusion (h : true = false))
         | refine And.intro (by kernel_rfl) ?_
         | refine And.intro (fun h => ?_) (fun h => ?_)
         | fail)
  conv => whnf
  refine Exists.intro _ (And.intro (k1s) ?_)
  repeat' first
    | refine SPB.seq ?_
    | refine SPB.block ?_
    | refine SPB.draw hG Try.TT_ok Try.keep5 (by kernel_rfl) ?_
    | refine SPB.reg hG Try.TT_ok Try.keep5 (by kernel_rfl) ?_
    | refine SPB.skip hG Try.TT_ok ?_
    | refine SPB.label hG Try.TT_ok ?_
    | refine SPB.ret hG Try.TT_ok ?_
    | refine SPB.exit hG Try.TT_ok ?_
    | refine SPB.condT rfl ?_
    | refine SPB.condF rfl ?_
    | refine SPB.cond rfl (And.intro (fun h => ?_) (fun h => ?_))
    | (conv => whnf
       first
         | refine And.intro (fun h => Bool.noConfusion (h : false = true)) (fun _ => ?_)
         | refine And.intro (fun _ => ?_) (fun h => Bool.noConfusion (h : true = false))
         | refine And.intro (by kernel_rfl) ?_
         | refine And.intro (fun h => ?_) (fun h => ?_)
         | fail)
  conv => whnf
  refine Exists.intro _ (And.intro (Try.c13 p (w64 (c.b - c.a)) hne) ?_)
  repeat' first
    | refine SPB.seq ?_
    | refine SPB.block ?_
    | refine SPB.draw hG Try.TT_ok Try.keep5 (by kernel_rfl) ?_
    | refine SPB.reg hG Try.TT_ok Try.keep5 (by kernel_rfl) ?_
    | refine SPB.skip hG Try.TT_ok ?_
    | refine SPB.label hG Try.TT_ok ?_
    | refine SPB.ret hG Try.TT_ok ?_
    | refine SPB.exit hG Try.TT_ok ?_
    | refine SPB.condT rfl ?_
    | refine SPB.condF rfl ?_
    | refine SPB.cond rfl (And.intro (fun h => ?_) (fun h => ?_))
    | (conv => whnf
       first
         | refine And.intro (fun h => Bool.noConfusion (h : false = true)) (fun _ => ?_)
         | refine And.intro (fun _ => ?_) (fun h => Bool.noConfusion (h : true = false))
         | refine And.intro (by kernel_rfl) ?_
         | refine And.intro (fun h => ?_) (fun h => ?_)
         | fail)
  conv => whnf
  refine Exists.intro _ (And.intro (Try.c13 q (w64 (c.b - c.of2 p)) hne2) ?_)
  repeat' first
    | refine SPB.seq ?_
    | refine SPB.block ?_
    | refine SPB.draw hG Try.TT_ok Try.keep5 (by kernel_rfl) ?_
    | refine SPB.reg hG Try.TT_ok Try.keep5 (by kernel_rfl) ?_
    | refine SPB.skip hG Try.TT_ok ?_
    | refine SPB.label hG Try.TT_ok ?_
    | refine SPB.ret hG Try.TT_ok ?_
    | refine SPB.exit hG Try.TT_ok ?_
    | refine SPB.condT rfl ?_
    | refine SPB.condF rfl ?_
    | refine SPB.cond rfl (And.intro (fun h => ?_) (fun h => ?_))
    | (conv => whnf
       first
         | refine And.intro (fun h => Bool.noConfusion (h : false = true)) (fun _ => ?_)
         | refine And.intro (fun _ => ?_) (fun h => Bool.noConfusion (h : true = false))
         | refine And.intro (by kernel_rfl) ?_
         | refine And.intro (fun h => ?_) (fun h => ?_)
         | fail)
  conv => whnf
  refine Exists.intro _ (And.intro (k2s) ?_)
  repeat' first
    | refine SPB.seq ?_
    | refine SPB.block ?_
    | refine SPB.draw hG Try.TT_ok Try.keep5 (by kernel_rfl) ?_
    | refine SPB.reg hG Try.TT_ok Try.keep5 (by kernel_rfl) ?_
    | refine SPB.skip hG Try.TT_ok ?_
    | refine SPB.label hG Try.TT_ok ?_
    | refine SPB.ret hG Try.TT_ok ?_
    | refine SPB.exit hG Try.TT_ok ?_
    | refine SPB.condT rfl ?_
    | refine SPB.condF rfl ?_
    | refine SPB.cond rfl (And.intro (fun h => ?_) (fun h => ?_))
    | (conv => whnf
       first
         | refine And.intro (fun h => Bool.noConfusion (h : false = true)) (fun _ => ?_)
         | refine And.intro (fun _ => ?_) (fun h => Bool.noConfusion (h : true = false))
         | refine And.intro (by kernel_rfl) ?_
         | refine And.intro (fun h => ?_) (fun h => ?_)
         | fail)
  all_goals refine Ends.mk (Or.inl rfl) (AV.weak.of_eq (congrArg AV.bool ?_))
  all_goals (try simp only [decide_eq_true_eq, decide_eq_false_iff_not, bne_iff_ne, ne_eq, bne_eq_false_iff_eq, beq_iff_eq, beq_eq_false_iff_ne, gt_iff_lt, ge_iff_le, Bool.false_eq_true, Bool.not_eq_true', Bool.not_eq_false', beq_self_eq_true, decide_true, Bool.and_self, Bool.true_and, Bool.and_true, reduceCtorEq, not_true_eq_false, e1, e2] at *)
  all_goals (first | trivial | omega | contradiction)

end Go.Proofs


namespace Go.Proofs
open Go Go.AI Go.Proofs.Ytjeopncbnlfplaa
set_option maxRecDepth 100000
theorem Try.own : ownKnob Try.prog.godebug = none := by kernel_rfl
theorem Try.laidOut : laidOutB Try.prog = true := by kernel_rfl
theorem Try.reads26 : (Try.prog.readableRec 26 && Nat.blt 26 Try.prog.types.size) = true := by kernel_rfl
theorem Try.reads3 : (Try.prog.readableRec 3 && Nat.blt 3 Try.prog.types.size) = true := by kernel_rfl
def case0 : Value := .agg #[.int .i64 0, .int .i64 0, .int .i64 0, .int .i64 0, .int .i64 0, .int .i64 0, .int .i64 0, .int .i64 0, .int .i64 0, .int .i64 0, .int .i64 0, .int .i64 0, .slice none 0 0]
def lawSh : List (Bool × List Sh) := [(true, caseSh), (false, [.int .i64]), (false, [.int .i64])]
theorem Try.shs : paramSh Try.prog 8 [26, 3, 3] = some lawSh := by kernel_rfl
theorem Try.lifted (law : ∀ avs, PArgs 8 lawSh avs → ACalls Try.prog 5 avs (.bool true)) (os : Os) (started : os.Started) (H : Type) (enc : TypeId × Value → H) :
    ReturnsInHanded {} Try.checked os 5 .any (Rows.pointingWorstSpec.pre6 enc Try.prog Try.f5 Rows.pointingWorstRow.domain false) (Rows.pointingWorstSpec.post enc Try.prog Try.f5 false true false false) :=
  law_lifted (C := Try.checked) (tb := 4) Try.own started (by kernel_rfl) Try.func5
    (ChangeSpec.witness6 (enc := enc) (C := Try.checked) false ⟨#[], #[case0, .int .i64 0, .int .i64 0], []⟩ 8 (by kernel_rfl) (by kernel_rfl) (by kernel_rfl) (by kernel_rfl))
    rfl (by kernel_rfl) (by kernel_rfl) (fun ds h => by
      match ds, h with
      | [d, d0, d1], _ => rfl) Try.shs Try.laidOut (fun t ht => by
      have e : Try.f5.params.toList = [26, 3, 3] := by kernel_rfl
      rw [e] at ht
      simp only [List.mem_cons, List.not_mem_nil, or_false] at ht
      have h26 := Try.reads26
      have h3 := Try.reads3
      simp only [Bool.and_eq_true] at h26 h3
      have g : t = 26 ∨ t = 3 := by rcases ht with h | h | h <;> first | exact .inl h | exact .inr h
      rcases g with rfl | rfl
      · exact ⟨h26.1, Nat.le_of_ble_eq_true h26.2⟩
      · exact ⟨h3.1, Nat.le_of_ble_eq_true h3.2⟩) law
theorem Try.row (law : ∀ avs, PArgs 8 lawSh avs → ACalls Try.prog 5 avs (.bool true)) : Rows.PointingWorstSaid :=
  OpenClaim.holds_of_wide (p := Try.pinned) (s := Rows.pointingWorstSpec) (c := Rows.pointingWorstRow) 5 Try.f5 rfl rfl rfl rfl rfl rfl rfl ⟨rfl, rfl, rfl, rfl, rfl⟩ rfl rfl rfl rfl rfl (by kernel_rfl) Try.func5 (by kernel_rfl)
    (of_decide_eq_true (by kernel_rfl)) (by unfold Func.isWrapper; first | (rw [if_pos (by decide +kernel)]; kernel_rfl) | (rw [if_neg (by decide +kernel)]; exact ⟨rfl, rfl⟩))
    (fun os started H enc _ => Try.lifted law os started H enc)
theorem pargs_agg {n : Nat} {L : List Sh} {r : List (Bool × List Sh)} {avs : List AV} (h : PArgs n ((true, L) :: r) avs) : ∃ cs q, avs = .agg cs :: q ∧ Fa (ShOK n) L cs ∧ PArgs n r q := by
  match avs, h with
  | _ :: q, h =>
    obtain ⟨⟨cs, rfl, h1⟩, h2⟩ := h
    exact ⟨cs, q, rfl, h1, h2⟩
  | [], h => exact h.elim
theorem pargs_int {n : Nat} {r : List (Bool × List Sh)} {avs : List AV} (h : PArgs (n + 1) ((false, [.int .i64]) :: r) avs) : ∃ z q, avs = .int .i64 z :: q ∧ inI z ∧ PArgs (n + 1) r q := by
  match avs, h with
  | _ :: q, h =>
    obtain ⟨⟨s, e, h1⟩, h2⟩ := h
    cases e
    obtain ⟨z, rfl, hz⟩ := int_inv h1
    exact ⟨z, q, rfl, hz, h2⟩
  | [], h => exact h.elim
theorem pargs_nil {n : Nat} {avs : List AV} (h : PArgs n [] avs) : avs = [] := by
  match avs, h with
  | [], _ => rfl
  | _ :: _, h => exact h.elim
end Go.Proofs
namespace Go.Proofs.Ytjeopncbnlfplaa
open Go Go.AI
/-- PointingWorst answers true, whatever the input. -/
theorem pointingWorst : Rows.PointingWorstSaid := Try.row fun avs h => by
  obtain ⟨cs, q, rfl, h1, h⟩ := pargs_agg h
  obtain ⟨z0, q, rfl, i0, h⟩ := pargs_int h
  obtain ⟨z1, q, rfl, i1, h⟩ := pargs_int h
  obtain rfl := pargs_nil h
  obtain ⟨c, hc, rfl⟩ := case_of h1
  exact Go.Proofs.Try.x5 c hc z0 z1 i0 i1
end Go.Proofs.Ytjeopncbnlfplaa


