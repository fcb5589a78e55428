/- PointingOrder answers true, whatever the input; no condition. -/
import Derived.Test.YtjeopncbnlfplaaPl
import Derived.Test.YtjeopncbnlfplaaRows
set_option linter.unusedSectionVars false
set_option linter.unusedVariables false
set_option linter.unusedSimpArgs false
namespace Go.Proofs
open Go Go.AI
set_option maxRecDepth 10000
set_option linter.unusedSimpArgs false

/-- The list turned around, as the code makes it. -/
def turnX (l : List Aim3) (k : Int) : List (List AV) := ([] ++ (((l.map aimA).take (l.map aimA).length).drop k.toNat)) ++ (((l.map aimA).take k.toNat).drop 0)
def turnL (l : List Aim3) (k : Int) : List Aim3 := l.drop k.toNat ++ l.take k.toNat
theorem turnX_eq (l : List Aim3) (k : Int) : turnX l k = (turnL l k).map aimA := by
  unfold turnX turnL
  rw [List.nil_append, List.take_length, List.drop_zero, List.map_append, List.map_drop, List.map_take]
theorem turnL_perm (l : List Aim3) (k : Int) : (turnL l k).Perm l := by
  have : (turnL l k).Perm (l.take k.toNat ++ l.drop k.toNat) := List.perm_append_comm
  rwa [List.take_append_drop] at this
set_option maxHeartbeats 8000000 in
theorem Try.x9 (c : Case) (hc : c.ok) (tu mi lo : Int) (ht : inI tu) (hm : inI mi) (hlo : inI lo) : ACalls Try.prog 9 [.agg c.A, .int .i64 tu, .int .i64 mi, .int .i64 lo] (.bool true) := by
  have hr := Case.rng hc
  have hlen := c.len
  have hval := Case.val hc
  have hH := HotOK.of hval
  have h9 := Case.h9 hc
  have hml : ((c.l.map aimA).length : Int) = c.l.length := by rw [List.length_map]
  have eN : IntKind.i64.wrap (((c.l.map aimA).length : Int) + 1) = c.l.length + 1 := (w64_in (by omega) (by omega)).trans (by omega)
  have k13 := Try.c13 tu (IntKind.i64.wrap (((c.l.map aimA).length : Int) + 1)) (by omega)
  have pk := pick_rng ht (n := IntKind.i64.wrap (((c.l.map aimA).length : Int) + 1)) (by omega)
  generalize pickS tu (IntKind.i64.wrap (((c.l.map aimA).length : Int) + 1)) = k at *
  have hp := turnL_perm c.l k
  have hpl := hp.length_eq
  have eX : aimsA (turnL c.l k) = .sl .no 3 (turnX c.l k) := by rw [turnX_eq]; rfl
  have hvT : valS c.s (turnL c.l k) = true := by rw [areS_perm hp]; exact hval
  obtain ⟨o1, t1, is1, ea1, hi1⟩ := slew_ans c.s c.l
  obtain ⟨o2, t2, is2, ea2, hi2⟩ := slew_ans c.s (turnL c.l k)
  have his : is1 = is2 := by
    have := pairs_perm (Case.satB hc) (Case.aimB hc) hp
    rw [← hi1, ← hi2] at this
    cases is1 <;> cases is2 <;> simp_all
  subst his
  have k16a := Try.c16 c.s c.l (by omega) hval
  have k16b := Try.c16 c.s (turnL c.l k) (by omega) hvT
  rw [ea1] at k16a
  rw [ea2, eX] at k16b
  have k20a := Try.c20 c.s c.l c.a c.b (by omega) (Case.span hc) hval
  have k20b := Try.c20 c.s (turnL c.l k) c.a c.b (by omega) (Case.span hc) hvT
  rw [heats_perm hH hp (by omega), eX] at k20b
  have lA := heatsL_len c.s c.l c.a c.b
  generalize heatsL c.s c.l c.a c.b = A at *
  have k24 := Try.c24 A A (by omega)
  have k27a := Try.c27 c.s c.l c.a c.b (by omega) (Case.span hc) hval
  have k27b := Try.c27 c.s (turnL c.l k) c.a c.b (by omega) (Case.span hc) hvT
  rw [gains_perm hH hp, eX] at k27b
  generalize worstRun c.a (gainsL c.s c.l c.a c.b) = W at *
  obtain ⟨ws, wl, wf, bf, bt, mo⟩ := W
  have k29a := Try.c29 c.s c.l c.a c.b (Case.mn mi) (c.lk lo) (Case.freeV hc (.refl _) hm hlo)
  have k29b := Try.c29 c.s (turnL c.l k) c.a c.b (Case.mn mi) (c.lk lo) (Case.freeV hc hp hm hlo)
  rw [free_perm hH hp (by omega) (by omega), eX] at k29b
  generalize freeS c.s c.l c.a c.b (Case.mn mi) (c.lk lo) = fr at *
  have kl := Try.c13 lo (wdS c.s) (by rw [wd_eq h9]; omega)
  refine ACalls.ofB Try.TT_ok Try.func9 rfl (by kernel_rfl) Try.mixed (Nat.le_of_ble_eq_true rfl) ?_
  intro F n' w0 m0 hG hro h1
  repeat' first
    | refine SPB.seq ?_
    | refine SPB.block ?_
    | refine SPB.draw hG Try.TT_ok Try.keep9 (by kernel_rfl) ?_
    | refine SPB.reg hG Try.TT_ok Try.keep9 (by kernel_rfl) ?_
    | refine SPB.skip hG Try.TT_ok ?_
    | refine SPB.label hG Try.TT_ok ?_
    | refine SPB.ret hG Try.TT_ok ?_
    | refine SPB.exit hG Try.TT_ok ?_
    | refine SPB.condT rfl ?_
    | refine SPB.condF rfl ?_
    | refine SPB.cond rfl (And.intro (fun h => ?_) (fun h => ?_))
    | (conv => whnf
       first
         | refine And.intro (fun h => Bool.noConfusion (h : false = true)) (fun _ => ?_)
         | refine And.intro (fun _ => ?_) (fun h => Bool.noConfusion (h : true = false))
         | refine And.intro (by kernel_rfl) ?_
         | refine And.intro (fun h => ?_) (fun h => ?_)
         | fail)
  conv => whnf
  refine Exists.intro _ (And.intro (Try.c11) ?_)
  repeat' first
    | refine SPB.seq ?_
    | refine SPB.block ?_
    | refine SPB.draw hG Try.TT_ok Try.keep9 (by kernel_rfl) ?_
    | refine SPB.reg hG Try.TT_ok Try.keep9 (by kernel_rfl) ?_
    | refine SPB.skip hG Try.TT_ok ?_
    | refine SPB.label hG Try.TT_ok ?_
    | refine SPB.ret hG Try.TT_ok ?_
    | refine SPB.exit hG Try.TT_ok ?_
    | refine SPB.condT rfl ?_
    | refine SPB.condF rfl ?_
    | refine SPB.cond rfl (And.intro (fun h => ?_) (fun h => ?_))
    | (conv => whnf
       first
         | refine And.intro (fun h => Bool.noConfusion (h : false = true)) (fun _ => ?_)
         | refine And.intro (fun _ => ?_) (fun h => Bool.noConfusion (h : true = false))
         | refine And.intro (by kernel_rfl) ?_
         | refine And.intro (fun h => ?_) (fun h => ?_)
         | fail)
  conv => whnf
  refine Exists.intro _ (And.intro (Try.c12 c hc) ?_)
  repeat' first
    | refine SPB.seq ?_
    | refine SPB.block ?_
    | refine SPB.draw hG Try.TT_ok Try.keep9 (by kernel_rfl) ?_
    | refine SPB.reg hG Try.TT_ok Try.keep9 (by kernel_rfl) ?_
    | refine SPB.skip hG Try.TT_ok ?_
    | refine SPB.label hG Try.TT_ok ?_
    | refine SPB.ret hG Try.TT_ok ?_
    | refine SPB.exit hG Try.TT_ok ?_
    | refine SPB.condT rfl ?_
    | refine SPB.condF rfl ?_
    | refine SPB.cond rfl (And.intro (fun h => ?_) (fun h => ?_))
    | (conv => whnf
       first
         | refine And.intro (fun h => Bool.noConfusion (h : false = true)) (fun _ => ?_)
         | refine And.intro (fun _ => ?_) (fun h => Bool.noConfusion (h : true = false))
         | refine And.intro (by kernel_rfl) ?_
         | refine And.intro (fun h => ?_) (fun h => ?_)
         | fail)
  conv => whnf
  refine Exists.intro _ (And.intro (k13) ?_)
  repeat' first
    | refine SPB.seq ?_
    | refine SPB.block ?_
    | refine SPB.draw hG Try.TT_ok Try.keep9 (by kernel_rfl) ?_
    | refine SPB.reg hG Try.TT_ok Try.keep9 (by kernel_rfl) ?_
    | refine SPB.skip hG Try.TT_ok ?_
    | refine SPB.label hG Try.TT_ok ?_
    | refine SPB.ret hG Try.TT_ok ?_
    | refine SPB.exit hG Try.TT_ok ?_
    | refine SPB.condT rfl ?_
    | refine SPB.condF rfl ?_
    | refine SPB.cond rfl (And.intro (fun h => ?_) (fun h => ?_))
    | (conv => whnf
       first
         | refine And.intro (fun h => Bool.noConfusion (h : false = true)) (fun _ => ?_)
         | refine And.intro (fun _ => ?_) (fun h => Bool.noConfusion (h : true = false))
         | refine And.intro (by kernel_rfl) ?_
         | refine And.intro (show 0 ≤ k by omega) (And.intro (show k.toNat ≤ (c.l.map aimA).length by omega) (And.intro (Nat.le_refl _) ?_))
         | refine And.intro (show 0 ≤ k by omega) (And.intro (Nat.zero_le _) (And.intro (show k.toNat ≤ (c.l.map aimA).length by omega) ?_))
         | refine And.intro (show _ * 24 ≤ 70368744177664 by simp only [List.length_append, List.length_drop, List.length_take, List.length_map, List.length_nil]; omega) (And.intro (show _ + _ ≤ 4611686018427387904 by simp only [List.length_append, List.length_drop, List.length_take, List.length_map, List.length_nil]; omega) ?_)
         | refine And.intro (fun h => ?_) (fun h => ?_)
         | fail)
  conv => whnf
  refine Exists.intro _ (And.intro (Try.c13 mi 8 (by decide)) ?_)
  repeat' first
    | refine SPB.seq ?_
    | refine SPB.block ?_
    | refine SPB.draw hG Try.TT_ok Try.keep9 (by kernel_rfl) ?_
    | refine SPB.reg hG Try.TT_ok Try.keep9 (by kernel_rfl) ?_
    | refine SPB.skip hG Try.TT_ok ?_
    | refine SPB.label hG Try.TT_ok ?_
    | refine SPB.ret hG Try.TT_ok ?_
    | refine SPB.exit hG Try.TT_ok ?_
    | refine SPB.condT rfl ?_
    | refine SPB.condF rfl ?_
    | refine SPB.cond rfl (And.intro (fun h => ?_) (fun h => ?_))
    | (conv => whnf
       first
         | refine And.intro (fun h => Bool.noConfusion (h : false = true)) (fun _ => ?_)
         | refine And.intro (fun _ => ?_) (fun h => Bool.noConfusion (h : true = false))
         | refine And.intro (by kernel_rfl) ?_
         | refine And.intro (show 0 ≤ k by omega) (And.intro (show k.toNat ≤ (c.l.map aimA).length by omega) (And.intro (Nat.le_refl _) ?_))
         | refine And.intro (show 0 ≤ k by omega) (And.intro (Nat.zero_le _) (And.intro (show k.toNat ≤ (c.l.map aimA).length by omega) ?_))
         | refine And.intro (show _ * 24 ≤ 70368744177664 by simp only [List.length_append, List.length_drop, List.length_take, List.length_map, List.length_nil]; omega) (And.intro (show _ + _ ≤ 4611686018427387904 by simp only [List.length_append, List.length_drop, List.length_take, List.length_map, List.length_nil]; omega) ?_)
         | refine And.intro (fun h => ?_) (fun h => ?_)
         | fail)
  conv => whnf
  refine Exists.intro _ (And.intro (kl) ?_)
  repeat' first
    | refine SPB.seq ?_
    | refine SPB.block ?_
    | refine SPB.draw hG Try.TT_ok Try.keep9 (by kernel_rfl) ?_
    | refine SPB.reg hG Try.TT_ok Try.keep9 (by kernel_rfl) ?_
    | refine SPB.skip hG Try.TT_ok ?_
    | refine SPB.label hG Try.TT_ok ?_
    | refine SPB.ret hG Try.TT_ok ?_
    | refine SPB.exit hG Try.TT_ok ?_
    | refine SPB.condT rfl ?_
    | refine SPB.condF rfl ?_
    | refine SPB.cond rfl (And.intro (fun h => ?_) (fun h => ?_))
    | (conv => whnf
       first
         | refine And.intro (fun h => Bool.noConfusion (h : false = true)) (fun _ => ?_)
         | refine And.intro (fun _ => ?_) (fun h => Bool.noConfusion (h : true = false))
         | refine And.intro (by kernel_rfl) ?_
         | refine And.intro (show 0 ≤ k by omega) (And.intro (show k.toNat ≤ (c.l.map aimA).length by omega) (And.intro (Nat.le_refl _) ?_))
         | refine And.intro (show 0 ≤ k by omega) (And.intro (Nat.zero_le _) (And.intro (show k.toNat ≤ (c.l.map aimA).length by omega) ?_))
         | refine And.intro (show _ * 24 ≤ 70368744177664 by simp only [List.length_append, List.length_drop, List.length_take, List.length_map, List.length_nil]; omega) (And.intro (show _ + _ ≤ 4611686018427387904 by simp only [List.length_append, List.length_drop, List.length_take, List.length_map, List.length_nil]; omega) ?_)
         | refine And.intro (fun h => ?_) (fun h => ?_)
         | fail)
  conv => whnf
  refine Exists.intro _ (And.intro (k16a) ?_)
  repeat' first
    | refine SPB.seq ?_
    | refine SPB.block ?_
    | refine SPB.draw hG Try.TT_ok Try.keep9 (by kernel_rfl) ?_
    | refine SPB.reg hG Try.TT_ok Try.keep9 (by kernel_rfl) ?_
    | refine SPB.skip hG Try.TT_ok ?_
    | refine SPB.label hG Try.TT_ok ?_
    | refine SPB.ret hG Try.TT_ok ?_
    | refine SPB.exit hG Try.TT_ok ?_
    | refine SPB.condT rfl ?_
    | refine SPB.condF rfl ?_
    | refine SPB.cond rfl (And.intro (fun h => ?_) (fun h => ?_))
    | (conv => whnf
       first
         | refine And.intro (fun h => Bool.noConfusion (h : false = true)) (fun _ => ?_)
         | refine And.intro (fun _ => ?_) (fun h => Bool.noConfusion (h : true = false))
         | refine And.intro (by kernel_rfl) ?_
         | refine And.intro (show 0 ≤ k by omega) (And.intro (show k.toNat ≤ (c.l.map aimA).length by omega) (And.intro (Nat.le_refl _) ?_))
         | refine And.intro (show 0 ≤ k by omega) (And.intro (Nat.zero_le _) (And.intro (show k.toNat ≤ (c.l.map aimA).length by omega) ?_))
         | refine And.intro (show _ * 24 ≤ 70368744177664 by simp only [List.length_append, List.length_drop, List.length_take, List.length_map, List.length_nil]; omega) (And.intro (show _ + _ ≤ 4611686018427387904 by simp only [List.length_append, List.length_drop, List.length_take, List.length_map, List.length_nil]; omega) ?_)
         | refine And.intro (fun h => ?_) (fun h => ?_)
         | fail)
  conv => whnf
  refine Exists.intro _ (And.intro (k16b) ?_)
  repeat' first
    | refine SPB.seq ?_
    | refine SPB.block ?_
    | refine SPB.draw hG Try.TT_ok Try.keep9 (by kernel_rfl) ?_
    | refine SPB.reg hG Try.TT_ok Try.keep9 (by kernel_rfl) ?_
    | refine SPB.skip hG Try.TT_ok ?_
    | refine SPB.label hG Try.TT_ok ?_
    | refine SPB.ret hG Try.TT_ok ?_
    | refine SPB.exit hG Try.TT_ok ?_
    | refine SPB.condT rfl ?_
    | refine SPB.condF rfl ?_
    | refine SPB.cond rfl (And.intro (fun h => ?_) (fun h => ?_))
    | (conv => whnf
       first
         | refine And.intro (fun h => Bool.noConfusion (h : false = true)) (fun _ => ?_)
         | refine And.intro (fun _ => ?_) (fun h => Bool.noConfusion (h : true = false))
         | refine And.intro (by kernel_rfl) ?_
         | refine And.intro (show 0 ≤ k by omega) (And.intro (show k.toNat ≤ (c.l.map aimA).length by omega) (And.intro (Nat.le_refl _) ?_))
         | refine And.intro (show 0 ≤ k by omega) (And.intro (Nat.zero_le _) (And.intro (show k.toNat ≤ (c.l.map aimA).length by omega) ?_))
         | refine And.intro (show _ * 24 ≤ 70368744177664 by simp only [List.length_append, List.length_drop, List.length_take, List.length_map, List.length_nil]; omega) (And.intro (show _ + _ ≤ 4611686018427387904 by simp only [List.length_append, List.length_drop, List.length_take, List.length_map, List.length_nil]; omega) ?_)
         | refine And.intro (fun h => ?_) (fun h => ?_)
         | fail)
  conv => whnf
  refine Exists.intro _ (And.intro (k20a) ?_)
  repeat' first
    | refine SPB.seq ?_
    | refine SPB.block ?_
    | refine SPB.draw hG Try.TT_ok Try.keep9 (by kernel_rfl) ?_
    | refine SPB.reg hG Try.TT_ok Try.keep9 (by kernel_rfl) ?_
    | refine SPB.skip hG Try.TT_ok ?_
    | refine SPB.label hG Try.TT_ok ?_
    | refine SPB.ret hG Try.TT_ok ?_
    | refine SPB.exit hG Try.TT_ok ?_
    | refine SPB.condT rfl ?_
    | refine SPB.condF rfl ?_
    | refine SPB.cond rfl (And.intro (fun h => ?_) (fun h => ?_))
    | (conv => whnf
       first
         | refine And.intro (fun h => Bool.noConfusion (h : false = true)) (fun _ => ?_)
         | refine And.intro (fun _ => ?_) (fun h => Bool.noConfusion (h : true = false))
         | refine And.intro (by kernel_rfl) ?_
         | refine And.intro (show 0 ≤ k by omega) (And.intro (show k.toNat ≤ (c.l.map aimA).length by omega) (And.intro (Nat.le_refl _) ?_))
         | refine And.intro (show 0 ≤ k by omega) (And.intro (Nat.zero_le _) (And.intro (show k.toNat ≤ (c.l.map aimA).length by omega) ?_))
         | refine And.intro (show _ * 24 ≤ 70368744177664 by simp only [List.length_append, List.length_drop, List.length_take, List.length_map, List.length_nil]; omega) (And.intro (show _ + _ ≤ 4611686018427387904 by simp only [List.length_append, List.length_drop, List.length_take, List.length_map, List.length_nil]; omega) ?_)
         | refine And.intro (fun h => ?_) (fun h => ?_)
         | fail)
  conv => whnf
  refine Exists.intro _ (And.intro (k20b) ?_)
  repeat' first
    | refine SPB.seq ?_
    | refine SPB.block ?_
    | refine SPB.draw hG Try.TT_ok Try.keep9 (by kernel_rfl) ?_
    | refine SPB.reg hG Try.TT_ok Try.keep9 (by kernel_rfl) ?_
    | refine SPB.skip hG Try.TT_ok ?_
    | refine SPB.label hG Try.TT_ok ?_
    | refine SPB.ret hG Try.TT_ok ?_
    | refine SPB.exit hG Try.TT_ok ?_
    | refine SPB.condT rfl ?_
    | refine SPB.condF rfl ?_
    | refine SPB.cond rfl (And.intro (fun h => ?_) (fun h => ?_))
    | (conv => whnf
       first
         | refine And.intro (fun h => Bool.noConfusion (h : false = true)) (fun _ => ?_)
         | refine And.intro (fun _ => ?_) (fun h => Bool.noConfusion (h : true = false))
         | refine And.intro (by kernel_rfl) ?_
         | refine And.intro (show 0 ≤ k by omega) (And.intro (show k.toNat ≤ (c.l.map aimA).length by omega) (And.intro (Nat.le_refl _) ?_))
         | refine And.intro (show 0 ≤ k by omega) (And.intro (Nat.zero_le _) (And.intro (show k.toNat ≤ (c.l.map aimA).length by omega) ?_))
         | refine And.intro (show _ * 24 ≤ 70368744177664 by simp only [List.length_append, List.length_drop, List.length_take, List.length_map, List.length_nil]; omega) (And.intro (show _ + _ ≤ 4611686018427387904 by simp only [List.length_append, List.length_drop, List.length_take, List.length_map, List.length_nil]; omega) ?_)
         | refine And.intro (fun h => ?_) (fun h => ?_)
         | fail)
  conv => whnf
  refine Exists.intro _ (And.intro (k27a) ?_)
  repeat' first
    | refine SPB.seq ?_
    | refine SPB.block ?_
    | refine SPB.draw hG Try.TT_ok Try.keep9 (by kernel_rfl) ?_
    | refine SPB.reg hG Try.TT_ok Try.keep9 (by kernel_rfl) ?_
    | refine SPB.skip hG Try.TT_ok ?_
    | refine SPB.label hG Try.TT_ok ?_
    | refine SPB.ret hG Try.TT_ok ?_
    | refine SPB.exit hG Try.TT_ok ?_
    | refine SPB.condT rfl ?_
    | refine SPB.condF rfl ?_
    | refine SPB.cond rfl (And.intro (fun h => ?_) (fun h => ?_))
    | (conv => whnf
       first
         | refine And.intro (fun h => Bool.noConfusion (h : false = true)) (fun _ => ?_)
         | refine And.intro (fun _ => ?_) (fun h => Bool.noConfusion (h : true = false))
         | refine And.intro (by kernel_rfl) ?_
         | refine And.intro (show 0 ≤ k by omega) (And.intro (show k.toNat ≤ (c.l.map aimA).length by omega) (And.intro (Nat.le_refl _) ?_))
         | refine And.intro (show 0 ≤ k by omega) (And.intro (Nat.zero_le _) (And.intro (show k.toNat ≤ (c.l.map aimA).length by omega) ?_))
         | refine And.intro (show _ * 24 ≤ 70368744177664 by simp only [List.length_append, List.length_drop, List.length_take, List.length_map, List.length_nil]; omega) (And.intro (show _ + _ ≤ 4611686018427387904 by simp only [List.length_append, List.length_drop, List.length_take, List.length_map, List.length_nil]; omega) ?_)
         | refine And.intro (fun h => ?_) (fun h => ?_)
         | fail)
  conv => whnf
  refine Exists.intro _ (And.intro (k27b) ?_)
  repeat' first
    | refine SPB.seq ?_
    | refine SPB.block ?_
    | refine SPB.draw hG Try.TT_ok Try.keep9 (by kernel_rfl) ?_
    | refine SPB.reg hG Try.TT_ok Try.keep9 (by kernel_rfl) ?_
    | refine SPB.skip hG Try.TT_ok ?_
    | refine SPB.label hG Try.TT_ok ?_
    | refine SPB.ret hG Try.TT_ok ?_
    | refine SPB.exit hG Try.TT_ok ?_
    | refine SPB.condT rfl ?_
    | refine SPB.condF rfl ?_
    | refine SPB.cond rfl (And.intro (fun h => ?_) (fun h => ?_))
    | (conv => whnf
       first
         | refine And.intro (fun h => Bool.noConfusion (h : false = true)) (fun _ => ?_)
         | refine And.intro (fun _ => ?_) (fun h => Bool.noConfusion (h : true = false))
         | refine And.intro (by kernel_rfl) ?_
         | refine And.intro (show 0 ≤ k by omega) (And.intro (show k.toNat ≤ (c.l.map aimA).length by omega) (And.intro (Nat.le_refl _) ?_))
         | refine And.intro (show 0 ≤ k by omega) (And.intro (Nat.zero_le _) (And.intro (show k.toNat ≤ (c.l.map aimA).length by omega) ?_))
         | refine And.intro (show _ * 24 ≤ 70368744177664 by simp only [List.length_append, List.length_drop, List.length_take, List.length_map, List.length_nil]; omega) (And.intro (show _ + _ ≤ 4611686018427387904 by simp only [List.length_append, List.length_drop, List.length_take, List.length_map, List.length_nil]; omega) ?_)
         | refine And.intro (fun h => ?_) (fun h => ?_)
         | fail)
  conv => whnf
  refine Exists.intro _ (And.intro (k29a) ?_)
  repeat' first
    | refine SPB.seq ?_
    | refine SPB.block ?_
    | refine SPB.draw hG Try.TT_ok Try.keep9 (by kernel_rfl) ?_
    | refine SPB.reg hG Try.TT_ok Try.keep9 (by kernel_rfl) ?_
    | refine SPB.skip hG Try.TT_ok ?_
    | refine SPB.label hG Try.TT_ok ?_
    | refine SPB.ret hG Try.TT_ok ?_
    | refine SPB.exit hG Try.TT_ok ?_
    | refine SPB.condT rfl ?_
    | refine SPB.condF rfl ?_
    | refine SPB.cond rfl (And.intro (fun h => ?_) (fun h => ?_))
    | (conv => whnf
       first
         | refine And.intro (fun h => Bool.noConfusion (h : false = true)) (fun _ => ?_)
         | refine And.intro (fun _ => ?_) (fun h => Bool.noConfusion (h : true = false))
         | refine And.intro (by kernel_rfl) ?_
         | refine And.intro (show 0 ≤ k by omega) (And.intro (show k.toNat ≤ (c.l.map aimA).length by omega) (And.intro (Nat.le_refl _) ?_))
         | refine And.intro (show 0 ≤ k by omega) (And.intro (Nat.zero_le _) (And.intro (show k.toNat ≤ (c.l.map aimA).length by omega) ?_))
         | refine And.intro (show _ * 24 ≤ 70368744177664 by simp only [List.length_append, List.length_drop, List.length_take, List.length_map, List.length_nil]; omega) (And.intro (show _ + _ ≤ 4611686018427387904 by simp only [List.length_append, List.length_drop, List.length_take, List.length_map, List.length_nil]; omega) ?_)
         | refine And.intro (fun h => ?_) (fun h => ?_)
         | fail)
  conv => whnf
  refine Exists.intro _ (And.intro (k29b) ?_)
  repeat' first
    | refine SPB.seq ?_
    | refine SPB.block ?_
    | refine SPB.draw hG Try.TT_ok Try.keep9 (by kernel_rfl) ?_
    | refine SPB.reg hG Try.TT_ok Try.keep9 (by kernel_rfl) ?_
    | refine SPB.skip hG Try.TT_ok ?_
    | refine SPB.label hG Try.TT_ok ?_
    | refine SPB.ret hG Try.TT_ok ?_
    | refine SPB.exit hG Try.TT_ok ?_
    | refine SPB.condT rfl ?_
    | refine SPB.condF rfl ?_
    | refine SPB.cond rfl (And.intro (fun h => ?_) (fun h => ?_))
    | (conv => whnf
       first
         | refine And.intro (fun h => Bool.noConfusion (h : false = true)) (fun _ => ?_)
         | refine And.intro (fun _ => ?_) (fun h => Bool.noConfusion (h : true = false))
         | refine And.intro (by kernel_rfl) ?_
         | refine And.intro (fun h => ?_) (fun h => ?_)
         | fail)
  repeat' first
    | refine SPB.seq ?_
    | refine SPB.block ?_
    | refine SPB.draw hG Try.TT_ok Try.keep9 (by kernel_rfl) ?_
    | refine SPB.reg hG Try.TT_ok Try.keep9 (by kernel_rfl) ?_
    | refine SPB.skip hG Try.TT_ok ?_
    | refine SPB.label hG Try.TT_ok ?_
    | refine SPB.ret hG Try.TT_ok ?_
    | refine SPB.exit hG Try.TT_ok ?_
    | refine SPB.condT rfl ?_
    | refine SPB.condF rfl ?_
    | refine SPB.cond rfl (And.intro (fun h => ?_) (fun h => ?_))
    | (conv => whnf
       first
         | refine And.intro (fun h => Bool.noConfusion (h : false = true)) (fun _ => ?_)
         | refine And.intro (fun _ => ?_) (fun h => Bool.noConfusion (h : true = false))
         | refine And.intro (by kernel_rfl) ?_
         | refine And.intro (fun h => ?_) (fun h => ?_)
         | fail)
  conv => whnf
  refine Exists.intro _ (And.intro (k24) ?_)
  repeat' first
    | refine SPB.seq ?_
    | refine SPB.block ?_
    | refine SPB.draw hG Try.TT_ok Try.keep9 (by kernel_rfl) ?_
    | refine SPB.reg hG Try.TT_ok Try.keep9 (by kernel_rfl) ?_
    | refine SPB.skip hG Try.TT_ok ?_
    | refine SPB.label hG Try.TT_ok ?_
    | refine SPB.ret hG Try.TT_ok ?_
    | refine SPB.exit hG Try.TT_ok ?_
    | refine SPB.condT rfl ?_
    | refine SPB.condF rfl ?_
    | refine SPB.cond rfl (And.intro (fun h => ?_) (fun h => ?_))
    | (conv => whnf
       first
         | refine And.intro (fun h => Bool.noConfusion (h : false = true)) (fun _ => ?_)
         | refine And.intro (fun _ => ?_) (fun h => Bool.noConfusion (h : true = false))
         | refine And.intro (by kernel_rfl) ?_
         | refine And.intro (fun h => ?_) (fun h => ?_)
         | fail)
  all_goals refine Ends.mk (Or.inl rfl) (AV.weak.of_eq (congrArg AV.bool ?_))
  all_goals (try simp only [decide_eq_true_eq, decide_eq_false_iff_not, bne_iff_ne, ne_eq, bne_eq_false_iff_eq, beq_iff_eq, beq_eq_false_iff_ne, gt_iff_lt, ge_iff_le, Bool.false_eq_true, Bool.not_eq_true', Bool.not_eq_false', beq_self_eq_true, decide_true, Bool.and_self, Bool.true_and, Bool.and_true, reduceCtorEq, not_true_eq_false] at *)
  all_goals (first | trivial | omega | contradiction)

end Go.Proofs


namespace Go.Proofs
open Go Go.AI Go.Proofs.Ytjeopncbnlfplaa
set_option maxRecDepth 100000
theorem Try.own : ownKnob Try.prog.godebug = none := by kernel_rfl
theorem Try.laidOut : laidOutB Try.prog = true := by kernel_rfl
theorem Try.reads26 : (Try.prog.readableRec 26 && Nat.blt 26 Try.prog.types.size) = true := by kernel_rfl
theorem Try.reads3 : (Try.prog.readableRec 3 && Nat.blt 3 Try.prog.types.size) = true := by kernel_rfl
def case0 : Value := .agg #[.int .i64 0, .int .i64 0, .int .i64 0, .int .i64 0, .int .i64 0, .int .i64 0, .int .i64 0, .int .i64 0, .int .i64 0, .int .i64 0, .int .i64 0, .int .i64 0, .slice none 0 0]
def lawSh : List (Bool × List Sh) := [(true, caseSh), (false, [.int .i64]), (false, [.int .i64]), (false, [.int .i64])]
theorem Try.shs : paramSh Try.prog 8 [26, 3, 3, 3] = some lawSh := by kernel_rfl
theorem Try.lifted (law : ∀ avs, PArgs 8 lawSh avs → ACalls Try.prog 9 avs (.bool true)) (os : Os) (started : os.Started) (H : Type) (enc : TypeId × Value → H) :
    ReturnsInHanded {} Try.checked os 9 .any (Rows.pointingOrderSpec.pre6 enc Try.prog Try.f9 Rows.pointingOrderRow.domain false) (Rows.pointingOrderSpec.post enc Try.prog Try.f9 false true false false) :=
  law_lifted (C := Try.checked) (tb := 4) Try.own started (by kernel_rfl) Try.func9
    (ChangeSpec.witness6 (enc := enc) (C := Try.checked) false ⟨#[], #[case0, .int .i64 0, .int .i64 0, .int .i64 0], []⟩ 8 (by kernel_rfl) (by kernel_rfl) (by kernel_rfl) (by kernel_rfl))
    rfl (by kernel_rfl) (by kernel_rfl) (fun ds h => by
      match ds, h with
      | [d, d0, d1, d2], _ => rfl) Try.shs Try.laidOut (fun t ht => by
      have e : Try.f9.params.toList = [26, 3, 3, 3] := by kernel_rfl
      rw [e] at ht
      simp only [List.mem_cons, List.not_mem_nil, or_false] at ht
      have h26 := Try.reads26
      have h3 := Try.reads3
      simp only [Bool.and_eq_true] at h26 h3
      have g : t = 26 ∨ t = 3 := by rcases ht with h | h | h | h <;> first | exact .inl h | exact .inr h
      rcases g with rfl | rfl
      · exact ⟨h26.1, Nat.le_of_ble_eq_true h26.2⟩
      · exact ⟨h3.1, Nat.le_of_ble_eq_true h3.2⟩) law
theorem Try.row (law : ∀ avs, PArgs 8 lawSh avs → ACalls Try.prog 9 avs (.bool true)) : Rows.PointingOrderSaid :=
  OpenClaim.holds_of_wide (p := Try.pinned) (s := Rows.pointingOrderSpec) (c := Rows.pointingOrderRow) 9 Try.f9 rfl rfl rfl rfl rfl rfl rfl ⟨rfl, rfl, rfl, rfl, rfl⟩ rfl rfl rfl rfl rfl (by kernel_rfl) Try.func9 (by kernel_rfl)
    (of_decide_eq_true (by kernel_rfl)) (by unfold Func.isWrapper; first | (rw [if_pos (by decide +kernel)]; kernel_rfl) | (rw [if_neg (by decide +kernel)]; exact ⟨rfl, rfl⟩))
    (fun os started H enc _ => Try.lifted law os started H enc)
theorem pargs_agg {n : Nat} {L : List Sh} {r : List (Bool × List Sh)} {avs : List AV} (h : PArgs n ((true, L) :: r) avs) : ∃ cs q, avs = .agg cs :: q ∧ Fa (ShOK n) L cs ∧ PArgs n r q := by
  match avs, h with
  | _ :: q, h =>
    obtain ⟨⟨cs, rfl, h1⟩, h2⟩ := h
    exact ⟨cs, q, rfl, h1, h2⟩
  | [], h => exact h.elim
theorem pargs_int {n : Nat} {r : List (Bool × List Sh)} {avs : List AV} (h : PArgs (n + 1) ((false, [.int .i64]) :: r) avs) : ∃ z q, avs = .int .i64 z :: q ∧ inI z ∧ PArgs (n + 1) r q := by
  match avs, h with
  | _ :: q, h =>
    obtain ⟨⟨s, e, h1⟩, h2⟩ := h
    cases e
    obtain ⟨z, rfl, hz⟩ := int_inv h1
    exact ⟨z, q, rfl, hz, h2⟩
  | [], h => exact h.elim
theorem pargs_nil {n : Nat} {avs : List AV} (h : PArgs n [] avs) : avs = [] := by
  match avs, h with
  | [], _ => rfl
  | _ :: _, h => exact h.elim
end Go.Proofs
namespace Go.Proofs.Ytjeopncbnlfplaa
open Go Go.AI
/-- PointingOrder answers true, whatever the input. -/
theorem pointingOrder : Rows.PointingOrderSaid := Try.row fun avs h => by
  obtain ⟨cs, q, rfl, h1, h⟩ := pargs_agg h
  obtain ⟨z0, q, rfl, i0, h⟩ := pargs_int h
  obtain ⟨z1, q, rfl, i1, h⟩ := pargs_int h
  obtain ⟨z2, q, rfl, i2, h⟩ := pargs_int h
  obtain rfl := pargs_nil h
  obtain ⟨c, hc, rfl⟩ := case_of h1
  exact Go.Proofs.Try.x9 c hc z0 z1 z2 i0 i1 i2
end Go.Proofs.Ytjeopncbnlfplaa


