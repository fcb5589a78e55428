/- BatterySums answers true, whatever the input; no condition. -/
import Derived.Test.YtoccmkmnkoldmaaBatC
import Derived.Test.YtoccmkmnkoldmaaRows
set_option linter.unusedSectionVars false
set_option linter.unusedVariables false
set_option linter.unusedSimpArgs false
namespace Go.Proofs
open Go Go.AI
set_option maxRecDepth 10000
set_option linter.unusedSimpArgs false

def minW (a b : Int) (x : Load3) : Int := max 0 (IntKind.i64.wrap (min b x.b - max a x.a))
def sumW (s : Nat → Int) (a b bare : Int) (l : List Load3) : Int := l.foldl (fun acc x => IntKind.i64.wrap (acc + IntKind.i64.wrap (minW a b x * costS s x))) bare
theorem sumW_snoc (s : Nat → Int) (a b bare : Int) (l : List Load3) (x : Load3) : sumW s a b bare (l ++ [x]) = IntKind.i64.wrap (sumW s a b bare l + IntKind.i64.wrap (minW a b x * costS s x)) := by simp [sumW, List.foldl_append]
set_option maxHeartbeats 8000000 in
theorem Try.y11 (x y s : Nat → Int) (l : List Load3) (z : List (Int × Int × Int)) (from_ long a b bare all : Int) (hl : l.length ≤ 1000)
    (k35 : ACalls Try.prog 35 [.agg (orbA x), .agg (i4A y), .sl .no 3 (z.map row3A), .int .i64 from_, .int .i64 long] (.tup [.agg (satA s), loadsA l, .agg (spellA a b)]))
    (k40 : ACalls Try.prog 40 [.agg (satA s), loadsA l, .agg (spellA a b)] (.tup [.int .i64 all, .int .i64 0]))
    (k40e : ACalls Try.prog 40 [.agg (satA s), .sl .full 0 [], .agg (spellA a b)] (.tup [.int .i64 bare, .int .i64 0]))
    (k40i : ∀ x ∈ l, ACalls Try.prog 40 [.agg (satA s), loadsA [x], .agg (spellA a b)] (.tup [.int .i64 (IntKind.i64.wrap (bare + IntKind.i64.wrap (minW a b x * costS s x))), .int .i64 0]))
    (f1 : all = sumW s a b bare l) :
    ACalls Try.prog 11 [.agg (orbA x), .agg (i4A y), .sl .no 3 (z.map row3A), .int .i64 from_, .int .i64 long] (.bool true) := by
  refine ACalls.ofB Try.TT_ok Try.func11 rfl (by kernel_rfl) Try.mixed (Nat.le_of_ble_eq_true rfl) ?_
  intro F n' w0 m0 hG hro h1
  repeat' first
    | refine SPB.seq ?_
    | refine SPB.block ?_
    | refine SPB.draw hG Try.TT_ok Try.keep11 (by kernel_rfl) ?_
    | refine SPB.reg hG Try.TT_ok Try.keep11 (by kernel_rfl) ?_
    | refine SPB.skip hG Try.TT_ok ?_
    | refine SPB.label hG Try.TT_ok ?_
    | refine SPB.ret hG Try.TT_ok ?_
    | refine SPB.exit hG Try.TT_ok ?_
    | refine SPB.condT rfl ?_
    | refine SPB.condF rfl ?_
    | refine SPB.cond rfl (And.intro (fun h => ?_) (fun h => ?_))
    | (conv => whnf
       first
         | refine And.intro (fun h => Bool.noConfusion (h : false = true)) (fun _ => ?_)
         | refine And.intro (fun _ => ?_) (fun h => Bool.noConfusion (h : true = false))
         | refine And.intro (by kernel_rfl) ?_
         | refine And.intro (fun h => ?_) (fun h => ?_)
         | refine Or.inl ?_
         | fail)
  conv => whnf
  refine Exists.intro _ (And.intro (Try.c34) ?_)
  repeat' first
    | refine SPB.seq ?_
    | refine SPB.block ?_
    | refine SPB.draw hG Try.TT_ok Try.keep11 (by kernel_rfl) ?_
    | refine SPB.reg hG Try.TT_ok Try.keep11 (by kernel_rfl) ?_
    | refine SPB.skip hG Try.TT_ok ?_
    | refine SPB.label hG Try.TT_ok ?_
    | refine SPB.ret hG Try.TT_ok ?_
    | refine SPB.exit hG Try.TT_ok ?_
    | refine SPB.condT rfl ?_
    | refine SPB.condF rfl ?_
    | refine SPB.cond rfl (And.intro (fun h => ?_) (fun h => ?_))
    | (conv => whnf
       first
         | refine And.intro (fun h => Bool.noConfusion (h : false = true)) (fun _ => ?_)
         | refine And.intro (fun _ => ?_) (fun h => Bool.noConfusion (h : true = false))
         | refine And.intro (by kernel_rfl) ?_
         | refine And.intro (fun h => ?_) (fun h => ?_)
         | refine Or.inl ?_
         | fail)
  conv => whnf
  refine Exists.intro _ (And.intro (k35) ?_)
  repeat' first
    | refine SPB.seq ?_
    | refine SPB.block ?_
    | refine SPB.draw hG Try.TT_ok Try.keep11 (by kernel_rfl) ?_
    | refine SPB.reg hG Try.TT_ok Try.keep11 (by kernel_rfl) ?_
    | refine SPB.skip hG Try.TT_ok ?_
    | refine SPB.label hG Try.TT_ok ?_
    | refine SPB.ret hG Try.TT_ok ?_
    | refine SPB.exit hG Try.TT_ok ?_
    | refine SPB.condT rfl ?_
    | refine SPB.condF rfl ?_
    | refine SPB.cond rfl (And.intro (fun h => ?_) (fun h => ?_))
    | (conv => whnf
       first
         | refine And.intro (fun h => Bool.noConfusion (h : false = true)) (fun _ => ?_)
         | refine And.intro (fun _ => ?_) (fun h => Bool.noConfusion (h : true = false))
         | refine And.intro (by kernel_rfl) ?_
         | refine And.intro (fun h => ?_) (fun h => ?_)
         | refine Or.inl ?_
         | fail)
  conv => whnf
  refine Exists.intro _ (And.intro (k40) ?_)
  repeat' first
    | refine SPB.seq ?_
    | refine SPB.block ?_
    | refine SPB.draw hG Try.TT_ok Try.keep11 (by kernel_rfl) ?_
    | refine SPB.reg hG Try.TT_ok Try.keep11 (by kernel_rfl) ?_
    | refine SPB.skip hG Try.TT_ok ?_
    | refine SPB.label hG Try.TT_ok ?_
    | refine SPB.ret hG Try.TT_ok ?_
    | refine SPB.exit hG Try.TT_ok ?_
    | refine SPB.condT rfl ?_
    | refine SPB.condF rfl ?_
    | refine SPB.cond rfl (And.intro (fun h => ?_) (fun h => ?_))
    | (conv => whnf
       first
         | refine And.intro (fun h => Bool.noConfusion (h : false = true)) (fun _ => ?_)
         | refine And.intro (fun _ => ?_) (fun h => Bool.noConfusion (h : true = false))
         | refine And.intro (by kernel_rfl) ?_
         | refine And.intro (fun h => ?_) (fun h => ?_)
         | refine Or.inl ?_
         | fail)
  conv => whnf
  refine Exists.intro _ (And.intro (k40e) ?_)
  repeat' first
    | refine SPB.seq ?_
    | refine SPB.block ?_
    | refine SPB.draw hG Try.TT_ok Try.keep11 (by kernel_rfl) ?_
    | refine SPB.reg hG Try.TT_ok Try.keep11 (by kernel_rfl) ?_
    | refine SPB.skip hG Try.TT_ok ?_
    | refine SPB.label hG Try.TT_ok ?_
    | refine SPB.ret hG Try.TT_ok ?_
    | refine SPB.exit hG Try.TT_ok ?_
    | refine SPB.condT rfl ?_
    | refine SPB.condF rfl ?_
    | refine SPB.cond rfl (And.intro (fun h => ?_) (fun h => ?_))
    | (conv => whnf
       first
         | refine And.intro (fun h => Bool.noConfusion (h : false = true)) (fun _ => ?_)
         | refine And.intro (fun _ => ?_) (fun h => Bool.noConfusion (h : true = false))
         | refine And.intro (by kernel_rfl) ?_
         | refine And.intro (fun h => ?_) (fun h => ?_)
         | refine Or.inl ?_
         | fail)
  refine SPB.loop (X := Nat) (fun k => ⟨[(19, .int .i64 k), (18, .int .i64 bare), (16, .int .i64 (sumW s a b bare (l.take k))), (14, .int .i64 all), (13, .loc 13 0), (12, loadsA l), (11, .loc 11 0)],
      [(13, spellA a b), (11, satA s)]⟩)
    (fun k => k ≤ l.length) (fun k => l.length - k) 0 (Nat.zero_le _) (St.le.of ?_ ?_) (fun k hk => ?_)
  · repeat' (first | exact trivial | refine And.intro rfl ?_)
  · repeat' (first | exact trivial | refine And.intro rfl ?_)
  · by_cases hlt : k < l.length
    · obtain ⟨q, hqd⟩ : ∃ q, q = l.getD k ⟨0, 0, 0⟩ := ⟨_, rfl⟩
      have hm : q ∈ l := by rw [hqd, List.getD_eq_getElem?_getD, List.getElem?_eq_getElem hlt]; exact List.getElem_mem hlt
      have hq : (l.map loadA)[(k : Int).toNat]? = some [.int .i64 q.k, .int .i64 q.a, .int .i64 q.b] := by rw [hqd]; simp [List.getElem?_eq_getElem hlt]; rfl
      have hs : l.take (k + 1) = l.take k ++ [q] := by rw [hqd, List.take_add_one, List.getD_eq_getElem?_getD, List.getElem?_eq_getElem hlt]; rfl
      have hw : IntKind.i64.wrap ((k : Int) + 1) = ((k + 1 : Nat) : Int) := (w64_in (by omega) (by omega)).trans (by omega)
      have hw0 : 0 ≤ IntKind.i64.wrap ((k : Int) + 1) := by rw [hw]; omega
      have hw1 : (k : Int).toNat ≤ (IntKind.i64.wrap ((k : Int) + 1)).toNat := by rw [hw]; omega
      have hw2 : (IntKind.i64.wrap ((k : Int) + 1)).toNat ≤ (l.map loadA).length := by rw [hw, List.length_map]; omega
      have he : ((l.map loadA).take (IntKind.i64.wrap ((k : Int) + 1)).toNat).drop (k : Int).toNat = [q].map loadA := by
        rw [hw, Int.toNat_natCast, Int.toNat_natCast, ← List.map_take, hs, List.map_append, List.drop_append]
        simp [List.length_take, Nat.min_eq_left (Nat.le_of_lt hlt)]
      have k40q := k40i q hm
      rw [show loadsA [q] = .sl .no 3 ([q].map loadA) from rfl, ← he] at k40q
      have bbk : decide ((k : Int) < ((l.map loadA).length : Int)) = false → False := fun h => by have := of_decide_eq_false h; rw [List.length_map] at this; omega
      by_cases h1 : q.k = 1
      · have hc : costS s q = s 14 := if_pos h1
        rw [hc] at k40q
        have bb1 : (q.k == 1) = false → False := fun h => by rw [h1] at h; simp at h
        have bb2 : (IntKind.i64.wrap (bare + IntKind.i64.wrap (minW a b q * s 14)) != IntKind.i64.wrap (bare + IntKind.i64.wrap (minW a b q * s 14))) = true → False := fun h => by simp at h
        repeat' first
          | exact (bbk (by assumption)).elim
          | exact (bb1 (by assumption)).elim
          | exact (bb2 (by assumption)).elim
          | refine SPB.seq ?_
          | refine SPB.block ?_
          | refine SPB.draw hG Try.TT_ok Try.keep11 (by kernel_rfl) ?_
          | refine SPB.reg hG Try.TT_ok Try.keep11 (by kernel_rfl) ?_
          | refine SPB.skip hG Try.TT_ok ?_
          | refine SPB.label hG Try.TT_ok ?_
          | refine SPB.ret hG Try.TT_ok ?_
          | refine SPB.exit hG Try.TT_ok ?_
          | refine SPB.condT rfl ?_
          | refine SPB.condF rfl ?_
          | refine SPB.cond rfl (And.intro (fun h => ?_) (fun h => ?_))
          | (conv => whnf
             first
               | refine And.intro (fun h => Bool.noConfusion (h : false = true)) (fun _ => ?_)
               | refine And.intro (fun _ => ?_) (fun h => Bool.noConfusion (h : true = false))
               | refine And.intro (by kernel_rfl) ?_
               | refine And.intro (Int.natCast_nonneg k) (Exists.intro _ (And.intro hq ?_))
               | refine And.intro (Int.natCast_nonneg k) (And.intro hw0 (And.intro hw1 (And.intro hw2 ?_)))
               | refine Exists.intro _ (And.intro (k40q) ?_)
               | refine And.intro (fun h => ?_) (fun h => ?_)
               | refine Or.inl ?_
               | fail)
        refine Exists.intro (k + 1) (And.intro hlt (And.intro (by omega) (St.le.of ?_ ?_)))
        · refine And.intro (congrArg some (le_next (by omega))) (And.intro rfl (And.intro (congrArg (fun z => some (AV.int .i64 z)) ?_) ?_))
          · rw [hs, sumW_snoc, hc]; rfl
          · repeat' (first | exact trivial | refine And.intro rfl ?_)
        · repeat' (first | exact trivial | refine And.intro rfl ?_)
      · have hc : costS s q = s 15 := if_neg h1
        rw [hc] at k40q
        have bb1 : (q.k == 1) = true → False := fun h => h1 (by simpa using h)
        have bb2 : (IntKind.i64.wrap (bare + IntKind.i64.wrap (minW a b q * s 15)) != IntKind.i64.wrap (bare + IntKind.i64.wrap (minW a b q * s 15))) = true → False := fun h => by simp at h
        repeat' first
          | exact (bbk (by assumption)).elim
          | exact (bb1 (by assumption)).elim
          | exact (bb2 (by assumption)).elim
          | refine SPB.seq ?_
          | refine SPB.block ?_
          | refine SPB.draw hG Try.TT_ok Try.keep11 (by kernel_rfl) ?_
          | refine SPB.reg hG Try.TT_ok Try.keep11 (by kernel_rfl) ?_
          | refine SPB.skip hG Try.TT_ok ?_
          | refine SPB.label hG Try.TT_ok ?_
          | refine SPB.ret hG Try.TT_ok ?_
          | refine SPB.exit hG Try.TT_ok ?_
          | refine SPB.condT rfl ?_
          | refine SPB.condF rfl ?_
          | refine SPB.cond rfl (And.intro (fun h => ?_) (fun h => ?_))
          | (conv => whnf
             first
               | refine And.intro (fun h => Bool.noConfusion (h : false = true)) (fun _ => ?_)
               | refine And.intro (fun _ => ?_) (fun h => Bool.noConfusion (h : true = false))
               | refine And.intro (by kernel_rfl) ?_
               | refine And.intro (Int.natCast_nonneg k) (Exists.intro _ (And.intro hq ?_))
               | refine And.intro (Int.natCast_nonneg k) (And.intro hw0 (And.intro hw1 (And.intro hw2 ?_)))
               | refine Exists.intro _ (And.intro (k40q) ?_)
               | refine And.intro (fun h => ?_) (fun h => ?_)
               | refine Or.inl ?_
               | fail)
        refine Exists.intro (k + 1) (And.intro hlt (And.intro (by omega) (St.le.of ?_ ?_)))
        · refine And.intro (congrArg some (le_next (by omega))) (And.intro rfl (And.intro (congrArg (fun z => some (AV.int .i64 z)) ?_) ?_))
          · rw [hs, sumW_snoc, hc]; rfl
          · repeat' (first | exact trivial | refine And.intro rfl ?_)
        · repeat' (first | exact trivial | refine And.intro rfl ?_)
    · have hge : k = l.length := by omega
      subst hge
      have bbk : decide (((l.length : Nat) : Int) < ((l.map loadA).length : Int)) = true → False := fun h => by have := of_decide_eq_true h; rw [List.length_map] at this; omega
      repeat' first
        | exact (bbk (by assumption)).elim
        | refine SPB.seq ?_
        | refine SPB.block ?_
        | refine SPB.draw hG Try.TT_ok Try.keep11 (by kernel_rfl) ?_
        | refine SPB.reg hG Try.TT_ok Try.keep11 (by kernel_rfl) ?_
        | refine SPB.skip hG Try.TT_ok ?_
        | refine SPB.label hG Try.TT_ok ?_
        | refine SPB.ret hG Try.TT_ok ?_
        | refine SPB.exit hG Try.TT_ok ?_
        | refine SPB.condT rfl ?_
        | refine SPB.condF rfl ?_
        | refine SPB.cond rfl (And.intro (fun h => ?_) (fun h => ?_))
        | (conv => whnf
           first
             | refine And.intro (fun h => Bool.noConfusion (h : false = true)) (fun _ => ?_)
             | refine And.intro (fun _ => ?_) (fun h => Bool.noConfusion (h : true = false))
             | refine And.intro (by kernel_rfl) ?_
             | refine And.intro (fun h => ?_) (fun h => ?_)
             | refine Or.inl ?_
             | fail)
      all_goals refine Ends.mk (Or.inl rfl) (AV.weak.of_eq (congrArg AV.bool ?_))
      all_goals (rw [List.take_length, f1]; simp)
end Go.Proofs


namespace Go.Proofs
open Go Go.AI
set_option maxRecDepth 10000
set_option linter.unusedSimpArgs false
theorem net_sum {s : Nat → Int} (h : Fed s) (l : List Load3) (hl : l.length ≤ 80) (a : Int) {N : Nat} (hN : N ≤ 10000) :
    sumRun (netsL s l a (a + (N : Int))) = psum (fun i => netP s l (litS (orbO s) (a + (i : Int))) (a + (i : Int))) N := by
  have e := netsL_eq s l a 0 N (Nat.zero_le _)
  rw [show a + ((0 : Nat) : Int) = a by omega] at e
  have hf : ∀ i : Nat, netS s l (a + (i : Int)) = netP s l (litS (orbO s) (a + (i : Int))) (a + (i : Int)) ∧ -1000000 ≤ netS s l (a + (i : Int)) ∧ netS s l (a + (i : Int)) ≤ 1000000 := fun i => by
    have := net_eq h (a + (i : Int)) l (litS (orbO s) (a + (i : Int))) hl
    have e2 : netS s l (a + (i : Int)) = netP s l (litS (orbO s) (a + (i : Int))) (a + (i : Int)) := this.1
    exact ⟨e2, by omega, by omega⟩
  rw [e, show (fun k => netS s l (a + ((0 + k : Nat) : Int))) = (fun k : Nat => netS s l (a + (k : Int))) from by funext k; rw [Nat.zero_add], Nat.sub_zero, sum_ok (fun i => (hf i).2) _ _ hN]
  exact psum_congr _ fun i _ => (hf i).1
theorem one_ok : ∀ (l pre : List Load3), okL pre l = true → ∀ x ∈ l, inS x.k 1 2 = true ∧ rightS x.a x.b = true
  | [], _, _, x, h => absurd h (by simp)
  | y :: r, pre, h, x, hx => by
    simp only [okL, Bool.and_eq_true] at h
    rcases List.mem_cons.1 hx with rfl | hx
    · have := h.1
      simp only [loadOK, Bool.and_eq_true] at this
      exact this.1
    · exact one_ok r _ h.2 x hx
theorem proper_one {l : List Load3} (h : properS l = true) {x : Load3} (hx : x ∈ l) : properS [x] = true := by
  simp only [properS, Bool.and_eq_true] at h
  have := one_ok l [] h.2 x hx
  simp only [properS, okL, loadOK, this.1, this.2]
  rfl
theorem valid_with {s : Nat → Int} {l k : List Load3} {a b : Int} (h : validS s l a b = true) (hk : properS k = true) : validS s k a b = true := by
  simp only [validS, Bool.and_eq_true] at h ⊢
  exact ⟨⟨h.1.1, hk⟩, h.2⟩
theorem minS_rng (a b x y : Int) (h : a ≤ b) : 0 ≤ minS a b x y ∧ minS a b x y ≤ b - a := by unfold minS; omega
theorem cost_rng {s : Nat → Int} (h : MFed s) (x : Load3) : 0 ≤ costS s x ∧ costS s x ≤ 31 := by
  have := h.h; have := h.d
  unfold costS; split <;> omega
theorem mul_rng2 {m k : Int} (h1 : 0 ≤ m ∧ m ≤ 200) (h2 : 0 ≤ k ∧ k ≤ 31) : 0 ≤ m * k ∧ m * k ≤ 6200 := by
  have h3 : 0 ≤ m * k := Int.mul_nonneg h1.1 h2.1
  have h4 : m * k ≤ 200 * 31 := Int.mul_le_mul h1.2 h2.2 h2.1 (by omega)
  omega
theorem Try.x11 (c : BCase) : ACalls Try.prog 11 [.agg (orbA c.x), .agg (i4A c.y), .sl .no 3 (c.z.map row3A), .int .i64 c.from_, .int .i64 c.long] (.bool true) := by
  have hr := c.rng
  have hN : 1 ≤ c.N ∧ c.N ≤ 200 := by unfold BCase.N; omega
  have hbN := c.bN
  have hl10 := c.len
  have hlen : c.l.length ≤ 1000000 := by omega
  have hv := c.valid (a := c.a) (b := c.b) (by omega) (by omega) (by omega) (by omega)
  have hfed := c.mfed.fed
  have bare_eq := net_sum hfed [] (by simp) c.a (N := c.N) (by omega)
  have hp0 : properS [] = true := rfl
  -- what a load adds
  have hmin : ∀ x ∈ c.l, minW c.a c.b x = minS c.a (c.a + (c.N : Int)) x.a x.b ∧ 0 ≤ minS c.a (c.a + (c.N : Int)) x.a x.b ∧ minS c.a (c.a + (c.N : Int)) x.a x.b ≤ 200 := fun x hx => by
    have hp := c.proper
    simp only [properS, Bool.and_eq_true] at hp
    have hb := right_b (one_ok c.l [] hp.2 x hx).2
    have := minS_rng c.a (c.a + (c.N : Int)) x.a x.b (by omega)
    refine ⟨?_, by omega, by omega⟩
    unfold minW minS
    rw [hbN, show IntKind.i64.wrap (min (c.a + (c.N : Int)) x.b - max c.a x.a) = min (c.a + (c.N : Int)) x.b - max c.a x.a from w64_in (by omega) (by omega)]
  have hadd : ∀ x ∈ c.l, IntKind.i64.wrap (minW c.a c.b x * costS c.s x) = minS c.a (c.a + (c.N : Int)) x.a x.b * costS c.s x ∧ 0 ≤ minS c.a (c.a + (c.N : Int)) x.a x.b * costS c.s x ∧ minS c.a (c.a + (c.N : Int)) x.a x.b * costS c.s x ≤ 6200 := fun x hx => by
    obtain ⟨h1, h2, h3⟩ := hmin x hx
    have := mul_rng2 ⟨h2, h3⟩ (cost_rng c.mfed x)
    rw [h1]
    exact ⟨w64_in (by omega) (by omega), this⟩
  have hbr : -(1000000 * (c.N : Int)) ≤ sumRun (netsL c.s [] c.a (c.a + (c.N : Int))) ∧ sumRun (netsL c.s [] c.a (c.a + (c.N : Int))) ≤ 1000000 * (c.N : Int) := by
    rw [bare_eq]
    exact psum_rng (fun i => by have := (net_eq hfed (c.a + (i : Int)) [] (litS (orbO c.s) (c.a + (i : Int))) (by simp)).2; omega) c.N
  rw [← hbN] at hbr
  have k40 := Try.c40 c.s c.l c.a c.b hlen hv
  have k40e := (Try.c40 c.s [] c.a c.b (by simp) (valid_with hv hp0)).weak (us := [.agg (satA c.s), .sl .full 0 [], .agg (spellA c.a c.b)]) (.cons (.refl _) (.cons AV.weak.slnil (.cons (.refl _) .nil)))
  refine Try.y11 c.x c.y c.s c.l c.z c.from_ c.long c.a c.b _ _ (by omega) (Try.c35 c) k40 k40e (fun x hx => ?_) ?_
  · have h := Try.c40 c.s [x] c.a c.b (by simp) (valid_with hv (proper_one c.proper hx))
    obtain ⟨g1, g2, g3⟩ := hadd x hx
    have e := net_sum hfed [x] (by simp) c.a (N := c.N) (by omega)
    rw [sums_eq, ← bare_eq, ← hbN] at e
    simp only [List.map_cons, List.map_nil, List.sum_cons, List.sum_nil, Int.add_zero] at e
    rw [← hbN] at g1 g2 g3
    rw [g1, show IntKind.i64.wrap (sumRun (netsL c.s [] c.a c.b) + minS c.a c.b x.a x.b * costS c.s x) = sumRun (netsL c.s [] c.a c.b) + minS c.a c.b x.a x.b * costS c.s x from w64_in (by omega) (by omega), ← e]
    exact h
  · have e := net_sum hfed c.l (by omega) c.a (N := c.N) (by omega)
    rw [sums_eq, ← bare_eq, ← hbN] at e
    rw [e]
    have key : ∀ (l : List Load3) (acc : Int), (∀ x ∈ l, x ∈ c.l) → l.length ≤ 10 → -(1000000 * (c.N : Int)) ≤ acc → acc ≤ 1000000 * (c.N : Int) + 6200 * (10 - (l.length : Int)) →
        l.foldl (fun acc x => IntKind.i64.wrap (acc + IntKind.i64.wrap (minW c.a c.b x * costS c.s x))) acc = acc + (l.map fun x => minS c.a c.b x.a x.b * costS c.s x).sum := by
      intro l
      induction l with
      | nil => intro acc _ _ _ _; simp
      | cons x r ih =>
        intro acc hm hl h1 h2
        obtain ⟨g1, g2, g3⟩ := hadd x (hm x List.mem_cons_self)
        rw [← hbN] at g1 g2 g3
        rw [List.length_cons] at hl h2
        simp only [List.foldl_cons, List.map_cons, List.sum_cons]
        rw [g1, show IntKind.i64.wrap (acc + minS c.a c.b x.a x.b * costS c.s x) = acc + minS c.a c.b x.a x.b * costS c.s x from w64_in (by omega) (by omega)]
        rw [ih _ (fun y hy => hm y (List.mem_cons_of_mem _ hy)) (by omega) (by omega) (by omega)]
        omega
    exact (key c.l _ (fun _ h => h) hl10 hbr.1 (by omega)).symm
end Go.Proofs


namespace Go.Proofs
open Go Go.AI Go.Proofs.Ytoccmkmnkoldmaa
set_option maxRecDepth 100000
theorem Try.own : ownKnob Try.prog.godebug = none := by kernel_rfl
theorem Try.laidOut : laidOutB Try.prog = true := by kernel_rfl
theorem Try.reads22 : (Try.prog.readableRec 22 && Nat.blt 22 Try.prog.types.size) = true := by kernel_rfl
theorem Try.reads54 : (Try.prog.readableRec 54 && Nat.blt 54 Try.prog.types.size) = true := by kernel_rfl
theorem Try.reads55 : (Try.prog.readableRec 55 && Nat.blt 55 Try.prog.types.size) = true := by kernel_rfl
theorem Try.reads3 : (Try.prog.readableRec 3 && Nat.blt 3 Try.prog.types.size) = true := by kernel_rfl
def seven0 : Value := .agg #[.int .i64 0, .int .i64 0, .int .i64 0, .int .i64 0, .int .i64 0, .int .i64 0, .int .i64 0]
def sevenSh : List Sh := [.int .i64, .int .i64, .int .i64, .int .i64, .int .i64, .int .i64, .int .i64]
def lawSh : List (Bool × List Sh) := [(true, sevenSh), (true, [.int .i64, .int .i64, .int .i64, .int .i64]), (false, [.sl [.int .i64, .int .i64, .int .i64]]), (false, [.int .i64]), (false, [.int .i64])]
theorem Try.shs : paramSh Try.prog 8 [22, 54, 55, 3, 3] = some lawSh := by kernel_rfl
theorem Try.lifted (law : ∀ avs, PArgs 8 lawSh avs → ACalls Try.prog 11 avs (.bool true)) (os : Os) (started : os.Started) (H : Type) (enc : TypeId × Value → H) :
    ReturnsInHanded {} Try.checked os 11 .any (Rows.batterySumsSpec.pre6 enc Try.prog Try.f11 Rows.batterySumsRow.domain false) (Rows.batterySumsSpec.post enc Try.prog Try.f11 false true false false) :=
  law_lifted (C := Try.checked) (tb := 4) Try.own started (by kernel_rfl) Try.func11
    (ChangeSpec.witness6 (enc := enc) (C := Try.checked) false ⟨#[], #[seven0, .agg #[.int .i64 0, .int .i64 0, .int .i64 0, .int .i64 0], .slice none 0 0, .int .i64 0, .int .i64 0], []⟩ 8 (by kernel_rfl) (by kernel_rfl) (by kernel_rfl) (by kernel_rfl))
    rfl (by kernel_rfl) (by kernel_rfl) (fun ds h => by
      match ds, h with
      | [d, da, db, d0, d1], _ => rfl) Try.shs Try.laidOut (fun t ht => by
      have e : Try.f11.params.toList = [22, 54, 55, 3, 3] := by kernel_rfl
      rw [e] at ht
      simp only [List.mem_cons, List.not_mem_nil, or_false] at ht
      have h22 := Try.reads22
      have h3 := Try.reads3
      have h54 := Try.reads54
      have h55 := Try.reads55
      simp only [Bool.and_eq_true] at h22 h3 h54 h55
      have g : t = 22 ∨ t = 54 ∨ t = 55 ∨ t = 3 := by rcases ht with h | h | h | h | h <;> first | exact .inl h | exact .inr (.inl h) | exact .inr (.inr (.inl h)) | exact .inr (.inr (.inr h))
      rcases g with rfl | rfl | rfl | rfl
      · exact ⟨h22.1, Nat.le_of_ble_eq_true h22.2⟩
      · exact ⟨h54.1, Nat.le_of_ble_eq_true h54.2⟩
      · exact ⟨h55.1, Nat.le_of_ble_eq_true h55.2⟩
      · exact ⟨h3.1, Nat.le_of_ble_eq_true h3.2⟩) law
theorem Try.row (law : ∀ avs, PArgs 8 lawSh avs → ACalls Try.prog 11 avs (.bool true)) : Rows.BatterySumsSaid :=
  OpenClaim.holds_of_wide (p := Try.pinned) (s := Rows.batterySumsSpec) (c := Rows.batterySumsRow) 11 Try.f11 rfl rfl rfl rfl rfl rfl rfl ⟨rfl, rfl, rfl, rfl, rfl⟩ rfl rfl rfl rfl rfl (by kernel_rfl) Try.func11 (by kernel_rfl)
    (of_decide_eq_true (by kernel_rfl)) (by unfold Func.isWrapper; first | (rw [if_pos (by decide +kernel)]; kernel_rfl) | (rw [if_neg (by decide +kernel)]; exact ⟨rfl, rfl⟩))
    (fun os started H enc _ => Try.lifted law os started H enc)
theorem pargs_agg {n : Nat} {L : List Sh} {r : List (Bool × List Sh)} {avs : List AV} (h : PArgs n ((true, L) :: r) avs) : ∃ cs q, avs = .agg cs :: q ∧ Fa (ShOK n) L cs ∧ PArgs n r q := by
  match avs, h with
  | _ :: q, h =>
    obtain ⟨⟨cs, rfl, h1⟩, h2⟩ := h
    exact ⟨cs, q, rfl, h1, h2⟩
  | [], h => exact h.elim
theorem pargs_int {n : Nat} {r : List (Bool × List Sh)} {avs : List AV} (h : PArgs (n + 1) ((false, [.int .i64]) :: r) avs) : ∃ z q, avs = .int .i64 z :: q ∧ inI z ∧ PArgs (n + 1) r q := by
  match avs, h with
  | _ :: q, h =>
    obtain ⟨⟨s, e, h1⟩, h2⟩ := h
    cases e
    obtain ⟨z, rfl, hz⟩ := int_inv h1
    exact ⟨z, q, rfl, hz, h2⟩
  | [], h => exact h.elim
theorem pargs_sl {n : Nat} {e : List Sh} {r : List (Bool × List Sh)} {avs : List AV} (h : PArgs n ((false, [.sl e]) :: r) avs) : ∃ z q, avs = z :: q ∧ ShOK n (.sl e) z ∧ PArgs n r q := by
  match avs, h with
  | _ :: q, h =>
    obtain ⟨⟨s, e, h1⟩, h2⟩ := h
    cases e
    exact ⟨_, q, rfl, h1, h2⟩
  | [], h => exact h.elim
theorem pargs_nil {n : Nat} {avs : List AV} (h : PArgs n [] avs) : avs = [] := by
  match avs, h with
  | [], _ => rfl
  | _ :: _, h => exact h.elim
end Go.Proofs
namespace Go.Proofs.Ytoccmkmnkoldmaa
open Go Go.AI
/-- BatterySums answers true, whatever the input. -/
theorem batterySums : Rows.BatterySumsSaid := Try.row fun avs h => by
  obtain ⟨cs, q, rfl, h1, h⟩ := pargs_agg h
  obtain ⟨ds, q, rfl, h2, h⟩ := pargs_agg h
  obtain ⟨z, q, rfl, h3, h⟩ := pargs_sl h
  obtain ⟨z0, q, rfl, i0, h⟩ := pargs_int h
  obtain ⟨z1, q, rfl, i1, h⟩ := pargs_int h
  obtain rfl := pargs_nil h
  obtain ⟨x, hx, rfl⟩ := seven_of h1
  obtain ⟨y, hy, rfl⟩ := four_of h2
  obtain ⟨w, hw, rfl⟩ := rows_of h3
  exact Go.Proofs.Try.x11 ⟨x, y, w, z0, z1, hx, hy, hw, i0, i1⟩  
end Go.Proofs.Ytoccmkmnkoldmaa


