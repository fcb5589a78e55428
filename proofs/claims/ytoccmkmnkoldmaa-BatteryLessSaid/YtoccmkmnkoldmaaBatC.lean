/- The walks of BatteryWindows and BatterySums, and what is known of a case's nets; the conditions are those typed. -/
import Derived.Test.YtoccmkmnkoldmaaBatB
set_option linter.unusedSectionVars false
set_option linter.unusedVariables false
set_option linter.unusedSimpArgs false
namespace Go.Proofs
open Go Go.AI
set_option maxRecDepth 10000
set_option linter.unusedSimpArgs false

theorem idx_drop {L : List Int} {k : Nat} (p : Int → Bool) (h : k < L.length) : idxF p (L.drop k) k = if p (L.getD k 0) then (k : Int) else idxF p (L.drop (k + 1)) (k + 1) := idxF_step h
def firstS (L : List Int) (a : Int) (k : Nat) : Int := if idxF (fun n => decide (n < 0)) (L.drop k) k ≥ 0 then w64 (a + idxF (fun n => decide (n < 0)) (L.drop k) k) else -1
def lowS (C : Int) (L : List Int) (k : Nat) : Int := (L.drop k).foldr (fun x m => min m x) C
theorem low_step {C : Int} {L : List Int} {k : Nat} (h : k < L.length) : lowS C L k = min (lowS C L (k + 1)) (L.getD k 0) := by
  unfold lowS
  rw [List.drop_eq_getElem_cons h, List.getD_eq_getElem?_getD, List.getElem?_eq_getElem h]; rfl
set_option maxHeartbeats 8000000 in
theorem Try.y10 (x y s : Nat → Int) (l : List Load3) (z : List (Int × Int × Int)) (from_ long one two a b : Int) (L : List Int) (wf wt net e p1 p2 own other : Int)
    (hL : L.length ≤ 1000000)
    (k35 : ACalls Try.prog 35 [.agg (orbA x), .agg (i4A y), .sl .no 3 (z.map row3A), .int .i64 from_, .int .i64 long] (.tup [.agg (satA s), loadsA l, .agg (spellA a b)]))
    (k36 : ACalls Try.prog 36 [.agg (satA s), loadsA l, .agg (spellA a b)] (.tup [intsA L, .int .i64 0]))
    (k37 : ACalls Try.prog 37 [.agg (satA s), loadsA l, .agg (spellA a b)] (.tup [.agg (spellA wf wt), .int .i64 net, .int .i64 0]))
    (k38 : ACalls Try.prog 38 [.agg (satA s), loadsA l, .agg (spellA a b)] (.tup [.int .i64 (firstS L a 0), .int .i64 0]))
    (k39a : ACalls Try.prog 39 [.int .i64 one, .int .i64 (IntKind.i64.wrap (b - a))] (.int .i64 p1))
    (k39b : ACalls Try.prog 39 [.int .i64 two, .int .i64 (IntKind.i64.wrap (b - IntKind.i64.wrap (a + p1)))] (.int .i64 p2))
    (k40a : ACalls Try.prog 40 [.agg (satA s), loadsA l, .agg (spellA wf wt)] (.tup [.int .i64 own, .int .i64 0]))
    (k40b : ACalls Try.prog 40 [.agg (satA s), loadsA l, .agg (spellA (IntKind.i64.wrap (a + p1)) (IntKind.i64.wrap (IntKind.i64.wrap (IntKind.i64.wrap (a + p1) + 1) + p2)))] (.tup [.int .i64 other, .int .i64 0]))
    (f1 : ((L.map fun h => [AV.int .i64 h]).length : Int) = IntKind.i64.wrap (b - a))
    (f2 : lowS (s 11) L 0 = IntKind.i64.wrap (s 11 - max 0 net))
    (f3 : (firstS L a 0 == -1) = decide (net ≤ s 11))
    (f4 : (own == net) = true)
    (f5 : decide (other ≤ net) = true)
    (f6 : decide (wf ≥ a) = true)
    (f7 : decide (wt ≤ b) = true)
    (f8 : decide (other < net) = true ∨ decide (wf < IntKind.i64.wrap (a + p1)) = true ∨ (wf == IntKind.i64.wrap (a + p1)) = true ∧ decide (wt ≤ IntKind.i64.wrap (IntKind.i64.wrap (IntKind.i64.wrap (a + p1) + 1) + p2)) = true) :
    ACalls Try.prog 10 [.agg (orbA x), .agg (i4A y), .sl .no 3 (z.map row3A), .int .i64 from_, .int .i64 long, .int .i64 one, .int .i64 two] (.bool true) := by
  have bb1 : (((L.map fun h => [AV.int .i64 h]).length : Int) != IntKind.i64.wrap (b - a)) = true → False := fun h => by rw [f1] at h; simp at h
  have bb2 : (lowS (s 11) L 0 != IntKind.i64.wrap (s 11 - max 0 net)) = true → False := fun h => by rw [f2] at h; simp at h
  have bb3 : (firstS L a 0 != firstS L a 0) = true → False := fun h => by simp at h
  have bb4 : ((firstS L a 0 == -1) != decide (net ≤ s 11)) = true → False := fun h => by rw [f3] at h; simp at h
  have bb5 : (own == net) = false → False := fun h => tf f4 h
  have bb6 : decide (other ≤ net) = false → False := fun h => tf f5 h
  have bb7 : decide (wf ≥ a) = false → False := fun h => tf f6 h
  have bb8 : decide (wt ≤ b) = false → False := fun h => tf f7 h
  refine ACalls.ofB Try.TT_ok Try.func10 rfl (by kernel_rfl) Try.mixed (Nat.le_of_ble_eq_true rfl) ?_
  intro F n' w0 m0 hG hro h1
  repeat' first
    | refine SPB.seq ?_
    | refine SPB.block ?_
    | refine SPB.draw hG Try.TT_ok Try.keep10 (by kernel_rfl) ?_
    | refine SPB.reg hG Try.TT_ok Try.keep10 (by kernel_rfl) ?_
    | refine SPB.skip hG Try.TT_ok ?_
    | refine SPB.label hG Try.TT_ok ?_
    | refine SPB.ret hG Try.TT_ok ?_
    | refine SPB.exit hG Try.TT_ok ?_
    | refine SPB.condT rfl ?_
    | refine SPB.condF rfl ?_
    | refine SPB.cond rfl (And.intro (fun h => ?_) (fun h => ?_))
    | (conv => whnf
       first
         | refine And.intro (fun h => Bool.noConfusion (h : false = true)) (fun _ => ?_)
         | refine And.intro (fun _ => ?_) (fun h => Bool.noConfusion (h : true = false))
         | refine And.intro (by kernel_rfl) ?_
         | refine And.intro (fun h => ?_) (fun h => ?_)
         | refine Or.inl ?_
         | fail)
  conv => whnf
  refine Exists.intro _ (And.intro (Try.c34) ?_)
  repeat' first
    | refine SPB.seq ?_
    | refine SPB.block ?_
    | refine SPB.draw hG Try.TT_ok Try.keep10 (by kernel_rfl) ?_
    | refine SPB.reg hG Try.TT_ok Try.keep10 (by kernel_rfl) ?_
    | refine SPB.skip hG Try.TT_ok ?_
    | refine SPB.label hG Try.TT_ok ?_
    | refine SPB.ret hG Try.TT_ok ?_
    | refine SPB.exit hG Try.TT_ok ?_
    | refine SPB.condT rfl ?_
    | refine SPB.condF rfl ?_
    | refine SPB.cond rfl (And.intro (fun h => ?_) (fun h => ?_))
    | (conv => whnf
       first
         | refine And.intro (fun h => Bool.noConfusion (h : false = true)) (fun _ => ?_)
         | refine And.intro (fun _ => ?_) (fun h => Bool.noConfusion (h : true = false))
         | refine And.intro (by kernel_rfl) ?_
         | refine And.intro (fun h => ?_) (fun h => ?_)
         | refine Or.inl ?_
         | fail)
  conv => whnf
  refine Exists.intro _ (And.intro (k35) ?_)
  repeat' first
    | refine SPB.seq ?_
    | refine SPB.block ?_
    | refine SPB.draw hG Try.TT_ok Try.keep10 (by kernel_rfl) ?_
    | refine SPB.reg hG Try.TT_ok Try.keep10 (by kernel_rfl) ?_
    | refine SPB.skip hG Try.TT_ok ?_
    | refine SPB.label hG Try.TT_ok ?_
    | refine SPB.ret hG Try.TT_ok ?_
    | refine SPB.exit hG Try.TT_ok ?_
    | refine SPB.condT rfl ?_
    | refine SPB.condF rfl ?_
    | refine SPB.cond rfl (And.intro (fun h => ?_) (fun h => ?_))
    | (conv => whnf
       first
         | refine And.intro (fun h => Bool.noConfusion (h : false = true)) (fun _ => ?_)
         | refine And.intro (fun _ => ?_) (fun h => Bool.noConfusion (h : true = false))
         | refine And.intro (by kernel_rfl) ?_
         | refine And.intro (fun h => ?_) (fun h => ?_)
         | refine Or.inl ?_
         | fail)
  conv => whnf
  refine Exists.intro _ (And.intro (k36) ?_)
  repeat' first
    | refine SPB.seq ?_
    | refine SPB.block ?_
    | refine SPB.draw hG Try.TT_ok Try.keep10 (by kernel_rfl) ?_
    | refine SPB.reg hG Try.TT_ok Try.keep10 (by kernel_rfl) ?_
    | refine SPB.skip hG Try.TT_ok ?_
    | refine SPB.label hG Try.TT_ok ?_
    | refine SPB.ret hG Try.TT_ok ?_
    | refine SPB.exit hG Try.TT_ok ?_
    | refine SPB.condT rfl ?_
    | refine SPB.condF rfl ?_
    | refine SPB.cond rfl (And.intro (fun h => ?_) (fun h => ?_))
    | (conv => whnf
       first
         | refine And.intro (fun h => Bool.noConfusion (h : false = true)) (fun _ => ?_)
         | refine And.intro (fun _ => ?_) (fun h => Bool.noConfusion (h : true = false))
         | refine And.intro (by kernel_rfl) ?_
         | refine And.intro (fun h => ?_) (fun h => ?_)
         | refine Or.inl ?_
         | fail)
  conv => whnf
  refine Exists.intro _ (And.intro (k37) ?_)
  repeat' first
    | refine SPB.seq ?_
    | refine SPB.block ?_
    | refine SPB.draw hG Try.TT_ok Try.keep10 (by kernel_rfl) ?_
    | refine SPB.reg hG Try.TT_ok Try.keep10 (by kernel_rfl) ?_
    | refine SPB.skip hG Try.TT_ok ?_
    | refine SPB.label hG Try.TT_ok ?_
    | refine SPB.ret hG Try.TT_ok ?_
    | refine SPB.exit hG Try.TT_ok ?_
    | refine SPB.condT rfl ?_
    | refine SPB.condF rfl ?_
    | refine SPB.cond rfl (And.intro (fun h => ?_) (fun h => ?_))
    | (conv => whnf
       first
         | refine And.intro (fun h => Bool.noConfusion (h : false = true)) (fun _ => ?_)
         | refine And.intro (fun _ => ?_) (fun h => Bool.noConfusion (h : true = false))
         | refine And.intro (by kernel_rfl) ?_
         | refine And.intro (fun h => ?_) (fun h => ?_)
         | refine Or.inl ?_
         | fail)
  conv => whnf
  refine Exists.intro _ (And.intro (k38) ?_)
  repeat' first
    | refine SPB.seq ?_
    | refine SPB.block ?_
    | refine SPB.draw hG Try.TT_ok Try.keep10 (by kernel_rfl) ?_
    | refine SPB.reg hG Try.TT_ok Try.keep10 (by kernel_rfl) ?_
    | refine SPB.skip hG Try.TT_ok ?_
    | refine SPB.label hG Try.TT_ok ?_
    | refine SPB.ret hG Try.TT_ok ?_
    | refine SPB.exit hG Try.TT_ok ?_
    | refine SPB.condT rfl ?_
    | refine SPB.condF rfl ?_
    | refine SPB.cond rfl (And.intro (fun h => ?_) (fun h => ?_))
    | (conv => whnf
       first
         | refine And.intro (fun h => Bool.noConfusion (h : false = true)) (fun _ => ?_)
         | refine And.intro (fun _ => ?_) (fun h => Bool.noConfusion (h : true = false))
         | refine And.intro (by kernel_rfl) ?_
         | refine And.intro (fun h => ?_) (fun h => ?_)
         | refine Or.inl ?_
         | fail)
  all_goals try (first | exact (bb1 (by assumption)).elim | exact (bb2 (by assumption)).elim | exact (bb3 (by assumption)).elim)
  refine SPB.loop (X := Nat) (fun k => ⟨[(27, .int .i64 ((k : Int) - 1)), (26, .int .i64 (firstS L a k)), (25, .int .i64 (lowS (s 11) L k)), (23, .int .i64 (firstS L a 0)), (21, .int .i64 net), (20, .loc 20 0), (18, intsA L), (17, .loc 17 0), (16, loadsA l), (15, .loc 15 0), (6, .int .i64 two), (5, .int .i64 one)],
      [(20, spellA wf wt), (17, spellA a b), (15, satA s)]⟩)
    (fun k => k ≤ L.length) (fun k => k) L.length (Nat.le_refl _) (St.le.of ?_ ?_) (fun k hk => ?_)
  · refine And.intro (congrArg (fun z => some (AV.int .i64 z)) ?_) (And.intro (congrArg (fun z => some (AV.int .i64 z)) ?_) (And.intro (congrArg (fun z => some (AV.int .i64 z)) ?_) ?_))
    · rw [List.length_map]; exact w64_in (by omega) (by omega)
    · unfold firstS; rw [List.drop_length]; rfl
    · unfold lowS; rw [List.drop_length]; rfl
    · repeat' (first | exact trivial | refine And.intro rfl ?_)
  · repeat' (first | exact trivial | refine And.intro rfl ?_)
  · rcases k with _ | k
    · repeat' first
        | exact (bb2 (by assumption)).elim
        | exact (bb3 (by assumption)).elim
        | exact (bb4 (by assumption)).elim
        | exact (bb5 (by assumption)).elim
        | exact (bb6 (by assumption)).elim
        | exact (bb7 (by assumption)).elim
        | exact (bb8 (by assumption)).elim
        | refine SPB.seq ?_
        | refine SPB.block ?_
        | refine SPB.draw hG Try.TT_ok Try.keep10 (by kernel_rfl) ?_
        | refine SPB.reg hG Try.TT_ok Try.keep10 (by kernel_rfl) ?_
        | refine SPB.skip hG Try.TT_ok ?_
        | refine SPB.label hG Try.TT_ok ?_
        | refine SPB.ret hG Try.TT_ok ?_
        | refine SPB.exit hG Try.TT_ok ?_
        | refine SPB.condT rfl ?_
        | refine SPB.condF rfl ?_
        | refine SPB.cond rfl (And.intro (fun h => ?_) (fun h => ?_))
        | (conv => whnf
           first
             | refine And.intro (fun h => Bool.noConfusion (h : false = true)) (fun _ => ?_)
             | refine And.intro (fun _ => ?_) (fun h => Bool.noConfusion (h : true = false))
             | refine And.intro (by kernel_rfl) ?_
             | refine Exists.intro _ (And.intro (k39a) ?_)
             | refine Exists.intro _ (And.intro (k39b) ?_)
             | refine Exists.intro _ (And.intro (k40a) ?_)
             | refine Exists.intro _ (And.intro (k40b) ?_)
             | refine And.intro (fun h => ?_) (fun h => ?_)
             | refine Or.inl ?_
             | fail)
      · exact Ends.mk (Or.inl rfl) (AV.weak.of_eq rfl)
      · exact Ends.mk (Or.inl rfl) (AV.weak.of_eq rfl)
      · exact Ends.mk (Or.inl rfl) (AV.weak.of_eq (congrArg AV.bool (f8.elim (fun h => (tf h (by assumption)).elim) (fun h => h.elim (fun h => (tf h (by assumption)).elim) (fun h => h.2)))))
      · exact (f8.elim (fun h => (tf h (by assumption)).elim) (fun h => h.elim (fun h => (tf h (by assumption)).elim) (fun h => tf h.1 (by assumption)))).elim
    · have hlt : k < L.length := hk
      have hx : (L.map fun h => [AV.int .i64 h])[(((k + 1 : Nat) : Int) - 1).toNat]? = some [.int .i64 (L.getD k 0)] := by
        rw [show (((k + 1 : Nat) : Int) - 1).toNat = ((k : Nat) : Int).toNat by omega]
        exact ints_get _ _ hlt
      have bbk : decide (((k + 1 : Nat) : Int) - 1 ≥ 0) = false → False := fun h => by have := of_decide_eq_false h; omega
      repeat' first
        | exact (bbk (by assumption)).elim
        | refine SPB.seq ?_
        | refine SPB.block ?_
        | refine SPB.draw hG Try.TT_ok Try.keep10 (by kernel_rfl) ?_
        | refine SPB.reg hG Try.TT_ok Try.keep10 (by kernel_rfl) ?_
        | refine SPB.skip hG Try.TT_ok ?_
        | refine SPB.label hG Try.TT_ok ?_
        | refine SPB.ret hG Try.TT_ok ?_
        | refine SPB.exit hG Try.TT_ok ?_
        | refine SPB.condT rfl ?_
        | refine SPB.condF rfl ?_
        | refine SPB.cond rfl (And.intro (fun h => ?_) (fun h => ?_))
        | (conv => whnf
           first
             | refine And.intro (fun h => Bool.noConfusion (h : false = true)) (fun _ => ?_)
             | refine And.intro (fun _ => ?_) (fun h => Bool.noConfusion (h : true = false))
             | refine And.intro (by kernel_rfl) ?_
             | refine And.intro (of_decide_eq_true (by assumption)) (Exists.intro _ (And.intro hx ?_))
             | refine And.intro (fun h => ?_) (fun h => ?_)
             | refine Or.inl ?_
             | fail)
      · refine Exists.intro k (And.intro (Nat.le_of_lt hlt) (And.intro (by omega) (St.le.of ?_ ?_)))
        · refine And.intro (congrArg (fun z => some (AV.int .i64 z)) ((w64_in (by omega) (by omega)).trans (by omega))) (And.intro (congrArg (fun z => some (AV.int .i64 z)) ?_) (And.intro (congrArg (fun z => some (AV.int .i64 z)) (low_step hlt).symm) ?_))
          · unfold firstS
            rw [idx_drop (fun n => decide (n < 0)) hlt, if_pos (c := (decide (L.getD k 0 < 0)) = true) (by assumption), if_pos (show ((k : Nat) : Int) ≥ 0 by omega)]
            exact congrArg w64 (by omega)
          · repeat' (first | exact trivial | refine And.intro rfl ?_)
        · repeat' (first | exact trivial | refine And.intro rfl ?_)
      · refine Exists.intro k (And.intro (Nat.le_of_lt hlt) (And.intro (by omega) (St.le.of ?_ ?_)))
        · refine And.intro (congrArg (fun z => some (AV.int .i64 z)) ((w64_in (by omega) (by omega)).trans (by omega))) (And.intro (congrArg (fun z => some (AV.int .i64 z)) ?_) (And.intro (congrArg (fun z => some (AV.int .i64 z)) (low_step hlt).symm) ?_))
          · unfold firstS
            rw [idx_drop (fun n => decide (n < 0)) hlt, if_neg (c := (decide (L.getD k 0 < 0)) = true) (fun h => tf h (by assumption))]
          · repeat' (first | exact trivial | refine And.intro rfl ?_)
        · repeat' (first | exact trivial | refine And.intro rfl ?_)
end Go.Proofs


namespace Go.Proofs
open Go Go.AI
set_option maxRecDepth 10000
set_option linter.unusedSimpArgs false
/-- The nets of a case's minutes. -/
def BCase.f (c : BCase) : Nat → Int := fun i => netS c.s c.l (c.a + (i : Int))
theorem BCase.nb (c : BCase) (i : Nat) : -1000000 ≤ c.f i ∧ c.f i ≤ 1000000 := by
  have hl := c.len
  have h := net_eq c.mfed.fed (c.a + (i : Int)) c.l (litS (orbO c.s) (c.a + (i : Int))) (by omega)
  have e : c.f i = netP c.s c.l (litS (orbO c.s) (c.a + (i : Int))) (c.a + (i : Int)) := h.1
  omega
theorem netsL_eq (s : Nat → Int) (l : List Load3) (a : Int) (i j : Nat) (h : i ≤ j) : netsL s l (a + (i : Int)) (a + (j : Int)) = pairsF (a + (i : Int)) (fun k => netS s l (a + ((i + k : Nat) : Int))) (j - i) := by
  unfold netsL
  rw [show (a + (j : Int) - (a + (i : Int))).toNat = j - i by omega]
  congr 1
  funext k
  congr 1
  omega
theorem BCase.sum (c : BCase) {i j : Nat} (h : i ≤ j) (hj : j ≤ 10000) : sumRun (netsL c.s c.l (c.a + (i : Int)) (c.a + (j : Int))) = psum c.f j - psum c.f i := by
  rw [netsL_eq _ _ _ _ _ h, sum_ok (f := fun k => netS c.s c.l (c.a + ((i + k : Nat) : Int))) (fun k => c.nb (i + k)) _ _ (by omega)]
  have := psum_shift c.f i (j - i)
  rw [show i + (j - i) = j by omega] at this
  have e : (fun k => netS c.s c.l (c.a + ((i + k : Nat) : Int))) = fun k => c.f (i + k) := rfl
  rw [e]
  omega
def BCase.N (c : BCase) : Nat := c.n.toNat
theorem BCase.bN (c : BCase) : c.b = c.a + (c.N : Int) := by have := c.rng; unfold BCase.b BCase.N; omega
theorem BCase.nets (c : BCase) : netsL c.s c.l c.a c.b = pairsF c.a c.f c.N := by
  have := c.rng
  unfold netsL BCase.N
  rw [show c.b - c.a = c.n by unfold BCase.b; omega]
  rfl
/-- The levels of the first m minutes. -/
def BCase.lev (c : BCase) (m : Nat) : List Int := (List.range m).map fun i => levF (c.s 11) c.f (i + 1)
theorem BCase.lev_len (c : BCase) (m : Nat) : (c.lev m).length = m := by simp [BCase.lev]
theorem BCase.levels (c : BCase) {m : Nat} (hm : m ≤ 10000) : (levRun (c.s 11) (netsL c.s c.l c.a (c.a + (m : Int)))).2 = c.lev m := by
  have hc := c.mfed.c
  have e := netsL_eq c.s c.l c.a 0 m (Nat.zero_le _)
  rw [show c.a + ((0 : Nat) : Int) = c.a by omega] at e
  rw [e, show (fun k => netS c.s c.l (c.a + ((0 + k : Nat) : Int))) = c.f from by funext k; rw [Nat.zero_add]; rfl, Nat.sub_zero, lev_ok (by omega) c.nb _ _ hm]
  rfl
theorem lowS_spec (C : Int) (L : List Int) : (∀ x ∈ L, lowS C L 0 ≤ x) ∧ lowS C L 0 ≤ C ∧ (lowS C L 0 = C ∨ lowS C L 0 ∈ L) := by
  unfold lowS
  rw [List.drop_zero]
  induction L with
  | nil => simp
  | cons x r ih =>
    obtain ⟨h1, h2, h3⟩ := ih
    simp only [List.foldr_cons, List.mem_cons, forall_eq_or_imp]
    refine ⟨⟨by omega, fun y hy => by have := h1 y hy; omega⟩, by omega, ?_⟩
    rcases Int.le_total (r.foldr (fun x m => min m x) C) x with h | h
    · rw [Int.min_eq_left h]
      rcases h3 with h3 | h3
      · exact Or.inl h3
      · exact Or.inr (Or.inr h3)
    · rw [Int.min_eq_right h]; exact Or.inr (Or.inl rfl)
theorem idx_spec {p : Int → Bool} : ∀ (L : List Int) (k : Nat), (idxF p L k = -1 ∧ ∀ x ∈ L, p x = false) ∨ ((k : Int) ≤ idxF p L k ∧ idxF p L k < k + (L.length : Int) ∧ ∃ x ∈ L, p x = true)
  | [], k => Or.inl ⟨rfl, by simp⟩
  | x :: r, k => by
    simp only [idxF, List.mem_cons, forall_eq_or_imp, List.length_cons]
    by_cases h : p x = true
    · rw [if_pos h]; exact Or.inr ⟨by omega, by omega, x, Or.inl rfl, h⟩
    · rw [if_neg h]
      have h : p x = false := by simpa using h
      rcases idx_spec (p := p) r (k + 1) with ⟨h1, h2⟩ | ⟨h1, h2, y, h3, h4⟩
      · exact Or.inl ⟨h1, h, h2⟩
      · exact Or.inr ⟨by omega, by omega, y, Or.inr h3, h4⟩
theorem firstS_spec {L : List Int} {a : Int} (ha : 0 ≤ a ∧ a ≤ 1000000) (hl : L.length ≤ 1000000) : (firstS L a 0 = -1 ∧ ∀ x ∈ L, 0 ≤ x) ∨ (0 ≤ firstS L a 0 ∧ ∃ x ∈ L, x < 0) := by
  unfold firstS
  rw [List.drop_zero]
  rcases idx_spec (p := fun n => decide (n < 0)) L 0 with ⟨h1, h2⟩ | ⟨h1, h2, y, h3, h4⟩
  · rw [if_neg (by omega)]
    exact Or.inl ⟨rfl, fun x hx => by have := of_decide_eq_false (h2 x hx); omega⟩
  · rw [if_pos (by omega), w64_in (by omega) (by omega)]
    exact Or.inr ⟨by omega, y, h3, of_decide_eq_true h4⟩
theorem Try.x10 (c : BCase) (one two : Int) (h1 : inI one) (h2 : inI two) : ACalls Try.prog 10 [.agg (orbA c.x), .agg (i4A c.y), .sl .no 3 (c.z.map row3A), .int .i64 c.from_, .int .i64 c.long, .int .i64 one, .int .i64 two] (.bool true) := by
  have hr := c.rng
  have hN : 1 ≤ c.N ∧ c.N ≤ 200 := by unfold BCase.N; omega
  have hnN : c.n = (c.N : Int) := by unfold BCase.N; omega
  have hc := c.mfed.c
  have hbN := c.bN
  have hlen : c.l.length ≤ 1000000 := by have := c.len; omega
  have hv := c.valid (a := c.a) (b := c.b) (by omega) (by omega) (by omega) (by omega)
  obtain ⟨i0, j0, e0, k⟩ := kad c.nb (a := c.a) (by omega) c.N hN.1 (by omega)
  have k36 := Try.c36 c.s c.l c.a c.b hlen hv
  have k37 := Try.c37 c.s c.l c.a c.b hlen hv
  have k38 := Try.c38 c.s c.l c.a c.b hlen hv
  have eL : (levRun (c.s 11) (netsL c.s c.l c.a c.b)).2 = c.lev c.N := by rw [hbN]; exact c.levels (by omega)
  rw [show emptyS c.s c.l c.a c.b = firstS (c.lev c.N) c.a 0 from by unfold emptyS firstS; rw [eL]; rfl] at k38
  rw [eL] at k36
  rw [c.nets] at k37
  generalize worstRun (pairsF c.a c.f c.N) = r at k k37
  have q1 := pick_rng h1 (n := c.n) (by omega)
  have q2 := pick_rng h2 (n := c.n - pickS one c.n) (by omega)
  have w1 : IntKind.i64.wrap (c.b - c.a) = c.n := (w64_in (by omega) (by omega)).trans (by omega)
  have w2 : IntKind.i64.wrap (c.a + pickS one c.n) = c.a + pickS one c.n := w64_in (by omega) (by omega)
  have w3 : IntKind.i64.wrap (c.b - IntKind.i64.wrap (c.a + pickS one c.n)) = c.n - pickS one c.n := by rw [w2]; exact (w64_in (by omega) (by omega)).trans (by omega)
  have w4 : IntKind.i64.wrap (IntKind.i64.wrap (IntKind.i64.wrap (c.a + pickS one c.n) + 1) + pickS two (c.n - pickS one c.n)) = c.a + pickS one c.n + 1 + pickS two (c.n - pickS one c.n) := by
    rw [w2, show IntKind.i64.wrap (c.a + pickS one c.n + 1) = c.a + pickS one c.n + 1 from w64_in (by omega) (by omega)]
    exact w64_in (by omega) (by omega)
  have k39a := Try.c39 one (IntKind.i64.wrap (c.b - c.a)) (by rw [w1]; omega)
  have k39b := Try.c39 two (IntKind.i64.wrap (c.b - IntKind.i64.wrap (c.a + pickS one c.n))) (by rw [w3]; omega)
  rw [w1] at k39a
  generalize hP1 : pickS one c.n = p1 at *
  generalize hP2 : pickS two (c.n - p1) = p2 at *
  rw [show pickS two (IntKind.i64.wrap (c.b - IntKind.i64.wrap (c.a + p1))) = p2 by rw [w3, hP2]] at k39b
  rw [← w1] at k39a
  obtain ⟨i, hi⟩ : ∃ i : Nat, (i : Int) = p1 := ⟨p1.toNat, by omega⟩
  obtain ⟨j, hj⟩ : ∃ j : Nat, (j : Int) = p1 + 1 + p2 := ⟨(p1 + 1 + p2).toNat, by omega⟩
  have kff := k.ff; have kft := k.ft; have kfn := k.fn; have khi := k.hi; have khj := k.hj
  have k40a := Try.c40 c.s c.l (c.a + (i0 : Int)) (c.a + (j0 : Int)) hlen (c.valid (by omega) (by omega) (by omega) (by omega))
  have k40b := Try.c40 c.s c.l (c.a + (i : Int)) (c.a + (j : Int)) hlen (c.valid (by omega) (by omega) (by omega) (by omega))
  rw [c.sum (by omega) (by omega)] at k40a k40b
  rw [← kff, ← kft] at k40a
  rw [show c.a + (i : Int) = IntKind.i64.wrap (c.a + p1) by rw [w2]; omega, show c.a + (j : Int) = IntKind.i64.wrap (IntKind.i64.wrap (IntKind.i64.wrap (c.a + p1) + 1) + p2) by rw [w4]; omega] at k40b
  have hall := k.all i j (by omega) (by omega)
  have hlow : lowS (c.s 11) (c.lev c.N) 0 = c.s 11 - max 0 r.fn := by
    obtain ⟨g1, g2, g3⟩ := lowS_spec (c.s 11) (c.lev c.N)
    have hge : c.s 11 - max 0 r.fn ≤ lowS (c.s 11) (c.lev c.N) 0 := by
      rcases g3 with g3 | g3
      · rw [g3]; omega
      · obtain ⟨m, hm, he⟩ := List.mem_map.1 g3
        rw [List.mem_range] at hm
        obtain ⟨_, q, hq, hq2⟩ := lev_kad (f := c.f) (c := c.s 11) (m + 1)
        rw [← he, hq2]
        rcases Nat.lt_or_ge q (m + 1) with h | h
        · have := (k.all q (m + 1) h (by omega)).1; omega
        · obtain rfl : q = m + 1 := by omega
          omega
    have hle : lowS (c.s 11) (c.lev c.N) 0 ≤ c.s 11 - r.fn := by
      have hm : levF (c.s 11) c.f j0 ∈ c.lev c.N := List.mem_map.2 ⟨j0 - 1, List.mem_range.2 (by omega), by rw [show j0 - 1 + 1 = j0 by omega]⟩
      have h3 := g1 _ hm
      have h4 := (lev_kad (f := c.f) (c := c.s 11) j0).1 i0 (by omega)
      omega
    omega
  have p0 := psum_rng c.nb j0
  have p00 := psum_rng c.nb i0
  refine Try.y10 c.x c.y c.s c.l c.z c.from_ c.long one two c.a c.b (c.lev c.N) r.ff r.ft r.fn (firstS (c.lev c.N) c.a 0) p1 p2 (psum c.f j0 - psum c.f i0) (psum c.f j - psum c.f i) (by rw [c.lev_len]; omega) (Try.c35 c) k36 k37 k38 k39a k39b k40a k40b ?_ ?_ ?_ ?_ ?_ ?_ ?_ ?_
  · rw [w1, List.length_map, c.lev_len]; omega
  · rw [hlow]; exact (w64_in (by omega) (by omega)).symm
  · rw [Bool.eq_iff_iff, beq_iff_eq, decide_eq_true_eq]
    obtain ⟨g1, g2, g3⟩ := lowS_spec (c.s 11) (c.lev c.N)
    rcases firstS_spec (L := c.lev c.N) (a := c.a) (by omega) (by rw [c.lev_len]; omega) with ⟨e1, e2⟩ | ⟨e1, x, e2, e3⟩
    · refine ⟨fun _ => ?_, fun _ => e1⟩
      rcases g3 with g3 | g3
      · omega
      · have := e2 _ g3; omega
    · refine ⟨fun h => by omega, fun h => ?_⟩
      have := g1 x e2
      omega
  · simp [kfn]
  · exact decide_eq_true (by omega)
  · exact decide_eq_true (by omega)
  · exact decide_eq_true (by omega)
  · rw [w4, w2]
    by_cases hlt : psum c.f j - psum c.f i < r.fn
    · exact Or.inl (decide_eq_true hlt)
    · have := hall.2 (by omega)
      rcases this with h | ⟨h, h'⟩
      · exact Or.inr (Or.inl (decide_eq_true (by omega)))
      · exact Or.inr (Or.inr ⟨by rw [beq_iff_eq]; omega, decide_eq_true (by omega)⟩)
end Go.Proofs


namespace Go.Proofs
open Go Go.AI
set_option maxRecDepth 10000
set_option linter.unusedSimpArgs false

def minW (a b : Int) (x : Load3) : Int := max 0 (IntKind.i64.wrap (min b x.b - max a x.a))
def sumW (s : Nat → Int) (a b bare : Int) (l : List Load3) : Int := l.foldl (fun acc x => IntKind.i64.wrap (acc + IntKind.i64.wrap (minW a b x * costS s x))) bare
theorem sumW_snoc (s : Nat → Int) (a b bare : Int) (l : List Load3) (x : Load3) : sumW s a b bare (l ++ [x]) = IntKind.i64.wrap (sumW s a b bare l + IntKind.i64.wrap (minW a b x * costS s x)) := by simp [sumW, List.foldl_append]
set_option maxHeartbeats 8000000 in
theorem Try.y11 (x y s : Nat → Int) (l : List Load3) (z : List (Int × Int × Int)) (from_ long a b bare all : Int) (hl : l.length ≤ 1000)
    (k35 : ACalls Try.prog 35 [.agg (orbA x), .agg (i4A y), .sl .no 3 (z.map row3A), .int .i64 from_, .int .i64 long] (.tup [.agg (satA s), loadsA l, .agg (spellA a b)]))
    (k40 : ACalls Try.prog 40 [.agg (satA s), loadsA l, .agg (spellA a b)] (.tup [.int .i64 all, .int .i64 0]))
    (k40e : ACalls Try.prog 40 [.agg (satA s), .sl .full 0 [], .agg (spellA a b)] (.tup [.int .i64 bare, .int .i64 0]))
    (k40i : ∀ x ∈ l, ACalls Try.prog 40 [.agg (satA s), loadsA [x], .agg (spellA a b)] (.tup [.int .i64 (IntKind.i64.wrap (bare + IntKind.i64.wrap (minW a b x * costS s x))), .int .i64 0]))
    (f1 : all = sumW s a b bare l) :
    ACalls Try.prog 11 [.agg (orbA x), .agg (i4A y), .sl .no 3 (z.map row3A), .int .i64 from_, .int .i64 long] (.bool true) := by
  refine ACalls.ofB Try.TT_ok Try.func11 rfl (by kernel_rfl) Try.mixed (Nat.le_of_ble_eq_true rfl) ?_
  intro F n' w0 m0 hG hro h1
  repeat' first
    | refine SPB.seq ?_
    | refine SPB.block ?_
    | refine SPB.draw hG Try.TT_ok Try.keep11 (by kernel_rfl) ?_
    | refine SPB.reg hG Try.TT_ok Try.keep11 (by kernel_rfl) ?_
    | refine SPB.skip hG Try.TT_ok ?_
    | refine SPB.label hG Try.TT_ok ?_
    | refine SPB.ret hG Try.TT_ok ?_
    | refine SPB.exit hG Try.TT_ok ?_
    | refine SPB.condT rfl ?_
    | refine SPB.condF rfl ?_
    | refine SPB.cond rfl (And.intro (fun h => ?_) (fun h => ?_))
    | (conv => whnf
       first
         | refine And.intro (fun h => Bool.noConfusion (h : false = true)) (fun _ => ?_)
         | refine And.intro (fun _ => ?_) (fun h => Bool.noConfusion (h : true = false))
         | refine And.intro (by kernel_rfl) ?_
         | refine And.intro (fun h => ?_) (fun h => ?_)
         | refine Or.inl ?_
         | fail)
  conv => whnf
  refine Exists.intro _ (And.intro (Try.c34) ?_)
  repeat' first
    | refine SPB.seq ?_
    | refine SPB.block ?_
    | refine SPB.draw hG Try.TT_ok Try.keep11 (by kernel_rfl) ?_
    | refine SPB.reg hG Try.TT_ok Try.keep11 (by kernel_rfl) ?_
    | refine SPB.skip hG Try.TT_ok ?_
    | refine SPB.label hG Try.TT_ok ?_
    | refine SPB.ret hG Try.TT_ok ?_
    | refine SPB.exit hG Try.TT_ok ?_
    | refine SPB.condT rfl ?_
    | refine SPB.condF rfl ?_
    | refine SPB.cond rfl (And.intro (fun h => ?_) (fun h => ?_))
    | (conv => whnf
       first
         | refine And.intro (fun h => Bool.noConfusion (h : false = true)) (fun _ => ?_)
         | refine And.intro (fun _ => ?_) (fun h => Bool.noConfusion (h : true = false))
         | refine And.intro (by kernel_rfl) ?_
         | refine And.intro (fun h => ?_) (fun h => ?_)
         | refine Or.inl ?_
         | fail)
  conv => whnf
  refine Exists.intro _ (And.intro (k35) ?_)
  repeat' first
    | refine SPB.seq ?_
    | refine SPB.block ?_
    | refine SPB.draw hG Try.TT_ok Try.keep11 (by kernel_rfl) ?_
    | refine SPB.reg hG Try.TT_ok Try.keep11 (by kernel_rfl) ?_
    | refine SPB.skip hG Try.TT_ok ?_
    | refine SPB.label hG Try.TT_ok ?_
    | refine SPB.ret hG Try.TT_ok ?_
    | refine SPB.exit hG Try.TT_ok ?_
    | refine SPB.condT rfl ?_
    | refine SPB.condF rfl ?_
    | refine SPB.cond rfl (And.intro (fun h => ?_) (fun h => ?_))
    | (conv => whnf
       first
         | refine And.intro (fun h => Bool.noConfusion (h : false = true)) (fun _ => ?_)
         | refine And.intro (fun _ => ?_) (fun h => Bool.noConfusion (h : true = false))
         | refine And.intro (by kernel_rfl) ?_
         | refine And.intro (fun h => ?_) (fun h => ?_)
         | refine Or.inl ?_
         | fail)
  conv => whnf
  refine Exists.intro _ (And.intro (k40) ?_)
  repeat' first
    | refine SPB.seq ?_
    | refine SPB.block ?_
    | refine SPB.draw hG Try.TT_ok Try.keep11 (by kernel_rfl) ?_
    | refine SPB.reg hG Try.TT_ok Try.keep11 (by kernel_rfl) ?_
    | refine SPB.skip hG Try.TT_ok ?_
    | refine SPB.label hG Try.TT_ok ?_
    | refine SPB.ret hG Try.TT_ok ?_
    | refine SPB.exit hG Try.TT_ok ?_
    | refine SPB.condT rfl ?_
    | refine SPB.condF rfl ?_
    | refine SPB.cond rfl (And.intro (fun h => ?_) (fun h => ?_))
    | (conv => whnf
       first
         | refine And.intro (fun h => Bool.noConfusion (h : false = true)) (fun _ => ?_)
         | refine And.intro (fun _ => ?_) (fun h => Bool.noConfusion (h : true = false))
         | refine And.intro (by kernel_rfl) ?_
         | refine And.intro (fun h => ?_) (fun h => ?_)
         | refine Or.inl ?_
         | fail)
  conv => whnf
  refine Exists.intro _ (And.intro (k40e) ?_)
  repeat' first
    | refine SPB.seq ?_
    | refine SPB.block ?_
    | refine SPB.draw hG Try.TT_ok Try.keep11 (by kernel_rfl) ?_
    | refine SPB.reg hG Try.TT_ok Try.keep11 (by kernel_rfl) ?_
    | refine SPB.skip hG Try.TT_ok ?_
    | refine SPB.label hG Try.TT_ok ?_
    | refine SPB.ret hG Try.TT_ok ?_
    | refine SPB.exit hG Try.TT_ok ?_
    | refine SPB.condT rfl ?_
    | refine SPB.condF rfl ?_
    | refine SPB.cond rfl (And.intro (fun h => ?_) (fun h => ?_))
    | (conv => whnf
       first
         | refine And.intro (fun h => Bool.noConfusion (h : false = true)) (fun _ => ?_)
         | refine And.intro (fun _ => ?_) (fun h => Bool.noConfusion (h : true = false))
         | refine And.intro (by kernel_rfl) ?_
         | refine And.intro (fun h => ?_) (fun h => ?_)
         | refine Or.inl ?_
         | fail)
  refine SPB.loop (X := Nat) (fun k => ⟨[(19, .int .i64 k), (18, .int .i64 bare), (16, .int .i64 (sumW s a b bare (l.take k))), (14, .int .i64 all), (13, .loc 13 0), (12, loadsA l), (11, .loc 11 0)],
      [(13, spellA a b), (11, satA s)]⟩)
    (fun k => k ≤ l.length) (fun k => l.length - k) 0 (Nat.zero_le _) (St.le.of ?_ ?_) (fun k hk => ?_)
  · repeat' (first | exact trivial | refine And.intro rfl ?_)
  · repeat' (first | exact trivial | refine And.intro rfl ?_)
  · by_cases hlt : k < l.length
    · obtain ⟨q, hqd⟩ : ∃ q, q = l.getD k ⟨0, 0, 0⟩ := ⟨_, rfl⟩
      have hm : q ∈ l := by rw [hqd, List.getD_eq_getElem?_getD, List.getElem?_eq_getElem hlt]; exact List.getElem_mem hlt
      have hq : (l.map loadA)[(k : Int).toNat]? = some [.int .i64 q.k, .int .i64 q.a, .int .i64 q.b] := by rw [hqd]; simp [List.getElem?_eq_getElem hlt]; rfl
      have hs : l.take (k + 1) = l.take k ++ [q] := by rw [hqd, List.take_add_one, List.getD_eq_getElem?_getD, List.getElem?_eq_getElem hlt]; rfl
      have hw : IntKind.i64.wrap ((k : Int) + 1) = ((k + 1 : Nat) : Int) := (w64_in (by omega) (by omega)).trans (by omega)
      have hw0 : 0 ≤ IntKind.i64.wrap ((k : Int) + 1) := by rw [hw]; omega
      have hw1 : (k : Int).toNat ≤ (IntKind.i64.wrap ((k : Int) + 1)).toNat := by rw [hw]; omega
      have hw2 : (IntKind.i64.wrap ((k : Int) + 1)).toNat ≤ (l.map loadA).length := by rw [hw, List.length_map]; omega
      have he : ((l.map loadA).take (IntKind.i64.wrap ((k : Int) + 1)).toNat).drop (k : Int).toNat = [q].map loadA := by
        rw [hw, Int.toNat_natCast, Int.toNat_natCast, ← List.map_take, hs, List.map_append, List.drop_append]
        simp [List.length_take, Nat.min_eq_left (Nat.le_of_lt hlt)]
      have k40q := k40i q hm
      rw [show loadsA [q] = .sl .no 3 ([q].map loadA) from rfl, ← he] at k40q
      have bbk : decide ((k : Int) < ((l.map loadA).length : Int)) = false → False := fun h => by have := of_decide_eq_false h; rw [List.length_map] at this; omega
      by_cases h1 : q.k = 1
      · have hc : costS s q = s 14 := if_pos h1
        rw [hc] at k40q
        have bb1 : (q.k == 1) = false → False := fun h => by rw [h1] at h; simp at h
        have bb2 : (IntKind.i64.wrap (bare + IntKind.i64.wrap (minW a b q * s 14)) != IntKind.i64.wrap (bare + IntKind.i64.wrap (minW a b q * s 14))) = true → False := fun h => by simp at h
        repeat' first
          | exact (bbk (by assumption)).elim
          | exact (bb1 (by assumption)).elim
          | exact (bb2 (by assumption)).elim
          | refine SPB.seq ?_
          | refine SPB.block ?_
          | refine SPB.draw hG Try.TT_ok Try.keep11 (by kernel_rfl) ?_
          | refine SPB.reg hG Try.TT_ok Try.keep11 (by kernel_rfl) ?_
          | refine SPB.skip hG Try.TT_ok ?_
          | refine SPB.label hG Try.TT_ok ?_
          | refine SPB.ret hG Try.TT_ok ?_
          | refine SPB.exit hG Try.TT_ok ?_
          | refine SPB.condT rfl ?_
          | refine SPB.condF rfl ?_
          | refine SPB.cond rfl (And.intro (fun h => ?_) (fun h => ?_))
          | (conv => whnf
             first
               | refine And.intro (fun h => Bool.noConfusion (h : false = true)) (fun _ => ?_)
               | refine And.intro (fun _ => ?_) (fun h => Bool.noConfusion (h : true = false))
               | refine And.intro (by kernel_rfl) ?_
               | refine And.intro (Int.natCast_nonneg k) (Exists.intro _ (And.intro hq ?_))
               | refine And.intro (Int.natCast_nonneg k) (And.intro hw0 (And.intro hw1 (And.intro hw2 ?_)))
               | refine Exists.intro _ (And.intro (k40q) ?_)
               | refine And.intro (fun h => ?_) (fun h => ?_)
               | refine Or.inl ?_
               | fail)
        refine Exists.intro (k + 1) (And.intro hlt (And.intro (by omega) (St.le.of ?_ ?_)))
        · refine And.intro (congrArg some (le_next (by omega))) (And.intro rfl (And.intro (congrArg (fun z => some (AV.int .i64 z)) ?_) ?_))
          · rw [hs, sumW_snoc, hc]; rfl
          · repeat' (first | exact trivial | refine And.intro rfl ?_)
        · repeat' (first | exact trivial | refine And.intro rfl ?_)
      · have hc : costS s q = s 15 := if_neg h1
        rw [hc] at k40q
        have bb1 : (q.k == 1) = true → False := fun h => h1 (by simpa using h)
        have bb2 : (IntKind.i64.wrap (bare + IntKind.i64.wrap (minW a b q * s 15)) != IntKind.i64.wrap (bare + IntKind.i64.wrap (minW a b q * s 15))) = true → False := fun h => by simp at h
        repeat' first
          | exact (bbk (by assumption)).elim
          | exact (bb1 (by assumption)).elim
          | exact (bb2 (by assumption)).elim
          | refine SPB.seq ?_
          | refine SPB.block ?_
          | refine SPB.draw hG Try.TT_ok Try.keep11 (by kernel_rfl) ?_
          | refine SPB.reg hG Try.TT_ok Try.keep11 (by kernel_rfl) ?_
          | refine SPB.skip hG Try.TT_ok ?_
          | refine SPB.label hG Try.TT_ok ?_
          | refine SPB.ret hG Try.TT_ok ?_
          | refine SPB.exit hG Try.TT_ok ?_
          | refine SPB.condT rfl ?_
          | refine SPB.condF rfl ?_
          | refine SPB.cond rfl (And.intro (fun h => ?_) (fun h => ?_))
          | (conv => whnf
             first
               | refine And.intro (fun h => Bool.noConfusion (h : false = true)) (fun _ => ?_)
               | refine And.intro (fun _ => ?_) (fun h => Bool.noConfusion (h : true = false))
               | refine And.intro (by kernel_rfl) ?_
               | refine And.intro (Int.natCast_nonneg k) (Exists.intro _ (And.intro hq ?_))
               | refine And.intro (Int.natCast_nonneg k) (And.intro hw0 (And.intro hw1 (And.intro hw2 ?_)))
               | refine Exists.intro _ (And.intro (k40q) ?_)
               | refine And.intro (fun h => ?_) (fun h => ?_)
               | refine Or.inl ?_
               | fail)
        refine Exists.intro (k + 1) (And.intro hlt (And.intro (by omega) (St.le.of ?_ ?_)))
        · refine And.intro (congrArg some (le_next (by omega))) (And.intro rfl (And.intro (congrArg (fun z => some (AV.int .i64 z)) ?_) ?_))
          · rw [hs, sumW_snoc, hc]; rfl
          · repeat' (first | exact trivial | refine And.intro rfl ?_)
        · repeat' (first | exact trivial | refine And.intro rfl ?_)
    · have hge : k = l.length := by omega
      subst hge
      have bbk : decide (((l.length : Nat) : Int) < ((l.map loadA).length : Int)) = true → False := fun h => by have := of_decide_eq_true h; rw [List.length_map] at this; omega
      repeat' first
        | exact (bbk (by assumption)).elim
        | refine SPB.seq ?_
        | refine SPB.block ?_
        | refine SPB.draw hG Try.TT_ok Try.keep11 (by kernel_rfl) ?_
        | refine SPB.reg hG Try.TT_ok Try.keep11 (by kernel_rfl) ?_
        | refine SPB.skip hG Try.TT_ok ?_
        | refine SPB.label hG Try.TT_ok ?_
        | refine SPB.ret hG Try.TT_ok ?_
        | refine SPB.exit hG Try.TT_ok ?_
        | refine SPB.condT rfl ?_
        | refine SPB.condF rfl ?_
        | refine SPB.cond rfl (And.intro (fun h => ?_) (fun h => ?_))
        | (conv => whnf
           first
             | refine And.intro (fun h => Bool.noConfusion (h : false = true)) (fun _ => ?_)
             | refine And.intro (fun _ => ?_) (fun h => Bool.noConfusion (h : true = false))
             | refine And.intro (by kernel_rfl) ?_
             | refine And.intro (fun h => ?_) (fun h => ?_)
             | refine Or.inl ?_
             | fail)
      all_goals refine Ends.mk (Or.inl rfl) (AV.weak.of_eq (congrArg AV.bool ?_))
      all_goals (rw [List.take_length, f1]; simp)
end Go.Proofs


namespace Go.Proofs
open Go Go.AI
set_option maxRecDepth 10000
set_option linter.unusedSimpArgs false
theorem net_sum {s : Nat → Int} (h : Fed s) (l : List Load3) (hl : l.length ≤ 80) (a : Int) {N : Nat} (hN : N ≤ 10000) :
    sumRun (netsL s l a (a + (N : Int))) = psum (fun i => netP s l (litS (orbO s) (a + (i : Int))) (a + (i : Int))) N := by
  have e := netsL_eq s l a 0 N (Nat.zero_le _)
  rw [show a + ((0 : Nat) : Int) = a by omega] at e
  have hf : ∀ i : Nat, netS s l (a + (i : Int)) = netP s l (litS (orbO s) (a + (i : Int))) (a + (i : Int)) ∧ -1000000 ≤ netS s l (a + (i : Int)) ∧ netS s l (a + (i : Int)) ≤ 1000000 := fun i => by
    have := net_eq h (a + (i : Int)) l (litS (orbO s) (a + (i : Int))) hl
    have e2 : netS s l (a + (i : Int)) = netP s l (litS (orbO s) (a + (i : Int))) (a + (i : Int)) := this.1
    exact ⟨e2, by omega, by omega⟩
  rw [e, show (fun k => netS s l (a + ((0 + k : Nat) : Int))) = (fun k : Nat => netS s l (a + (k : Int))) from by funext k; rw [Nat.zero_add], Nat.sub_zero, sum_ok (fun i => (hf i).2) _ _ hN]
  exact psum_congr _ fun i _ => (hf i).1
theorem one_ok : ∀ (l pre : List Load3), okL pre l = true → ∀ x ∈ l, inS x.k 1 2 = true ∧ rightS x.a x.b = true
  | [], _, _, x, h => absurd h (by simp)
  | y :: r, pre, h, x, hx => by
    simp only [okL, Bool.and_eq_true] at h
    rcases List.mem_cons.1 hx with rfl | hx
    · have := h.1
      simp only [loadOK, Bool.and_eq_true] at this
      exact this.1
    · exact one_ok r _ h.2 x hx
theorem proper_one {l : List Load3} (h : properS l = true) {x : Load3} (hx : x ∈ l) : properS [x] = true := by
  simp only [properS, Bool.and_eq_true] at h
  have := one_ok l [] h.2 x hx
  simp only [properS, okL, loadOK, this.1, this.2]
  rfl
theorem valid_with {s : Nat → Int} {l k : List Load3} {a b : Int} (h : validS s l a b = true) (hk : properS k = true) : validS s k a b = true := by
  simp only [validS, Bool.and_eq_true] at h ⊢
  exact ⟨⟨h.1.1, hk⟩, h.2⟩
theorem minS_rng (a b x y : Int) (h : a ≤ b) : 0 ≤ minS a b x y ∧ minS a b x y ≤ b - a := by unfold minS; omega
theorem cost_rng {s : Nat → Int} (h : MFed s) (x : Load3) : 0 ≤ costS s x ∧ costS s x ≤ 31 := by
  have := h.h; have := h.d
  unfold costS; split <;> omega
theorem mul_rng2 {m k : Int} (h1 : 0 ≤ m ∧ m ≤ 200) (h2 : 0 ≤ k ∧ k ≤ 31) : 0 ≤ m * k ∧ m * k ≤ 6200 := by
  have h3 : 0 ≤ m * k := Int.mul_nonneg h1.1 h2.1
  have h4 : m * k ≤ 200 * 31 := Int.mul_le_mul h1.2 h2.2 h2.1 (by omega)
  omega
theorem Try.x11 (c : BCase) : ACalls Try.prog 11 [.agg (orbA c.x), .agg (i4A c.y), .sl .no 3 (c.z.map row3A), .int .i64 c.from_, .int .i64 c.long] (.bool true) := by
  have hr := c.rng
  have hN : 1 ≤ c.N ∧ c.N ≤ 200 := by unfold BCase.N; omega
  have hbN := c.bN
  have hl10 := c.len
  have hlen : c.l.length ≤ 1000000 := by omega
  have hv := c.valid (a := c.a) (b := c.b) (by omega) (by omega) (by omega) (by omega)
  have hfed := c.mfed.fed
  have bare_eq := net_sum hfed [] (by simp) c.a (N := c.N) (by omega)
  have hp0 : properS [] = true := rfl
  -- what a load adds
  have hmin : ∀ x ∈ c.l, minW c.a c.b x = minS c.a (c.a + (c.N : Int)) x.a x.b ∧ 0 ≤ minS c.a (c.a + (c.N : Int)) x.a x.b ∧ minS c.a (c.a + (c.N : Int)) x.a x.b ≤ 200 := fun x hx => by
    have hp := c.proper
    simp only [properS, Bool.and_eq_true] at hp
    have hb := right_b (one_ok c.l [] hp.2 x hx).2
    have := minS_rng c.a (c.a + (c.N : Int)) x.a x.b (by omega)
    refine ⟨?_, by omega, by omega⟩
    unfold minW minS
    rw [hbN, show IntKind.i64.wrap (min (c.a + (c.N : Int)) x.b - max c.a x.a) = min (c.a + (c.N : Int)) x.b - max c.a x.a from w64_in (by omega) (by omega)]
  have hadd : ∀ x ∈ c.l, IntKind.i64.wrap (minW c.a c.b x * costS c.s x) = minS c.a (c.a + (c.N : Int)) x.a x.b * costS c.s x ∧ 0 ≤ minS c.a (c.a + (c.N : Int)) x.a x.b * costS c.s x ∧ minS c.a (c.a + (c.N : Int)) x.a x.b * costS c.s x ≤ 6200 := fun x hx => by
    obtain ⟨h1, h2, h3⟩ := hmin x hx
    have := mul_rng2 ⟨h2, h3⟩ (cost_rng c.mfed x)
    rw [h1]
    exact ⟨w64_in (by omega) (by omega), this⟩
  have hbr : -(1000000 * (c.N : Int)) ≤ sumRun (netsL c.s [] c.a (c.a + (c.N : Int))) ∧ sumRun (netsL c.s [] c.a (c.a + (c.N : Int))) ≤ 1000000 * (c.N : Int) := by
    rw [bare_eq]
    exact psum_rng (fun i => by have := (net_eq hfed (c.a + (i : Int)) [] (litS (orbO c.s) (c.a + (i : Int))) (by simp)).2; omega) c.N
  rw [← hbN] at hbr
  have k40 := Try.c40 c.s c.l c.a c.b hlen hv
  have k40e := (Try.c40 c.s [] c.a c.b (by simp) (valid_with hv hp0)).weak (us := [.agg (satA c.s), .sl .full 0 [], .agg (spellA c.a c.b)]) (.cons (.refl _) (.cons AV.weak.slnil (.cons (.refl _) .nil)))
  refine Try.y11 c.x c.y c.s c.l c.z c.from_ c.long c.a c.b _ _ (by omega) (Try.c35 c) k40 k40e (fun x hx => ?_) ?_
  · have h := Try.c40 c.s [x] c.a c.b (by simp) (valid_with hv (proper_one c.proper hx))
    obtain ⟨g1, g2, g3⟩ := hadd x hx
    have e := net_sum hfed [x] (by simp) c.a (N := c.N) (by omega)
    rw [sums_eq, ← bare_eq, ← hbN] at e
    simp only [List.map_cons, List.map_nil, List.sum_cons, List.sum_nil, Int.add_zero] at e
    rw [← hbN] at g1 g2 g3
    rw [g1, show IntKind.i64.wrap (sumRun (netsL c.s [] c.a c.b) + minS c.a c.b x.a x.b * costS c.s x) = sumRun (netsL c.s [] c.a c.b) + minS c.a c.b x.a x.b * costS c.s x from w64_in (by omega) (by omega), ← e]
    exact h
  · have e := net_sum hfed c.l (by omega) c.a (N := c.N) (by omega)
    rw [sums_eq, ← bare_eq, ← hbN] at e
    rw [e]
    have key : ∀ (l : List Load3) (acc : Int), (∀ x ∈ l, x ∈ c.l) → l.length ≤ 10 → -(1000000 * (c.N : Int)) ≤ acc → acc ≤ 1000000 * (c.N : Int) + 6200 * (10 - (l.length : Int)) →
        l.foldl (fun acc x => IntKind.i64.wrap (acc + IntKind.i64.wrap (minW c.a c.b x * costS c.s x))) acc = acc + (l.map fun x => minS c.a c.b x.a x.b * costS c.s x).sum := by
      intro l
      induction l with
      | nil => intro acc _ _ _ _; simp
      | cons x r ih =>
        intro acc hm hl h1 h2
        obtain ⟨g1, g2, g3⟩ := hadd x (hm x List.mem_cons_self)
        rw [← hbN] at g1 g2 g3
        rw [List.length_cons] at hl h2
        simp only [List.foldl_cons, List.map_cons, List.sum_cons]
        rw [g1, show IntKind.i64.wrap (acc + minS c.a c.b x.a x.b * costS c.s x) = acc + minS c.a c.b x.a x.b * costS c.s x from w64_in (by omega) (by omega)]
        rw [ih _ (fun y hy => hm y (List.mem_cons_of_mem _ hy)) (by omega) (by omega) (by omega)]
        omega
    exact (key c.l _ (fun _ h => h) hl10 hbr.1 (by omega)).symm
end Go.Proofs


