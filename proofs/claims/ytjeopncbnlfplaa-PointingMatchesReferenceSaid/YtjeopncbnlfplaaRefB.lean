/- The two programs of contacts answer alike: contracts and the loops of the law. The conditions are those typed. -/
import Derived.Test.YtjeopncbnlfplaaRefA
set_option linter.unusedSectionVars false
set_option linter.unusedVariables false
set_option linter.unusedSimpArgs false
namespace Go.Proofs
open Go Go.AI
set_option maxRecDepth 10000
set_option linter.unusedSimpArgs false

theorem Try.b29 (s : Nat → Int) (l : List Aim3) (a b n k : Int) (hl : l.length ≤ 1000000) (hv : freeV s l a b n k = false) : ACalls Try.prog 29 [.agg (satA s), aimsA l, .agg (spellA a b), .int .i64 n, .int .i64 k] (.tup [.int .i64 0, .int .i64 120]) := by
  have kv := Try.v14 s l hl
  have ks := Try.c41 a b
  have k1 := Try.i48 n 1 60
  have k2 := Try.i48 k (w64 (0 - s 9)) (s 9)
  have hml : ((l.map aimA).length : Int) = l.length := by rw [List.length_map]
  have hv2 : (spanS a b && inS n 1 60 && inS k (w64 (0 - s 9)) (s 9) && decide (((l.map aimA).length : Int) < 64) && valS s l) = false := by
    rw [hml, ← hv]; unfold freeV; congr 2; exact decide_eq_decide.2 (by omega)
  generalize spanS a b = B1 at *
  generalize inS n 1 60 = B2 at *
  generalize inS k (w64 (0 - s 9)) (s 9) = B3 at *
  generalize valS s l = B5 at *
  generalize hB4 : decide (((l.map aimA).length : Int) < 64) = B4 at hv2
  refine ACalls.ofB Try.TT_ok Try.func29 rfl (by kernel_rfl) Try.mixed (Nat.le_of_ble_eq_true rfl) ?_
  intro F n' w0 m0 hG hro h1
  repeat' first
    | refine SPB.seq ?_
    | refine SPB.block ?_
    | refine SPB.draw hG Try.TT_ok Try.keep29 (by kernel_rfl) ?_
    | refine SPB.reg hG Try.TT_ok Try.keep29 (by kernel_rfl) ?_
    | refine SPB.skip hG Try.TT_ok ?_
    | refine SPB.label hG Try.TT_ok ?_
    | refine SPB.ret hG Try.TT_ok ?_
    | refine SPB.exit hG Try.TT_ok ?_
    | refine SPB.condT rfl ?_
    | refine SPB.condF rfl ?_
    | refine SPB.cond rfl (And.intro (fun h => ?_) (fun h => ?_))
    | (conv => whnf
       first
         | refine And.intro (fun h => Bool.noConfusion (h : false = true)) (fun _ => ?_)
         | refine And.intro (fun _ => ?_) (fun h => Bool.noConfusion (h : true = false))
         | refine And.intro (by kernel_rfl) ?_
         | refine Exists.intro _ (And.intro (ks) ?_)
         | refine Exists.intro _ (And.intro (k1) ?_)
         | refine Exists.intro _ (And.intro (k2) ?_)
         | refine Exists.intro _ (And.intro (kv) ?_)
         | refine And.intro (fun h => ?_) (fun h => ?_)
         | refine Or.inl ?_
         | fail)
  all_goals first
    | exact Ends.mk (Or.inl rfl) (AV.weak.of_eq rfl)
    | (exfalso
       clear kv ks k1 k2 hG
       simp_all)
theorem Try.b30 (s : Nat → Int) (l : List Aim3) (a b n k : Int) (hl : l.length ≤ 1000000) (hv : freeV s l a b n k = false) : ACalls Try.prog 30 [.agg (satA s), aimsA l, .agg (spellA a b), .int .i64 n, .int .i64 k] (.tup [.int .i64 0, .int .i64 120]) := by
  have kv := Try.v15 s l hl
  have ks := Try.c43 a b
  have k1 := Try.i53 n 1 60
  have k2 := Try.i53 k (w64 (0 - s 9)) (s 9)
  have hml : ((l.map aimA).length : Int) = l.length := by rw [List.length_map]
  have hv2 : valS s l = true → (((l.map aimA).length : Int) == 64) = false → spanS a b = true → inS n 1 60 = true → inS k (w64 (0 - s 9)) (s 9) = true → False := fun h1 h2 h3 h4 h5 => by
    have h6 := valS_len h1
    have h7 := beq_eq_false_iff_ne.1 h2
    have : freeV s l a b n k = true := by unfold freeV; rw [h1, h3, h4, h5]; simp; omega
    rw [this] at hv; cases hv
  generalize spanS a b = B1 at *
  generalize inS n 1 60 = B2 at *
  generalize inS k (w64 (0 - s 9)) (s 9) = B3 at *
  generalize valS s l = B5 at *
  refine ACalls.ofB Try.TT_ok Try.func30 rfl (by kernel_rfl) Try.mixed (Nat.le_of_ble_eq_true rfl) ?_
  intro F n' w0 m0 hG hro h1
  repeat' first
    | refine SPB.seq ?_
    | refine SPB.block ?_
    | refine SPB.draw hG Try.TT_ok Try.keep30 (by kernel_rfl) ?_
    | refine SPB.reg hG Try.TT_ok Try.keep30 (by kernel_rfl) ?_
    | refine SPB.skip hG Try.TT_ok ?_
    | refine SPB.label hG Try.TT_ok ?_
    | refine SPB.ret hG Try.TT_ok ?_
    | refine SPB.exit hG Try.TT_ok ?_
    | refine SPB.condT rfl ?_
    | refine SPB.condF rfl ?_
    | refine SPB.cond rfl (And.intro (fun h => ?_) (fun h => ?_))
    | (conv => whnf
       first
         | refine And.intro (fun h => Bool.noConfusion (h : false = true)) (fun _ => ?_)
         | refine And.intro (fun _ => ?_) (fun h => Bool.noConfusion (h : true = false))
         | refine And.intro (by kernel_rfl) ?_
         | refine Exists.intro _ (And.intro (kv) ?_)
         | refine Exists.intro _ (And.intro (ks) ?_)
         | refine Exists.intro _ (And.intro (k1) ?_)
         | refine Exists.intro _ (And.intro (k2) ?_)
         | refine And.intro (fun h => ?_) (fun h => ?_)
         | refine Or.inl ?_
         | fail)
  all_goals first
    | exact Ends.mk (Or.inl rfl) (AV.weak.of_eq rfl)
    | exact (hv2 (notF (by assumption)) (by assumption) (notF (by assumption)) (notF (by assumption)) (notF (by assumption))).elim
end Go.Proofs


namespace Go.Proofs
open Go Go.AI
set_option maxRecDepth 10000
set_option linter.unusedSimpArgs false

theorem all_takeR {p : Aim3 → Prop} {l : List Aim3} {i : Nat} (hi : i < l.length) : (∀ x ∈ l.take (i + 1), p x) ↔ (∀ x ∈ l.take i, p x) ∧ p (aimAt l i) := by
  rw [take_snoc hi, aimAt_eq hi]
  simp only [List.mem_append, List.mem_singleton]
  exact ⟨fun h => ⟨fun x hx => h x (.inl hx), h _ (.inr rfl)⟩, fun h x hx => by rcases hx with hx | rfl; exact h.1 x hx; exact h.2⟩
set_option maxHeartbeats 8000000 in
theorem Try.c30 (s : Nat → Int) (l : List Aim3) (a b n k : Int) (hv : freeV s l a b n k = true) : ACalls Try.prog 30 [.agg (satA s), aimsA l, .agg (spellA a b), .int .i64 n, .int .i64 k] (.tup [.int .i64 (freeS s l a b n k), .int .i64 0]) := by
  obtain ⟨⟨⟨⟨hs, hn⟩, hk⟩, hl⟩, hvv⟩ : (((spanS a b = true ∧ inS n 1 60 = true) ∧ inS k (w64 (0 - s 9)) (s 9) = true) ∧ l.length < 64) ∧ valS s l = true := by simpa [freeV] using hv
  have kv := Try.v15 s l (by omega)
  have ks := Try.c43 a b
  have k1 := Try.i53 n 1 60
  have k2 := Try.i53 k (w64 (0 - s 9)) (s 9)
  rw [hvv] at kv
  rw [hs] at ks
  rw [hn] at k1
  rw [hk] at k2
  have hml : ((l.map aimA).length : Int) = l.length := by rw [List.length_map]
  have hsB := satB_of (valS_sat hvv)
  have hxB : ∀ x ∈ l, AimB x := fun x hx => aimB_of hsB (valS_aim hvv hx)
  obtain ⟨ha, hab, hb⟩ := span_b hs
  have hba : b - a ≤ 3000 := by
    simp only [spanS, Bool.and_eq_true, decide_eq_true_eq] at hs
    rw [w64_in (n := b - a) (by omega) (by omega)] at hs; exact hs.2
  have hn2 := inS_inv hn
  have hw9 := hsB.w0; have hw9' := hsB.w1
  have hk2 := inS_inv hk
  rw [w64_in (n := 0 - s 9) (by omega) (by omega)] at hk2
  have hval1 : ∀ t, a ≤ t → t + n ≤ b → w64 (t + n) = t + n ∧ aimS s (newAim t n k) = true ∧ AimB (newAim t n k) := fun t h1 h2 => by
    have e : w64 (t + n) = t + n := w64_in (by omega) (by omega)
    refine ⟨e, ?_, ?_⟩
    · simp only [aimS, newAim, e, inS, Bool.and_eq_true, decide_eq_true_eq]
      rw [w64_in (n := t + n - t) (by omega) (by omega), w64_in (n := 0 - s 9) (by omega) (by omega)]
      omega
    · constructor <;> simp only [newAim, e] <;> omega
  have hokT := fun t h1 h2 => okT_iff hsB hxB (a := a) (b := b) (n := n) (k := k) (t := t) ⟨ha, hab, hb, hba⟩ (hval1 t h1 h2).1 (hval1 t h1 h2).2.2
  have hval2 : ∀ t, a ≤ t → t + n ≤ b → valS s (l ++ [newAim t n k]) = true := fun t h1 h2 => by
    have h := hvv
    simp only [valS, areS, Bool.and_eq_true, List.all_eq_true, decide_eq_true_eq] at h ⊢
    refine ⟨⟨fun x hx => ?_, by simp; omega⟩, h.2⟩
    rcases List.mem_append.1 hx with hx | hx
    · exact h.1.1 x hx
    · rw [List.mem_singleton.1 hx]; exact (hval1 t h1 h2).2.1
  have e0 : ((((l.map aimA).length : Int) == 64) = true) = False := by
    rw [hml]; simp; omega
  refine ACalls.ofB Try.TT_ok Try.func30 rfl (by kernel_rfl) Try.mixed (Nat.le_of_ble_eq_true rfl) ?_
  intro F n' w0 m0 hG hro h1
  repeat' first
    | refine SPB.seq ?_
    | refine SPB.block ?_
    | refine SPB.draw hG Try.TT_ok Try.keep30 (by kernel_rfl) ?_
    | refine SPB.reg hG Try.TT_ok Try.keep30 (by kernel_rfl) ?_
    | refine SPB.skip hG Try.TT_ok ?_
    | refine SPB.label hG Try.TT_ok ?_
    | refine SPB.ret hG Try.TT_ok ?_
    | refine SPB.exit hG Try.TT_ok ?_
    | refine SPB.condT rfl ?_
    | refine SPB.condF rfl ?_
    | refine SPB.cond rfl (And.intro (fun h => ?_) (fun h => ?_))
    | (conv => whnf
       first
         | refine And.intro (fun h => Bool.noConfusion (h : false = true)) (fun _ => ?_)
         | refine And.intro (fun _ => ?_) (fun h => Bool.noConfusion (h : true = false))
         | refine And.intro (by kernel_rfl) ?_
         | refine Exists.intro _ (And.intro (kv) ?_)
         | refine Exists.intro _ (And.intro (ks) ?_)
         | refine Exists.intro _ (And.intro (k1) ?_)
         | refine Exists.intro _ (And.intro (k2) ?_)
         | refine And.intro (fun h => ?_) (fun h => ?_)
         | refine Or.inl ?_
         | fail)
  · exact (e0 ▸ (by assumption : (((l.map aimA).length : Int) == 64) = true) : False).elim
  refine SPB.loop (X := Nat) (fun i => ⟨[(12, .int .i64 (a + (i : Int))), (1, aimsA l), (3, .int .i64 n), (4, .int .i64 k), (5, .loc 5 0), (7, .loc 7 0)], [(5, satA s), (7, [.int .i64 a, .int .i64 b])]⟩) (fun i => i ≤ freeC a b n ∧ ∀ j : Nat, j < i → okT s l a b n k (a + j) = false) (fun i => freeC a b n - i) 0 ⟨Nat.zero_le _, fun j hj => absurd hj (Nat.not_lt_zero _)⟩ (St.le.of ?_ ?_) (fun i hi => ?_)
  · refine And.intro (congrArg (fun z => some (AV.int .i64 z)) (show a = a + ((0 : Nat) : Int) by omega)) ?_
    repeat' (first | exact trivial | refine And.intro rfl ?_)
  · repeat' (first | exact trivial | refine And.intro rfl ?_)
  · obtain ⟨hi, hall⟩ := hi
    have hfC : freeC a b n ≤ 3000 := by unfold freeC; omega
    have wT : IntKind.i64.wrap (a + (i : Int) + n) = a + i + n := w64_in (by omega) (by omega)
    have hAX : aimA (newAim (a + i) n k) = [.int .i64 (a + (i : Int)), .int .i64 (IntKind.i64.wrap (a + (i : Int) + n)), .int .i64 k] := rfl
    repeat' first
      | refine SPB.seq ?_
      | refine SPB.block ?_
      | refine SPB.draw hG Try.TT_ok Try.keep30 (by kernel_rfl) ?_
      | refine SPB.reg hG Try.TT_ok Try.keep30 (by kernel_rfl) ?_
      | refine SPB.skip hG Try.TT_ok ?_
      | refine SPB.label hG Try.TT_ok ?_
      | refine SPB.ret hG Try.TT_ok ?_
      | refine SPB.exit hG Try.TT_ok ?_
      | refine SPB.condT rfl ?_
      | refine SPB.condF rfl ?_
      | refine SPB.cond rfl (And.intro (fun h => ?_) (fun h => ?_))
      | (conv => whnf
         first
           | refine And.intro (fun h => Bool.noConfusion (h : false = true)) (fun _ => ?_)
           | refine And.intro (fun _ => ?_) (fun h => Bool.noConfusion (h : true = false))
           | refine And.intro (by kernel_rfl) ?_
           | refine And.intro (fun h => ?_) (fun h => ?_)
           | refine Or.inl ?_
           | fail)
    · have hi3 : i < freeC a b n := by
        have := of_decide_eq_true (by assumption : decide (IntKind.i64.wrap (a + (i : Int) + n) ≤ b) = true)
        rw [wT] at this; unfold freeC; omega
      have htb : a + (i : Int) + n ≤ b := by unfold freeC at hi3; omega
      have hok := hokT (a + i) (by omega) htb
      have hv2 := hval2 (a + i) (by omega) htb
      have hXB := (hval1 (a + i) (by omega) htb).2.2
      have k23 := Try.c23 s (l ++ [newAim (a + i) n k]) a b (by simp; omega) hs hv2
      have hh := hotS_iff s (l ++ [newAim (a + i) n k]) (a := a) (b := b) (by omega) hba
      have hh2 : hotS s (l ++ [newAim (a + i) n k]) a b = -1 ∨ 0 ≤ hotS s (l ++ [newAim (a + i) n k]) a b := hh.elim (fun h => .inl h.1) (fun h => .inr h.1)
      clear hh
      have eX : aimsA (l ++ [newAim (a + i) n k]) = .sl .no 3 (([] ++ l.map aimA) ++ [aimA (newAim (a + i) n k)]) := by unfold aimsA; rw [List.map_append, List.nil_append]; rfl
      rw [eX] at k23
      have hnext : okT s l a b n k (a + i) = false → ∀ j : Nat, j < i + 1 → okT s l a b n k (a + j) = false := fun h j hj => by
        rcases Nat.lt_succ_iff_lt_or_eq.1 hj with h' | rfl
        · exact hall j h'
        · exact h
      have hret : okT s l a b n k (a + i) = true → freeS s l a b n k = a + i := fun h => by
        unfold freeS
        rw [find_some (v := a + (i : Int)) hi3 (fun j hj => by rw [if_neg (by rw [hall j hj]; exact Bool.false_ne_true)]) (by rw [if_pos h])]; rfl
      generalize newAim (a + i) n k = X at *
      generalize hotS s (l ++ [X]) a b = hot at *
      generalize okT s l a b n k (a + i) = okt at *
      refine SPB.loop (X := Nat × Bool) (fun x => ⟨[(15, .int .i64 x.1), (14, .bool x.2), (13, .loc 13 0), (12, .int .i64 (a + (i : Int))), (1, aimsA l), (3, .int .i64 n), (4, .int .i64 k), (5, .loc 5 0), (7, .loc 7 0)], [(13, aimA X), (5, satA s), (7, [.int .i64 a, .int .i64 b])]⟩)
        (fun x => x.1 ≤ l.length ∧ (x.2 = true ↔ ∀ y ∈ l.take x.1, fitP s y X = true)) (fun x => l.length - x.1) (0, true) ⟨Nat.zero_le _, by simp⟩ (St.le.of ?_ ?_) (fun x hx => ?_)
      · repeat' (first | exact trivial | refine And.intro rfl ?_)
      · refine And.intro (congrArg some hAX.symm) ?_
        repeat' (first | exact trivial | refine And.intro rfl ?_)
      · obtain ⟨q, ok⟩ := x
        obtain ⟨hq, hoq⟩ := hx
        simp only at hq hoq
        have hlt3 : decide ((q : Int) < ((l.map aimA).length : Int)) = true → q < l.length := fun h => by have := of_decide_eq_true h; omega
        have ci := fun h => hx_at (l := l) (i := q) (hlt3 h) rfl
        have kp := Try.c39 s (aimAt l q) X
        have hfq : q < l.length → fitR s (aimAt l q) X = fitP s (aimAt l q) X := fun h => fitR_eq hsB (hxB _ (aimAt_mem h)) hXB
        repeat' first
          | refine SPB.seq ?_
          | refine SPB.block ?_
          | refine SPB.draw hG Try.TT_ok Try.keep30 (by kernel_rfl) ?_
          | refine SPB.reg hG Try.TT_ok Try.keep30 (by kernel_rfl) ?_
          | refine SPB.skip hG Try.TT_ok ?_
          | refine SPB.label hG Try.TT_ok ?_
          | refine SPB.ret hG Try.TT_ok ?_
          | refine SPB.exit hG Try.TT_ok ?_
          | refine SPB.condT rfl ?_
          | refine SPB.condF rfl ?_
          | refine SPB.cond rfl (And.intro (fun h => ?_) (fun h => ?_))
          | (conv => whnf
             first
               | refine And.intro (fun h => Bool.noConfusion (h : false = true)) (fun _ => ?_)
               | refine And.intro (fun _ => ?_) (fun h => Bool.noConfusion (h : true = false))
               | refine And.intro (by kernel_rfl) ?_
               | refine And.intro (ci (by assumption)).1 (Exists.intro _ (And.intro (ci (by assumption)).2 ?_))
               | refine Exists.intro _ (And.intro (kp) ?_)
               | refine Exists.intro _ (And.intro (k23) ?_)
               | refine And.intro (show _ * 24 ≤ 70368744177664 by simp only [List.length_cons, List.length_nil, List.length_append]; omega) (And.intro (show _ + _ ≤ 4611686018427387904 by simp only [List.length_cons, List.length_nil, List.length_append]; omega) ?_)
               | refine And.intro (fun h => ?_) (fun h => ?_)
               | refine Or.inl ?_
               | fail)
        · have hq2 := hlt3 (by assumption)
          have h9 := hoq.1 (by assumption : ok = true)
          refine Exists.intro (q + 1, fitR s (aimAt l q) X) (And.intro ⟨hq2, ?_⟩ (And.intro (by simp; omega) (St.le.of ?_ ?_)))
          · rw [all_takeR hq2, hfq hq2]
            exact ⟨fun g => ⟨h9, g⟩, fun g => g.2⟩
          · refine And.intro (congrArg some (le_next (by omega))) ?_
            repeat' (first | exact trivial | refine And.intro rfl ?_)
          · repeat' (first | exact trivial | refine And.intro rfl ?_)
        · have hq2 := hlt3 (by assumption)
          refine Exists.intro (q + 1, false) (And.intro ⟨hq2, ?_⟩ (And.intro (by simp; omega) (St.le.of ?_ ?_)))
          · rw [all_takeR hq2]
            refine ⟨fun h => Bool.noConfusion h, fun h => ?_⟩
            have := hoq.2 h.1
            rw [(by assumption : ok = false)] at this
            cases this
          · refine And.intro (congrArg some (le_next (by omega))) ?_
            repeat' (first | exact trivial | refine And.intro rfl ?_)
          · repeat' (first | exact trivial | refine And.intro rfl ?_)
        all_goals
          have e : l.take q = l := List.take_of_length_le (by have := of_decide_eq_false (by assumption : decide ((q : Int) < ((l.map aimA).length : Int)) = false); omega)
          rw [e] at hoq
        · have hallS := hnext (by
            cases ho : okt with
            | false => rfl
            | true =>
              have := hoq.2 (hok.1 ho).1
              rw [notT (by assumption : (!ok) = true)] at this; cases this)
          refine Exists.intro (i + 1) (And.intro ⟨hi3, hallS⟩ (And.intro (by omega) (St.le.of ?_ ?_)))
          · refine And.intro (congrArg (fun z => some (AV.int .i64 z)) ((w64_in (by omega) (by omega)).trans (by omega))) ?_
            repeat' (first | exact trivial | refine And.intro rfl ?_)
          · repeat' (first | exact trivial | refine And.intro rfl ?_)
        · have h7 := of_decide_eq_true (by assumption : decide (hot < 0) = true)
          have ho : okt = true := hok.2 ⟨hoq.1 (notF (by assumption : (!ok) = false)), by omega⟩
          refine Ends.mk (Or.inl rfl) (AV.weak.of_eq ?_)
          rw [hret ho]; rfl
        · have h7 := of_decide_eq_false (by assumption : decide (hot < 0) = false)
          have hallS := hnext (by
            cases ho : okt with
            | false => rfl
            | true => have := (hok.1 ho).2; omega)
          refine Exists.intro (i + 1) (And.intro ⟨hi3, hallS⟩ (And.intro (by omega) (St.le.of ?_ ?_)))
          · refine And.intro (congrArg (fun z => some (AV.int .i64 z)) ((w64_in (by omega) (by omega)).trans (by omega))) ?_
            repeat' (first | exact trivial | refine And.intro rfl ?_)
          · repeat' (first | exact trivial | refine And.intro rfl ?_)
    · have hi3 : i = freeC a b n := by
        have := of_decide_eq_false (by assumption : decide (IntKind.i64.wrap (a + (i : Int) + n) ≤ b) = false)
        rw [wT] at this; unfold freeC at hi ⊢; omega
      subst hi3
      refine Ends.mk (Or.inl rfl) (AV.weak.of_eq ?_)
      have : freeS s l a b n k = -1 := by
        unfold freeS
        rw [find_none fun j hj => by rw [if_neg (by rw [hall j hj]; exact Bool.false_ne_true)]]; rfl
      rw [this]; rfl
def freeG (s : Nat → Int) (l : List Aim3) (a b n k : Int) : AV := .tup (if freeV s l a b n k then [.int .i64 (freeS s l a b n k), .int .i64 0] else [.int .i64 0, .int .i64 120])
theorem Try.g30 (s : Nat → Int) (l : List Aim3) (a b n k : Int) (hl : l.length ≤ 1000000) : ACalls Try.prog 30 [.agg (satA s), aimsA l, .agg (spellA a b), .int .i64 n, .int .i64 k] (freeG s l a b n k) := by
  cases h : freeV s l a b n k with
  | true => rw [freeG, if_pos h]; exact Try.c30 s l a b n k h
  | false => rw [freeG, if_neg (by rw [h]; exact Bool.false_ne_true)]; exact Try.b30 s l a b n k hl h
theorem Try.g29 (s : Nat → Int) (l : List Aim3) (a b n k : Int) (hl : l.length ≤ 1000000) : ACalls Try.prog 29 [.agg (satA s), aimsA l, .agg (spellA a b), .int .i64 n, .int .i64 k] (freeG s l a b n k) := by
  cases h : freeV s l a b n k with
  | true => rw [freeG, if_pos h]; exact Try.c29 s l a b n k h
  | false => rw [freeG, if_neg (by rw [h]; exact Bool.false_ne_true)]; exact Try.b29 s l a b n k hl h
def winG (s : Nat → Int) (l : List Aim3) (a b : Int) : AV := .tup (if okV s l a b then [.int .i64 (sumRun (gainsL s l a b)), .int .i64 0] else [.int .i64 0, .int .i64 120])
theorem Try.g26 (s : Nat → Int) (l : List Aim3) (a b : Int) (hl : l.length ≤ 1000000) : ACalls Try.prog 26 [.agg (satA s), aimsA l, .agg (spellA a b)] (winG s l a b) := by
  cases h : okV s l a b with
  | true => rw [winG, if_pos h]; exact Try.c26 s l a b hl (okV_t h).1 (okV_t h).2
  | false => rw [winG, if_neg (by rw [h]; exact Bool.false_ne_true)]; exact Try.b26 s l a b hl h
theorem Try.g25 (s : Nat → Int) (l : List Aim3) (a b : Int) (hl : l.length ≤ 1000000) : ACalls Try.prog 25 [.agg (satA s), aimsA l, .agg (spellA a b)] (winG s l a b) := by
  cases h : okV s l a b with
  | true => rw [winG, if_pos h]; exact Try.c25 s l a b hl (okV_t h).1 (okV_t h).2
  | false => rw [winG, if_neg (by rw [h]; exact Bool.false_ne_true)]; exact Try.b25 s l a b hl h
def worG (s : Nat → Int) (l : List Aim3) (a b : Int) : AV := .tup (if okV s l a b then [.agg [.int .i64 (worstRun a (gainsL s l a b)).bf, .int .i64 (worstRun a (gainsL s l a b)).bt], .int .i64 (worstRun a (gainsL s l a b)).most, .int .i64 0] else [.agg [.int .i64 0, .int .i64 0], .int .i64 0, .int .i64 120])
theorem Try.g28 (s : Nat → Int) (l : List Aim3) (a b : Int) (hl : l.length ≤ 1000000) : ACalls Try.prog 28 [.agg (satA s), aimsA l, .agg (spellA a b)] (worG s l a b) := by
  cases h : okV s l a b with
  | true => rw [worG, if_pos h]; exact Try.c28 s l a b hl (okV_t h).1 (okV_t h).2
  | false => rw [worG, if_neg (by rw [h]; exact Bool.false_ne_true)]; exact Try.b28 s l a b hl h
theorem Try.g27 (s : Nat → Int) (l : List Aim3) (a b : Int) (hl : l.length ≤ 1000000) : ACalls Try.prog 27 [.agg (satA s), aimsA l, .agg (spellA a b)] (worG s l a b) := by
  cases h : okV s l a b with
  | true => rw [worG, if_pos h]; exact Try.c27 s l a b hl (okV_t h).1 (okV_t h).2
  | false => rw [worG, if_neg (by rw [h]; exact Bool.false_ne_true)]; exact Try.b27 s l a b hl h
end Go.Proofs


namespace Go.Proofs
open Go Go.AI
set_option maxRecDepth 10000
set_option linter.unusedSimpArgs false
theorem Try.p20 (s : Nat → Int) (l : List Aim3) (a b : Int) (hl : l.length ≤ 1000000) : ∃ (H : List Int) (e : Int), ACalls Try.prog 20 [.agg (satA s), aimsA l, .agg (spellA a b)] (.tup [intsA H, .int .i64 e]) ∧ ACalls Try.prog 21 [.agg (satA s), aimsA l, .agg (spellA a b)] (.tup [intsA H, .int .i64 e]) ∧ H.length ≤ 1000000 := by
  have h1 := Try.g20 s l a b hl
  have h2 := Try.g21 s l a b hl
  unfold heatG at h1 h2
  cases h : okV s l a b with
  | true =>
    simp only [h, if_true] at h1 h2
    have := (span_b (okV_t h).1)
    exact ⟨_, _, h1, h2, by rw [heatsL_len]; omega⟩
  | false => simp only [h, Bool.false_eq_true, if_false] at h1 h2; exact ⟨_, _, h1, h2, by simp⟩
theorem Try.p22 (s : Nat → Int) (l : List Aim3) (a b : Int) (hl : l.length ≤ 1000000) : ∃ (n e : Int), ACalls Try.prog 22 [.agg (satA s), aimsA l, .agg (spellA a b)] (.tup [.int .i64 n, .int .i64 e]) ∧ ACalls Try.prog 23 [.agg (satA s), aimsA l, .agg (spellA a b)] (.tup [.int .i64 n, .int .i64 e]) := by
  have h1 := Try.g22 s l a b hl
  have h2 := Try.g23 s l a b hl
  unfold hotG at h1 h2
  cases h : okV s l a b with
  | true => simp only [h, if_true] at h1 h2; exact ⟨_, _, h1, h2⟩
  | false => simp only [h, Bool.false_eq_true, if_false] at h1 h2; exact ⟨_, _, h1, h2⟩
theorem Try.p25 (s : Nat → Int) (l : List Aim3) (a b : Int) (hl : l.length ≤ 1000000) : ∃ (n e : Int), ACalls Try.prog 25 [.agg (satA s), aimsA l, .agg (spellA a b)] (.tup [.int .i64 n, .int .i64 e]) ∧ ACalls Try.prog 26 [.agg (satA s), aimsA l, .agg (spellA a b)] (.tup [.int .i64 n, .int .i64 e]) := by
  have h1 := Try.g25 s l a b hl
  have h2 := Try.g26 s l a b hl
  unfold winG at h1 h2
  cases h : okV s l a b with
  | true => simp only [h, if_true] at h1 h2; exact ⟨_, _, h1, h2⟩
  | false => simp only [h, Bool.false_eq_true, if_false] at h1 h2; exact ⟨_, _, h1, h2⟩
theorem Try.p27 (s : Nat → Int) (l : List Aim3) (a b : Int) (hl : l.length ≤ 1000000) : ∃ (x y n e : Int), ACalls Try.prog 27 [.agg (satA s), aimsA l, .agg (spellA a b)] (.tup [.agg [.int .i64 x, .int .i64 y], .int .i64 n, .int .i64 e]) ∧ ACalls Try.prog 28 [.agg (satA s), aimsA l, .agg (spellA a b)] (.tup [.agg [.int .i64 x, .int .i64 y], .int .i64 n, .int .i64 e]) := by
  have h1 := Try.g27 s l a b hl
  have h2 := Try.g28 s l a b hl
  unfold worG at h1 h2
  cases h : okV s l a b with
  | true => simp only [h, if_true] at h1 h2; exact ⟨_, _, _, _, h1, h2⟩
  | false => simp only [h, Bool.false_eq_true, if_false] at h1 h2; exact ⟨_, _, _, _, h1, h2⟩
theorem Try.p29 (s : Nat → Int) (l : List Aim3) (a b n k : Int) (hl : l.length ≤ 1000000) : ∃ (t e : Int), ACalls Try.prog 29 [.agg (satA s), aimsA l, .agg (spellA a b), .int .i64 n, .int .i64 k] (.tup [.int .i64 t, .int .i64 e]) ∧ ACalls Try.prog 30 [.agg (satA s), aimsA l, .agg (spellA a b), .int .i64 n, .int .i64 k] (.tup [.int .i64 t, .int .i64 e]) := by
  have h1 := Try.g29 s l a b n k hl
  have h2 := Try.g30 s l a b n k hl
  unfold freeG at h1 h2
  cases h : freeV s l a b n k with
  | true => simp only [h, if_true] at h1 h2; exact ⟨_, _, h1, h2⟩
  | false => simp only [h, Bool.false_eq_true, if_false] at h1 h2; exact ⟨_, _, h1, h2⟩
theorem Try.p16 (s : Nat → Int) (l : List Aim3) (hl : l.length ≤ 1000000) : ∃ (i k : Int) (is : Bool) (e : Int), ACalls Try.prog 16 [.agg (satA s), aimsA l] (.tup [.int .i64 i, .int .i64 k, .bool is, .int .i64 e]) ∧ ACalls Try.prog 17 [.agg (satA s), aimsA l] (.tup [.int .i64 i, .int .i64 k, .bool is, .int .i64 e]) := by
  have h1 := Try.g16 s l hl
  have h2 := Try.g17 s l hl
  unfold slewG at h1 h2
  cases h : valS s l with
  | true =>
    simp only [h, if_true] at h1 h2
    cases ho : slewO s l with
    | none => rw [ho] at h1 h2; exact ⟨_, _, _, _, h1, h2⟩
    | some p => obtain ⟨i, k⟩ := p; rw [ho] at h1 h2; exact ⟨_, _, _, _, h1, h2⟩
  | false => simp only [h, Bool.false_eq_true, if_false] at h1 h2; exact ⟨_, _, _, _, h1, h2⟩
theorem nnI {n : Int} : ¬ (n != n) = true := by simp
theorem nnB {b : Bool} : ¬ (b != b) = true := by simp
theorem nnD {A : List Int} : ¬ (!decide (A = A)) = true := by simp
theorem nnS {x y : Int} : ¬ (!((x == x) && ((y == y) && true))) = true := by simp
def sndC : Code → Code
  | .seq _ b => b
  | c => c
def sel3 {α : Type} (x y z : α) (i : Nat) : α := match i with | 0 => x | 1 => y | _ => z
theorem sel3_at {α : Type} {x y z : α} {i : Nat} (h : i < 3) {q : Int} (hq : q = i) : 0 ≤ q ∧ [x, y, z][q.toNat]? = some (sel3 x y z i) := by
  subst hq
  refine ⟨by omega, ?_⟩
  match i, h with
  | 0, _ => rfl
  | 1, _ => rfl
  | 2, _ => rfl
theorem sel2_at {α : Type} {x y : α} {i : Nat} (h : i < 2) {q : Int} (hq : q = i) : 0 ≤ q ∧ [x, y][q.toNat]? = some (sel3 x y y i) := by
  subst hq
  refine ⟨by omega, ?_⟩
  match i, h with
  | 0, _ => rfl
  | 1, _ => rfl
def m3B (s odd : Nat → Int) (a b w1 w2 : Int) : List (Nat × List AV) := [(15, satA s), (8, satA odd), (17, spellA a b), (11, spellA w1 w2)]
def m3T (l B F : List Aim3) (mi lo : Int) : List (Nat × AV) := [(16, aimsA l), (18, aimsA B), (19, aimsA F), (5, .int .i64 mi), (6, .int .i64 lo), (15, .loc 15 0), (8, .loc 8 0), (17, .loc 17 0), (11, .loc 11 0)]
set_option maxHeartbeats 20000000 in
theorem Try.m3 (s odd : Nat → Int) (l B F : List Aim3) (a b w1 w2 mi lo : Int) (hl : l.length ≤ 1000000) (hB : B.length ≤ 1000000) (hF : F.length ≤ 1000000) (hab : 0 ≤ a ∧ a < b ∧ b ≤ 1000000) (hw : inI w1 ∧ inI w2)
    {F' : Fence} {n' : Nat} {w0 : World} {m0 : Mem} (hG : Base.OK ⟨Try.prog, F', n', w0, m0, Try.f3.ntmps⟩) : SPB ⟨Try.prog, F', n', w0, m0, Try.f3.ntmps⟩ ⟨m3T l B F mi lo, m3B s odd a b w1 w2⟩ (match Try.f3.body with | some c => sndC (sndC (sndC (sndC (sndC (sndC c))))) | none => .skip) (Go.AI.Ends Try.TT Try.f3.results.toList (.bool true)) := by
  refine SPB.seq ?_
  refine SPB.cut (X := Int) (fun w2 => ⟨m3T l B F mi lo, m3B s odd a b w1 w2⟩) inI ?_ (fun w2 hw2 => ?_)
  · skip
    repeat' first
      | refine SPB.seq ?_
      | refine SPB.block ?_
      | refine SPB.draw hG Try.TT_ok Try.keep3 (by kernel_rfl) ?_
      | refine SPB.reg hG Try.TT_ok Try.keep3 (by kernel_rfl) ?_
      | refine SPB.skip hG Try.TT_ok ?_
      | refine SPB.label hG Try.TT_ok ?_
      | refine SPB.ret hG Try.TT_ok ?_
      | refine SPB.exit hG Try.TT_ok ?_
      | refine SPB.condT rfl ?_
      | refine SPB.condF rfl ?_
      | refine SPB.cond rfl (And.intro (fun h => ?_) (fun h => ?_))
      | (conv => whnf
         first
           | refine And.intro (fun h => Bool.noConfusion (h : false = true)) (fun _ => ?_)
           | refine And.intro (fun _ => ?_) (fun h => Bool.noConfusion (h : true = false))
           | refine And.intro (by kernel_rfl) ?_
           | refine And.intro (fun h => absurd h nnI) (fun _ => ?_)
           | refine And.intro (fun h => absurd h nnB) (fun _ => ?_)
           | refine And.intro (fun h => absurd h nnD) (fun _ => ?_)
           | refine And.intro (fun h => absurd h nnS) (fun _ => ?_)
           | refine And.intro (fun h => ?_) (fun h => ?_)
           | refine Or.inl ?_
           | fail)
    · refine ⟨w64 (w1 + 200), by unfold inI w64; rw [IntKind.wrap_i64]; omega, St.le.of ?_ ?_⟩
      · repeat' (first | exact trivial | refine And.intro rfl ?_)
      · repeat' (first | exact trivial | refine And.intro rfl ?_)
    all_goals (refine ⟨w2, hw.2, St.le.of ?_ ?_⟩
               · repeat' (first | exact trivial | refine And.intro rfl ?_)
               · repeat' (first | exact trivial | refine And.intro rfl ?_))
  · have wba : w64 (b - a) = b - a := w64_in (by omega) (by omega)
    have pa := pick_rng hw.1 (n := w64 (b - a)) (by omega)
    have k1 := Try.c13 w1 (w64 (b - a)) (by omega)
    obtain ⟨p1, hp1⟩ : ∃ p1, p1 = w64 (a + pickS w1 (w64 (b - a))) := ⟨_, rfl⟩
    have hp1' : p1 = a + pickS w1 (w64 (b - a)) := by rw [hp1]; exact w64_in (by omega) (by omega)
    have wbp : w64 (b - p1) = b - p1 := w64_in (by omega) (by omega)
    have k2 := Try.c13 w2 (w64 (b - p1)) (by omega)
    obtain ⟨p2, hp2⟩ : ∃ p2, p2 = w64 (w64 (p1 + 1) + pickS w2 (w64 (b - p1))) := ⟨_, rfl⟩
    rw [hp1] at k2 hp2
    repeat' first
      | refine SPB.seq ?_
      | refine SPB.block ?_
      | refine SPB.draw hG Try.TT_ok Try.keep3 (by kernel_rfl) ?_
      | refine SPB.reg hG Try.TT_ok Try.keep3 (by kernel_rfl) ?_
      | refine SPB.skip hG Try.TT_ok ?_
      | refine SPB.label hG Try.TT_ok ?_
      | refine SPB.ret hG Try.TT_ok ?_
      | refine SPB.exit hG Try.TT_ok ?_
      | refine SPB.condT rfl ?_
      | refine SPB.condF rfl ?_
      | refine SPB.cond rfl (And.intro (fun h => ?_) (fun h => ?_))
      | (conv => whnf
         first
           | refine And.intro (fun h => Bool.noConfusion (h : false = true)) (fun _ => ?_)
           | refine And.intro (fun _ => ?_) (fun h => Bool.noConfusion (h : true = false))
           | refine And.intro (by kernel_rfl) ?_
           | refine And.intro (fun h => ?_) (fun h => ?_)
           | refine Or.inl ?_
           | fail)
    conv => whnf
    refine Exists.intro _ (And.intro (k1) ?_)
    repeat' first
      | refine SPB.seq ?_
      | refine SPB.block ?_
      | refine SPB.draw hG Try.TT_ok Try.keep3 (by kernel_rfl) ?_
      | refine SPB.reg hG Try.TT_ok Try.keep3 (by kernel_rfl) ?_
      | refine SPB.skip hG Try.TT_ok ?_
      | refine SPB.label hG Try.TT_ok ?_
      | refine SPB.ret hG Try.TT_ok ?_
      | refine SPB.exit hG Try.TT_ok ?_
      | refine SPB.condT rfl ?_
      | refine SPB.condF rfl ?_
      | refine SPB.cond rfl (And.intro (fun h => ?_) (fun h => ?_))
      | (conv => whnf
         first
           | refine And.intro (fun h => Bool.noConfusion (h : false = true)) (fun _ => ?_)
           | refine And.intro (fun _ => ?_) (fun h => Bool.noConfusion (h : true = false))
           | refine And.intro (by kernel_rfl) ?_
           | refine And.intro (fun h => ?_) (fun h => ?_)
           | refine Or.inl ?_
           | fail)
    conv => whnf
    refine Exists.intro _ (And.intro (k2) ?_)
    repeat' first
      | refine SPB.seq ?_
      | refine SPB.block ?_
      | refine SPB.draw hG Try.TT_ok Try.keep3 (by kernel_rfl) ?_
      | refine SPB.reg hG Try.TT_ok Try.keep3 (by kernel_rfl) ?_
      | refine SPB.skip hG Try.TT_ok ?_
      | refine SPB.label hG Try.TT_ok ?_
      | refine SPB.ret hG Try.TT_ok ?_
      | refine SPB.exit hG Try.TT_ok ?_
      | refine SPB.condT rfl ?_
      | refine SPB.condF rfl ?_
      | refine SPB.cond rfl (And.intro (fun h => ?_) (fun h => ?_))
      | (conv => whnf
         first
           | refine And.intro (fun h => Bool.noConfusion (h : false = true)) (fun _ => ?_)
           | refine And.intro (fun _ => ?_) (fun h => Bool.noConfusion (h : true = false))
           | refine And.intro (by kernel_rfl) ?_
           | refine And.intro (fun h => ?_) (fun h => ?_)
           | refine Or.inl ?_
           | fail)
    refine SPB.loop (X := Nat) (fun i => ⟨[(21, .int .i64 i), (16, aimsA l), (18, aimsA B), (19, aimsA F), (5, .int .i64 mi), (6, .int .i64 lo), (15, .loc 15 0), (8, .loc 8 0), (17, .loc 17 0), (20, .loc 20 0), (11, .loc 11 0)], [(15, satA s), (8, satA odd), (17, spellA a b), (20, spellA p1 p2), (11, spellA w1 w2)]⟩) (fun i => i ≤ 3) (fun i => 3 - i) 0 (Nat.zero_le _) (St.le.of ?_ ?_) (fun i hi => ?_)
    · repeat' (first | exact trivial | refine And.intro rfl ?_)
    · rw [hp2, hp1]
      repeat' (first | exact trivial | refine And.intro rfl ?_)
    · clear k1 k2 hp2 hp1 hp1'
      have hlt : decide ((i : Int) < 3) = true → i < 3 := fun h => by have := of_decide_eq_true h; omega
      have cS := fun h => sel3_at (x := satA s) (y := satA s) (z := satA odd) (hlt h) rfl
      have cX := fun h => sel3_at (x := [aimsA l]) (y := [aimsA B]) (z := [aimsA F]) (hlt h) rfl
      have eS : sel3 (satA s) (satA s) (satA odd) i = satA (sel3 s s odd i) := by unfold sel3; split <;> rfl
      have eX : sel3 [aimsA l] [aimsA B] [aimsA F] i = [aimsA (sel3 l B F i)] := by unfold sel3; split <;> rfl
      have hX : (sel3 l B F i).length ≤ 1000000 := by unfold sel3; split <;> assumption
      rw [eS] at cS
      rw [eX] at cX
      generalize sel3 s s odd i = S at *
      generalize sel3 l B F i = X at *
      have hmx : ((X.map aimA).length : Int) = X.length := by rw [List.length_map]
      have k14 := Try.v14 S X hX
      have k15 := Try.v15 S X hX
      obtain ⟨s1, s2, s3, s4, k16, k17⟩ := Try.p16 S X hX
      have k18 := Try.g18 S (aimAt X 0) (aimAt X 1)
      have k19 := Try.g19 S (aimAt X 0) (aimAt X 1)
      have h0 := fun h : decide (((X.map aimA).length : Int) > 1) = true => hx_at (l := X) (i := 0) (z := 0) (by have := of_decide_eq_true h; omega) rfl
      have h1 := fun h : decide (((X.map aimA).length : Int) > 1) = true => hx_at (l := X) (i := 1) (z := 1) (by have := of_decide_eq_true h; omega) rfl
      repeat' first
        | refine SPB.seq ?_
        | refine SPB.block ?_
        | refine SPB.draw hG Try.TT_ok Try.keep3 (by kernel_rfl) ?_
        | refine SPB.reg hG Try.TT_ok Try.keep3 (by kernel_rfl) ?_
        | refine SPB.skip hG Try.TT_ok ?_
        | refine SPB.label hG Try.TT_ok ?_
        | refine SPB.ret hG Try.TT_ok ?_
        | refine SPB.exit hG Try.TT_ok ?_
        | refine SPB.condT rfl ?_
        | refine SPB.condF rfl ?_
        | refine SPB.cond rfl (And.intro (fun h => ?_) (fun h => ?_))
        | (conv => whnf
           first
             | refine And.intro (fun h => Bool.noConfusion (h : false = true)) (fun _ => ?_)
             | refine And.intro (fun _ => ?_) (fun h => Bool.noConfusion (h : true = false))
             | refine And.intro (by kernel_rfl) ?_
             | refine And.intro (fun h => absurd h nnI) (fun _ => ?_)
             | refine And.intro (fun h => absurd h nnB) (fun _ => ?_)
             | refine And.intro (fun h => absurd h nnD) (fun _ => ?_)
             | refine And.intro (fun h => absurd h nnS) (fun _ => ?_)
             | refine And.intro (cS (by assumption)).1 (Exists.intro _ (And.intro (cS (by assumption)).2 ?_))
             | refine And.intro (cX (by assumption)).1 (Exists.intro _ (And.intro (cX (by assumption)).2 ?_))
             | refine And.intro (h0 (by assumption)).1 (Exists.intro _ (And.intro (h0 (by assumption)).2 ?_))
             | refine And.intro (h1 (by assumption)).1 (Exists.intro _ (And.intro (h1 (by assumption)).2 ?_))
             | refine Exists.intro _ (And.intro (k14) ?_)
             | refine Exists.intro _ (And.intro (k15) ?_)
             | refine Exists.intro _ (And.intro (k16) ?_)
             | refine Exists.intro _ (And.intro (k17) ?_)
             | refine Exists.intro _ (And.intro (k18) ?_)
             | refine Exists.intro _ (And.intro (k19) ?_)
             | refine And.intro (fun h => ?_) (fun h => ?_)
             | refine Or.inl ?_
             | fail)
      · exact absurd (by assumption : (valS S X != valS S X) = true) nnB
      · exact absurd (by assumption : (s4 != s4) = true) nnI
      · exact absurd (by assumption : (turnG S (aimAt X 0) (aimAt X 1) != turnG S (aimAt X 0) (aimAt X 1)) = true) nnI
      rotate_right 1
      · exact Ends.mk (Or.inl rfl) (AV.weak.of_eq rfl)
      all_goals (
        clear k14 k15 k16 k17 k18 k19 h0 h1 cS cX
        have hi3 := hlt (by assumption)
        refine SPB.loop (X := Nat) (fun j => ⟨[(222, .int .i64 j), (221, .int .i64 3), (220, .sl .full 2 [[.int .i64 a, .int .i64 b], [.int .i64 p1, .int .i64 p2], [.int .i64 w1, .int .i64 w2]]), (22, .loc 22 0), (23, aimsA X), (21, .int .i64 i), (16, aimsA l), (18, aimsA B), (19, aimsA F), (5, .int .i64 mi), (6, .int .i64 lo), (15, .loc 15 0), (8, .loc 8 0), (17, .loc 17 0), (20, .loc 20 0), (11, .loc 11 0)], [(22, satA S), (15, satA s), (8, satA odd), (17, spellA a b), (20, spellA p1 p2), (11, spellA w1 w2)]⟩) (fun j => j ≤ 3) (fun j => 3 - j) 0 (Nat.zero_le _) (St.le.of ?_ ?_) (fun j hj => ?_)
        · repeat' (first | exact trivial | refine And.intro rfl ?_)
        · repeat' (first | exact trivial | refine And.intro rfl ?_)
        · have hlt2 : decide ((j : Int) < 3) = true → j < 3 := fun h => by have := of_decide_eq_true h; omega
          have cU := fun h => sel3_at (x := [AV.int .i64 a, AV.int .i64 b]) (y := [AV.int .i64 p1, AV.int .i64 p2]) (z := [AV.int .i64 w1, AV.int .i64 w2]) (hlt2 h) rfl
          have eU : sel3 [AV.int .i64 a, AV.int .i64 b] [AV.int .i64 p1, AV.int .i64 p2] [AV.int .i64 w1, AV.int .i64 w2] j = [.int .i64 (sel3 a p1 w1 j), .int .i64 (sel3 b p2 w2 j)] := by unfold sel3; split <;> rfl
          rw [eU] at cU
          generalize sel3 a p1 w1 j = u1 at *
          generalize sel3 b p2 w2 j = u2 at *
          obtain ⟨H, e1, k20, k21, hH⟩ := Try.p20 S X u1 u2 hX
          obtain ⟨n2, e2, k22, k23⟩ := Try.p22 S X u1 u2 hX
          obtain ⟨n3, e3, k25, k26⟩ := Try.p25 S X u1 u2 hX
          obtain ⟨x4, y4, n4, e4, k27, k28⟩ := Try.p27 S X u1 u2 hX
          have k24 := Try.c24 H H hH
          have kmi := Try.c13 mi 8 (by decide)
          have klo := Try.c13 lo 3 (by decide)
          repeat' first
            | refine SPB.seq ?_
            | refine SPB.block ?_
            | refine SPB.draw hG Try.TT_ok Try.keep3 (by kernel_rfl) ?_
            | refine SPB.reg hG Try.TT_ok Try.keep3 (by kernel_rfl) ?_
            | refine SPB.skip hG Try.TT_ok ?_
            | refine SPB.label hG Try.TT_ok ?_
            | refine SPB.ret hG Try.TT_ok ?_
            | refine SPB.exit hG Try.TT_ok ?_
            | refine SPB.condT rfl ?_
            | refine SPB.condF rfl ?_
            | refine SPB.cond rfl (And.intro (fun h => ?_) (fun h => ?_))
            | (conv => whnf
               first
                 | refine And.intro (fun h => Bool.noConfusion (h : false = true)) (fun _ => ?_)
                 | refine And.intro (fun _ => ?_) (fun h => Bool.noConfusion (h : true = false))
                 | refine And.intro (by kernel_rfl) ?_
                 | refine And.intro (fun h => absurd h nnI) (fun _ => ?_)
                 | refine And.intro (fun h => absurd h nnB) (fun _ => ?_)
                 | refine And.intro (fun h => absurd h nnD) (fun _ => ?_)
                 | refine And.intro (fun h => absurd h nnS) (fun _ => ?_)
                 | refine And.intro (cU (by assumption)).1 (Exists.intro _ (And.intro (cU (by assumption)).2 ?_))
                 | refine Exists.intro _ (And.intro (k20) ?_)
                 | refine Exists.intro _ (And.intro (k21) ?_)
                 | refine Exists.intro _ (And.intro (k22) ?_)
                 | refine Exists.intro _ (And.intro (k23) ?_)
                 | refine Exists.intro _ (And.intro (k24) ?_)
                 | refine Exists.intro _ (And.intro (k25) ?_)
                 | refine Exists.intro _ (And.intro (k26) ?_)
                 | refine Exists.intro _ (And.intro (k27) ?_)
                 | refine Exists.intro _ (And.intro (k28) ?_)
                 | refine Exists.intro _ (And.intro (kmi) ?_)
                 | refine Exists.intro _ (And.intro (klo) ?_)
                 | refine And.intro (fun h => ?_) (fun h => ?_)
                 | refine Or.inl ?_
                 | fail)
          · exact absurd (by assumption : (e2 != e2) = true) nnI
          · exact absurd (by assumption : (e4 != e4) = true) nnI
          · have hj3 := hlt2 (by assumption)
            clear k20 k21 k22 k23 k24 k25 k26 k27 k28 kmi klo cU
            refine SPB.loop (X := Nat) (fun r => ⟨[(338, .int .i64 r), (337, .int .i64 2), (336, .sl .full 2 [[.int .i64 mi, .int .i64 lo], [.int .i64 (w64 (1 + pickS mi 8)), .int .i64 (w64 (pickS lo 3 - 1))]]), (33, .loc 33 0), (222, .int .i64 j), (221, .int .i64 3), (220, .sl .full 2 [[.int .i64 a, .int .i64 b], [.int .i64 p1, .int .i64 p2], [.int .i64 w1, .int .i64 w2]]), (22, .loc 22 0), (23, aimsA X), (21, .int .i64 i), (16, aimsA l), (18, aimsA B), (19, aimsA F), (5, .int .i64 mi), (6, .int .i64 lo), (15, .loc 15 0), (8, .loc 8 0), (17, .loc 17 0), (20, .loc 20 0), (11, .loc 11 0)], [(33, [.int .i64 u1, .int .i64 u2]), (22, satA S), (15, satA s), (8, satA odd), (17, spellA a b), (20, spellA p1 p2), (11, spellA w1 w2)]⟩) (fun r => r ≤ 2) (fun r => 2 - r) 0 (Nat.zero_le _) (St.le.of ?_ ?_) (fun r hr => ?_)
            · repeat' (first | exact trivial | refine And.intro rfl ?_)
            · repeat' (first | exact trivial | refine And.intro rfl ?_)
            · have hlt4 : decide ((r : Int) < 2) = true → r < 2 := fun h => by have := of_decide_eq_true h; omega
              have cR := fun h => sel2_at (x := [AV.int .i64 mi, AV.int .i64 lo]) (y := [AV.int .i64 (w64 (1 + pickS mi 8)), AV.int .i64 (w64 (pickS lo 3 - 1))]) (hlt4 h) rfl
              have eR : sel3 [AV.int .i64 mi, AV.int .i64 lo] [AV.int .i64 (w64 (1 + pickS mi 8)), AV.int .i64 (w64 (pickS lo 3 - 1))] [AV.int .i64 (w64 (1 + pickS mi 8)), AV.int .i64 (w64 (pickS lo 3 - 1))] r = [.int .i64 (sel3 mi (w64 (1 + pickS mi 8)) (w64 (1 + pickS mi 8)) r), .int .i64 (sel3 lo (w64 (pickS lo 3 - 1)) (w64 (pickS lo 3 - 1)) r)] := by unfold sel3; split <;> rfl
              rw [eR] at cR
              generalize sel3 mi (w64 (1 + pickS mi 8)) (w64 (1 + pickS mi 8)) r = r1 at *
              generalize sel3 lo (w64 (pickS lo 3 - 1)) (w64 (pickS lo 3 - 1)) r = r2 at *
              obtain ⟨n5, e5, k29, k30⟩ := Try.p29 S X u1 u2 r1 r2 hX
              repeat' first
                | refine SPB.seq ?_
                | refine SPB.block ?_
                | refine SPB.draw hG Try.TT_ok Try.keep3 (by kernel_rfl) ?_
                | refine SPB.reg hG Try.TT_ok Try.keep3 (by kernel_rfl) ?_
                | refine SPB.skip hG Try.TT_ok ?_
                | refine SPB.label hG Try.TT_ok ?_
                | refine SPB.ret hG Try.TT_ok ?_
                | refine SPB.exit hG Try.TT_ok ?_
                | refine SPB.condT rfl ?_
                | refine SPB.condF rfl ?_
                | refine SPB.cond rfl (And.intro (fun h => ?_) (fun h => ?_))
                | (conv => whnf
                   first
                     | refine And.intro (fun h => Bool.noConfusion (h : false = true)) (fun _ => ?_)
                     | refine And.intro (fun _ => ?_) (fun h => Bool.noConfusion (h : true = false))
                     | refine And.intro (by kernel_rfl) ?_
                     | refine And.intro (fun h => absurd h nnI) (fun _ => ?_)
                     | refine And.intro (fun h => absurd h nnB) (fun _ => ?_)
                     | refine And.intro (fun h => absurd h nnD) (fun _ => ?_)
                     | refine And.intro (fun h => absurd h nnS) (fun _ => ?_)
                     | refine And.intro (cR (by assumption)).1 (Exists.intro _ (And.intro (cR (by assumption)).2 ?_))
                     | refine And.intro (show (0 : Int) ≤ 0 by decide) (And.intro (show (0 : Int) < 2 by decide) ?_)
                     | refine And.intro (show (0 : Int) ≤ 1 by decide) (And.intro (show (1 : Int) < 2 by decide) ?_)
                     | refine Exists.intro _ (And.intro (k29) ?_)
                     | refine Exists.intro _ (And.intro (k30) ?_)
                     | refine And.intro (fun h => ?_) (fun h => ?_)
                     | refine Or.inl ?_
                     | fail)
              · exact absurd (by assumption : (e5 != e5) = true) nnI
              · refine Exists.intro (r + 1) (And.intro (hlt4 (by assumption)) (And.intro (by have := hlt4 (by assumption); omega) (St.le.of ?_ ?_)))
                · refine And.intro (congrArg some (le_next (by omega))) ?_
                  repeat' (first | exact trivial | refine And.intro rfl ?_)
                · repeat' (first | exact trivial | refine And.intro rfl ?_)
              · refine Exists.intro (j + 1) (And.intro hj3 (And.intro (by omega) (St.le.of ?_ ?_)))
                · refine And.intro (congrArg some (le_next (by omega))) ?_
                  repeat' (first | exact trivial | refine And.intro rfl ?_)
                · repeat' (first | exact trivial | refine And.intro rfl ?_)
          · refine Exists.intro (i + 1) (And.intro hi3 (And.intro (by omega) (St.le.of ?_ ?_)))
            · refine And.intro (congrArg some (le_next (by omega))) ?_
              repeat' (first | exact trivial | refine And.intro rfl ?_)
            · repeat' (first | exact trivial | refine And.intro rfl ?_))
end Go.Proofs


