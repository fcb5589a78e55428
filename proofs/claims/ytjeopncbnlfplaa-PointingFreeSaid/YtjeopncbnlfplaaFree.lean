/- PointingFree answers true, whatever the input; no condition. -/
import Derived.Test.YtjeopncbnlfplaaPl
import Derived.Test.YtjeopncbnlfplaaRows
set_option linter.unusedSectionVars false
set_option linter.unusedVariables false
set_option linter.unusedSimpArgs false
namespace Go.Proofs
open Go Go.AI
set_option maxRecDepth 10000
set_option linter.unusedSimpArgs false

theorem free_facts {s : Nat → Int} {l : List Aim3} {a b n k t : Int} {m : Nat} (ha : 0 ≤ a) (ht : t = a + m) (hm : m < freeC a b n) :
    (t = freeS s l a b n k → okT s l a b n k t = true) ∧ (okT s l a b n k t = true → freeS s l a b n k ≠ -1 ∧ freeS s l a b n k ≤ t) := by
  subst ht
  rcases freeS_spec s l a b n k with ⟨h1, h2⟩ | ⟨i, h1, h2, h3, h4⟩
  · rw [h1]
    exact ⟨fun h => by omega, fun h => by rw [h2 m hm] at h; cases h⟩
  · rw [h2]
    refine ⟨fun h => by have : m = i := by omega
                        rw [this]; exact h3, fun h => ⟨by omega, ?_⟩⟩
    rcases Nat.lt_or_ge m i with g | g
    · rw [h4 m g] at h; cases h
    · omega
theorem free_rng {s : Nat → Int} {l : List Aim3} {a b n k : Int} : freeS s l a b n k = -1 ∨ ∃ m : Nat, freeS s l a b n k = a + m ∧ m < freeC a b n := by
  rcases freeS_spec s l a b n k with ⟨h1, _⟩ | ⟨i, h1, h2, _⟩
  · exact .inl h1
  · exact .inr ⟨i, h2, h1⟩
def tj (f o : Int) (j : Nat) : Int := if j = 0 then f else o
theorem tj_at {f o : Int} {j : Nat} (h : j < 2) {z : Int} (hz : z = j) : 0 ≤ z ∧ [[AV.int .i64 f], [AV.int .i64 o]][z.toNat]? = some [AV.int .i64 (tj f o j)] := by
  subst hz
  refine ⟨by omega, ?_⟩
  match j, h with
  | 0, _ => rfl
  | 1, _ => rfl
theorem fit_two {s : Nat → Int} {x y : Aim3} : ([x, y].Pairwise fun x y => fitP s x y = true) ↔ fitP s x y = true := by simp
theorem slewO_two (s : Nat → Int) (x y : Aim3) : slewA (slewO s [x, y]) = [.int .i64 0, .int .i64 (if fitP s x y then 0 else 1), .bool (!fitP s x y), .int .i64 0] := by
  cases h : fitP s x y <;> simp [slewO, slewJ, slewI, List.range_succ, aimAt, h, slewA, List.findSome?_cons]
theorem all_take {p : Aim3 → Prop} {l : List Aim3} {i : Nat} (hi : i < l.length) : (∀ x ∈ l.take (i + 1), p x) ↔ (∀ x ∈ l.take i, p x) ∧ p (aimAt l i) := by
  rw [take_snoc hi, aimAt_eq hi]
  simp only [List.mem_append, List.mem_singleton]
  exact ⟨fun h => ⟨fun x hx => h x (.inl hx), h _ (.inr rfl)⟩, fun h x hx => by rcases hx with hx | rfl; exact h.1 x hx; exact h.2⟩
set_option maxHeartbeats 8000000 in
theorem Try.x8 (c : Case) (hc : c.ok) (mi lo ea : Int) (hm : inI mi) (hlo : inI lo) (hea : inI ea) : ACalls Try.prog 8 [.agg c.A, .int .i64 mi, .int .i64 lo, .int .i64 ea] (.bool true) := by
  have hr := Case.rng hc
  have hlen := c.len
  have hval := Case.val hc
  have hH := HotOK.of hval
  have h9 := Case.h9 hc
  have hml : ((c.l.map aimA).length : Int) = c.l.length := by rw [List.length_map]
  have hmn := Case.mn_rng hm
  have hlk := Case.lk_rng hc hlo
  have lf := Case.lf_eq hc hea
  have hne : w64 (c.b - c.a) ≠ 0 := by rw [hr.2.2.2.2]; omega
  have k29 := Try.c29 c.s c.l c.a c.b (Case.mn mi) (c.lk lo) (Case.freeV hc (.refl _) hm hlo)
  have kl := Try.c13 lo (wdS c.s) (by rw [wd_eq h9]; omega)
  have ff := fun t m h1 h2 => free_facts (s := c.s) (l := c.l) (a := c.a) (b := c.b) (n := Case.mn mi) (k := c.lk lo) (t := t) (m := m) (by omega) h1 h2
  have fr := free_rng (s := c.s) (l := c.l) (a := c.a) (b := c.b) (n := Case.mn mi) (k := c.lk lo)
  have hval1 : ∀ t, c.a ≤ t → t + Case.mn mi ≤ c.b → w64 (t + Case.mn mi) = t + Case.mn mi ∧ aimS c.s (newAim t (Case.mn mi) (c.lk lo)) = true ∧ AimB (newAim t (Case.mn mi) (c.lk lo)) := fun t h1 h2 => by
    have e : w64 (t + Case.mn mi) = t + Case.mn mi := w64_in (by omega) (by omega)
    refine ⟨e, ?_, ?_⟩
    · simp only [aimS, newAim, e, inS, Bool.and_eq_true, decide_eq_true_eq]
      rw [w64_in (n := t + Case.mn mi - t) (by omega) (by omega), w64_in (n := 0 - c.s 9) (by omega) (by omega)]
      omega
    · constructor <;> simp only [newAim, e] <;> omega
  have hokT := fun t h1 h2 => okT_iff (Case.satB hc) (Case.aimB hc) (a := c.a) (b := c.b) (n := Case.mn mi) (k := c.lk lo) (t := t) (by omega) (hval1 t h1 h2).1 (hval1 t h1 h2).2.2
  have hval2 : ∀ t, c.a ≤ t → t + Case.mn mi ≤ c.b → valS c.s (c.l ++ [newAim t (Case.mn mi) (c.lk lo)]) = true := fun t h1 h2 => by
    have h := hval
    simp only [valS, areS, Bool.and_eq_true, List.all_eq_true, decide_eq_true_eq] at h ⊢
    refine ⟨⟨fun x hx => ?_, by simp; omega⟩, h.2⟩
    rcases List.mem_append.1 hx with hx | hx
    · exact h.1.1 x hx
    · rw [List.mem_singleton.1 hx]; exact (hval1 t h1 h2).2.1
  have hval3 : ∀ t, c.a ≤ t → t + Case.mn mi ≤ c.b → ∀ x ∈ c.l, valS c.s [x, newAim t (Case.mn mi) (c.lk lo)] = true := fun t h1 h2 x hx =>
    val2 (hval2 t h1 h2) (List.mem_append_left _ hx) (List.mem_append_right _ (List.mem_singleton.2 rfl))
  generalize freeS c.s c.l c.a c.b (Case.mn mi) (c.lk lo) = f at *
  have hf : f = -1 ∨ (c.a ≤ f ∧ f + Case.mn mi ≤ c.b) := by
    rcases fr with h | ⟨m, h1, h2⟩
    · exact .inl h
    · unfold freeC at h2; exact .inr (by omega)
  have wf : f ≠ -1 → IntKind.i64.wrap (f + IntKind.i64.wrap (1 + pickS mi 8)) = f + Case.mn mi := fun h => (hval1 f (by omega) (by omega)).1
  refine ACalls.ofB Try.TT_ok Try.func8 rfl (by kernel_rfl) Try.mixed (Nat.le_of_ble_eq_true rfl) ?_
  intro F n' w0 m0 hG hro h1
  repeat' first
    | refine SPB.seq ?_
    | refine SPB.block ?_
    | refine SPB.draw hG Try.TT_ok Try.keep8 (by kernel_rfl) ?_
    | refine SPB.reg hG Try.TT_ok Try.keep8 (by kernel_rfl) ?_
    | refine SPB.skip hG Try.TT_ok ?_
    | refine SPB.label hG Try.TT_ok ?_
    | refine SPB.ret hG Try.TT_ok ?_
    | refine SPB.exit hG Try.TT_ok ?_
    | refine SPB.condT rfl ?_
    | refine SPB.condF rfl ?_
    | refine SPB.cond rfl (And.intro (fun h => ?_) (fun h => ?_))
    | (conv => whnf
       first
         | refine And.intro (fun h => Bool.noConfusion (h : false = true)) (fun _ => ?_)
         | refine And.intro (fun _ => ?_) (fun h => Bool.noConfusion (h : true = false))
         | refine And.intro (by kernel_rfl) ?_
         | refine And.intro (fun h => ?_) (fun h => ?_)
         | fail)
  conv => whnf
  refine Exists.intro _ (And.intro (Try.c11) ?_)
  repeat' first
    | refine SPB.seq ?_
    | refine SPB.block ?_
    | refine SPB.draw hG Try.TT_ok Try.keep8 (by kernel_rfl) ?_
    | refine SPB.reg hG Try.TT_ok Try.keep8 (by kernel_rfl) ?_
    | refine SPB.skip hG Try.TT_ok ?_
    | refine SPB.label hG Try.TT_ok ?_
    | refine SPB.ret hG Try.TT_ok ?_
    | refine SPB.exit hG Try.TT_ok ?_
    | refine SPB.condT rfl ?_
    | refine SPB.condF rfl ?_
    | refine SPB.cond rfl (And.intro (fun h => ?_) (fun h => ?_))
    | (conv => whnf
       first
         | refine And.intro (fun h => Bool.noConfusion (h : false = true)) (fun _ => ?_)
         | refine And.intro (fun _ => ?_) (fun h => Bool.noConfusion (h : true = false))
         | refine And.intro (by kernel_rfl) ?_
         | refine And.intro (fun h => ?_) (fun h => ?_)
         | fail)
  conv => whnf
  refine Exists.intro _ (And.intro (Try.c12 c hc) ?_)
  repeat' first
    | refine SPB.seq ?_
    | refine SPB.block ?_
    | refine SPB.draw hG Try.TT_ok Try.keep8 (by kernel_rfl) ?_
    | refine SPB.reg hG Try.TT_ok Try.keep8 (by kernel_rfl) ?_
    | refine SPB.skip hG Try.TT_ok ?_
    | refine SPB.label hG Try.TT_ok ?_
    | refine SPB.ret hG Try.TT_ok ?_
    | refine SPB.exit hG Try.TT_ok ?_
    | refine SPB.condT rfl ?_
    | refine SPB.condF rfl ?_
    | refine SPB.cond rfl (And.intro (fun h => ?_) (fun h => ?_))
    | (conv => whnf
       first
         | refine And.intro (fun h => Bool.noConfusion (h : false = true)) (fun _ => ?_)
         | refine And.intro (fun _ => ?_) (fun h => Bool.noConfusion (h : true = false))
         | refine And.intro (by kernel_rfl) ?_
         | refine And.intro (fun h => ?_) (fun h => ?_)
         | fail)
  conv => whnf
  refine Exists.intro _ (And.intro (Try.c13 mi 8 (by decide)) ?_)
  repeat' first
    | refine SPB.seq ?_
    | refine SPB.block ?_
    | refine SPB.draw hG Try.TT_ok Try.keep8 (by kernel_rfl) ?_
    | refine SPB.reg hG Try.TT_ok Try.keep8 (by kernel_rfl) ?_
    | refine SPB.skip hG Try.TT_ok ?_
    | refine SPB.label hG Try.TT_ok ?_
    | refine SPB.ret hG Try.TT_ok ?_
    | refine SPB.exit hG Try.TT_ok ?_
    | refine SPB.condT rfl ?_
    | refine SPB.condF rfl ?_
    | refine SPB.cond rfl (And.intro (fun h => ?_) (fun h => ?_))
    | (conv => whnf
       first
         | refine And.intro (fun h => Bool.noConfusion (h : false = true)) (fun _ => ?_)
         | refine And.intro (fun _ => ?_) (fun h => Bool.noConfusion (h : true = false))
         | refine And.intro (by kernel_rfl) ?_
         | refine And.intro (fun h => ?_) (fun h => ?_)
         | fail)
  conv => whnf
  refine Exists.intro _ (And.intro (kl) ?_)
  repeat' first
    | refine SPB.seq ?_
    | refine SPB.block ?_
    | refine SPB.draw hG Try.TT_ok Try.keep8 (by kernel_rfl) ?_
    | refine SPB.reg hG Try.TT_ok Try.keep8 (by kernel_rfl) ?_
    | refine SPB.skip hG Try.TT_ok ?_
    | refine SPB.label hG Try.TT_ok ?_
    | refine SPB.ret hG Try.TT_ok ?_
    | refine SPB.exit hG Try.TT_ok ?_
    | refine SPB.condT rfl ?_
    | refine SPB.condF rfl ?_
    | refine SPB.cond rfl (And.intro (fun h => ?_) (fun h => ?_))
    | (conv => whnf
       first
         | refine And.intro (fun h => Bool.noConfusion (h : false = true)) (fun _ => ?_)
         | refine And.intro (fun _ => ?_) (fun h => Bool.noConfusion (h : true = false))
         | refine And.intro (by kernel_rfl) ?_
         | refine And.intro (fun h => ?_) (fun h => ?_)
         | fail)
  conv => whnf
  refine Exists.intro _ (And.intro (k29) ?_)
  repeat' first
    | refine SPB.seq ?_
    | refine SPB.block ?_
    | refine SPB.draw hG Try.TT_ok Try.keep8 (by kernel_rfl) ?_
    | refine SPB.reg hG Try.TT_ok Try.keep8 (by kernel_rfl) ?_
    | refine SPB.skip hG Try.TT_ok ?_
    | refine SPB.label hG Try.TT_ok ?_
    | refine SPB.ret hG Try.TT_ok ?_
    | refine SPB.exit hG Try.TT_ok ?_
    | refine SPB.condT rfl ?_
    | refine SPB.condF rfl ?_
    | refine SPB.cond rfl (And.intro (fun h => ?_) (fun h => ?_))
    | (conv => whnf
       first
         | refine And.intro (fun h => Bool.noConfusion (h : false = true)) (fun _ => ?_)
         | refine And.intro (fun _ => ?_) (fun h => Bool.noConfusion (h : true = false))
         | refine And.intro (by kernel_rfl) ?_
         | refine And.intro (fun h => ?_) (fun h => ?_)
         | fail)
  · exfalso
    have h1 := of_decide_eq_true (by assumption : decide (f < c.a) = true)
    have h2 := bne_iff_ne.1 (by assumption : (f != -1) = true)
    omega
  · exfalso
    have h2 := bne_iff_ne.1 (by assumption : (f != -1) = true)
    have h1 := of_decide_eq_true (by assumption : decide (IntKind.i64.wrap (f + IntKind.i64.wrap (1 + pickS mi 8)) > c.b) = true)
    rw [wf h2] at h1
    omega
  all_goals (
    repeat' first
      | refine SPB.seq ?_
      | refine SPB.block ?_
      | refine SPB.draw hG Try.TT_ok Try.keep8 (by kernel_rfl) ?_
      | refine SPB.reg hG Try.TT_ok Try.keep8 (by kernel_rfl) ?_
      | refine SPB.skip hG Try.TT_ok ?_
      | refine SPB.label hG Try.TT_ok ?_
      | refine SPB.ret hG Try.TT_ok ?_
      | refine SPB.exit hG Try.TT_ok ?_
      | refine SPB.condT rfl ?_
      | refine SPB.condF rfl ?_
      | refine SPB.cond rfl (And.intro (fun h => ?_) (fun h => ?_))
      | (conv => whnf
         first
           | refine And.intro (fun h => Bool.noConfusion (h : false = true)) (fun _ => ?_)
           | refine And.intro (fun _ => ?_) (fun h => Bool.noConfusion (h : true = false))
           | refine And.intro (by kernel_rfl) ?_
           | refine And.intro (fun h => ?_) (fun h => ?_)
           | fail)
    conv => whnf
    refine Exists.intro _ (And.intro (Try.c13 ea (w64 (c.b - c.a)) hne) ?_)
    repeat' first
      | refine SPB.seq ?_
      | refine SPB.block ?_
      | refine SPB.draw hG Try.TT_ok Try.keep8 (by kernel_rfl) ?_
      | refine SPB.reg hG Try.TT_ok Try.keep8 (by kernel_rfl) ?_
      | refine SPB.skip hG Try.TT_ok ?_
      | refine SPB.label hG Try.TT_ok ?_
      | refine SPB.ret hG Try.TT_ok ?_
      | refine SPB.exit hG Try.TT_ok ?_
      | refine SPB.condT rfl ?_
      | refine SPB.condF rfl ?_
      | refine SPB.cond rfl (And.intro (fun h => ?_) (fun h => ?_))
      | (conv => whnf
         first
           | refine And.intro (fun h => Bool.noConfusion (h : false = true)) (fun _ => ?_)
           | refine And.intro (fun _ => ?_) (fun h => Bool.noConfusion (h : true = false))
           | refine And.intro (by kernel_rfl) ?_
           | refine And.intro (fun h => ?_) (fun h => ?_)
           | fail)
    refine SPB.loop (X := Nat) (fun j => ⟨[(91, .int .i64 j), (90, .int .i64 2), (89, .sl .full 1 [[.int .i64 f], [.int .i64 (c.lf ea)]]), (14, .int .i64 f), (13, .int .i64 (c.lk lo)), (12, .int .i64 (Case.mn mi)), (10, aimsA c.l), (9, .loc 9 0), (11, .loc 11 0)], [(9, satA c.s), (11, [.int .i64 c.a, .int .i64 c.b])]⟩)
      (fun j => j ≤ 2) (fun j => 2 - j) 0 (Nat.zero_le _) (St.le.of ?_ ?_) (fun j hj => ?_)
    · repeat' (first | exact trivial | refine And.intro rfl ?_)
    · repeat' (first | exact trivial | refine And.intro rfl ?_)
    · have hlt : decide ((j : Int) < 2) = true → j < 2 := fun h => by have := of_decide_eq_true h; omega
      have cj := fun h => tj_at (f := f) (o := c.lf ea) (hlt h) rfl
      generalize htj : tj f (c.lf ea) j = t at cj
      repeat' first
        | refine SPB.seq ?_
        | refine SPB.block ?_
        | refine SPB.draw hG Try.TT_ok Try.keep8 (by kernel_rfl) ?_
        | refine SPB.reg hG Try.TT_ok Try.keep8 (by kernel_rfl) ?_
        | refine SPB.skip hG Try.TT_ok ?_
        | refine SPB.label hG Try.TT_ok ?_
        | refine SPB.ret hG Try.TT_ok ?_
        | refine SPB.exit hG Try.TT_ok ?_
        | refine SPB.condT rfl ?_
        | refine SPB.condF rfl ?_
        | refine SPB.cond rfl (And.intro (fun h => ?_) (fun h => ?_))
        | (conv => whnf
           first
             | refine And.intro (fun h => Bool.noConfusion (h : false = true)) (fun _ => ?_)
             | refine And.intro (fun _ => ?_) (fun h => Bool.noConfusion (h : true = false))
             | refine And.intro (by kernel_rfl) ?_
             | refine And.intro (cj (by assumption)).1 (Exists.intro _ (And.intro (cj (by assumption)).2 ?_))
             | refine And.intro (fun h => ?_) (fun h => ?_)
             | fail)
      · refine Exists.intro (j + 1) (And.intro (hlt (by assumption)) (And.intro (by have := hlt (by assumption); omega) (St.le.of ?_ ?_)))
        · refine And.intro (congrArg some (le_next (by omega))) ?_
          repeat' (first | exact trivial | refine And.intro rfl ?_)
        · repeat' (first | exact trivial | refine And.intro rfl ?_)

      · refine Exists.intro (j + 1) (And.intro (hlt (by assumption)) (And.intro (by have := hlt (by assumption); omega) (St.le.of ?_ ?_)))
        · refine And.intro (congrArg some (le_next (by omega))) ?_
          repeat' (first | exact trivial | refine And.intro rfl ?_)
        · repeat' (first | exact trivial | refine And.intro rfl ?_)

      · have ht1 : t ≠ -1 := beq_eq_false_iff_ne.1 (by assumption : (t == -1) = false)
        have hj2 := hlt (by assumption : decide ((j : Int) < 2) = true)
        have hta : c.a ≤ t ∧ t ≤ c.b := by
          unfold tj at htj
          split at htj <;> omega
        have hw0 : w64 (t + Case.mn mi) = t + Case.mn mi := w64_in (by omega) (by omega)
        have htb : t + Case.mn mi ≤ c.b := by
          have h := of_decide_eq_false (by assumption : decide (IntKind.i64.wrap (t + Case.mn mi) > c.b) = false)
          rw [show IntKind.i64.wrap (t + Case.mn mi) = t + Case.mn mi from hw0] at h
          omega
        obtain ⟨m, hm1, hm2⟩ : ∃ m : Nat, t = c.a + m ∧ m < freeC c.a c.b (Case.mn mi) := ⟨(t - c.a).toNat, by omega, by unfold freeC; omega⟩
        have ff := ff t m hm1 hm2
        have hokT := hokT t hta.1 htb
        have hv3 := hval3 t hta.1 htb
        have k22 := Try.c22 c.s (c.l ++ [newAim t (Case.mn mi) (c.lk lo)]) c.a c.b (by simp; omega) (Case.span hc) (hval2 t hta.1 htb)
        have eX : aimsA (c.l ++ [newAim t (Case.mn mi) (c.lk lo)]) = .sl .no 3 (([] ++ c.l.map aimA) ++ [aimA (newAim t (Case.mn mi) (c.lk lo))]) := by unfold aimsA; rw [List.map_append, List.nil_append]; rfl
        rw [eX] at k22
        have hAX : aimA (newAim t (Case.mn mi) (c.lk lo)) = [.int .i64 t, .int .i64 (IntKind.i64.wrap (t + Case.mn mi)), .int .i64 (c.lk lo)] := rfl
        generalize newAim t (Case.mn mi) (c.lk lo) = X at *
        generalize hotS c.s (c.l ++ [X]) c.a c.b = hot at *
        generalize okT c.s c.l c.a c.b (Case.mn mi) (c.lk lo) t = okt at *
        refine SPB.loop (X := Nat × Bool) (fun x => ⟨[(21, .int .i64 x.1), (20, .bool x.2), (19, .loc 19 0), (18, .int .i64 t), (91, .int .i64 j), (90, .int .i64 2), (89, .sl .full 1 [[.int .i64 f], [.int .i64 (c.lf ea)]]), (14, .int .i64 f), (13, .int .i64 (c.lk lo)), (12, .int .i64 (Case.mn mi)), (10, aimsA c.l), (9, .loc 9 0), (11, .loc 11 0)], [(19, aimA X), (9, satA c.s), (11, [.int .i64 c.a, .int .i64 c.b])]⟩)
          (fun x => x.1 ≤ c.l.length ∧ (x.2 = true ↔ ∀ y ∈ c.l.take x.1, fitP c.s y X = true)) (fun x => c.l.length - x.1) (0, true) ⟨Nat.zero_le _, by simp⟩ (St.le.of ?_ ?_) (fun x hx => ?_)
        · repeat' (first | exact trivial | refine And.intro rfl ?_)
        · refine And.intro (congrArg some hAX.symm) ?_
          repeat' (first | exact trivial | refine And.intro rfl ?_)
        · obtain ⟨i, ok⟩ := x
          obtain ⟨hi, hok⟩ := hx
          simp only at hi hok
          have hlt3 : decide ((i : Int) < ((c.l.map aimA).length : Int)) = true → i < c.l.length := fun h => by have := of_decide_eq_true h; omega
          have ci := fun h => hx_at (l := c.l) (i := i) (hlt3 h) rfl
          have kp := fun h => Try.c16 c.s [aimAt c.l i, X] (Nat.le_of_ble_eq_true rfl) (hv3 _ (aimAt_mem (hlt3 h)))
          rw [slewO_two] at kp
          repeat' first
            | refine SPB.seq ?_
            | refine SPB.block ?_
            | refine SPB.draw hG Try.TT_ok Try.keep8 (by kernel_rfl) ?_
            | refine SPB.reg hG Try.TT_ok Try.keep8 (by kernel_rfl) ?_
            | refine SPB.skip hG Try.TT_ok ?_
            | refine SPB.label hG Try.TT_ok ?_
            | refine SPB.ret hG Try.TT_ok ?_
            | refine SPB.exit hG Try.TT_ok ?_
            | refine SPB.condT rfl ?_
            | refine SPB.condF rfl ?_
            | refine SPB.cond rfl (And.intro (fun h => ?_) (fun h => ?_))
            | (conv => whnf
               first
                 | refine And.intro (fun h => Bool.noConfusion (h : false = true)) (fun _ => ?_)
                 | refine And.intro (fun _ => ?_) (fun h => Bool.noConfusion (h : true = false))
                 | refine And.intro (by kernel_rfl) ?_
                 | refine And.intro (ci (by assumption)).1 (Exists.intro _ (And.intro (ci (by assumption)).2 ?_))
                 | refine Exists.intro _ (And.intro ((kp (by assumption)).sl1) ?_)
                 | refine Exists.intro _ (And.intro (k22) ?_)
                 | refine And.intro (show _ * 24 ≤ 70368744177664 by simp only [List.length_cons, List.length_nil, List.length_append]; omega) (And.intro (show _ + _ ≤ 4611686018427387904 by simp only [List.length_cons, List.length_nil, List.length_append]; omega) ?_)
                 | refine And.intro (fun h => ?_) (fun h => ?_)
                 | fail)
          · have hi2 := hlt3 (by assumption)
            refine Exists.intro (i + 1, !(!fitP c.s (aimAt c.l i) X)) (And.intro ⟨hi2, ?_⟩ (And.intro (by simp; omega) (St.le.of ?_ ?_)))
            · rw [all_take hi2]
              have h := hok.1 (by assumption : ok = true)
              exact ⟨fun g => ⟨h, by simpa using g⟩, fun g => by simpa using g.2⟩
            · refine And.intro (congrArg some (le_next (by omega))) ?_
              repeat' (first | exact trivial | refine And.intro rfl ?_)
            · repeat' (first | exact trivial | refine And.intro rfl ?_)
          · have hi2 := hlt3 (by assumption)
            refine Exists.intro (i + 1, false) (And.intro ⟨hi2, ?_⟩ (And.intro (by simp; omega) (St.le.of ?_ ?_)))
            · rw [all_take hi2]
              refine ⟨fun h => Bool.noConfusion h, fun h => ?_⟩
              have := hok.2 h.1
              rw [(by assumption : ok = false)] at this
              cases this
            · refine And.intro (congrArg some (le_next (by omega))) ?_
              repeat' (first | exact trivial | refine And.intro rfl ?_)
            · repeat' (first | exact trivial | refine And.intro rfl ?_)
          all_goals first
            | (refine Exists.intro (j + 1) (And.intro hj2 (And.intro (by omega) (St.le.of ?_ ?_)))
               · refine And.intro (congrArg some (le_next (by omega))) ?_
                 repeat' (first | exact trivial | refine And.intro rfl ?_)
               · repeat' (first | exact trivial | refine And.intro rfl ?_))
            | (exfalso
               have hq : okt = true ↔ ok = true ∧ hot = -1 := by
                 have e : c.l.take i = c.l := List.take_of_length_le (by have := of_decide_eq_false (by assumption : decide ((i : Int) < ((c.l.map aimA).length : Int)) = false); omega)
                 rw [e] at hok
                 rw [hokT, hok]
               first
                 | exact (ff.2 (hq.2 ⟨(by assumption : ok = true), beq_iff_eq.1 (by assumption : (hot == -1) = true)⟩)).1 (beq_iff_eq.1 (by assumption : (f == -1) = true))
                 | (have g := (ff.2 (hq.2 ⟨(by assumption : ok = true), beq_iff_eq.1 (by assumption : (hot == -1) = true)⟩)).2
                    have := of_decide_eq_true (by assumption : decide (t < f) = true)
                    omega)
                 | exact beq_eq_false_iff_ne.1 (notT (by assumption : (!(hot == -1)) = true)) (hq.1 (ff.1 (beq_iff_eq.1 (by assumption : (t == f) = true)))).2
                 | exact absurd (hq.1 (ff.1 (beq_iff_eq.1 (by assumption : (t == f) = true)))).1 (by rw [(by assumption : ok = false)]; exact Bool.false_ne_true))
      · exact Ends.mk (Or.inl rfl) (AV.weak.of_eq rfl))

end Go.Proofs


namespace Go.Proofs
open Go Go.AI Go.Proofs.Ytjeopncbnlfplaa
set_option maxRecDepth 100000
theorem Try.own : ownKnob Try.prog.godebug = none := by kernel_rfl
theorem Try.laidOut : laidOutB Try.prog = true := by kernel_rfl
theorem Try.reads26 : (Try.prog.readableRec 26 && Nat.blt 26 Try.prog.types.size) = true := by kernel_rfl
theorem Try.reads3 : (Try.prog.readableRec 3 && Nat.blt 3 Try.prog.types.size) = true := by kernel_rfl
def case0 : Value := .agg #[.int .i64 0, .int .i64 0, .int .i64 0, .int .i64 0, .int .i64 0, .int .i64 0, .int .i64 0, .int .i64 0, .int .i64 0, .int .i64 0, .int .i64 0, .int .i64 0, .slice none 0 0]
def lawSh : List (Bool × List Sh) := [(true, caseSh), (false, [.int .i64]), (false, [.int .i64]), (false, [.int .i64])]
theorem Try.shs : paramSh Try.prog 8 [26, 3, 3, 3] = some lawSh := by kernel_rfl
theorem Try.lifted (law : ∀ avs, PArgs 8 lawSh avs → ACalls Try.prog 8 avs (.bool true)) (os : Os) (started : os.Started) (H : Type) (enc : TypeId × Value → H) :
    ReturnsInHanded {} Try.checked os 8 .any (Rows.pointingFreeSpec.pre6 enc Try.prog Try.f8 Rows.pointingFreeRow.domain false) (Rows.pointingFreeSpec.post enc Try.prog Try.f8 false true false false) :=
  law_lifted (C := Try.checked) (tb := 4) Try.own started (by kernel_rfl) Try.func8
    (ChangeSpec.witness6 (enc := enc) (C := Try.checked) false ⟨#[], #[case0, .int .i64 0, .int .i64 0, .int .i64 0], []⟩ 8 (by kernel_rfl) (by kernel_rfl) (by kernel_rfl) (by kernel_rfl))
    rfl (by kernel_rfl) (by kernel_rfl) (fun ds h => by
      match ds, h with
      | [d, d0, d1, d2], _ => rfl) Try.shs Try.laidOut (fun t ht => by
      have e : Try.f8.params.toList = [26, 3, 3, 3] := by kernel_rfl
      rw [e] at ht
      simp only [List.mem_cons, List.not_mem_nil, or_false] at ht
      have h26 := Try.reads26
      have h3 := Try.reads3
      simp only [Bool.and_eq_true] at h26 h3
      have g : t = 26 ∨ t = 3 := by rcases ht with h | h | h | h <;> first | exact .inl h | exact .inr h
      rcases g with rfl | rfl
      · exact ⟨h26.1, Nat.le_of_ble_eq_true h26.2⟩
      · exact ⟨h3.1, Nat.le_of_ble_eq_true h3.2⟩) law
theorem Try.row (law : ∀ avs, PArgs 8 lawSh avs → ACalls Try.prog 8 avs (.bool true)) : Rows.PointingFreeSaid :=
  OpenClaim.holds_of_wide (p := Try.pinned) (s := Rows.pointingFreeSpec) (c := Rows.pointingFreeRow) 8 Try.f8 rfl rfl rfl rfl rfl rfl rfl ⟨rfl, rfl, rfl, rfl, rfl⟩ rfl rfl rfl rfl rfl (by kernel_rfl) Try.func8 (by kernel_rfl)
    (of_decide_eq_true (by kernel_rfl)) (by unfold Func.isWrapper; first | (rw [if_pos (by decide +kernel)]; kernel_rfl) | (rw [if_neg (by decide +kernel)]; exact ⟨rfl, rfl⟩))
    (fun os started H enc _ => Try.lifted law os started H enc)
theorem pargs_agg {n : Nat} {L : List Sh} {r : List (Bool × List Sh)} {avs : List AV} (h : PArgs n ((true, L) :: r) avs) : ∃ cs q, avs = .agg cs :: q ∧ Fa (ShOK n) L cs ∧ PArgs n r q := by
  match avs, h with
  | _ :: q, h =>
    obtain ⟨⟨cs, rfl, h1⟩, h2⟩ := h
    exact ⟨cs, q, rfl, h1, h2⟩
  | [], h => exact h.elim
theorem pargs_int {n : Nat} {r : List (Bool × List Sh)} {avs : List AV} (h : PArgs (n + 1) ((false, [.int .i64]) :: r) avs) : ∃ z q, avs = .int .i64 z :: q ∧ inI z ∧ PArgs (n + 1) r q := by
  match avs, h with
  | _ :: q, h =>
    obtain ⟨⟨s, e, h1⟩, h2⟩ := h
    cases e
    obtain ⟨z, rfl, hz⟩ := int_inv h1
    exact ⟨z, q, rfl, hz, h2⟩
  | [], h => exact h.elim
theorem pargs_nil {n : Nat} {avs : List AV} (h : PArgs n [] avs) : avs = [] := by
  match avs, h with
  | [], _ => rfl
  | _ :: _, h => exact h.elim
end Go.Proofs
namespace Go.Proofs.Ytjeopncbnlfplaa
open Go Go.AI
/-- PointingFree answers true, whatever the input. -/
theorem pointingFree : Rows.PointingFreeSaid := Try.row fun avs h => by
  obtain ⟨cs, q, rfl, h1, h⟩ := pargs_agg h
  obtain ⟨z0, q, rfl, i0, h⟩ := pargs_int h
  obtain ⟨z1, q, rfl, i1, h⟩ := pargs_int h
  obtain ⟨z2, q, rfl, i2, h⟩ := pargs_int h
  obtain rfl := pargs_nil h
  obtain ⟨c, hc, rfl⟩ := case_of h1
  exact Go.Proofs.Try.x8 c hc z0 z1 z2 i0 i1 i2
end Go.Proofs.Ytjeopncbnlfplaa


