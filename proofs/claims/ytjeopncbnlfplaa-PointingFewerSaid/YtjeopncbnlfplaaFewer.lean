/- PointingFewer answers true, whatever the input; no condition. -/
import Derived.Test.YtjeopncbnlfplaaPl
import Derived.Test.YtjeopncbnlfplaaRows
set_option linter.unusedSectionVars false
set_option linter.unusedVariables false
set_option linter.unusedSimpArgs false
namespace Go.Proofs
open Go Go.AI
set_option maxRecDepth 10000
set_option linter.unusedSimpArgs false

/-- Some of the exposures, as bits say. -/
def bitE (e : Int) (i : Nat) : Int := ((pickS e 4096).fdiv (2 ^ (min (i : Int).toNat IntKind.i64.bits))).tmod 2
def someL (l : List Aim3) (e : Int) : Nat → List Aim3
  | 0 => []
  | n + 1 => someL l e n ++ if bitE e n == 0 then [aimAt l n] else []
theorem someL_sub (l : List Aim3) (e : Int) : ∀ n, n ≤ l.length → (someL l e n).Sublist (l.take n)
  | 0, _ => List.nil_sublist _
  | n + 1, h => by
    have hn : n < l.length := h
    rw [take_snoc hn]
    refine (someL_sub l e n (by omega)).append ?_
    rw [aimAt_eq hn]
    split
    · exact List.Sublist.refl _
    · exact List.nil_sublist _
def someX (l : List Aim3) (e : Int) (n : Nat) : List (List AV) := (someL l e n).map aimA
theorem someX_y {l : List Aim3} {e : Int} {n : Nat} (h : (bitE e n == 0) = true) : someX l e (n + 1) = someX l e n ++ [aimA (aimAt l n)] := by
  simp only [someX, someL]; rw [if_pos h]; simp
theorem someX_n {l : List Aim3} {e : Int} {n : Nat} (h : (bitE e n == 0) = false) : someX l e (n + 1) = someX l e n := by
  simp only [someX, someL]; rw [if_neg (by rw [h]; exact Bool.false_ne_true)]; simp
def goodS (s : Nat → Int) (e h : Int) (i : Nat) : Int := bif Nat.beq i 18 then min 1000000 (w64 (s 18 + pickS h 20)) else bif Nat.beq i 19 then w64 (s 19 - pickS e (w64 (s 19 + 1))) else s i
theorem sat18 {s : Nat → Int} {l : List Aim3} (h : valS s l = true) : 1 ≤ s 18 ∧ s 18 ≤ 1000000 := by
  simp only [valS, satS, Bool.and_eq_true] at h
  exact inS_inv h.2.1.2.2.2
theorem good_facts {c : Case} (hc : c.ok) {e h : Int} (he : inI e) (hh : inI h) : goodS c.s e h 18 ≥ c.s 18 ∧ goodS c.s e h 18 ≤ 1000000 ∧ 0 ≤ goodS c.s e h 19 ∧ goodS c.s e h 19 ≤ c.s 19 := by
  have h19 := Case.h19 hc
  have h18 := sat18 (Case.val hc)
  have e1 : w64 (c.s 19 + 1) = c.s 19 + 1 := w64_in (by omega) (by omega)
  have p := pick_rng he (n := w64 (c.s 19 + 1)) (by omega)
  have q := pick_rng hh (n := 20) (by omega)
  have g1 : goodS c.s e h 18 = min 1000000 (w64 (c.s 18 + pickS h 20)) := rfl
  have g2 : goodS c.s e h 19 = w64 (c.s 19 - pickS e (w64 (c.s 19 + 1))) := rfl
  rw [g1, g2, w64_in (n := c.s 18 + _) (by omega) (by omega), w64_in (n := c.s 19 - _) (by omega) (by omega)]
  omega
theorem good_sat {s s' : Nat → Int} (hs : ∀ i, i ≠ 18 → i ≠ 19 → s' i = s i) (h18 : 1 ≤ s' 18 ∧ s' 18 ≤ 1000000) (h19 : 0 ≤ s' 19 ∧ s' 19 ≤ 60) {l : List Aim3} (h : valS s l = true) : valS s' l = true := by
  have e2 : ∀ i, i < 16 → s' i = s i := fun i hi => hs i (by omega) (by omega)
  simp only [valS, areS, satS, orbS, e2 0 (by omega), e2 1 (by omega), e2 9 (by omega), e2 10 (by omega), e2 11 (by omega), e2 12 (by omega), e2 13 (by omega), e2 14 (by omega), e2 15 (by omega), Nat.zero_add, Nat.reduceAdd,
    e2 2 (by omega), e2 3 (by omega), e2 4 (by omega), e2 5 (by omega), e2 6 (by omega), e2 7 (by omega), e2 8 (by omega), hs 16 (by decide) (by decide), hs 17 (by decide) (by decide), hs 20 (by decide) (by decide), Bool.and_eq_true] at h ⊢
  have g1 : inS (s' 18) 1 1000000 = true := inS_of h18.1 h18.2
  have g2 : inS (s' 19) 0 60 = true := inS_of h19.1 h19.2
  obtain ⟨hl, ⟨⟨⟨a1, a2, a3, a4, a5, a6⟩, a7⟩, a8, a9, a10⟩, a11⟩ := h
  have hf : aimS s' = aimS s := by funext x; simp only [aimS, e2 9 (by omega)]
  have hl' : l.all (aimS s') = true ∧ decide (l.length ≤ 64) = true := by rw [hf]; exact hl
  exact ⟨hl', ⟨⟨⟨a1, a2, a3, a4, g2, a6⟩, a7⟩, a8, a9, g1⟩, a11⟩
theorem good_val {c : Case} (hc : c.ok) {e h : Int} (he : inI e) (hh : inI h) {l : List Aim3} (hl : valS c.s l = true) : valS (goodS c.s e h) l = true := by
  have g := good_facts hc he hh
  have h19 := Case.h19 hc
  have h18 := sat18 (Case.val hc)
  refine good_sat (fun i h1 h2 => ?_) (by omega) (by omega) hl
  unfold goodS
  cases b1 : Nat.beq i 18 with
  | true => exact absurd (Nat.eq_of_beq_eq_true b1) h1
  | false =>
    cases b2 : Nat.beq i 19 with
    | true => exact absurd (Nat.eq_of_beq_eq_true b2) h2
    | false => rfl
theorem good_heats {s : Nat → Int} (e h : Int) (l : List Aim3) (a b : Int) : heatsL (goodS s e h) l a b = heatsL s l a b := rfl
set_option maxHeartbeats 8000000 in
theorem Try.x7 (c : Case) (hc : c.ok) (se sl ho : Int) (_ : inI se) (hsl : inI sl) (hho : inI ho) : ACalls Try.prog 7 [.agg c.A, .int .i64 se, .int .i64 sl, .int .i64 ho] (.bool true) := by
  have hr := Case.rng hc
  have hlen := c.len
  have hval := Case.val hc
  have hH := HotOK.of hval
  have h19 := Case.h19 hc
  have hml : ((c.l.map aimA).length : Int) = c.l.length := by rw [List.length_map]
  have k13 := Try.c13 se 4096 (by decide)
  have hb0 : ∀ i : Nat, 0 ≤ (i : Int) := fun i => by omega
  have hsub : (someL c.l se c.l.length).Sublist c.l := by have := someL_sub c.l se _ (Nat.le_refl _); rwa [List.take_length] at this
  have hX : someX c.l se c.l.length = (someL c.l se c.l.length).map aimA := rfl
  generalize hL : someL c.l se c.l.length = L at hsub hX
  have hll := hsub.length_le
  have eX : aimsA L = .sl .no 3 (someX c.l se c.l.length) := by rw [hX]; rfl
  have hvL := areS_sub hsub hval
  have hHL := HotOK.of hvL
  obtain ⟨o1, t1, is1, ea1, hi1⟩ := slew_ans c.s c.l
  obtain ⟨o2, t2, is2, ea2, hi2⟩ := slew_ans c.s L
  obtain ⟨o3, t3, is3, ea3, hi3⟩ := slew_ans (goodS c.s sl ho) c.l
  have gf := good_facts hc hsl hho
  have his2 : is1 = false → is2 = false := fun h => hi2.2 ((hi1.1 h).sublist hsub)
  have sB : SatB (goodS c.s sl ho) := SatB.mk (Case.satB hc).w0 (Case.satB hc).w1 gf.2.2.1 (by have := gf.2.2.2; omega)
  have his3 : is1 = false → is3 = false := fun h => hi3.2 ((hi1.1 h).imp_of_mem fun {x y} hx hy h => fit_less (s' := goodS c.s sl ho) (Case.satB hc) sB gf.2.2.2 (Case.aimB hc x hx) (Case.aimB hc y hy) h)
  /-⟨(Case.satB hc).w0, (Case.satB hc).w1, gf.2.2.1, by have := gf.2.2.2; omega⟩ gf.2.2.2 (Case.aimB hc x hx) (Case.aimB hc y hy) h)-/
  have k16a := Try.c16 c.s c.l (by omega) hval
  have k16b := Try.c16 c.s L (by omega) hvL
  have k16c := Try.c16 (goodS c.s sl ho) c.l (by omega) (good_val hc hsl hho hval)
  rw [ea1] at k16a
  rw [ea2, eX] at k16b
  rw [ea3] at k16c
  have k20a := Try.c20 c.s c.l c.a c.b (by omega) (Case.span hc) hval
  have k20b := Try.c20 c.s L c.a c.b (by omega) (Case.span hc) hvL
  have k22a := Try.c22 c.s c.l c.a c.b (by omega) (Case.span hc) hval
  have k22b := Try.c22 (goodS c.s sl ho) L c.a c.b (by omega) (Case.span hc) (good_val hc hsl hho hvL)
  rw [eX] at k20b k22b
  have hle : ∀ i : Nat, i < (c.b - c.a).toNat → (heatsL c.s L c.a c.b).getD i 0 ≤ (heatsL c.s c.l c.a c.b).getD i 0 := fun i hi => by
    rw [heats_eq hHL (by omega), heats_eq hH (by omega), getD_range hi, getD_range hi]
    exact hv_mono (gS_sub hH hHL hsub) _ _
  have hhot : 0 ≤ hotS c.s c.l c.a c.b ∨ hotS (goodS c.s sl ho) L c.a c.b = -1 := by
    rcases hotS_iff c.s c.l (a := c.a) (b := c.b) (by omega) (by omega) with ⟨h1, h2⟩ | ⟨h1, h2⟩
    · right
      rcases hotS_iff (goodS c.s sl ho) L (a := c.a) (b := c.b) (by omega) (by omega) with ⟨g1, g2⟩ | ⟨g1, x, g2, g3⟩
      · exact g1
      · exfalso
        rw [good_heats, heats_mem hHL (by omega)] at g2
        obtain ⟨i, hi, rfl⟩ := g2
        have := h2 (hv (gS c.s c.l) c.a (i + 1)) ((heats_mem hH (by omega)).2 ⟨i, hi, rfl⟩)
        have := hv_mono (gS_sub hH hHL hsub) c.a (i + 1)
        omega
    · exact .inl h1
  have lA := heatsL_len c.s c.l c.a c.b
  have lB := heatsL_len c.s L c.a c.b
  generalize heatsL c.s c.l c.a c.b = A at *
  generalize heatsL c.s L c.a c.b = B at *
  generalize hotS c.s c.l c.a c.b = hot1 at *
  generalize hotS (goodS c.s sl ho) L c.a c.b = hot2 at *
  have mA : ((A.map fun h => [AV.int .i64 h]).length : Int) = A.length := by rw [List.length_map]
  have mB : ((B.map fun h => [AV.int .i64 h]).length : Int) = B.length := by rw [List.length_map]
  have ksl := Try.c13 sl (w64 (c.s 19 + 1)) (by rw [w64_in (by omega) (by omega)]; omega)
  refine ACalls.ofB Try.TT_ok Try.func7 rfl (by kernel_rfl) Try.mixed (Nat.le_of_ble_eq_true rfl) ?_
  intro F n' w0 m0 hG hro h1
  repeat' first
    | refine SPB.seq ?_
    | refine SPB.block ?_
    | refine SPB.draw hG Try.TT_ok Try.keep7 (by kernel_rfl) ?_
    | refine SPB.reg hG Try.TT_ok Try.keep7 (by kernel_rfl) ?_
    | refine SPB.skip hG Try.TT_ok ?_
    | refine SPB.label hG Try.TT_ok ?_
    | refine SPB.ret hG Try.TT_ok ?_
    | refine SPB.exit hG Try.TT_ok ?_
    | refine SPB.condT rfl ?_
    | refine SPB.condF rfl ?_
    | refine SPB.cond rfl (And.intro (fun h => ?_) (fun h => ?_))
    | (conv => whnf
       first
         | refine And.intro (fun h => Bool.noConfusion (h : false = true)) (fun _ => ?_)
         | refine And.intro (fun _ => ?_) (fun h => Bool.noConfusion (h : true = false))
         | refine And.intro (by kernel_rfl) ?_
         | refine And.intro (fun h => ?_) (fun h => ?_)
         | fail)
  conv => whnf
  refine Exists.intro _ (And.intro (Try.c11) ?_)
  repeat' first
    | refine SPB.seq ?_
    | refine SPB.block ?_
    | refine SPB.draw hG Try.TT_ok Try.keep7 (by kernel_rfl) ?_
    | refine SPB.reg hG Try.TT_ok Try.keep7 (by kernel_rfl) ?_
    | refine SPB.skip hG Try.TT_ok ?_
    | refine SPB.label hG Try.TT_ok ?_
    | refine SPB.ret hG Try.TT_ok ?_
    | refine SPB.exit hG Try.TT_ok ?_
    | refine SPB.condT rfl ?_
    | refine SPB.condF rfl ?_
    | refine SPB.cond rfl (And.intro (fun h => ?_) (fun h => ?_))
    | (conv => whnf
       first
         | refine And.intro (fun h => Bool.noConfusion (h : false = true)) (fun _ => ?_)
         | refine And.intro (fun _ => ?_) (fun h => Bool.noConfusion (h : true = false))
         | refine And.intro (by kernel_rfl) ?_
         | refine And.intro (fun h => ?_) (fun h => ?_)
         | fail)
  conv => whnf
  refine Exists.intro _ (And.intro (Try.c12 c hc) ?_)
  repeat' first
    | refine SPB.seq ?_
    | refine SPB.block ?_
    | refine SPB.draw hG Try.TT_ok Try.keep7 (by kernel_rfl) ?_
    | refine SPB.reg hG Try.TT_ok Try.keep7 (by kernel_rfl) ?_
    | refine SPB.skip hG Try.TT_ok ?_
    | refine SPB.label hG Try.TT_ok ?_
    | refine SPB.ret hG Try.TT_ok ?_
    | refine SPB.exit hG Try.TT_ok ?_
    | refine SPB.condT rfl ?_
    | refine SPB.condF rfl ?_
    | refine SPB.cond rfl (And.intro (fun h => ?_) (fun h => ?_))
    | (conv => whnf
       first
         | refine And.intro (fun h => Bool.noConfusion (h : false = true)) (fun _ => ?_)
         | refine And.intro (fun _ => ?_) (fun h => Bool.noConfusion (h : true = false))
         | refine And.intro (by kernel_rfl) ?_
         | refine And.intro (fun h => ?_) (fun h => ?_)
         | fail)
  refine SPB.loop (X := Nat) (fun i => ⟨[(13, .int .i64 i), (12, .sl (.id 12) 3 (someX c.l se i)), (10, aimsA c.l), (9, .loc 9 0), (11, .loc 11 0), (1, .int .i64 se), (2, .int .i64 sl), (3, .int .i64 ho)], [(9, satA c.s), (11, [.int .i64 c.a, .int .i64 c.b])]⟩)
    (fun i => i ≤ c.l.length) (fun i => c.l.length - i) 0 (Nat.zero_le _) (St.le.of ?_ ?_) (fun i hi => ?_)
  · repeat' (first | exact trivial | refine And.intro rfl ?_)
  · repeat' (first | exact trivial | refine And.intro rfl ?_)
  · have hlt : decide ((i : Int) < ((c.l.map aimA).length : Int)) = true → i < c.l.length := fun h => by have := of_decide_eq_true h; omega
    have ci := fun h => hx_at (l := c.l) (i := i) (hlt h) rfl
    have hsl2 : (someX c.l se i).length ≤ 10 := by rw [someX, List.length_map]; have := (someL_sub c.l se i hi).length_le; rw [List.length_take] at this; omega
    repeat' first
      | refine SPB.seq ?_
      | refine SPB.block ?_
      | refine SPB.draw hG Try.TT_ok Try.keep7 (by kernel_rfl) ?_
      | refine SPB.reg hG Try.TT_ok Try.keep7 (by kernel_rfl) ?_
      | refine SPB.skip hG Try.TT_ok ?_
      | refine SPB.label hG Try.TT_ok ?_
      | refine SPB.ret hG Try.TT_ok ?_
      | refine SPB.exit hG Try.TT_ok ?_
      | refine SPB.condT rfl ?_
      | refine SPB.condF rfl ?_
      | refine SPB.cond rfl (And.intro (fun h => ?_) (fun h => ?_))
      | (conv => whnf
         first
           | refine And.intro (fun h => Bool.noConfusion (h : false = true)) (fun _ => ?_)
           | refine And.intro (fun _ => ?_) (fun h => Bool.noConfusion (h : true = false))
           | refine And.intro (by kernel_rfl) ?_
           | refine And.intro (ci (by assumption)).1 (Exists.intro _ (And.intro (ci (by assumption)).2 ?_))
           | refine And.intro (hb0 i) ?_
           | refine And.intro (show (2 : Int) ≠ 0 by decide) ?_
           | refine And.intro (show _ * 24 ≤ 70368744177664 by simp only [List.length_cons, List.length_nil]; omega) (And.intro (show _ + _ ≤ 4611686018427387904 by simp only [List.length_cons, List.length_nil]; omega) ?_)
           | refine Exists.intro _ (And.intro (k13) ?_)
           | refine And.intro (fun h => ?_) (fun h => ?_)
           | fail)
    · have hlt2 := hlt (by assumption : decide ((i : Int) < ((c.l.map aimA).length : Int)) = true)
      refine Exists.intro (i + 1) (And.intro hlt2 (And.intro (by omega) (St.le.of ?_ ?_)))
      · refine And.intro (congrArg some (le_next (by omega))) (And.intro (congrArg some (congrArg (AV.sl _ _) (someX_y (by assumption)).symm)) ?_)
        repeat' (first | exact trivial | refine And.intro rfl ?_)
      · repeat' (first | exact trivial | refine And.intro rfl ?_)
    · have hlt2 := hlt (by assumption : decide ((i : Int) < ((c.l.map aimA).length : Int)) = true)
      refine Exists.intro (i + 1) (And.intro hlt2 (And.intro (by omega) (St.le.of ?_ ?_)))
      · refine And.intro (congrArg some (le_next (by omega))) (And.intro (congrArg some (congrArg (AV.sl _ _) (someX_n (by assumption)).symm)) ?_)
        repeat' (first | exact trivial | refine And.intro rfl ?_)
      · repeat' (first | exact trivial | refine And.intro rfl ?_)
    · have hi2 : i = c.l.length := by have := of_decide_eq_false (by assumption : decide ((i : Int) < ((c.l.map aimA).length : Int)) = false); omega
      subst hi2
      clear hlt ci
      repeat' first
        | refine SPB.seq ?_
        | refine SPB.block ?_
        | refine SPB.draw hG Try.TT_ok Try.keep7 (by kernel_rfl) ?_
        | refine SPB.reg hG Try.TT_ok Try.keep7 (by kernel_rfl) ?_
        | refine SPB.skip hG Try.TT_ok ?_
        | refine SPB.label hG Try.TT_ok ?_
        | refine SPB.ret hG Try.TT_ok ?_
        | refine SPB.exit hG Try.TT_ok ?_
        | refine SPB.condT rfl ?_
        | refine SPB.condF rfl ?_
        | refine SPB.cond rfl (And.intro (fun h => ?_) (fun h => ?_))
        | (conv => whnf
           first
             | refine And.intro (fun h => Bool.noConfusion (h : false = true)) (fun _ => ?_)
             | refine And.intro (fun _ => ?_) (fun h => Bool.noConfusion (h : true = false))
             | refine And.intro (by kernel_rfl) ?_
             | refine And.intro (fun h => ?_) (fun h => ?_)
             | fail)
      conv => whnf
      refine Exists.intro _ (And.intro (ksl) ?_)
      repeat' first
        | refine SPB.seq ?_
        | refine SPB.block ?_
        | refine SPB.draw hG Try.TT_ok Try.keep7 (by kernel_rfl) ?_
        | refine SPB.reg hG Try.TT_ok Try.keep7 (by kernel_rfl) ?_
        | refine SPB.skip hG Try.TT_ok ?_
        | refine SPB.label hG Try.TT_ok ?_
        | refine SPB.ret hG Try.TT_ok ?_
        | refine SPB.exit hG Try.TT_ok ?_
        | refine SPB.condT rfl ?_
        | refine SPB.condF rfl ?_
        | refine SPB.cond rfl (And.intro (fun h => ?_) (fun h => ?_))
        | (conv => whnf
           first
             | refine And.intro (fun h => Bool.noConfusion (h : false = true)) (fun _ => ?_)
             | refine And.intro (fun _ => ?_) (fun h => Bool.noConfusion (h : true = false))
             | refine And.intro (by kernel_rfl) ?_
             | refine And.intro (fun h => ?_) (fun h => ?_)
             | fail)
      conv => whnf
      refine Exists.intro _ (And.intro (Try.c13 ho 20 (by decide)) ?_)
      repeat' first
        | refine SPB.seq ?_
        | refine SPB.block ?_
        | refine SPB.draw hG Try.TT_ok Try.keep7 (by kernel_rfl) ?_
        | refine SPB.reg hG Try.TT_ok Try.keep7 (by kernel_rfl) ?_
        | refine SPB.skip hG Try.TT_ok ?_
        | refine SPB.label hG Try.TT_ok ?_
        | refine SPB.ret hG Try.TT_ok ?_
        | refine SPB.exit hG Try.TT_ok ?_
        | refine SPB.condT rfl ?_
        | refine SPB.condF rfl ?_
        | refine SPB.cond rfl (And.intro (fun h => ?_) (fun h => ?_))
        | (conv => whnf
           first
             | refine And.intro (fun h => Bool.noConfusion (h : false = true)) (fun _ => ?_)
             | refine And.intro (fun _ => ?_) (fun h => Bool.noConfusion (h : true = false))
             | refine And.intro (by kernel_rfl) ?_
             | refine And.intro (fun h => ?_) (fun h => ?_)
             | fail)
      conv => whnf
      refine Exists.intro _ (And.intro (k16a) ?_)
      repeat' first
        | refine SPB.seq ?_
        | refine SPB.block ?_
        | refine SPB.draw hG Try.TT_ok Try.keep7 (by kernel_rfl) ?_
        | refine SPB.reg hG Try.TT_ok Try.keep7 (by kernel_rfl) ?_
        | refine SPB.skip hG Try.TT_ok ?_
        | refine SPB.label hG Try.TT_ok ?_
        | refine SPB.ret hG Try.TT_ok ?_
        | refine SPB.exit hG Try.TT_ok ?_
        | refine SPB.condT rfl ?_
        | refine SPB.condF rfl ?_
        | refine SPB.cond rfl (And.intro (fun h => ?_) (fun h => ?_))
        | (conv => whnf
           first
             | refine And.intro (fun h => Bool.noConfusion (h : false = true)) (fun _ => ?_)
             | refine And.intro (fun _ => ?_) (fun h => Bool.noConfusion (h : true = false))
             | refine And.intro (by kernel_rfl) ?_
             | refine And.intro (fun h => ?_) (fun h => ?_)
             | fail)
      conv => whnf
      refine Exists.intro _ (And.intro (k16b) ?_)
      repeat' first
        | refine SPB.seq ?_
        | refine SPB.block ?_
        | refine SPB.draw hG Try.TT_ok Try.keep7 (by kernel_rfl) ?_
        | refine SPB.reg hG Try.TT_ok Try.keep7 (by kernel_rfl) ?_
        | refine SPB.skip hG Try.TT_ok ?_
        | refine SPB.label hG Try.TT_ok ?_
        | refine SPB.ret hG Try.TT_ok ?_
        | refine SPB.exit hG Try.TT_ok ?_
        | refine SPB.condT rfl ?_
        | refine SPB.condF rfl ?_
        | refine SPB.cond rfl (And.intro (fun h => ?_) (fun h => ?_))
        | (conv => whnf
           first
             | refine And.intro (fun h => Bool.noConfusion (h : false = true)) (fun _ => ?_)
             | refine And.intro (fun _ => ?_) (fun h => Bool.noConfusion (h : true = false))
             | refine And.intro (by kernel_rfl) ?_
             | refine And.intro (fun h => ?_) (fun h => ?_)
             | fail)
      conv => whnf
      refine Exists.intro _ (And.intro (k16c) ?_)
      repeat' first
        | refine SPB.seq ?_
        | refine SPB.block ?_
        | refine SPB.draw hG Try.TT_ok Try.keep7 (by kernel_rfl) ?_
        | refine SPB.reg hG Try.TT_ok Try.keep7 (by kernel_rfl) ?_
        | refine SPB.skip hG Try.TT_ok ?_
        | refine SPB.label hG Try.TT_ok ?_
        | refine SPB.ret hG Try.TT_ok ?_
        | refine SPB.exit hG Try.TT_ok ?_
        | refine SPB.condT rfl ?_
        | refine SPB.condF rfl ?_
        | refine SPB.cond rfl (And.intro (fun h => ?_) (fun h => ?_))
        | (conv => whnf
           first
             | refine And.intro (fun h => Bool.noConfusion (h : false = true)) (fun _ => ?_)
             | refine And.intro (fun _ => ?_) (fun h => Bool.noConfusion (h : true = false))
             | refine And.intro (by kernel_rfl) ?_
             | refine And.intro (fun h => ?_) (fun h => ?_)
             | fail)
      conv => whnf
      refine Exists.intro _ (And.intro (k20a) ?_)
      repeat' first
        | refine SPB.seq ?_
        | refine SPB.block ?_
        | refine SPB.draw hG Try.TT_ok Try.keep7 (by kernel_rfl) ?_
        | refine SPB.reg hG Try.TT_ok Try.keep7 (by kernel_rfl) ?_
        | refine SPB.skip hG Try.TT_ok ?_
        | refine SPB.label hG Try.TT_ok ?_
        | refine SPB.ret hG Try.TT_ok ?_
        | refine SPB.exit hG Try.TT_ok ?_
        | refine SPB.condT rfl ?_
        | refine SPB.condF rfl ?_
        | refine SPB.cond rfl (And.intro (fun h => ?_) (fun h => ?_))
        | (conv => whnf
           first
             | refine And.intro (fun h => Bool.noConfusion (h : false = true)) (fun _ => ?_)
             | refine And.intro (fun _ => ?_) (fun h => Bool.noConfusion (h : true = false))
             | refine And.intro (by kernel_rfl) ?_
             | refine And.intro (fun h => ?_) (fun h => ?_)
             | fail)
      conv => whnf
      refine Exists.intro _ (And.intro (k20b) ?_)
      repeat' first
        | refine SPB.seq ?_
        | refine SPB.block ?_
        | refine SPB.draw hG Try.TT_ok Try.keep7 (by kernel_rfl) ?_
        | refine SPB.reg hG Try.TT_ok Try.keep7 (by kernel_rfl) ?_
        | refine SPB.skip hG Try.TT_ok ?_
        | refine SPB.label hG Try.TT_ok ?_
        | refine SPB.ret hG Try.TT_ok ?_
        | refine SPB.exit hG Try.TT_ok ?_
        | refine SPB.condT rfl ?_
        | refine SPB.condF rfl ?_
        | refine SPB.cond rfl (And.intro (fun h => ?_) (fun h => ?_))
        | (conv => whnf
           first
             | refine And.intro (fun h => Bool.noConfusion (h : false = true)) (fun _ => ?_)
             | refine And.intro (fun _ => ?_) (fun h => Bool.noConfusion (h : true = false))
             | refine And.intro (by kernel_rfl) ?_
             | refine And.intro (fun h => ?_) (fun h => ?_)
             | fail)
      conv => whnf
      refine Exists.intro _ (And.intro (k22a) ?_)
      repeat' first
        | refine SPB.seq ?_
        | refine SPB.block ?_
        | refine SPB.draw hG Try.TT_ok Try.keep7 (by kernel_rfl) ?_
        | refine SPB.reg hG Try.TT_ok Try.keep7 (by kernel_rfl) ?_
        | refine SPB.skip hG Try.TT_ok ?_
        | refine SPB.label hG Try.TT_ok ?_
        | refine SPB.ret hG Try.TT_ok ?_
        | refine SPB.exit hG Try.TT_ok ?_
        | refine SPB.condT rfl ?_
        | refine SPB.condF rfl ?_
        | refine SPB.cond rfl (And.intro (fun h => ?_) (fun h => ?_))
        | (conv => whnf
           first
             | refine And.intro (fun h => Bool.noConfusion (h : false = true)) (fun _ => ?_)
             | refine And.intro (fun _ => ?_) (fun h => Bool.noConfusion (h : true = false))
             | refine And.intro (by kernel_rfl) ?_
             | refine And.intro (fun h => ?_) (fun h => ?_)
             | fail)
      conv => whnf
      refine Exists.intro _ (And.intro (k22b) ?_)
      repeat' first
        | refine SPB.seq ?_
        | refine SPB.block ?_
        | refine SPB.draw hG Try.TT_ok Try.keep7 (by kernel_rfl) ?_
        | refine SPB.reg hG Try.TT_ok Try.keep7 (by kernel_rfl) ?_
        | refine SPB.skip hG Try.TT_ok ?_
        | refine SPB.label hG Try.TT_ok ?_
        | refine SPB.ret hG Try.TT_ok ?_
        | refine SPB.exit hG Try.TT_ok ?_
        | refine SPB.condT rfl ?_
        | refine SPB.condF rfl ?_
        | refine SPB.cond rfl (And.intro (fun h => ?_) (fun h => ?_))
        | (conv => whnf
           first
             | refine And.intro (fun h => Bool.noConfusion (h : false = true)) (fun _ => ?_)
             | refine And.intro (fun _ => ?_) (fun h => Bool.noConfusion (h : true = false))
             | refine And.intro (by kernel_rfl) ?_
             | refine And.intro (fun h => ?_) (fun h => ?_)
             | fail)
      · have h := (by assumption : (((A.map fun h => [AV.int .i64 h]).length : Int) != ((B.map fun h => [AV.int .i64 h]).length : Int)) = true)
        rw [mA, mB] at h; simp at h; omega
      refine SPB.loop (X := Nat) (fun i => ⟨[(35, .int .i64 i), (29, intsA B), (27, intsA A), (17, .bool is1), (21, .bool is2), (25, .bool is3), (31, .int .i64 hot1), (33, .int .i64 hot2)], []⟩)
        (fun i => i ≤ A.length) (fun i => A.length - i) 0 (Nat.zero_le _) (St.le.of ?_ ?_) (fun i hi => ?_)
      · repeat' (first | exact trivial | refine And.intro rfl ?_)
      · repeat' (first | exact trivial | refine And.intro rfl ?_)
      · have hlt : decide ((i : Int) < ((A.map fun h => [AV.int .i64 h]).length : Int)) = true → i < A.length := fun h => by have := of_decide_eq_true h; omega
        have cB := fun h => hL_at (l := B) (i := i) (z := i) (by have := hlt h; omega) rfl
        have cA := fun h => hL_at (l := A) (i := i) (z := i) (hlt h) rfl
        repeat' first
          | refine SPB.seq ?_
          | refine SPB.block ?_
          | refine SPB.draw hG Try.TT_ok Try.keep7 (by kernel_rfl) ?_
          | refine SPB.reg hG Try.TT_ok Try.keep7 (by kernel_rfl) ?_
          | refine SPB.skip hG Try.TT_ok ?_
          | refine SPB.label hG Try.TT_ok ?_
          | refine SPB.ret hG Try.TT_ok ?_
          | refine SPB.exit hG Try.TT_ok ?_
          | refine SPB.condT rfl ?_
          | refine SPB.condF rfl ?_
          | refine SPB.cond rfl (And.intro (fun h => ?_) (fun h => ?_))
          | (conv => whnf
             first
               | refine And.intro (fun h => Bool.noConfusion (h : false = true)) (fun _ => ?_)
               | refine And.intro (fun _ => ?_) (fun h => Bool.noConfusion (h : true = false))
               | refine And.intro (by kernel_rfl) ?_
               | refine And.intro (cB (by assumption)).1 (Exists.intro _ (And.intro (cB (by assumption)).2 ?_))
               | refine And.intro (cA (by assumption)).1 (Exists.intro _ (And.intro (cA (by assumption)).2 ?_))
               | refine And.intro (fun h => ?_) (fun h => ?_)
               | fail)
        · exfalso
          have h := of_decide_eq_true (by assumption : decide (B.getD i 0 > A.getD i 0) = true)
          have := hle i (by have := hlt (by assumption); omega)
          omega
        · refine Exists.intro (i + 1) (And.intro (hlt (by assumption)) (And.intro (by have := hlt (by assumption); omega) (St.le.of ?_ ?_)))
          · refine And.intro (congrArg some (le_next (by omega))) ?_
            repeat' (first | exact trivial | refine And.intro rfl ?_)
          · repeat' (first | exact trivial | refine And.intro rfl ?_)
        all_goals refine Ends.mk (Or.inl rfl) (AV.weak.of_eq (congrArg AV.bool ?_))
        all_goals first
          | rfl
          | (rcases hhot with h | h
             · exfalso
               have := of_decide_eq_false (by assumption : decide (hot1 ≥ 0) = false)
               omega
             · rw [h]; rfl)
          | exact absurd (notF (by assumption : (!is3) = false)) (by rw [his3 (by assumption)]; exact Bool.false_ne_true)
          | exact absurd (notF (by assumption : (!is2) = false)) (by rw [his2 (by assumption)]; exact Bool.false_ne_true)

end Go.Proofs


namespace Go.Proofs
open Go Go.AI Go.Proofs.Ytjeopncbnlfplaa
set_option maxRecDepth 100000
theorem Try.own : ownKnob Try.prog.godebug = none := by kernel_rfl
theorem Try.laidOut : laidOutB Try.prog = true := by kernel_rfl
theorem Try.reads26 : (Try.prog.readableRec 26 && Nat.blt 26 Try.prog.types.size) = true := by kernel_rfl
theorem Try.reads3 : (Try.prog.readableRec 3 && Nat.blt 3 Try.prog.types.size) = true := by kernel_rfl
def case0 : Value := .agg #[.int .i64 0, .int .i64 0, .int .i64 0, .int .i64 0, .int .i64 0, .int .i64 0, .int .i64 0, .int .i64 0, .int .i64 0, .int .i64 0, .int .i64 0, .int .i64 0, .slice none 0 0]
def lawSh : List (Bool × List Sh) := [(true, caseSh), (false, [.int .i64]), (false, [.int .i64]), (false, [.int .i64])]
theorem Try.shs : paramSh Try.prog 8 [26, 3, 3, 3] = some lawSh := by kernel_rfl
theorem Try.lifted (law : ∀ avs, PArgs 8 lawSh avs → ACalls Try.prog 7 avs (.bool true)) (os : Os) (started : os.Started) (H : Type) (enc : TypeId × Value → H) :
    ReturnsInHanded {} Try.checked os 7 .any (Rows.pointingFewerSpec.pre6 enc Try.prog Try.f7 Rows.pointingFewerRow.domain false) (Rows.pointingFewerSpec.post enc Try.prog Try.f7 false true false false) :=
  law_lifted (C := Try.checked) (tb := 4) Try.own started (by kernel_rfl) Try.func7
    (ChangeSpec.witness6 (enc := enc) (C := Try.checked) false ⟨#[], #[case0, .int .i64 0, .int .i64 0, .int .i64 0], []⟩ 8 (by kernel_rfl) (by kernel_rfl) (by kernel_rfl) (by kernel_rfl))
    rfl (by kernel_rfl) (by kernel_rfl) (fun ds h => by
      match ds, h with
      | [d, d0, d1, d2], _ => rfl) Try.shs Try.laidOut (fun t ht => by
      have e : Try.f7.params.toList = [26, 3, 3, 3] := by kernel_rfl
      rw [e] at ht
      simp only [List.mem_cons, List.not_mem_nil, or_false] at ht
      have h26 := Try.reads26
      have h3 := Try.reads3
      simp only [Bool.and_eq_true] at h26 h3
      have g : t = 26 ∨ t = 3 := by rcases ht with h | h | h | h <;> first | exact .inl h | exact .inr h
      rcases g with rfl | rfl
      · exact ⟨h26.1, Nat.le_of_ble_eq_true h26.2⟩
      · exact ⟨h3.1, Nat.le_of_ble_eq_true h3.2⟩) law
theorem Try.row (law : ∀ avs, PArgs 8 lawSh avs → ACalls Try.prog 7 avs (.bool true)) : Rows.PointingFewerSaid :=
  OpenClaim.holds_of_wide (p := Try.pinned) (s := Rows.pointingFewerSpec) (c := Rows.pointingFewerRow) 7 Try.f7 rfl rfl rfl rfl rfl rfl rfl ⟨rfl, rfl, rfl, rfl, rfl⟩ rfl rfl rfl rfl rfl (by kernel_rfl) Try.func7 (by kernel_rfl)
    (of_decide_eq_true (by kernel_rfl)) (by unfold Func.isWrapper; first | (rw [if_pos (by decide +kernel)]; kernel_rfl) | (rw [if_neg (by decide +kernel)]; exact ⟨rfl, rfl⟩))
    (fun os started H enc _ => Try.lifted law os started H enc)
theorem pargs_agg {n : Nat} {L : List Sh} {r : List (Bool × List Sh)} {avs : List AV} (h : PArgs n ((true, L) :: r) avs) : ∃ cs q, avs = .agg cs :: q ∧ Fa (ShOK n) L cs ∧ PArgs n r q := by
  match avs, h with
  | _ :: q, h =>
    obtain ⟨⟨cs, rfl, h1⟩, h2⟩ := h
    exact ⟨cs, q, rfl, h1, h2⟩
  | [], h => exact h.elim
theorem pargs_int {n : Nat} {r : List (Bool × List Sh)} {avs : List AV} (h : PArgs (n + 1) ((false, [.int .i64]) :: r) avs) : ∃ z q, avs = .int .i64 z :: q ∧ inI z ∧ PArgs (n + 1) r q := by
  match avs, h with
  | _ :: q, h =>
    obtain ⟨⟨s, e, h1⟩, h2⟩ := h
    cases e
    obtain ⟨z, rfl, hz⟩ := int_inv h1
    exact ⟨z, q, rfl, hz, h2⟩
  | [], h => exact h.elim
theorem pargs_nil {n : Nat} {avs : List AV} (h : PArgs n [] avs) : avs = [] := by
  match avs, h with
  | [], _ => rfl
  | _ :: _, h => exact h.elim
end Go.Proofs
namespace Go.Proofs.Ytjeopncbnlfplaa
open Go Go.AI
/-- PointingFewer answers true, whatever the input. -/
theorem pointingFewer : Rows.PointingFewerSaid := Try.row fun avs h => by
  obtain ⟨cs, q, rfl, h1, h⟩ := pargs_agg h
  obtain ⟨z0, q, rfl, i0, h⟩ := pargs_int h
  obtain ⟨z1, q, rfl, i1, h⟩ := pargs_int h
  obtain ⟨z2, q, rfl, i2, h⟩ := pargs_int h
  obtain rfl := pargs_nil h
  obtain ⟨c, hc, rfl⟩ := case_of h1
  exact Go.Proofs.Try.x7 c hc z0 z1 z2 i0 i1 i2
end Go.Proofs.Ytjeopncbnlfplaa


