/- Contracts of the functions and plain facts about what they reckon, part 3: called with arguments that read so, each hands back what is typed. The conditions are those typed. -/
import Derived.Test.YtehdegggapeihaaGreatConB
set_option linter.unusedSectionVars false
set_option linter.unusedVariables false
set_option linter.unusedSimpArgs false
namespace Go.Proofs
open Go Go.AI
set_option maxRecDepth 10000
def spanS (a b : Int) : Bool := decide (0 ≤ a) && decide (a < b) && decide (b ≤ 1000000) && decide (w64 (b - a) ≤ 3000)
theorem Tryz.pc41 (a b : Int) : ACalls Tryz.prog 213 [.agg [.int .i64 a, .int .i64 b]] (.bool (spanS a b)) := by
  refine ACalls.of Tryz.T Tryz.keep213 Tryz.func213 rfl (by kernel_rfl) Tryz.mixed (by kernel_rfl) (Nat.le_of_ble_eq_true rfl) ?_
  intro F n w0 m0 hG hro h1
  repeat' first|refine anF ?_|refine anT ?_|refine And.intro (fun h => ?_) (fun h => ?_)
  all_goals refine Ends.mk (Or.inl rfl) (AV.weak.of_eq (congrArg AV.bool ?_))
  all_goals (simp_all [spanS, w64] <;> first | rfl | (intros; omega))
theorem Tryz.pc48 (n a b : Int) : ACalls Tryz.prog 234 [.int .i64 n, .int .i64 a, .int .i64 b] (.bool (decide (a ≤ n) && decide (n ≤ b))) := by
  refine ACalls.of Tryz.T Tryz.keep234 Tryz.func234 rfl (by kernel_rfl) Tryz.mixed (by kernel_rfl) (Nat.le_of_ble_eq_true rfl) ?_
  intro F n w0 m0 hG hro h1
  repeat' first|refine anF ?_|refine anT ?_|refine And.intro (fun h => ?_) (fun h => ?_)
  all_goals refine Ends.mk (Or.inl rfl) (AV.weak.of_eq (congrArg AV.bool ?_))
  all_goals simp_all <;> omega
structure Aim3 where
  a : Int
  b : Int
  k : Int
def aimA (x : Aim3) : List AV := [.int .i64 x.a, .int .i64 x.b, .int .i64 x.k]
def aimsA (l : List Aim3) : AV := .sl .no 3 (l.map aimA)
def gainsCap (s : Nat → Int) (l : List Aim3) (a b : Int) : List AV := [.ref (spellA a b), .ref (satA s), .ref [aimsA l]]
theorem Tryz.pc47 (s : Nat → Int) (l : List Aim3) (a b : Int) : ACalls Tryz.prog 269 [.agg (satA s), aimsA l, .agg (spellA a b)] (.clo 305 (gainsCap s l a b)) := by
  refine ACalls.of Tryz.T Tryz.keep269 Tryz.func269 rfl (by kernel_rfl) Tryz.mixed (by kernel_rfl) (Nat.le_of_ble_eq_true rfl) ?_
  intro F n w0 m0 hG hro h1
  refine Ends.mk (Or.inl rfl) (AV.weak.of_eq rfl)
def hit (t : Int) (x : Aim3) : Bool := decide (x.a ≤ t) && decide (t < x.b)
def gainS (warm cool : Int) (t : Int) (l : List Aim3) : Int := l.foldl (fun g x => if hit t x then w64 (g + warm) else g) (w64 (0 - cool))
def gainsL (s : Nat → Int) (l : List Aim3) (a b : Int) : List (Int × Int) := (List.range (b - a).toNat).map fun (i : Nat) => (a + i, gainS (s 16) (s 17) (a + (i : Int)) l)
theorem gainS_snoc (w c t : Int) (l : List Aim3) (x : Aim3) : gainS w c t (l ++ [x]) = if hit t x then w64 (gainS w c t l + w) else gainS w c t l := by simp [gainS, List.foldl_append]
theorem Tryz.pc64 (s : Nat → Int) (l : List Aim3) (a b : Int) (ha : 0 ≤ a) (hb : b ≤ 1000000) (hl : l.length ≤ 1000000) : ASeq Tryz.prog pairV 305 (gainsCap s l a b) (gainsL s l a b) := by
  refine ASeq.of Tryz.T Tryz.keep305 Tryz.func305 rfl (by kernel_rfl) Tryz.mixed (by kernel_rfl) (Nat.le_of_ble_eq_true rfl) rfl (fun l => by kernel_rfl) ?_
  intro F n m y J Jx hY
  refine YP.loop (X := Nat) (fun i => ((false, i), ⟨(5, .int .i64 (a + i)) :: params 0 (.lit (.func (.yield y) #[] #[]) :: gainsCap s l a b), []⟩)) (fun i => i ≤ (b - a).toNat) (fun i => (b - a).toNat - i) 0 (Nat.zero_le _) rfl
    (St.le.of ?_ ?_) (fun i hi => ?_)
  · refine And.intro (congrArg (fun z => some (AV.int .i64 z)) (show a = a + ((0 : Nat) : Int) by omega)) ?_
    repeat' (first | exact trivial | refine And.intro rfl ?_)
  · exact trivial
  · refine awpY_sound (keep := Tryz.keep305) hY Tryz.T _ _ _ _ (by kernel_rfl) (by kernel_rfl) ?_
    refine And.intro (fun h => ?_) (fun h => ?_)
    · refine YP.of_SP hY.round (by kernel_rfl) (fun W0 => SP.loop (X := Nat) (fun j => ⟨(22, .int .i64 j) :: (6, .int .i64 (gainS (s 16) (s 17) (a + i) (l.take j))) :: (20, aimsA l) :: (21, .int .i64 (l.map aimA).length) :: (5, .int .i64 (a + i)) :: params 0 (.lit (.func (.yield y) #[] #[]) :: gainsCap s l a b), []⟩)
        (fun j => j ≤ l.length) (fun j => l.length - j) 0 (Nat.zero_le _) (St.le.of ?_ ?_) (fun j hj => ?_))
      · repeat' (first | exact trivial | refine And.intro rfl ?_)
      · exact trivial
      · refine awp_sound (keep := Tryz.keep305) (hY.base W0) Tryz.T _ _ _ (by kernel_rfl) ?_
        refine And.intro (fun h => ?_) (fun h => ?_)
        · have hj2 : j < l.length := by have := of_decide_eq_true h; simp at this; omega
          have hx : (l.map aimA)[(j : Int).toNat]? = some (aimA l[j]) := by simp [List.getElem?_eq_getElem hj2]
          have htk : l.take (j + 1) = l.take j ++ [l[j]] := by rw [List.take_add_one, List.getElem?_eq_getElem hj2]; rfl
          refine And.intro (by omega) (Exists.intro (aimA l[j]) (And.intro hx ?_))
          repeat' (conv => whnf
                   first
                   | refine anF ?_
                   | refine anT ?_
                   | refine And.intro (fun h => ?_) (fun h => ?_))
          all_goals refine Exists.intro (j + 1) (And.intro hj2 (And.intro (by omega) (St.le.of ?_ trivial)))
          all_goals refine And.intro (congrArg (fun z => some (AV.int .i64 z)) ((w64_in (by omega) (by omega)).trans (by omega))) ?_
          · refine And.intro (congrArg (fun z => some (AV.int .i64 z)) ?_) ?_
            · rw [htk, gainS_snoc]
              simp only [hit, *]
              rfl
            · repeat' (first | exact trivial | refine And.intro rfl ?_)
          · refine And.intro (congrArg (fun z => some (AV.int .i64 z)) ?_) ?_
            · rw [htk, gainS_snoc]
              simp only [hit, *]
              rfl
            · repeat' (first | exact trivial | refine And.intro rfl ?_)
          · refine And.intro (congrArg (fun z => some (AV.int .i64 z)) ?_) ?_
            · rw [htk, gainS_snoc]
              simp only [hit, *]
              rfl
            · repeat' (first | exact trivial | refine And.intro rfl ?_)
        · have e : l.take j = l := List.take_of_length_le (by have := of_decide_eq_false h; simp at this; omega)
          have hib : i < (b - a).toNat := by have := of_decide_eq_true (by assumption : decide (a + (i : Int) < b) = true); omega
          refine And.intro rfl (Exists.intro (a + (i : Int), gainS (s 16) (s 17) (a + i) (l.take j)) (And.intro ?_ (And.intro rfl (And.intro ?_ ?_))))
          · rw [e]; simp [gainsL, List.getElem?_map, List.getElem?_range hib]
          · refine anF ?_
            refine Exists.intro (i + 1) (And.intro hib (And.intro (by omega) (And.intro rfl (St.le.of ?_ trivial))))
            refine And.intro (congrArg (fun z => some (AV.int .i64 z)) ((w64_in (by omega) (by omega)).trans (by omega))) ?_
            repeat' (first | exact trivial | refine And.intro rfl ?_)
          · refine anT ?_
            exact EndsY.mk (Or.inl rfl) (Or.inr rfl)
    · refine EndsY.mk (Or.inr rfl) (Or.inl ?_)
      simp [gainsL]
      have := of_decide_eq_false h
      omega
def heatRun (pre : List (Int × Int)) : Int × List Int := pre.foldl (fun r p => (max 0 (w64 (r.1 + p.2)), r.2 ++ [max 0 (w64 (r.1 + p.2))])) (0, [])
theorem heatRun_len (pre : List (Int × Int)) : (heatRun pre).2.length = pre.length := by
  suffices h : ∀ (r : Int × List Int), (pre.foldl (fun r p => (max 0 (w64 (r.1 + p.2)), r.2 ++ [max 0 (w64 (r.1 + p.2))])) r).2.length = r.2.length + pre.length by simpa [heatRun] using h (0, [])
  induction pre with
  | nil => intro r; simp
  | cons p t ih => intro r; simp [ih]; omega
theorem heatRun_snoc (pre : List (Int × Int)) (x : Int × Int) : heatRun (pre ++ [x]) = (max 0 (w64 ((heatRun pre).1 + x.2)), (heatRun pre).2 ++ [max 0 (w64 ((heatRun pre).1 + x.2))]) := by simp [heatRun, List.foldl_append]
def heatsB (pre : List (Int × Int)) : List (Nat × List AV) := [(8, [.int .i64 (heatRun pre).1]), (7, [.sl (.id 16) 1 ((heatRun pre).2.map fun h => [.int .i64 h])])]
theorem Tryz.pc42 (s : Nat → Int) (l : List Aim3) (a b : Int) (ha : 0 ≤ a) (hab : a ≤ b) (hb : b ≤ 1000000) (hl : l.length ≤ 1000000) :
    ACalls Tryz.prog 215 [.agg (satA s), aimsA l, .agg (spellA a b)] (intsA (heatRun (gainsL s l a b)).2) := by
  refine ACalls.of Tryz.T Tryz.keep215 Tryz.func215 rfl (by kernel_rfl) Tryz.mixed (by kernel_rfl) (Nat.le_of_ble_eq_true rfl) ?_
  intro F n w0 m0 hG hro h1
  have hba : w64 (b - a) = b - a := w64_in (by omega) (by omega)
  have hba : IntKind.i64.wrap (b - a) = b - a := hba
  refine And.intro (by omega) ?_
  conv => whnf
  rw [hba]
  refine And.intro (by omega) (And.intro (show (b - a).toNat * 8 ≤ 70368744177664 by omega) (And.intro (by omega) ?_))
  refine Exists.intro _ (And.intro (Tryz.pc47 s l a b) ?_)
  refine SP.range hG hro h1 (α := Int × Int) (fun p => [.int .i64 p.1, .int .i64 p.2]) pairV (f := 305) (cap := gainsCap s l a b) (items := gainsL s l a b) rfl (Tryz.pc64 s l a b ha hb hl) (fun _ => rfl) (fun _ => rfl) ?_
    [(7, .loc 7 0), (8, .loc 8 0)] heatsB (St.le.of ?_ ?_) (by kernel_rfl) (by decide) ?_ ?_
  · intro m x i c v h1 h2
    match i, h1, h2 with
    | 0, h1, h2 => cases h1; cases h2; exact .int _ _
    | 1, h1, h2 => cases h1; cases h2; exact .int _ _
  · repeat' (first | exact trivial | refine And.intro rfl ?_)
  · repeat' (first | exact trivial | refine And.intro rfl ?_)
  · intro F' n' m' hG' pre x rest hit
    refine awp_sound (keep := Tryz.keep215) hG' Tryz.T _ _ _ (by kernel_rfl) ?_
    have hlen : (gainsL s l a b).length ≤ 1000000 := by simp [gainsL]; omega
    have hpre : pre.length < 1000000 := by rw [hit] at hlen; simp at hlen; omega
    have hr : ((heatRun pre).2.map fun h => [AV.int .i64 h]).length = pre.length := by rw [List.length_map, heatRun_len]
    refine And.intro rfl (And.intro (St.le.of ?_ ?_) (awp_sound (keep := Tryz.keep215) hG' Tryz.T _ _ _ (by kernel_rfl) ?_))
    · repeat' (first | exact trivial | refine And.intro rfl ?_)
    · repeat' (first | exact trivial | refine And.intro rfl ?_)
    · refine And.intro (show (_ + 1) * 8 ≤ 70368744177664 by rw [hr]; omega) (And.intro (show _ + 1 ≤ 4611686018427387904 by rw [hr]; omega) ?_)
      refine St.le.of ?_ ?_
      · repeat' (first | exact trivial | refine And.intro rfl ?_)
      · refine And.intro ?_ (And.intro ?_ trivial)
        · rw [heatRun_snoc]; rfl
        · rw [heatRun_snoc, List.map_append]; rfl
  · exact Ends.mk (Or.inl rfl) (AV.weak.of_eq rfl)
theorem Tryz.pc57 (x : Aim3) : ACalls Tryz.prog 231 [.agg (aimA x)] (.bool (decide (0 ≤ x.a) && decide (x.a < x.b) && decide (x.b ≤ 1000000))) := by
  refine ACalls.of Tryz.T Tryz.keep231 Tryz.func231 rfl (by kernel_rfl) Tryz.mixed (by kernel_rfl) (Nat.le_of_ble_eq_true rfl) ?_
  intro F n' w0 m0 hG hro h1
  repeat' (conv => whnf
           first
           | refine anF ?_
           | refine anT ?_
           | refine And.intro (fun h => ?_) (fun h => ?_))
  all_goals refine Ends.mk (Or.inl rfl) (AV.weak.of_eq (congrArg AV.bool ?_))
  all_goals (simp_all <;> first | rfl | (intros; omega) | (intros; simp_all; done) | (intros; simp_all; omega))
theorem Tryz.pc58 (x : Aim3) : ACalls Tryz.prog 232 [.agg (aimA x)] (.bool (decide (w64 (x.b - x.a) ≤ 60))) := by
  refine ACalls.of Tryz.T Tryz.keep232 Tryz.func232 rfl (by kernel_rfl) Tryz.mixed (by kernel_rfl) (Nat.le_of_ble_eq_true rfl) ?_
  intro F n' w0 m0 hG hro h1
  repeat' (conv => whnf
           first
           | refine anF ?_
           | refine anT ?_
           | refine And.intro (fun h => ?_) (fun h => ?_))
  all_goals refine Ends.mk (Or.inl rfl) (AV.weak.of_eq (congrArg AV.bool ?_))
  all_goals rfl
theorem Tryz.pc59 (s : Nat → Int) (x : Aim3) : ACalls Tryz.prog 233 [.agg (aimA x), .ref (satA s)] (.bool (inS x.k (w64 (0 - s 9)) (s 9))) := by
  refine ACalls.of Tryz.T Tryz.keep233 Tryz.func233 rfl (by kernel_rfl) Tryz.mixed (by kernel_rfl) (Nat.le_of_ble_eq_true rfl) ?_
  intro F n' w0 m0 hG hro h1
  repeat' (conv => whnf
           first
           | refine anF ?_
           | refine anT ?_
           | refine Exists.intro _ (And.intro (Tryz.pc48 _ _ _) ?_)
           | refine And.intro (fun h => ?_) (fun h => ?_))
  all_goals refine Ends.mk (Or.inl rfl) (AV.weak.of_eq (congrArg AV.bool ?_))
  all_goals rfl
end Go.Proofs
namespace Go.Proofs
open Go Go.AI
set_option maxRecDepth 10000
def aimS (s : Nat → Int) (x : Aim3) : Bool := decide (0 ≤ x.a) && decide (x.a < x.b) && decide (x.b ≤ 1000000) && decide (w64 (x.b - x.a) ≤ 60) && inS x.k (w64 (0 - s 9)) (s 9)
def tst (s : Nat → Int) (x : Aim3) (j : Nat) : Bool := match j with
  | 0 => decide (0 ≤ x.a) && decide (x.a < x.b) && decide (x.b ≤ 1000000)
  | 1 => decide (w64 (x.b - x.a) ≤ 60)
  | _ => inS x.k (w64 (0 - s 9)) (s 9)
theorem tst_all (s : Nat → Int) (x : Aim3) : aimS s x = (tst s x 0 && tst s x 1 && tst s x 2) := rfl
def areS (s : Nat → Int) (l : List Aim3) : Bool := l.all (aimS s) && decide (l.length ≤ 64)
theorem all_snoc {α : Type} {p : α → Bool} {l : List α} {i : Nat} (hi : i < l.length) (h : (l.take i).all p = true) (hx : p l[i] = true) : (l.take (i + 1)).all p = true := by
  rw [List.take_add_one, List.getElem?_eq_getElem hi, List.all_append, h]; simp [hx]
theorem all_not {α : Type} {p : α → Bool} {l : List α} {i : Nat} (hi : i < l.length) (hx : p l[i] = false) : l.all p = false := by
  rw [List.all_eq_false]; exact ⟨l[i], List.getElem_mem hi, by simp [hx]⟩
theorem Tryz.pc34 (s : Nat → Int) (l : List Aim3) (hl : l.length ≤ 1000000) : ACalls Tryz.prog 169 [.agg (satA s), aimsA l] (.bool (areS s l)) := by
  refine ACalls.of Tryz.T Tryz.keep169 Tryz.func169 rfl (by kernel_rfl) Tryz.mixed (by kernel_rfl) (Nat.le_of_ble_eq_true rfl) ?_
  intro F n' w0 m0 hG hro h1
  refine SP.loop (X := Nat) (fun i => ⟨[(14, .int .i64 i), (13, .int .i64 (l.map aimA).length), (12, aimsA l), (1, aimsA l), (5, .loc 5 0)], [(5, [.fn 231, .fn 232, .clo 233 [.ref (satA s)]])]⟩)
    (fun i => i ≤ l.length ∧ (l.take i).all (aimS s) = true) (fun i => l.length - i) 0 ⟨Nat.zero_le _, rfl⟩ (St.le.of ?_ ?_) (fun i hi => ?_)
  · repeat' (first | exact trivial | refine And.intro rfl ?_)
  · repeat' (first | exact trivial | refine And.intro rfl ?_)
  · obtain ⟨hi, hall⟩ := hi
    refine awp_sound (keep := Tryz.keep169) hG Tryz.T _ _ _ (by kernel_rfl) ?_
    refine And.intro (fun h => ?_) (fun h => ?_)
    · have hi2 : i < l.length := by have := of_decide_eq_true h; simp at this; omega
      have hx : (l.map aimA)[(i : Int).toNat]? = some (aimA l[i]) := by simp [List.getElem?_eq_getElem hi2]
      have bad : ∀ j, j < 3 → tst s l[i] j = false → false = areS s l := fun j hj hf => by
        have : aimS s l[i] = false := by
          rw [tst_all]
          obtain rfl | rfl | rfl : j = 0 ∨ j = 1 ∨ j = 2 := by omega
          · rw [hf]; rfl
          · rw [hf, Bool.and_false]; rfl
          · rw [hf, Bool.and_false]
        rw [areS, all_not hi2 this]; rfl
      refine And.intro (by omega) (Exists.intro (aimA l[i]) (And.intro hx ?_))
      refine SP.loop (X := Nat) (fun j => ⟨[(19, .int .i64 j), (18, .agg [.fn 231, .fn 232, .clo 233 [.ref (satA s)]]), (7, .loc 7 0), (14, .int .i64 i), (13, .int .i64 (l.map aimA).length), (12, aimsA l), (1, aimsA l), (5, .loc 5 0)],
          [(7, aimA l[i]), (5, [.fn 231, .fn 232, .clo 233 [.ref (satA s)]])]⟩)
        (fun j => j ≤ 3 ∧ ∀ k, k < j → tst s l[i] k = true) (fun j => 3 - j) 0 ⟨Nat.zero_le _, fun k hk => absurd hk (Nat.not_lt_zero _)⟩ (St.le.of ?_ ?_) (fun j hj => ?_)
      · repeat' (first | exact trivial | refine And.intro rfl ?_)
      · repeat' (first | exact trivial | refine And.intro rfl ?_)
      · obtain ⟨hj, hts⟩ := hj
        refine awp_sound (keep := Tryz.keep169) hG Tryz.T _ _ _ (by kernel_rfl) ?_
        refine And.intro (fun h => ?_) (fun h => ?_)
        · have hj2 : j < 3 := by have := of_decide_eq_true h; omega
          have step : ∀ {k : Nat}, k < 3 → (∀ q, q < k → tst s l[i] q = true) → tst s l[i] k = true → ∀ q, q < k + 1 → tst s l[i] q = true := fun hk hp hq q hqk => by
            rcases Nat.lt_succ_iff_lt_or_eq.1 hqk with h | rfl
            · exact hp q h
            · exact hq
          obtain rfl | rfl | rfl : j = 0 ∨ j = 1 ∨ j = 2 := by omega
          · refine And.intro (Int.le_of_sub_nonneg (by simp)) (And.intro (by simp) (And.intro (Nat.le_of_ble_eq_true rfl) ?_))
            refine Exists.intro _ (And.intro (Tryz.pc57 l[i]) ?_)
            refine And.intro (fun h2 => ?_) (fun h2 => ?_)
            · exact Ends.mk (Or.inl rfl) (AV.weak.of_eq (congrArg AV.bool (bad 0 (by omega) (notT h2))))
            · refine Exists.intro 1 (And.intro ⟨by omega, step (by omega) hts (notF h2)⟩ (And.intro (by omega) (St.le.of ?_ ?_)))
              · refine And.intro (congrArg some (le_next (by omega))) ?_
                repeat' (first | exact trivial | refine And.intro rfl ?_)
              · repeat' (first | exact trivial | refine And.intro rfl ?_)
          · refine And.intro (Int.le_of_sub_nonneg (by simp)) (And.intro (by simp) (And.intro (Nat.le_of_ble_eq_true rfl) ?_))
            refine Exists.intro _ (And.intro (Tryz.pc58 l[i]) ?_)
            refine And.intro (fun h2 => ?_) (fun h2 => ?_)
            · exact Ends.mk (Or.inl rfl) (AV.weak.of_eq (congrArg AV.bool (bad 1 (by omega) (notT h2))))
            · refine Exists.intro 2 (And.intro ⟨by omega, step (by omega) hts (notF h2)⟩ (And.intro (by omega) (St.le.of ?_ ?_)))
              · refine And.intro (congrArg some (le_next (by omega))) ?_
                repeat' (first | exact trivial | refine And.intro rfl ?_)
              · repeat' (first | exact trivial | refine And.intro rfl ?_)
          · refine And.intro (Int.le_of_sub_nonneg (by simp)) (And.intro (by simp) (And.intro (Nat.le_of_ble_eq_true rfl) ?_))
            refine Exists.intro _ (And.intro (Tryz.pc59 s l[i]) ?_)
            refine And.intro (fun h2 => ?_) (fun h2 => ?_)
            · exact Ends.mk (Or.inl rfl) (AV.weak.of_eq (congrArg AV.bool (bad 2 (by omega) (notT h2))))
            · refine Exists.intro 3 (And.intro ⟨by omega, step (by omega) hts (notF h2)⟩ (And.intro (by omega) (St.le.of ?_ ?_)))
              · refine And.intro (congrArg some (le_next (by omega))) ?_
                repeat' (first | exact trivial | refine And.intro rfl ?_)
              · repeat' (first | exact trivial | refine And.intro rfl ?_)
        · have e : j = 3 := by have := of_decide_eq_false h; omega
          subst e
          have hp : aimS s l[i] = true := by rw [tst_all, hts 0 (by omega), hts 1 (by omega), hts 2 (by omega)]; rfl
          refine Exists.intro (i + 1) (And.intro ⟨hi2, all_snoc hi2 hall hp⟩ (And.intro (by omega) (St.le.of ?_ ?_)))
          · refine And.intro (congrArg some (le_next (by omega))) ?_
            repeat' (first | exact trivial | refine And.intro rfl ?_)
          · repeat' (first | exact trivial | refine And.intro rfl ?_)
    · have e : l.take i = l := List.take_of_length_le (by have := of_decide_eq_false h; simp at this; omega)
      rw [e] at hall
      refine Ends.mk (Or.inl rfl) (AV.weak.of_eq (congrArg AV.bool ?_))
      simp only [areS, hall, Bool.true_and, List.length_map]
      rw [Bool.eq_iff_iff]; simp only [decide_eq_true_eq]; omega
theorem Tryz.pc14 (s : Nat → Int) (l : List Aim3) (hl : l.length ≤ 1000000) : ACalls Tryz.prog 101 [.agg (satA s), aimsA l] (.bool (areS s l && satS s)) := by
  refine ACalls.of Tryz.T Tryz.keep101 Tryz.func101 rfl (by kernel_rfl) Tryz.mixed (by kernel_rfl) (Nat.le_of_ble_eq_true rfl) ?_
  intro F n' w0 m0 hG hro h1
  repeat' (conv => whnf
           first
           | refine anF ?_
           | refine anT ?_
           | refine Exists.intro _ (And.intro (Tryz.pc34 s l hl) ?_)
           | refine Exists.intro _ (And.intro (Tryz.c68 s) ?_)
           | refine And.intro (fun h => ?_) (fun h => ?_))
  all_goals refine Ends.mk (Or.inl rfl) (AV.weak.of_eq (congrArg AV.bool ?_))
  all_goals simp only [*, Bool.true_and, Bool.false_and]
def slewK (s : Nat → Int) (j k : Int) : Int := w64 (s 19 * max (w64 (j - k)) (w64 (k - j)))
def fit1 (s : Nat → Int) (x y : Aim3) : Bool := decide (y.a ≥ w64 (x.b + slewK s x.k y.k))
def fitP (s : Nat → Int) (x y : Aim3) : Bool := if y.a < x.a then fit1 s y x else fit1 s x y
def valS (s : Nat → Int) (l : List Aim3) : Bool := areS s l && satS s
theorem Tryz.pc38 (s : Nat → Int) (x y : Aim3) : ACalls Tryz.prog 102 [.agg (satA s), .agg (aimA x), .agg (aimA y)] (.bool (fitP s x y)) := by
  refine ACalls.of Tryz.T Tryz.keep102 Tryz.func102 rfl (by kernel_rfl) Tryz.mixed (by kernel_rfl) (Nat.le_of_ble_eq_true rfl) ?_
  intro F n' w0 m0 hG hro h1
  repeat' (conv => whnf
           first
           | refine anF ?_
           | refine anT ?_
           | refine And.intro (fun h => ?_) (fun h => ?_))
  all_goals refine Ends.mk (Or.inl rfl) (AV.weak.of_eq (congrArg AV.bool ?_))
  · rw [fitP, if_pos (of_decide_eq_true (by assumption))]; rfl
  · rw [fitP, if_neg (of_decide_eq_false (by assumption))]; rfl
theorem find_some {α : Type} {f : Nat → Option α} {N n : Nat} {v : α} (hn : n < N) (h : ∀ j, j < n → f j = none) (hv : f n = some v) : (List.range N).findSome? f = some v := by
  obtain ⟨d, rfl⟩ : ∃ d, N = n + (d + 1) := ⟨N - n - 1, by omega⟩
  rw [List.range_add, List.findSome?_append, List.findSome?_eq_none_iff.2 (fun x hx => h x (List.mem_range.1 hx)), List.range_succ_eq_map]
  simp [hv]
theorem find_none {α : Type} {f : Nat → Option α} {N : Nat} (h : ∀ j, j < N → f j = none) : (List.range N).findSome? f = none := List.findSome?_eq_none_iff.2 (fun x hx => h x (List.mem_range.1 hx))
def aimAt (l : List Aim3) (i : Nat) : Aim3 := l.getD i ⟨0, 0, 0⟩
theorem aimAt_eq {l : List Aim3} {i : Nat} (h : i < l.length) : aimAt l i = l[i] := by simp [aimAt, List.getD_eq_getElem?_getD, List.getElem?_eq_getElem h]
def slewI (s : Nat → Int) (l : List Aim3) (k i : Nat) : Option (Nat × Nat) := if fitP s (aimAt l i) (aimAt l k) then none else some (i, k)
def slewJ (s : Nat → Int) (l : List Aim3) (k : Nat) : Option (Nat × Nat) := (List.range k).findSome? (slewI s l k)
def slewO (s : Nat → Int) (l : List Aim3) : Option (Nat × Nat) := (List.range l.length).findSome? (slewJ s l)
def slewA : Option (Nat × Nat) → List AV
  | none => [.int .i64 0, .int .i64 0, .bool false, .int .i64 0]
  | some (i, k) => [.int .i64 i, .int .i64 k, .bool true, .int .i64 0]
theorem Tryz.pc16 (s : Nat → Int) (l : List Aim3) (hl : l.length ≤ 1000000) (hv : valS s l = true) : ACalls Tryz.prog 32 [.agg (satA s), aimsA l] (.tup (slewA (slewO s l))) := by
  refine ACalls.of Tryz.T Tryz.keep32 Tryz.func32 rfl (by kernel_rfl) Tryz.mixed (by kernel_rfl) (Nat.le_of_ble_eq_true rfl) ?_
  intro F n' w0 m0 hG hro h1
  refine SP.scopeEnds (awp_sound (keep := Tryz.keep32) hG Tryz.T _ _ _ (by kernel_rfl) ?_)
  refine Exists.intro _ (And.intro (Tryz.pc14 s l hl) ?_)
  refine And.intro (fun hs => ?_) (fun hs => ?_)
  · have := notT hs; simp [valS] at hv; simp [hv] at this
  · refine SP.loop (X := Nat) (fun k => ⟨[(16, .int .i64 k), (15, .int .i64 (l.map aimA).length), (1, aimsA l), (2, .loc 2 0), (4, .int .i64 0), (5, .int .i64 0), (6, .bool false)], [(2, satA s)]⟩)
      (fun k => k ≤ l.length ∧ ∀ j, j < k → slewJ s l j = none) (fun k => l.length - k) 0 ⟨Nat.zero_le _, fun k hk => absurd hk (Nat.not_lt_zero _)⟩ (St.le.of ?_ ?_) (fun k hk => ?_)
    · repeat' (first | exact trivial | refine And.intro rfl ?_)
    · repeat' (first | exact trivial | refine And.intro rfl ?_)
    · obtain ⟨hk, hall⟩ := hk
      refine awp_sound (keep := Tryz.keep32) hG Tryz.T _ _ _ (by kernel_rfl) ?_
      refine And.intro (fun h => ?_) (fun h => ?_)
      · have hk2 : k < l.length := by have := of_decide_eq_true h; simp at this; omega
        have hxk : (l.map aimA)[(k : Int).toNat]? = some (aimA (aimAt l k)) := by simp [aimAt_eq hk2, List.getElem?_eq_getElem hk2]
        refine SP.loop (X := Nat) (fun i => ⟨[(20, .int .i64 i), (19, .int .i64 k), (8, .int .i64 k), (16, .int .i64 k), (15, .int .i64 (l.map aimA).length), (1, aimsA l), (2, .loc 2 0), (4, .int .i64 0), (5, .int .i64 0), (6, .bool false)], [(2, satA s)]⟩)
          (fun i => i ≤ k ∧ ∀ j, j < i → slewI s l k j = none) (fun i => k - i) 0 ⟨Nat.zero_le _, fun k hk => absurd hk (Nat.not_lt_zero _)⟩ (St.le.of ?_ ?_) (fun i hi => ?_)
        · repeat' (first | exact trivial | refine And.intro rfl ?_)
        · repeat' (first | exact trivial | refine And.intro rfl ?_)
        · obtain ⟨hi, hall2⟩ := hi
          refine awp_sound (keep := Tryz.keep32) hG Tryz.T _ _ _ (by kernel_rfl) ?_
          refine And.intro (fun h => ?_) (fun h => ?_)
          · have hi2 : i < k := by have := of_decide_eq_true h; simp at this; omega
            have hxi : (l.map aimA)[(i : Int).toNat]? = some (aimA (aimAt l i)) := by simp [aimAt_eq (Nat.lt_trans hi2 hk2), List.getElem?_eq_getElem (Nat.lt_trans hi2 hk2)]
            refine And.intro (by omega) (Exists.intro _ (And.intro hxi ?_))
            refine And.intro (by omega) (Exists.intro _ (And.intro hxk ?_))
            refine Exists.intro _ (And.intro (Tryz.pc38 s (aimAt l i) (aimAt l k)) ?_)
            refine And.intro (by kernel_rfl) ?_
            refine And.intro (fun h2 => ?_) (fun h2 => ?_)
            · have e : slewO s l = some (i, k) := find_some hk2 hall (find_some hi2 hall2 (by rw [slewI, notT h2]; rfl))
              refine Ends.mk (Or.inl rfl) (AV.weak.of_eq ?_)
              rw [e]; rfl
            · refine Exists.intro (i + 1) (And.intro ⟨hi2, fun j hj => ?_⟩ (And.intro (by omega) (St.le.of ?_ ?_)))
              · rcases Nat.lt_succ_iff_lt_or_eq.1 hj with h | rfl
                · exact hall2 j h
                · rw [slewI, notF h2]; rfl
              · refine And.intro (congrArg some (le_next (by omega))) ?_
                repeat' (first | exact trivial | refine And.intro rfl ?_)
              · repeat' (first | exact trivial | refine And.intro rfl ?_)
          · have e : i = k := by have := of_decide_eq_false h; simp at this; omega
            subst e
            refine Exists.intro (i + 1) (And.intro ⟨hk2, fun j hj => ?_⟩ (And.intro (by omega) (St.le.of ?_ ?_)))
            · rcases Nat.lt_succ_iff_lt_or_eq.1 hj with h | rfl
              · exact hall j h
              · exact find_none hall2
            · refine And.intro (congrArg some (le_next (by omega))) ?_
              repeat' (first | exact trivial | refine And.intro rfl ?_)
            · repeat' (first | exact trivial | refine And.intro rfl ?_)
      · have e : k = l.length := by have := of_decide_eq_false h; simp at this; omega
        refine Ends.mk (Or.inl rfl) (AV.weak.of_eq ?_)
        rw [show slewO s l = none from find_none (e ▸ hall)]; rfl
theorem span_b {a b : Int} (h : spanS a b = true) : 0 ≤ a ∧ a < b ∧ b ≤ 1000000 := by simp only [spanS, Bool.and_eq_true, decide_eq_true_eq] at h; omega
theorem absT {p : Prop} {b : Bool} (h : (!b) = true) (g : b = true) : p := by rw [g] at h; cases h
def heatsL (s : Nat → Int) (l : List Aim3) (a b : Int) : List Int := (heatRun (gainsL s l a b)).2
theorem Tryz.pc46 (s : Nat → Int) (h : Int) : ACalls Tryz.prog 216 [.int .i64 h, .ref (satA s)] (.bool (decide (h > s 18))) := by
  refine ACalls.of Tryz.T Tryz.keep216 Tryz.func216 rfl (by kernel_rfl) Tryz.mixed (by kernel_rfl) (Nat.le_of_ble_eq_true rfl) ?_
  intro F n' w0 m0 hG hro h1
  repeat' (conv => whnf
           first
           | refine anF ?_
           | refine anT ?_
           | refine And.intro (fun h => ?_) (fun h => ?_))
  all_goals exact Ends.mk (Or.inl rfl) (AV.weak.of_eq rfl)
theorem heatsL_len (s : Nat → Int) (l : List Aim3) (a b : Int) : (heatsL s l a b).length = (b - a).toNat := by rw [heatsL, heatRun_len, gainsL]; simp
def hotS (s : Nat → Int) (l : List Aim3) (a b : Int) : Int := let i := idxF (fun h => decide (h > s 18)) (heatsL s l a b) 0; if i ≥ 0 then w64 (a + i) else -1
theorem Tryz.pc22 (s : Nat → Int) (l : List Aim3) (a b : Int) (hl : l.length ≤ 1000000) (hs : spanS a b = true) (hv : valS s l = true) : ACalls Tryz.prog 144 [.agg (satA s), aimsA l, .agg (spellA a b)] (.tup [.int .i64 (hotS s l a b), .int .i64 0]) := by
  obtain ⟨ha, hab, hb⟩ := span_b hs
  refine ACalls.of Tryz.T Tryz.keep144 Tryz.func144 rfl (by kernel_rfl) Tryz.mixed (by kernel_rfl) (Nat.le_of_ble_eq_true rfl) ?_
  intro F n' w0 m0 hG hro h1
  refine Exists.intro _ (And.intro (Tryz.pc41 a b) (And.intro (fun h => absT h hs) (fun h => ?_)))
  refine Exists.intro _ (And.intro (Tryz.pc14 s l hl) (And.intro (fun h => absT h hv) (fun h => ?_)))
  refine Exists.intro _ (And.intro (Tryz.pc42 s l a b ha (Int.le_of_lt hab) hb hl) ?_)
  refine Exists.intro _ (And.intro (Tryz.c64 (heatsL s l a b) (fun h => decide (h > s 18)) 216 _ [.ref (satA s)] (Or.inl rfl) (by rw [heatsL_len]; omega) (fun h _ => Tryz.pc46 s h)) ?_)
  refine And.intro (fun h => ?_) (fun h => ?_)
  · refine Ends.mk (Or.inl rfl) (AV.weak.of_eq ?_)
    rw [hotS, if_pos (of_decide_eq_true h)]; rfl
  · refine Ends.mk (Or.inl rfl) (AV.weak.of_eq ?_)
    rw [hotS, if_neg (of_decide_eq_false h)]; rfl
end Go.Proofs
namespace Go.Proofs
open Go Go.AI
set_option maxRecDepth 10000
theorem take_snoc {α : Type} {l : List α} {i : Nat} (hi : i < l.length) : l.take (i + 1) = l.take i ++ [l[i]] := by rw [List.take_add_one, List.getElem?_eq_getElem hi]; rfl
structure HotOK (s : Nat → Int) (l : List Aim3) : Prop where
  w0 : 0 ≤ s 16
  w1 : s 16 ≤ 10000
  c0 : 0 ≤ s 17
  c1 : s 17 ≤ 10000
  ln : l.length ≤ 64
theorem inS_inv {n a b : Int} (h : inS n a b = true) : a ≤ n ∧ n ≤ b := by simpa [inS] using h
theorem HotOK.of {s : Nat → Int} {l : List Aim3} (h : valS s l = true) : HotOK s l := by
  simp only [valS, areS, satS, Bool.and_eq_true, decide_eq_true_eq] at h
  obtain ⟨⟨_, hl⟩, ⟨⟨⟨_, _⟩, hw, hc, _⟩, _⟩⟩ := h
  have := inS_inv hw; have := inS_inv hc
  constructor <;> omega
def cnt (t : Int) (l : List Aim3) : Nat := (l.filter (hit t)).length
theorem cnt_le (t : Int) (l : List Aim3) : cnt t l ≤ l.length := List.length_filter_le _ _
def gS (s : Nat → Int) (l : List Aim3) (t : Int) : Int := gainS (s 16) (s 17) t l
theorem mul_rngP {w : Int} {n : Nat} (h0 : 0 ≤ w) (h1 : w ≤ 10000) (hn : n ≤ 64) : 0 ≤ w * n ∧ w * n ≤ 640000 :=
  ⟨Int.mul_nonneg h0 (by omega), Int.le_trans (Int.mul_le_mul h1 (show (n : Int) ≤ 64 by omega) (by omega) (by omega)) (by omega)⟩
theorem gS_eq {s : Nat → Int} {l : List Aim3} (h : HotOK s l) (t : Int) : gS s l t = s 16 * cnt t l - s 17 := by
  obtain ⟨w0, w1, c0, c1, ln⟩ := h
  have key : ∀ i : Nat, i ≤ l.length → gainS (s 16) (s 17) t (l.take i) = s 16 * cnt t (l.take i) - s 17 := by
    intro i
    induction i with
    | zero => intro _; simp [gainS, cnt]; exact (w64_in (by omega) (by omega)).trans (by omega)
    | succ i ih =>
      intro hi
      have hi2 : i < l.length := hi
      rw [take_snoc hi2, gainS_snoc, ih (by omega)]
      have hc := cnt_le t (l.take i)
      rw [List.length_take] at hc
      have hm := mul_rngP w0 w1 (n := cnt t (l.take i)) (by omega)
      have e : cnt t (l.take i ++ [l[i]]) = cnt t (l.take i) + if hit t l[i] then 1 else 0 := by
        unfold cnt; rw [List.filter_append, List.length_append]; congr 1
        simp only [List.filter_cons, List.filter_nil]; split <;> rfl
      rw [e]
      split
      · rw [w64_in (by omega) (by omega)]; rw [Int.natCast_add, Int.mul_add]; simp; omega
      · simp
  have := key l.length (Nat.le_refl _)
  rwa [List.take_length] at this
theorem gS_rng {s : Nat → Int} {l : List Aim3} (h : HotOK s l) (t : Int) : -10000 ≤ gS s l t ∧ gS s l t ≤ 640000 := by
  rw [gS_eq h]
  obtain ⟨w0, w1, c0, c1, ln⟩ := h
  have := mul_rngP w0 w1 (n := cnt t l) (by have := cnt_le t l; omega)
  omega
def hv (g : Int → Int) (a : Int) : Nat → Int
  | 0 => 0
  | n + 1 => max 0 (hv g a n + g (a + n))
theorem hv_rng {g : Int → Int} (hg : ∀ t, -10000 ≤ g t ∧ g t ≤ 640000) (a : Int) : ∀ n : Nat, 0 ≤ hv g a n ∧ hv g a n ≤ 640000 * (n : Int)
  | 0 => by simp [hv]
  | n + 1 => by
    have h1 := hv_rng hg a n
    have h2 := hg (a + n)
    simp only [hv]
    omega
theorem heat_run {s : Nat → Int} {l : List Aim3} (h : HotOK s l) (a : Int) : ∀ n : Nat, n ≤ 3000 →
    heatRun ((List.range n).map fun (i : Nat) => (a + i, gainS (s 16) (s 17) (a + (i : Int)) l)) = (hv (gS s l) a n, (List.range n).map fun i => hv (gS s l) a (i + 1))
  | 0, _ => rfl
  | n + 1, hn => by
    have ih := heat_run h a n (by omega)
    have h1 := hv_rng (gS_rng h) a n
    have h2 := gS_rng h (a + n)
    rw [List.range_succ, List.map_append, List.map_cons, List.map_nil, heatRun_snoc, ih]
    have e : max 0 (w64 (hv (gS s l) a n + gainS (s 16) (s 17) (a + (n : Int)) l)) = hv (gS s l) a (n + 1) := by
      rw [w64_in (by unfold gS at h2; omega) (by unfold gS at h2; omega)]; rfl
    simp [e]
theorem heats_eq {s : Nat → Int} {l : List Aim3} (h : HotOK s l) {a b : Int} (hab : b - a ≤ 3000) : heatsL s l a b = (List.range (b - a).toNat).map fun i => hv (gS s l) a (i + 1) := by
  unfold heatsL gainsL
  rw [heat_run h a _ (by omega)]
def slM (s : Nat → Int) (x y : Aim3) : Int := s 19 * max (x.k - y.k) (y.k - x.k)
structure SatB (s : Nat → Int) : Prop where
  w0 : 0 ≤ s 9
  w1 : s 9 ≤ 4
  r0 : 0 ≤ s 19
  r1 : s 19 ≤ 60
structure AimB (x : Aim3) : Prop where
  a0 : 0 ≤ x.a
  ab : x.a < x.b
  b1 : x.b ≤ 1000000
  k0 : -4 ≤ x.k
  k1 : x.k ≤ 4
theorem slB {s : Nat → Int} (hs : SatB s) {x y : Aim3} (hx : AimB x) (hy : AimB y) : 0 ≤ slM s x y ∧ slM s x y ≤ 480 ∧ slewK s x.k y.k = slM s x y := by
  obtain ⟨_, _, r0, r1⟩ := hs
  obtain ⟨_, _, _, x0, x1⟩ := hx
  obtain ⟨_, _, _, y0, y1⟩ := hy
  have m1 : 0 ≤ max (x.k - y.k) (y.k - x.k) := by omega
  have m2 : max (x.k - y.k) (y.k - x.k) ≤ 8 := by omega
  have p1 : 0 ≤ slM s x y := Int.mul_nonneg r0 m1
  have p2 : slM s x y ≤ 60 * 8 := Int.mul_le_mul r1 m2 m1 (by omega)
  refine ⟨p1, by omega, ?_⟩
  unfold slewK
  rw [w64_in (n := x.k - y.k) (by omega) (by omega), w64_in (n := y.k - x.k) (by omega) (by omega)]
  exact w64_in (by show _ ≤ slM s x y; omega) (by show slM s x y ≤ _; omega)
theorem slM_sym (s : Nat → Int) (x y : Aim3) : slM s x y = slM s y x := by unfold slM; rw [Int.max_comm]
theorem fitB {s : Nat → Int} (hs : SatB s) {x y : Aim3} (hx : AimB x) (hy : AimB y) : fitP s x y = true ↔ if y.a < x.a then x.a ≥ y.b + slM s x y else y.a ≥ x.b + slM s x y := by
  obtain ⟨p1, p2, p3⟩ := slB hs hx hy
  obtain ⟨q1, q2, q3⟩ := slB hs hy hx
  have := hx.a0; have := hx.ab; have := hx.b1; have := hy.a0; have := hy.ab; have := hy.b1
  unfold fitP fit1
  rw [slM_sym s x y]
  rw [slM_sym s x y] at p1 p2 p3
  split
  · rw [q3, w64_in (n := y.b + _) (by omega) (by omega)]; simp
  · rw [p3, w64_in (n := x.b + _) (by omega) (by omega)]; simp
end Go.Proofs
namespace Go.Proofs
open Go Go.AI
set_option maxRecDepth 10000
structure SlotT where
  p : Int
  a : Int
  b : Int
deriving DecidableEq
def slotA (x : SlotT) : List AV := [.int .i64 x.p, .int .i64 x.a, .int .i64 x.b]
structure Opt where
  id : Int
  ord : Int
  cl : Int
  sat : Int
  a : Int
  b : Int
  look : Int
  size : Int
  sl : List SlotT
def slotsA (l : List SlotT) : AV := .sl .no 3 (l.map slotA)
def optA (o : Opt) : List AV := [.int .i64 o.id, .int .i64 o.ord, .int .i64 o.cl, .int .i64 o.sat, .int .i64 o.a, .int .i64 o.b, .int .i64 o.look, .int .i64 o.size, slotsA o.sl]
def optsA (l : List Opt) : AV := .sl .no 9 (l.map optA)
theorem Tryz.z133 (n a b : Int) : ACalls Tryz.prog 153 [.int .i64 n, .int .i64 a, .int .i64 b] (.bool (inS n a b)) := by
  refine ACalls.ofB Tryz.T Tryz.func153 rfl (by kernel_rfl) Tryz.mixed (Nat.le_of_ble_eq_true rfl) ?_
  intro F n' w0 m0 hG hro h1
  repeat' first|refine Q1 ?_|refine Q2 ?_|refine Q3 hG Tryz.T Tryz.keep153 (by kernel_rfl) ?_|refine Q4 hG Tryz.T Tryz.keep153 (by kernel_rfl) ?_|refine Q5 hG Tryz.T ?_|refine Q6 hG Tryz.T ?_|refine Q7 hG Tryz.T ?_|refine Q8 hG Tryz.T ?_|refine Q9 rfl ?_|refine QF rfl ?_|refine QC rfl (And.intro (fun h => ?_) (fun h => ?_))|((conv => whnf); first|refine anF ?_|refine anT ?_|refine And.intro (by kernel_rfl) ?_|refine And.intro (fun h => ?_) (fun h => ?_)|refine Or.inl ?_|fail)
  all_goals refine Ends.mk (Or.inl rfl) (AV.weak.of_eq (congrArg AV.bool ?_))
  all_goals (simp_all [inS] <;> omega)
theorem Tryz.z183 (n a b : Int) : ACalls Tryz.prog 228 [.int .i64 n, .int .i64 a, .int .i64 b] (.bool (inS n a b)) := by
  refine ACalls.ofB Tryz.T Tryz.func228 rfl (by kernel_rfl) Tryz.mixed (Nat.le_of_ble_eq_true rfl) ?_
  intro F n' w0 m0 hG hro h1
  repeat' first|refine Q1 ?_|refine Q2 ?_|refine Q3 hG Tryz.T Tryz.keep228 (by kernel_rfl) ?_|refine Q4 hG Tryz.T Tryz.keep228 (by kernel_rfl) ?_|refine Q5 hG Tryz.T ?_|refine Q6 hG Tryz.T ?_|refine Q7 hG Tryz.T ?_|refine Q8 hG Tryz.T ?_|refine Q9 rfl ?_|refine QF rfl ?_|refine QC rfl (And.intro (fun h => ?_) (fun h => ?_))|((conv => whnf); first|refine anF ?_|refine anT ?_|refine And.intro (by kernel_rfl) ?_|refine And.intro (fun h => ?_) (fun h => ?_)|refine Or.inl ?_|fail)
  all_goals refine Ends.mk (Or.inl rfl) (AV.weak.of_eq (congrArg AV.bool ?_))
  all_goals (simp_all [inS] <;> omega)
theorem Tryz.z101 (n a b : Int) : ACalls Tryz.prog 104 [.int .i64 n, .int .i64 a, .int .i64 b] (.bool (inS n a b)) := by
  refine ACalls.ofB Tryz.T Tryz.func104 rfl (by kernel_rfl) Tryz.mixed (Nat.le_of_ble_eq_true rfl) ?_
  intro F n' w0 m0 hG hro h1
  repeat' first|refine Q1 ?_|refine Q2 ?_|refine Q3 hG Tryz.T Tryz.keep104 (by kernel_rfl) ?_|refine Q4 hG Tryz.T Tryz.keep104 (by kernel_rfl) ?_|refine Q5 hG Tryz.T ?_|refine Q6 hG Tryz.T ?_|refine Q7 hG Tryz.T ?_|refine Q8 hG Tryz.T ?_|refine Q9 rfl ?_|refine QF rfl ?_|refine QC rfl (And.intro (fun h => ?_) (fun h => ?_))|((conv => whnf); first|refine anF ?_|refine anT ?_|refine And.intro (by kernel_rfl) ?_|refine And.intro (fun h => ?_) (fun h => ?_)|refine Or.inl ?_|fail)
  all_goals refine Ends.mk (Or.inl rfl) (AV.weak.of_eq (congrArg AV.bool ?_))
  all_goals (simp_all [inS] <;> omega)
theorem Tryz.z82 (a b : Int) : ACalls Tryz.prog 83 [.agg (spellA a b)] (.bool (rightS a b)) := by
  refine ACalls.ofB Tryz.T Tryz.func83 rfl (by kernel_rfl) Tryz.mixed (Nat.le_of_ble_eq_true rfl) ?_
  intro F n' w0 m0 hG hro h1
  repeat' first|refine Q1 ?_|refine Q2 ?_|refine Q3 hG Tryz.T Tryz.keep83 (by kernel_rfl) ?_|refine Q4 hG Tryz.T Tryz.keep83 (by kernel_rfl) ?_|refine Q5 hG Tryz.T ?_|refine Q6 hG Tryz.T ?_|refine Q7 hG Tryz.T ?_|refine Q8 hG Tryz.T ?_|refine Q9 rfl ?_|refine QF rfl ?_|refine QC rfl (And.intro (fun h => ?_) (fun h => ?_))|((conv => whnf); first|refine anF ?_|refine anT ?_|refine And.intro (by kernel_rfl) ?_|refine Exists.intro _ (And.intro (Tryz.z133 _ _ _) ?_)|refine And.intro (fun h => ?_) (fun h => ?_)|refine Or.inl ?_|fail)
  all_goals refine Ends.mk (Or.inl rfl) (AV.weak.of_eq (congrArg AV.bool ?_))
  all_goals (simp only [rightS, *, Bool.true_and, Bool.and_true, Bool.false_and, Bool.and_false]; try rfl)
def isSp (a b : Int) : Bool := decide (0 ≤ a) && decide (a < b) && decide (b ≤ 1000001)
theorem Tryz.z146 (a b : Int) : ACalls Tryz.prog 170 [.agg (spellA a b)] (.bool (isSp a b)) := by
  refine ACalls.ofB Tryz.T Tryz.func170 rfl (by kernel_rfl) Tryz.mixed (Nat.le_of_ble_eq_true rfl) ?_
  intro F n' w0 m0 hG hro h1
  repeat' first|refine Q1 ?_|refine Q2 ?_|refine Q3 hG Tryz.T Tryz.keep170 (by kernel_rfl) ?_|refine Q4 hG Tryz.T Tryz.keep170 (by kernel_rfl) ?_|refine Q5 hG Tryz.T ?_|refine Q6 hG Tryz.T ?_|refine Q7 hG Tryz.T ?_|refine Q8 hG Tryz.T ?_|refine Q9 rfl ?_|refine QF rfl ?_|refine QC rfl (And.intro (fun h => ?_) (fun h => ?_))|((conv => whnf); first|refine anF ?_|refine anT ?_|refine And.intro (by kernel_rfl) ?_|refine And.intro (fun h => ?_) (fun h => ?_)|refine Or.inl ?_|fail)
  all_goals refine Ends.mk (Or.inl rfl) (AV.weak.of_eq (congrArg AV.bool ?_))
  all_goals (simp_all [isSp] <;> (intros; omega))
def isSpM (a b m : Int) : Bool := isSp a b && decide (w64 (b - a) ≤ m)
theorem Tryz.z182 (a b m : Int) : ACalls Tryz.prog 227 [.agg (spellA a b), .int .i64 m] (.bool (isSpM a b m)) := by
  refine ACalls.ofB Tryz.T Tryz.func227 rfl (by kernel_rfl) Tryz.mixed (Nat.le_of_ble_eq_true rfl) ?_
  intro F n' w0 m0 hG hro h1
  repeat' first|refine Q1 ?_|refine Q2 ?_|refine Q3 hG Tryz.T Tryz.keep227 (by kernel_rfl) ?_|refine Q4 hG Tryz.T Tryz.keep227 (by kernel_rfl) ?_|refine Q5 hG Tryz.T ?_|refine Q6 hG Tryz.T ?_|refine Q7 hG Tryz.T ?_|refine Q8 hG Tryz.T ?_|refine Q9 rfl ?_|refine QF rfl ?_|refine QC rfl (And.intro (fun h => ?_) (fun h => ?_))|((conv => whnf); first|refine anF ?_|refine anT ?_|refine And.intro (by kernel_rfl) ?_|refine And.intro (fun h => ?_) (fun h => ?_)|refine Or.inl ?_|fail)
  all_goals refine Ends.mk (Or.inl rfl) (AV.weak.of_eq (congrArg AV.bool ?_))
  all_goals (simp only [isSpM, isSp, w64, *, Bool.true_and, Bool.and_true, Bool.false_and, Bool.and_false]; try rfl)
def swathS (o : Nat → Int) (a b k : Int) : Bool := orbS o && isSpM a b 60 && inS k (-4) 4
theorem Tryz.z139 (o : Nat → Int) (a b k : Int) : ACalls Tryz.prog 161 [.agg (orbA o), .agg (spellA a b), .int .i64 k] (.bool (swathS o a b k)) := by
  refine ACalls.ofB Tryz.T Tryz.func161 rfl (by kernel_rfl) Tryz.mixed (Nat.le_of_ble_eq_true rfl) ?_
  intro F n' w0 m0 hG hro h1
  repeat' first|refine Q1 ?_|refine Q2 ?_|refine Q3 hG Tryz.T Tryz.keep161 (by kernel_rfl) ?_|refine Q4 hG Tryz.T Tryz.keep161 (by kernel_rfl) ?_|refine Q5 hG Tryz.T ?_|refine Q6 hG Tryz.T ?_|refine Q7 hG Tryz.T ?_|refine Q8 hG Tryz.T ?_|refine Q9 rfl ?_|refine QF rfl ?_|refine QC rfl (And.intro (fun h => ?_) (fun h => ?_))|((conv => whnf); first|refine anF ?_|refine anT ?_|refine And.intro (by kernel_rfl) ?_|refine Exists.intro _ (And.intro (Tryz.c17 o) ?_)|refine Exists.intro _ (And.intro (Tryz.z182 _ _ _) ?_)|refine Exists.intro _ (And.intro (Tryz.z183 _ _ _) ?_)|refine And.intro (fun h => ?_) (fun h => ?_)|refine Or.inl ?_|fail)
  all_goals refine Ends.mk (Or.inl rfl) (AV.weak.of_eq (congrArg AV.bool ?_))
  all_goals simp only [swathS, *, Bool.true_and, Bool.and_true, Bool.false_and, Bool.and_false]
def follow : Int → List SlotT → Bool
  | _, [] => true
  | t, x :: r => decide (t ≤ x.a) && isSp x.a x.b && follow x.b r
def canS (o : Opt) : Bool := follow o.b o.sl && (inS o.id 0 63 && inS o.size 1 1000000 && isSp o.a o.b && inS (o.sl.length : Int) 1 6)
theorem slot_at {l : List SlotT} {i : Nat} (h : i < l.length) : (l.map slotA)[(i : Int).toNat]? = some [.int .i64 (l.getD i ⟨0, 0, 0⟩).p, .int .i64 (l.getD i ⟨0, 0, 0⟩).a, .int .i64 (l.getD i ⟨0, 0, 0⟩).b] := by simp [List.getElem?_eq_getElem h]; rfl
theorem follow_step {t : Int} {l : List SlotT} {i : Nat} (h : i < l.length) : follow t (l.drop i) = (decide (t ≤ (l.getD i ⟨0, 0, 0⟩).a) && isSp (l.getD i ⟨0, 0, 0⟩).a (l.getD i ⟨0, 0, 0⟩).b && follow (l.getD i ⟨0, 0, 0⟩).b (l.drop (i + 1))) := by
  rw [List.drop_eq_getElem_cons h, List.getD_eq_getElem?_getD, List.getElem?_eq_getElem h]; rfl
set_option maxHeartbeats 4000000 in
theorem Tryz.z100 (o : Opt) (hl : o.sl.length ≤ 1000000) : ACalls Tryz.prog 103 [.agg (optA o)] (.bool (canS o)) := by
  have hlm : ((o.sl.map slotA).length : Int) = (o.sl.length : Int) := by rw [List.length_map]
  refine ACalls.ofB Tryz.T Tryz.func103 rfl (by kernel_rfl) Tryz.mixed (Nat.le_of_ble_eq_true rfl) ?_
  intro F n' w0 m0 hG hro h1
  repeat' first|refine Q1 ?_|refine Q2 ?_|refine Q3 hG Tryz.T Tryz.keep103 (by kernel_rfl) ?_|refine Q4 hG Tryz.T Tryz.keep103 (by kernel_rfl) ?_|refine Q5 hG Tryz.T ?_|refine Q6 hG Tryz.T ?_|refine Q7 hG Tryz.T ?_|refine Q8 hG Tryz.T ?_|refine Q9 rfl ?_|refine QF rfl ?_|refine QC rfl (And.intro (fun h => ?_) (fun h => ?_))|((conv => whnf); first|refine anF ?_|refine anT ?_|refine And.intro (by kernel_rfl) ?_|refine And.intro (fun h => ?_) (fun h => ?_)|refine Or.inl ?_|fail)
  refine SPB.loop (X := Nat × Int × Int) (fun q => ⟨[(11, .int .i64 q.1), (10, .int .i64 (o.sl.map slotA).length), (9, slotsA o.sl), (3, .loc 3 0), (1, .loc 1 0)], [(3, spellA q.2.1 q.2.2), (1, optA o)]⟩)
    (fun q => q.1 ≤ o.sl.length ∧ follow q.2.2 (o.sl.drop q.1) = follow o.b o.sl) (fun q => o.sl.length - q.1) (0, o.a, o.b) ⟨Nat.zero_le _, rfl⟩ (St.le.of ?_ ?_) (fun q hq => ?_)
  · repeat' (first | exact trivial | refine And.intro rfl ?_)
  · repeat' (first | exact trivial | refine And.intro rfl ?_)
  · obtain ⟨i, la, lb⟩ := q
    obtain ⟨hi, hf⟩ := hq
    have hi : i ≤ o.sl.length := hi
    have hf : follow lb (o.sl.drop i) = follow o.b o.sl := hf
    by_cases hlt : i < o.sl.length
    · have bbk : decide ((i : Int) < ((o.sl.map slotA).length : Int)) = false → False := fun h => by have := of_decide_eq_false h; omega
      have hx := slot_at hlt
      rw [follow_step hlt] at hf
      generalize o.sl.getD i ⟨0, 0, 0⟩ = x at hx hf
      have bad : (decide (lb ≤ x.a) && isSp x.a x.b) = false → false = canS o := fun h => by rw [h, Bool.false_and] at hf; rw [canS, ← hf, Bool.false_and]
      repeat' first|exact (bbk (by assumption)).elim|refine Q1 ?_|refine Q2 ?_|refine Q3 hG Tryz.T Tryz.keep103 (by kernel_rfl) ?_|refine Q4 hG Tryz.T Tryz.keep103 (by kernel_rfl) ?_|refine Q5 hG Tryz.T ?_|refine Q6 hG Tryz.T ?_|refine Q7 hG Tryz.T ?_|refine Q8 hG Tryz.T ?_|refine Q9 rfl ?_|refine QF rfl ?_|refine QC rfl (And.intro (fun h => ?_) (fun h => ?_))|((conv => whnf); first|refine anF ?_|refine anT ?_|refine And.intro (by kernel_rfl) ?_|refine And.intro (Int.natCast_nonneg i) (Exists.intro _ (And.intro hx ?_))|refine Exists.intro _ (And.intro (Tryz.z146 _ _) ?_)|refine And.intro (fun h => ?_) (fun h => ?_)|refine Or.inl ?_|fail)
      · have h := of_decide_eq_true (by assumption : decide (x.a < lb) = true)
        exact Ends.mk (Or.inl rfl) (AV.weak.of_eq (congrArg AV.bool (bad (by rw [decide_eq_false (by omega), Bool.false_and]))))
      · have h := notT (by assumption : (!isSp x.a x.b) = true)
        exact Ends.mk (Or.inl rfl) (AV.weak.of_eq (congrArg AV.bool (bad (by rw [h, Bool.and_false]))))
      · have h1 := of_decide_eq_false (by assumption : decide (x.a < lb) = false)
        have h2 := notF (by assumption : (!isSp x.a x.b) = false)
        rw [decide_eq_true (show lb ≤ x.a by omega), h2, Bool.true_and, Bool.true_and] at hf
        refine Exists.intro (i + 1, x.a, x.b) (And.intro ⟨hlt, hf⟩ (And.intro (by show o.sl.length - (i + 1) < o.sl.length - i; omega) (St.le.of ?_ ?_)))
        · refine And.intro (congrArg some (le_next (by omega))) ?_
          repeat' (first | exact trivial | refine And.intro rfl ?_)
        · repeat' (first | exact trivial | refine And.intro rfl ?_)
    · have hge : i = o.sl.length := by omega
      have bbk : decide ((i : Int) < ((o.sl.map slotA).length : Int)) = true → False := fun h => by have := of_decide_eq_true h; omega
      rw [List.drop_of_length_le (by omega)] at hf
      have hft : follow o.b o.sl = true := hf.symm
      clear hf
      repeat' first|exact (bbk (by assumption)).elim|refine Q1 ?_|refine Q2 ?_|refine Q3 hG Tryz.T Tryz.keep103 (by kernel_rfl) ?_|refine Q4 hG Tryz.T Tryz.keep103 (by kernel_rfl) ?_|refine Q5 hG Tryz.T ?_|refine Q6 hG Tryz.T ?_|refine Q7 hG Tryz.T ?_|refine Q8 hG Tryz.T ?_|refine Q9 rfl ?_|refine QF rfl ?_|refine QC rfl (And.intro (fun h => ?_) (fun h => ?_))|((conv => whnf); first|refine anF ?_|refine anT ?_|refine And.intro (by kernel_rfl) ?_|refine Exists.intro _ (And.intro (Tryz.z101 _ _ _) ?_)|refine Exists.intro _ (And.intro (Tryz.z146 _ _) ?_)|refine And.intro (fun h => ?_) (fun h => ?_)|refine Or.inl ?_|fail)
      all_goals refine Ends.mk (Or.inl rfl) (AV.weak.of_eq (congrArg AV.bool ?_))
      all_goals (rw [canS, hft]; simp only [hlm, *, Bool.true_and, Bool.and_true, Bool.false_and, Bool.and_false])
end Go.Proofs
namespace Go.Proofs
open Go Go.AI
def joinL (out : List Load3) (x : Load3) : List Load3 := match out.getLast? with
  | some y => if y.k = x.k ∧ x.a ≤ y.b then out.dropLast ++ [⟨y.k, y.a, max y.b x.b⟩] else out ++ [x]
  | none => [x]
def mergeL (l : List Load3) : List Load3 := l.foldl joinL []
def covL (l : List Load3) (k t : Int) : Prop := ∃ x ∈ l, x.k = k ∧ x.a ≤ t ∧ t < x.b
def apartL (x y : Load3) : Prop := x.k < y.k ∨ (x.k = y.k ∧ x.b < y.a)
structure CanL (l : List Load3) : Prop where
  ok : ∀ x ∈ l, x.a < x.b
  sep : l.Pairwise apartL
theorem CanL.tail {x : Load3} {l : List Load3} (h : CanL (x :: l)) : CanL l := ⟨fun y hy => h.ok y (List.mem_cons_of_mem _ hy), (List.pairwise_cons.1 h.sep).2⟩
theorem CanL.head {x : Load3} {l : List Load3} (h : CanL (x :: l)) : x.a < x.b ∧ ∀ y ∈ l, apartL x y := ⟨h.ok x List.mem_cons_self, (List.pairwise_cons.1 h.sep).1⟩
theorem CanL.cov_tail {x : Load3} {l : List Load3} (h : CanL (x :: l)) (k t : Int) : covL l k t ↔ covL (x :: l) k t ∧ ¬ (k = x.k ∧ x.a ≤ t ∧ t < x.b) := by
  constructor
  · rintro ⟨y, hy, h1, h2, h3⟩
    refine ⟨⟨y, List.mem_cons_of_mem _ hy, h1, h2, h3⟩, fun ⟨g1, g2, g3⟩ => ?_⟩
    rcases h.head.2 y hy with g | g <;> omega
  · rintro ⟨⟨y, hy, h1, h2, h3⟩, hn⟩
    rcases List.mem_cons.1 hy with rfl | hy
    · exact absurd ⟨h1.symm, h2, h3⟩ hn
    · exact ⟨y, hy, h1, h2, h3⟩
theorem CanL.cov_ge {x : Load3} {l : List Load3} (h : CanL (x :: l)) {k t : Int} (hc : covL (x :: l) k t) : x.k < k ∨ (x.k = k ∧ x.a ≤ t) := by
  obtain ⟨y, hy, h1, h2, h3⟩ := hc
  rcases List.mem_cons.1 hy with rfl | hy
  · right; omega
  · have := h.head.1
    rcases h.head.2 y hy with g | g <;> omega
theorem CanL.cov_end {x : Load3} {l : List Load3} (h : CanL (x :: l)) : ¬ covL (x :: l) x.k x.b := by
  rintro ⟨y, hy, h1, h2, h3⟩
  rcases List.mem_cons.1 hy with rfl | hy
  · omega
  · rcases h.head.2 y hy with g | g <;> omega
theorem CanL.cov_head {x : Load3} {l : List Load3} {t : Int} (h1 : x.a ≤ t) (h2 : t < x.b) : covL (x :: l) x.k t := ⟨x, List.mem_cons_self, rfl, h1, h2⟩
theorem CanL.unique : ∀ {l m : List Load3}, CanL l → CanL m → (∀ k t, covL l k t ↔ covL m k t) → l = m
  | [], [], _, _, _ => rfl
  | [], y :: m, _, hm, h => by
    obtain ⟨z, hz, _⟩ := (h y.k y.a).2 (CanL.cov_head (Int.le_refl _) hm.head.1)
    cases hz
  | x :: l, [], hl, _, h => by
    obtain ⟨z, hz, _⟩ := (h x.k x.a).1 (CanL.cov_head (Int.le_refl _) hl.head.1)
    cases hz
  | x :: l, y :: m, hl, hm, h => by
    have a1 := hm.cov_ge ((h x.k x.a).1 (CanL.cov_head (Int.le_refl _) hl.head.1))
    have a2 := hl.cov_ge ((h y.k y.a).2 (CanL.cov_head (Int.le_refl _) hm.head.1))
    have hk : x.k = y.k := by omega
    have ha : x.a = y.a := by omega
    have b1 : ¬ x.b < y.b := fun hb => hl.cov_end ((h x.k x.b).2 (by rw [hk]; exact CanL.cov_head (by have := hl.head.1; omega) hb))
    have b2 : ¬ y.b < x.b := fun hb => hm.cov_end ((h y.k y.b).1 (by rw [← hk]; exact CanL.cov_head (by have := hm.head.1; omega) hb))
    have hxy : x = y := by
      obtain ⟨xk, xa, xb⟩ := x
      obtain ⟨yk, ya, yb⟩ := y
      (try simp only [Load3.mk.injEq] at *)
      omega
    subst hxy
    rw [CanL.unique hl.tail hm.tail fun k t => by rw [hl.cov_tail, hm.cov_tail, h]]
theorem covL_append {l m : List Load3} {k t : Int} : covL (l ++ m) k t ↔ covL l k t ∨ covL m k t := by
  constructor
  · rintro ⟨x, hx, h⟩
    rcases List.mem_append.1 hx with hx | hx
    · exact .inl ⟨x, hx, h⟩
    · exact .inr ⟨x, hx, h⟩
  · rintro (⟨x, hx, h⟩ | ⟨x, hx, h⟩)
    · exact ⟨x, List.mem_append_left _ hx, h⟩
    · exact ⟨x, List.mem_append_right _ hx, h⟩
theorem covL_one {x : Load3} {k t : Int} : covL [x] k t ↔ x.k = k ∧ x.a ≤ t ∧ t < x.b :=
  ⟨fun ⟨y, hy, h⟩ => by rw [List.mem_singleton] at hy; subst hy; exact h, fun h => ⟨x, List.mem_singleton.2 rfl, h⟩⟩
theorem covL_perm {l m : List Load3} (h : l.Perm m) {k t : Int} : covL l k t ↔ covL m k t :=
  ⟨fun ⟨x, hx, g⟩ => ⟨x, h.mem_iff.1 hx, g⟩, fun ⟨x, hx, g⟩ => ⟨x, h.mem_iff.2 hx, g⟩⟩
def leL (x y : Load3) : Prop := x.k < y.k ∨ (x.k = y.k ∧ x.a ≤ y.a)
theorem canL_snoc {l : List Load3} {x : Load3} : CanL (l ++ [x]) ↔ CanL l ∧ x.a < x.b ∧ ∀ y ∈ l, apartL y x := by
  constructor
  · rintro ⟨h1, h2⟩
    obtain ⟨p1, _, p3⟩ := List.pairwise_append.1 h2
    exact ⟨⟨fun y hy => h1 y (List.mem_append_left _ hy), p1⟩, h1 x (by simp), fun y hy => p3 y hy x (by simp)⟩
  · rintro ⟨⟨h1, h2⟩, h3, h4⟩
    refine ⟨fun y hy => ?_, List.pairwise_append.2 ⟨h2, by simp, fun y hy z hz => ?_⟩⟩
    · rcases List.mem_append.1 hy with hy | hy
      · exact h1 y hy
      · rw [List.mem_singleton] at hy; subst hy; exact h3
    · rw [List.mem_singleton] at hz; subst hz; exact h4 y hy
theorem joinL_snoc (o : List Load3) (y x : Load3) : joinL (o ++ [y]) x = if y.k = x.k ∧ x.a ≤ y.b then o ++ [⟨y.k, y.a, max y.b x.b⟩] else o ++ [y] ++ [x] := by
  unfold joinL
  rw [List.getLast?_concat]
  simp only [List.dropLast_concat]
theorem snoc_cases {α : Type} (l : List α) : l = [] ∨ ∃ o y, l = o ++ [y] := by
  rcases List.eq_nil_or_concat l with h | ⟨o, y, h⟩
  · exact .inl h
  · exact .inr ⟨o, y, by rw [h, List.concat_eq_append]⟩
theorem joinL_ok {out : List Load3} {x : Load3} (h : CanL out) (hx : x.a < x.b) (hle : ∀ y ∈ out, leL y x) : CanL (joinL out x) ∧ (∀ k t, covL (joinL out x) k t ↔ covL out k t ∨ covL [x] k t) ∧ ∀ y ∈ joinL out x, ∀ z, leL x z → leL y z := by
  rcases snoc_cases out with rfl | ⟨o, y, rfl⟩
  · refine ⟨⟨fun y hy => ?_, by simp [joinL]⟩, fun k t => ?_, fun y hy z hz => ?_⟩
    · simp only [joinL, List.getLast?_nil, List.mem_singleton] at hy; subst hy; exact hx
    · simp only [joinL, List.getLast?_nil]
      exact ⟨.inr, fun h => h.elim (fun ⟨_, h, _⟩ => nomatch h) id⟩
    · simp only [joinL, List.getLast?_nil, List.mem_singleton] at hy; subst hy; exact hz
  · rw [joinL_snoc]
    obtain ⟨c1, c2, c3⟩ := canL_snoc.1 h
    have hyx := hle y (by simp)
    by_cases ht : y.k = x.k ∧ x.a ≤ y.b
    · rw [if_pos ht]
      have hya : y.a ≤ x.a := by rcases hyx with g | g <;> omega
      refine ⟨canL_snoc.2 ⟨c1, by show y.a < max y.b x.b; omega, fun z hz => ?_⟩, fun k t => ?_, fun z hz q hq => ?_⟩
      · have := c3 z hz
        unfold apartL at this ⊢
        exact this
      · rw [covL_append, covL_append, covL_one, covL_one, covL_one]
        simp only
        constructor
        · rintro (g0 | ⟨g1, g2, g3⟩)
          · exact .inl (.inl g0)
          by_cases g4 : t < y.b
          · exact .inl (.inr ⟨g1, g2, g4⟩)
          · exact .inr ⟨by omega, by omega, by omega⟩
        · rintro ((g0 | ⟨g1, g2, g3⟩) | ⟨g1, g2, g3⟩)
          · exact .inl g0
          · exact .inr ⟨g1, g2, by omega⟩
          · exact .inr ⟨by omega, by omega, by omega⟩
      · rcases List.mem_append.1 hz with hz | hz
        · have h1 := hle z (by simp [hz])
          unfold leL at *
          omega
        · rw [List.mem_singleton] at hz; subst hz
          unfold leL at *
          simp only
          omega
    · rw [if_neg ht]
      refine ⟨canL_snoc.2 ⟨h, hx, fun z hz => ?_⟩, fun k t => covL_append, fun z hz q hq => ?_⟩
      · rcases List.mem_append.1 hz with hz | hz
        · have h1 := c3 z hz
          unfold apartL leL at *
          have := c1.ok z hz
          omega
        · rw [List.mem_singleton] at hz; subst hz
          unfold apartL leL at *
          omega
      · rcases List.mem_append.1 hz with hz | hz
        · have h1 := hle z hz
          unfold leL at *
          omega
        · rw [List.mem_singleton] at hz; subst hz; exact hq
theorem leL_trans {x y z : Load3} (h1 : leL x y) (h2 : leL y z) : leL x z := by unfold leL at *; omega
theorem mergeL_run : ∀ (l out : List Load3), CanL out → (∀ x ∈ l, x.a < x.b) → l.Pairwise leL → (∀ y ∈ out, ∀ x ∈ l, leL y x) → CanL (l.foldl joinL out) ∧ ∀ k t, covL (l.foldl joinL out) k t ↔ covL out k t ∨ covL l k t
  | [], out, h, _, _, _ => ⟨h, fun k t => ⟨.inl, fun h => h.elim id fun ⟨_, h, _⟩ => nomatch h⟩⟩
  | x :: l, out, h, hx, hs, hle => by
    obtain ⟨s1, s2⟩ := List.pairwise_cons.1 hs
    obtain ⟨j1, j2, j3⟩ := joinL_ok h (hx x List.mem_cons_self) fun y hy => hle y hy x List.mem_cons_self
    obtain ⟨r1, r2⟩ := mergeL_run l (joinL out x) j1 (fun y hy => hx y (List.mem_cons_of_mem _ hy)) s2 fun y hy z hz => j3 y hy z (s1 z hz)
    refine ⟨r1, fun k t => ?_⟩
    rw [List.foldl_cons, r2, j2, or_assoc, ← covL_append]
    rfl
theorem mergeL_ok {l : List Load3} (hx : ∀ x ∈ l, x.a < x.b) (hs : l.Pairwise leL) : CanL (mergeL l) ∧ ∀ k t, covL (mergeL l) k t ↔ covL l k t := by
  obtain ⟨h1, h2⟩ := mergeL_run l [] ⟨by simp, by simp⟩ hx hs (by simp)
  exact ⟨h1, fun k t => (h2 k t).trans ⟨fun h => h.elim (fun ⟨_, h, _⟩ => nomatch h) id, .inr⟩⟩
def leLb (x y : Load3) : Bool := decide (x.k < y.k) || (decide (x.k = y.k) && decide (x.a ≤ y.a))
theorem leLb_iff {x y : Load3} : leLb x y = true ↔ leL x y := by simp [leLb, leL]
def canonL (l : List Load3) : List Load3 := mergeL (l.mergeSort leLb)
theorem sortL_ok (l : List Load3) : (l.mergeSort leLb).Pairwise leL :=
  (List.pairwise_mergeSort (le := leLb) (fun a b c h1 h2 => leLb_iff.2 (leL_trans (leLb_iff.1 h1) (leLb_iff.1 h2))) (fun a b => by simp only [leLb, Bool.or_eq_true, Bool.and_eq_true, decide_eq_true_eq]; omega) l).imp fun h => leLb_iff.1 h
theorem canonL_ok {l : List Load3} (hx : ∀ x ∈ l, x.a < x.b) : CanL (canonL l) ∧ ∀ k t, covL (canonL l) k t ↔ covL l k t := by
  have hp := List.mergeSort_perm l leLb
  obtain ⟨h1, h2⟩ := mergeL_ok (l := l.mergeSort leLb) (fun x h => hx x (hp.mem_iff.1 h)) (sortL_ok l)
  exact ⟨h1, fun k t => (h2 k t).trans (covL_perm hp)⟩
theorem merge_canon {l m : List Load3} (hx : ∀ x ∈ l, x.a < x.b) (hp : m.Perm l) (hs : m.Pairwise leL) : mergeL m = canonL l := by
  obtain ⟨h1, h2⟩ := mergeL_ok (fun x h => hx x (hp.mem_iff.1 h)) hs
  obtain ⟨h3, h4⟩ := canonL_ok hx
  exact h1.unique h3 fun k t => by rw [h2, h4, covL_perm hp]
theorem canonL_perm {l m : List Load3} (hx : ∀ x ∈ l, x.a < x.b) (hp : m.Perm l) : canonL m = canonL l := by
  obtain ⟨h1, h2⟩ := canonL_ok (l := m) fun x h => hx x (hp.mem_iff.1 h)
  obtain ⟨h3, h4⟩ := canonL_ok hx
  exact h1.unique h3 fun k t => by rw [h2, h4, covL_perm hp]
end Go.Proofs
namespace Go.Proofs
open Go Go.AI
structure Img where
  i : Int
  u : Int
  a : Int
  b : Int
deriving DecidableEq
def imgA (x : Img) : List AV := [.int .i64 x.i, .int .i64 x.u, .int .i64 x.a, .int .i64 x.b]
def imgsA (l : List Img) : AV := .sl .no 4 (l.map imgA)
def stepsOf : List Img → List (Int × Int)
  | [] => []
  | x :: r => (x.a, x.u) :: (x.b, 0 - x.u) :: stepsOf r
def sumTo (t : Int) : List (Int × Int) → Int
  | [] => 0
  | x :: r => (if x.1 ≤ t then x.2 else 0) + sumTo t r
def fillA (t : Int) : List Img → Int
  | [] => 0
  | x :: r => (if x.a ≤ t ∧ t < x.b then x.u else 0) + fillA t r
def fillsR : Int → List (Int × Int) → List (Int × Int)
  | _, [] => []
  | f, x :: [] => [(x.1, f + x.2)]
  | f, x :: y :: r => if y.1 = x.1 then fillsR (f + x.2) (y :: r) else (x.1, f + x.2) :: fillsR (f + x.2) (y :: r)
def overL (store : Int) : List (Int × Int) → Int
  | [] => -1
  | p :: r => if p.2 > store then p.1 else overL store r
theorem sumTo_steps (t : Int) : ∀ l : List Img, (∀ x ∈ l, x.a < x.b) → sumTo t (stepsOf l) = fillA t l
  | [], _ => rfl
  | x :: r, h => by
    have hx := h x List.mem_cons_self
    simp only [stepsOf, sumTo, fillA]
    rw [sumTo_steps t r fun y hy => h y (List.mem_cons_of_mem _ hy)]
    split <;> split <;> split <;> omega
theorem sumTo_perm {t : Int} {s s' : List (Int × Int)} (h : s.Perm s') : sumTo t s = sumTo t s' := by
  induction h with
  | nil => rfl
  | cons x _ ih => simp only [sumTo, ih]
  | swap x y l => simp only [sumTo]; omega
  | trans _ _ h1 h2 => exact h1.trans h2
theorem sumTo_congr {t t' : Int} : ∀ {s : List (Int × Int)}, (∀ y ∈ s, y.1 ≤ t ↔ y.1 ≤ t') → sumTo t s = sumTo t' s
  | [], _ => rfl
  | x :: r, h => by
    have hx := h x List.mem_cons_self
    simp only [sumTo]
    rw [sumTo_congr fun y hy => h y (List.mem_cons_of_mem _ hy)]
    by_cases h1 : x.1 ≤ t
    · rw [if_pos h1, if_pos (hx.1 h1)]
    · rw [if_neg h1, if_neg fun h2 => h1 (hx.2 h2)]
theorem sumTo_zero {t : Int} : ∀ {s : List (Int × Int)}, (∀ y ∈ s, t < y.1) → sumTo t s = 0
  | [], _ => rfl
  | x :: r, h => by
    have hx := h x List.mem_cons_self
    simp only [sumTo]
    rw [sumTo_zero fun y hy => h y (List.mem_cons_of_mem _ hy), if_neg (by omega)]; rfl
theorem fillsR_mem : ∀ (s : List (Int × Int)) (f : Int), s.Pairwise (fun x y => x.1 ≤ y.1) → ∀ p : Int × Int, p ∈ fillsR f s ↔ (∃ x ∈ s, x.1 = p.1) ∧ p.2 = f + sumTo p.1 s
  | [], f, _, p => by simp [fillsR]
  | x :: [], f, _, p => by
    simp only [fillsR, List.mem_singleton, exists_eq_left, sumTo]
    constructor
    · rintro rfl; exact ⟨rfl, by simp⟩
    · rintro ⟨h1, h2⟩
      rw [if_pos (by omega)] at h2
      exact Prod.ext h1.symm (by simp; omega)
  | x :: y :: r, f, hs, p => by
    obtain ⟨s1, s2⟩ := List.pairwise_cons.1 hs
    have ih := fillsR_mem (y :: r) (f + x.2) s2 p
    have hxy := s1 y List.mem_cons_self
    have hsum : sumTo p.1 (x :: y :: r) = (if x.1 ≤ p.1 then x.2 else 0) + sumTo p.1 (y :: r) := rfl
    rw [hsum]
    by_cases he : y.1 = x.1
    · rw [show fillsR f (x :: y :: r) = fillsR (f + x.2) (y :: r) from if_pos he, ih]
      constructor
      · rintro ⟨⟨z, hz, h1⟩, h2⟩
        have := s1 z hz
        refine ⟨⟨z, List.mem_cons_of_mem _ hz, h1⟩, ?_⟩
        rw [if_pos (by omega)]; omega
      · rintro ⟨⟨z, hz, h1⟩, h2⟩
        have hz' : ∃ z ∈ y :: r, z.1 = p.1 := by
          rcases List.mem_cons.1 hz with rfl | hz
          · exact ⟨y, List.mem_cons_self, by omega⟩
          · exact ⟨z, hz, h1⟩
        obtain ⟨q, hq, h3⟩ := hz'
        have := s1 q hq
        rw [if_pos (by omega)] at h2
        exact ⟨⟨q, hq, h3⟩, by omega⟩
    · rw [show fillsR f (x :: y :: r) = (x.1, f + x.2) :: fillsR (f + x.2) (y :: r) from if_neg he, List.mem_cons, ih]
      have hlt : ∀ z ∈ y :: r, x.1 < z.1 := fun z hz => by
        rcases List.mem_cons.1 hz with rfl | hz
        · omega
        · have := (List.pairwise_cons.1 s2).1 z hz
          omega
      constructor
      · rintro (rfl | ⟨⟨z, hz, h1⟩, h2⟩)
        · refine ⟨⟨x, List.mem_cons_self, rfl⟩, ?_⟩
          simp only [Int.le_refl, if_true]
          rw [sumTo_zero fun z hz => hlt z hz]; omega
        · have := hlt z hz
          refine ⟨⟨z, List.mem_cons_of_mem _ hz, h1⟩, ?_⟩
          rw [if_pos (by omega)]; omega
      · rintro ⟨⟨z, hz, h1⟩, h2⟩
        rcases List.mem_cons.1 hz with rfl | hz
        · left
          rw [if_pos (by omega), sumTo_zero fun z hz => by have := hlt z hz; omega] at h2
          exact Prod.ext h1.symm (by simp; omega)
        · right
          have := hlt z hz
          rw [if_pos (by omega)] at h2
          exact ⟨⟨z, hz, h1⟩, by omega⟩
theorem fillsR_asc : ∀ (s : List (Int × Int)) (f : Int), s.Pairwise (fun x y => x.1 ≤ y.1) → (fillsR f s).Pairwise fun x y => x.1 < y.1
  | [], f, _ => by simp [fillsR]
  | x :: [], f, _ => by simp [fillsR]
  | x :: y :: r, f, hs => by
    obtain ⟨s1, s2⟩ := List.pairwise_cons.1 hs
    have ih := fillsR_asc (y :: r) (f + x.2) s2
    have hxy := s1 y List.mem_cons_self
    by_cases he : y.1 = x.1
    · rw [show fillsR f (x :: y :: r) = fillsR (f + x.2) (y :: r) from if_pos he]; exact ih
    · rw [show fillsR f (x :: y :: r) = (x.1, f + x.2) :: fillsR (f + x.2) (y :: r) from if_neg he, List.pairwise_cons]
      refine ⟨fun p hp => ?_, ih⟩
      obtain ⟨⟨z, hz, h1⟩, _⟩ := (fillsR_mem _ _ s2 p).1 hp
      show x.1 < p.1
      rcases List.mem_cons.1 hz with rfl | hz
      · omega
      · have := (List.pairwise_cons.1 s2).1 z hz
        omega
theorem asc_unique : ∀ {l m : List (Int × Int)}, l.Pairwise (fun x y => x.1 < y.1) → m.Pairwise (fun x y => x.1 < y.1) → (∀ p, p ∈ l ↔ p ∈ m) → l = m
  | [], [], _, _, _ => rfl
  | [], y :: m, _, _, h => by have := (h y).2 List.mem_cons_self; cases this
  | x :: l, [], _, _, h => by have := (h x).1 List.mem_cons_self; cases this
  | x :: l, y :: m, h1, h2, h => by
    obtain ⟨p1, p2⟩ := List.pairwise_cons.1 h1
    obtain ⟨q1, q2⟩ := List.pairwise_cons.1 h2
    have hxy : x = y := by
      rcases List.mem_cons.1 ((h x).1 List.mem_cons_self) with e | e
      · exact e
      · rcases List.mem_cons.1 ((h y).2 List.mem_cons_self) with e' | e'
        · exact e'.symm
        · have := q1 x e; have := p1 y e'; omega
    subst hxy
    rw [asc_unique p2 q2 fun p => ?_]
    constructor
    · intro hp
      rcases List.mem_cons.1 ((h p).1 (List.mem_cons_of_mem _ hp)) with e | e
      · have := p1 p hp; rw [e] at this; omega
      · exact e
    · intro hp
      rcases List.mem_cons.1 ((h p).2 (List.mem_cons_of_mem _ hp)) with e | e
      · have := q1 p hp; rw [e] at this; omega
      · exact e
def leT (x y : Int × Int) : Bool := decide (x.1 ≤ y.1)
def fillsL (l : List Img) : List (Int × Int) := fillsR 0 ((stepsOf l).mergeSort leT)
theorem sortT_ok (s : List (Int × Int)) : (s.mergeSort leT).Pairwise fun x y => x.1 ≤ y.1 :=
  (List.pairwise_mergeSort (le := leT) (fun a b c h1 h2 => by (try simp only [leT, decide_eq_true_eq] at *); omega) (fun a b => by simp only [leT, Bool.or_eq_true, decide_eq_true_eq]; omega) s).imp fun h => by simpa [leT] using h
theorem fills_of {l : List Img} {s : List (Int × Int)} (hp : s.Perm (stepsOf l)) (hs : s.Pairwise fun x y => x.1 ≤ y.1) : fillsR 0 s = fillsL l := by
  have hq := List.mergeSort_perm (stepsOf l) leT
  refine asc_unique (fillsR_asc _ _ hs) (fillsR_asc _ _ (sortT_ok _)) fun p => ?_
  rw [fillsR_mem _ _ hs, fillsL, fillsR_mem _ _ (sortT_ok _), sumTo_perm hp, sumTo_perm hq]
  constructor
  · rintro ⟨⟨x, hx, h1⟩, h2⟩; exact ⟨⟨x, hq.mem_iff.2 (hp.mem_iff.1 hx), h1⟩, h2⟩
  · rintro ⟨⟨x, hx, h1⟩, h2⟩; exact ⟨⟨x, hp.mem_iff.2 (hq.mem_iff.1 hx), h1⟩, h2⟩
theorem fills_mem {l : List Img} (h : ∀ x ∈ l, x.a < x.b) (p : Int × Int) : p ∈ fillsL l ↔ (∃ x ∈ stepsOf l, x.1 = p.1) ∧ p.2 = fillA p.1 l := by
  have hq := List.mergeSort_perm (stepsOf l) leT
  unfold fillsL
  rw [fillsR_mem _ _ (sortT_ok _), sumTo_perm hq, sumTo_steps _ _ h, Int.zero_add]
  exact ⟨fun ⟨⟨x, hx, h1⟩, h2⟩ => ⟨⟨x, hq.mem_iff.1 hx, h1⟩, h2⟩, fun ⟨⟨x, hx, h1⟩, h2⟩ => ⟨⟨x, hq.mem_iff.2 hx, h1⟩, h2⟩⟩
theorem fills_asc (l : List Img) : (fillsL l).Pairwise fun x y => x.1 < y.1 := fillsR_asc _ _ (sortT_ok _)
def FirstOver (f : Int → Int) (store r : Int) : Prop := (r = -1 ∧ ∀ t, f t ≤ store) ∨ (0 ≤ r ∧ store < f r ∧ ∀ t, t < r → f t ≤ store)
theorem FirstOver.unique {f : Int → Int} {s r r' : Int} (h : FirstOver f s r) (h' : FirstOver f s r') : r = r' := by
  rcases h with ⟨rfl, h⟩ | ⟨h1, h2, h3⟩ <;> rcases h' with ⟨rfl, g⟩ | ⟨g1, g2, g3⟩
  · rfl
  · have := h r'; omega
  · have := g r; omega
  · have a1 : ¬ r < r' := fun hh => by have := g3 r hh; omega
    have a2 : ¬ r' < r := fun hh => by have := h3 r' hh; omega
    omega
theorem last_step (t : Int) : ∀ s : List (Int × Int), (∀ x ∈ s, t < x.1) ∨ ∃ x ∈ s, x.1 ≤ t ∧ ∀ y ∈ s, y.1 ≤ t → y.1 ≤ x.1
  | [] => .inl (by simp)
  | x :: r => by
    rcases last_step t r with h | ⟨z, hz, h1, h2⟩
    · by_cases hx : x.1 ≤ t
      · refine .inr ⟨x, List.mem_cons_self, hx, fun y hy hyt => ?_⟩
        rcases List.mem_cons.1 hy with rfl | hy
        · exact Int.le_refl _
        · have := h y hy; omega
      · refine .inl fun y hy => ?_
        rcases List.mem_cons.1 hy with rfl | hy
        · omega
        · exact h y hy
    · by_cases hx : x.1 ≤ t ∧ z.1 < x.1
      · refine .inr ⟨x, List.mem_cons_self, hx.1, fun y hy hyt => ?_⟩
        rcases List.mem_cons.1 hy with rfl | hy
        · exact Int.le_refl _
        · have := h2 y hy hyt; omega
      · refine .inr ⟨z, List.mem_cons_of_mem _ hz, h1, fun y hy hyt => ?_⟩
        rcases List.mem_cons.1 hy with rfl | hy
        · omega
        · exact h2 y hy hyt
theorem fill_last {l : List Img} (h : ∀ x ∈ l, x.a < x.b) (t : Int) : fillA t l = 0 ∨ ∃ p ∈ fillsL l, p.1 ≤ t ∧ p.2 = fillA t l := by
  rcases last_step t (stepsOf l) with g | ⟨z, hz, h1, h2⟩
  · left; rw [← sumTo_steps t l h]; exact sumTo_zero g
  · right
    have e : fillA z.1 l = fillA t l := by
      rw [← sumTo_steps t l h, ← sumTo_steps z.1 l h]
      exact sumTo_congr fun y hy => ⟨fun g => by omega, fun g => h2 y hy g⟩
    exact ⟨(z.1, fillA z.1 l), (fills_mem h _).2 ⟨⟨z, hz, rfl⟩, rfl⟩, h1, e⟩
theorem overL_spec (store : Int) : ∀ l : List (Int × Int), (∀ p ∈ l, 0 ≤ p.1) → l.Pairwise (fun x y => x.1 < y.1) → (overL store l = -1 ∧ ∀ p ∈ l, p.2 ≤ store) ∨ ∃ p ∈ l, overL store l = p.1 ∧ store < p.2 ∧ ∀ q ∈ l, q.1 < p.1 → q.2 ≤ store
  | [], _, _ => .inl ⟨rfl, by simp⟩
  | x :: r, h0, hs => by
    obtain ⟨s1, s2⟩ := List.pairwise_cons.1 hs
    by_cases hx : x.2 > store
    · refine .inr ⟨x, List.mem_cons_self, if_pos hx, hx, fun q hq hlt => ?_⟩
      rcases List.mem_cons.1 hq with rfl | hq
      · omega
      · have := s1 q hq; omega
    · rw [show overL store (x :: r) = overL store r from if_neg hx]
      rcases overL_spec store r (fun p hp => h0 p (List.mem_cons_of_mem _ hp)) s2 with ⟨h1, h2⟩ | ⟨p, hp, h1, h2, h3⟩
      · refine .inl ⟨h1, fun p hp => ?_⟩
        rcases List.mem_cons.1 hp with rfl | hp
        · omega
        · exact h2 p hp
      · refine .inr ⟨p, List.mem_cons_of_mem _ hp, h1, h2, fun q hq hlt => ?_⟩
        rcases List.mem_cons.1 hq with rfl | hq
        · omega
        · exact h3 q hq hlt
theorem steps_mem {l : List Img} {x : Int × Int} (h : x ∈ stepsOf l) : ∃ y ∈ l, x.1 = y.a ∨ x.1 = y.b := by
  induction l with
  | nil => cases h
  | cons z r ih =>
    simp only [stepsOf, List.mem_cons] at h
    rcases h with rfl | rfl | h
    · exact ⟨z, List.mem_cons_self, .inl rfl⟩
    · exact ⟨z, List.mem_cons_self, .inr rfl⟩
    · obtain ⟨y, hy, h⟩ := ih h
      exact ⟨y, List.mem_cons_of_mem _ hy, h⟩
theorem over_first {l : List Img} (h : ∀ x ∈ l, 0 ≤ x.a ∧ x.a < x.b) {store : Int} (h0 : 0 ≤ store) : FirstOver (fun t => fillA t l) store (overL store (fillsL l)) := by
  have hab : ∀ x ∈ l, x.a < x.b := fun x hx => (h x hx).2
  have hpos : ∀ p ∈ fillsL l, 0 ≤ p.1 := fun p hp => by
    obtain ⟨⟨x, hx, h1⟩, _⟩ := (fills_mem hab p).1 hp
    obtain ⟨y, hy, h2⟩ := steps_mem hx
    have := h y hy
    rcases h2 with h2 | h2 <;> omega
  have hval : ∀ p ∈ fillsL l, p.2 = fillA p.1 l := fun p hp => ((fills_mem hab p).1 hp).2
  rcases overL_spec store (fillsL l) hpos (fills_asc l) with ⟨h1, h2⟩ | ⟨p, hp, h1, h2, h3⟩
  · refine .inl ⟨h1, fun t => ?_⟩
    rcases fill_last hab t with g | ⟨q, hq, _, g⟩
    · simp only [g]; exact h0
    · have := h2 q hq
      simp only
      omega
  · refine .inr ⟨by rw [h1]; exact hpos p hp, by rw [h1]; simp only; rw [← hval p hp]; exact h2, fun t ht => ?_⟩
    rcases fill_last hab t with g | ⟨q, hq, g1, g⟩
    · simp only [g]; exact h0
    · have := h3 q hq (by omega)
      simp only
      omega
theorem fillA_perm {t : Int} {l m : List Img} (h : l.Perm m) : fillA t l = fillA t m := by
  induction h with
  | nil => rfl
  | cons x _ ih => simp only [fillA, ih]
  | swap x y l => simp only [fillA]; omega
  | trans _ _ h1 h2 => exact h1.trans h2
end Go.Proofs
namespace Go.Proofs
open Go Go.AI
def rawA (l : List Opt) : List Load3 := l.map fun o => ⟨1, o.a, o.b⟩
def rawB (l : List Opt) : List Load3 := l.flatMap fun o => o.sl.map fun x => ⟨2, x.a, x.b⟩
def rawL (l : List Opt) : List Load3 := rawA l ++ rawB l
def badA (l : List Opt) : Bool := l.any fun o => !rightS o.a o.b || decide (6 < o.sl.length)
def badB (l : List Opt) : Bool := l.any fun o => o.sl.any fun x => !rightS x.a x.b
def badL (l : List Opt) : Bool := decide (8 < l.length) || badA l || badB l
def optLoads (l : List Opt) : List Load3 := if badL l then [] else canonL (rawL l)
theorem right_iff {a b : Int} : rightS a b = true ↔ 0 ≤ a ∧ a < b ∧ b ≤ 1000000 := by
  constructor
  · exact right_b
  · rintro ⟨h1, h2, h3⟩
    unfold rightS inS
    rw [show w64 (b - 1) = b - 1 from w64_in (by omega) (by omega)]
    simp; omega
structure GoodL (l : List Opt) : Prop where
  n : l.length ≤ 8
  shot : ∀ o ∈ l, 0 ≤ o.a ∧ o.a < o.b ∧ o.b ≤ 1000000 ∧ o.sl.length ≤ 6
  slot : ∀ o ∈ l, ∀ x ∈ o.sl, 0 ≤ x.a ∧ x.a < x.b ∧ x.b ≤ 1000000
theorem good_iff {l : List Opt} : badL l = false ↔ GoodL l := by
  constructor
  · intro h
    simp only [badL, badA, badB, Bool.or_eq_false_iff, decide_eq_false_iff_not, List.any_eq_false, Bool.or_eq_true, Bool.not_eq_true', decide_eq_true_eq, not_or, Bool.not_eq_true, Bool.not_eq_false] at h
    obtain ⟨⟨h1, h2⟩, h3⟩ := h
    refine ⟨by omega, fun o ho => ?_, fun o ho x hx => ?_⟩
    · obtain ⟨g1, g2⟩ := h2 o ho
      have := right_b g1
      omega
    · have := h3 o ho x hx
      exact right_b (by simpa using this)
  · rintro ⟨h1, h2, h3⟩
    simp only [badL, badA, badB, Bool.or_eq_false_iff, decide_eq_false_iff_not, List.any_eq_false, Bool.or_eq_true, Bool.not_eq_true', decide_eq_true_eq, not_or, Bool.not_eq_true, Bool.not_eq_false]
    refine ⟨⟨by omega, fun o ho => ?_⟩, fun o ho x hx => ?_⟩
    · have := h2 o ho
      exact ⟨right_iff.2 (by omega), by omega⟩
    · have := h3 o ho x hx
      simpa using right_iff.2 this
theorem rawL_mem {l : List Opt} {x : Load3} : x ∈ rawL l ↔ (∃ o ∈ l, x = ⟨1, o.a, o.b⟩) ∨ ∃ o ∈ l, ∃ y ∈ o.sl, x = ⟨2, y.a, y.b⟩ := by
  simp only [rawL, rawA, rawB, List.mem_append, List.mem_map, List.mem_flatMap]
  constructor
  · rintro (⟨o, ho, rfl⟩ | ⟨o, ho, y, hy, rfl⟩)
    · exact .inl ⟨o, ho, rfl⟩
    · exact .inr ⟨o, ho, y, hy, rfl⟩
  · rintro (⟨o, ho, rfl⟩ | ⟨o, ho, y, hy, rfl⟩)
    · exact .inl ⟨o, ho, rfl⟩
    · exact .inr ⟨o, ho, y, hy, rfl⟩
theorem GoodL.raw {l : List Opt} (h : GoodL l) : ∀ x ∈ rawL l, (x.k = 1 ∨ x.k = 2) ∧ 0 ≤ x.a ∧ x.a < x.b ∧ x.b ≤ 1000000 := fun x hx => by
  rcases rawL_mem.1 hx with ⟨o, ho, rfl⟩ | ⟨o, ho, y, hy, rfl⟩
  · have := h.shot o ho; exact ⟨.inl rfl, this.1, this.2.1, this.2.2.1⟩
  · exact ⟨.inr rfl, h.slot o ho y hy⟩
theorem joinL_len (out : List Load3) (x : Load3) : (joinL out x).length ≤ out.length + 1 := by
  rcases snoc_cases out with rfl | ⟨o, y, rfl⟩
  · simp [joinL]
  · rw [joinL_snoc]
    split <;> simp
theorem mergeL_len : ∀ (l out : List Load3), (l.foldl joinL out).length ≤ out.length + l.length
  | [], out => by simp
  | x :: l, out => by
    have h1 := mergeL_len l (joinL out x)
    have h2 := joinL_len out x
    simp only [List.foldl_cons, List.length_cons]
    omega
theorem canonL_len (l : List Load3) : (canonL l).length ≤ l.length := by
  have := mergeL_len (l.mergeSort leLb) []
  have h2 := (List.mergeSort_perm l leLb).length_eq
  simp only [List.length_nil, Nat.zero_add, h2] at this
  exact this
theorem flat_len (n : Nat) : ∀ l : List Opt, (∀ o ∈ l, o.sl.length ≤ n) → (rawB l).length ≤ n * l.length
  | [], _ => by simp [rawB]
  | o :: r, h => by
    have h1 := flat_len n r fun x hx => h x (List.mem_cons_of_mem _ hx)
    have h2 := h o List.mem_cons_self
    simp only [rawB, List.flatMap_cons, List.length_append, List.length_map, List.length_cons, Nat.mul_add, Nat.mul_one] at h1 ⊢
    omega
theorem GoodL.len {l : List Opt} (h : GoodL l) : (rawL l).length ≤ 56 := by
  have h1 := flat_len 6 l fun o ho => (h.shot o ho).2.2.2
  have h2 := h.n
  simp only [rawL, rawA, List.length_append, List.length_map]
  omega
theorem okL_can : ∀ (rest pre : List Load3), CanL (pre ++ rest) → (∀ x ∈ rest, (x.k = 1 ∨ x.k = 2) ∧ 0 ≤ x.a ∧ x.b ≤ 1000000) → okL pre rest = true
  | [], _, _, _ => rfl
  | x :: r, pre, h, hb => by
    have hx := hb x List.mem_cons_self
    have hok := h.ok x (by simp)
    have hsep := (List.pairwise_append.1 h.sep).2.2
    have ih := okL_can r (pre ++ [x]) (by simpa using h) fun y hy => hb y (List.mem_cons_of_mem _ hy)
    rw [okL, ih, Bool.and_true, loadOK, right_iff.2 (by omega), show inS x.k 1 2 = true from by unfold inS; simp; omega]
    simp only [Bool.true_and, Bool.not_eq_true', List.any_eq_false, overS, Bool.and_eq_true, decide_eq_true_eq, not_and]
    intro y hy g1 g2
    have := hsep y hy x List.mem_cons_self
    unfold apartL at this
    omega
theorem can_bounds {l m : List Load3} (h : CanL m) (hc : ∀ k t, covL m k t ↔ covL l k t) (hl : ∀ x ∈ l, (x.k = 1 ∨ x.k = 2) ∧ 0 ≤ x.a ∧ x.a < x.b ∧ x.b ≤ 1000000) : ∀ x ∈ m, (x.k = 1 ∨ x.k = 2) ∧ 0 ≤ x.a ∧ x.b ≤ 1000000 := fun x hx => by
  have hok := h.ok x hx
  obtain ⟨y, hy, h1, h2, h3⟩ := (hc x.k x.a).1 ⟨x, hx, rfl, Int.le_refl _, hok⟩
  obtain ⟨z, hz, g1, g2, g3⟩ := (hc x.k (x.b - 1)).1 ⟨x, hx, rfl, by omega, by omega⟩
  have b1 := hl y hy
  have b2 := hl z hz
  rw [h1] at b1
  exact ⟨b1.1, by omega, by omega⟩
theorem GoodL.loads {l : List Opt} (h : GoodL l) : optLoads l = canonL (rawL l) := by unfold optLoads; rw [good_iff.2 h]; rfl
theorem GoodL.can {l : List Opt} (h : GoodL l) : CanL (optLoads l) ∧ ∀ k t, covL (optLoads l) k t ↔ covL (rawL l) k t := by
  rw [h.loads]; exact canonL_ok fun x hx => (h.raw x hx).2.2.1
theorem GoodL.proper {l : List Opt} (h : GoodL l) : properS (optLoads l) = true := by
  obtain ⟨h1, h2⟩ := h.can
  have hlen : (optLoads l).length ≤ 56 := by rw [h.loads]; exact Nat.le_trans (canonL_len _) h.len
  unfold properS
  rw [decide_eq_true (by omega), Bool.true_and]
  exact okL_can _ [] h1 (can_bounds h1 h2 h.raw)
end Go.Proofs
namespace Go.Proofs
open Go Go.AI
def nextS (r : List (Int × Int) × (Int × Int)) (o : Int × Int) : List (Int × Int) × (Int × Int) := if o.2 < r.2.1 ∨ o.1 > r.2.2 then (r.1 ++ [o], r.2) else (r.1, (min r.2.1 o.1, max r.2.2 o.2))
def insS (next : List (Int × Int)) (s : Int × Int) : List (Int × Int) := next.takeWhile (fun x => decide (x.1 < s.1)) ++ s :: next.dropWhile (fun x => decide (x.1 < s.1))
def stepS (out : List (Int × Int)) (s : Int × Int) : List (Int × Int) := insS (out.foldl nextS ([], s)).1 (out.foldl nextS ([], s)).2
def joinedS (l : List (Int × Int)) : List (Int × Int) := l.foldl stepS []
structure CanS (l : List (Int × Int)) : Prop where
  ok : ∀ x ∈ l, x.1 < x.2
  sep : l.Pairwise fun x y => x.2 < y.1
def covS (l : List (Int × Int)) (t : Int) : Prop := ∃ x ∈ l, x.1 ≤ t ∧ t < x.2
theorem covS_append {l m : List (Int × Int)} {t : Int} : covS (l ++ m) t ↔ covS l t ∨ covS m t := by
  constructor
  · rintro ⟨x, hx, h⟩
    rcases List.mem_append.1 hx with hx | hx
    · exact .inl ⟨x, hx, h⟩
    · exact .inr ⟨x, hx, h⟩
  · rintro (⟨x, hx, h⟩ | ⟨x, hx, h⟩)
    · exact ⟨x, List.mem_append_left _ hx, h⟩
    · exact ⟨x, List.mem_append_right _ hx, h⟩
theorem covS_one {x : Int × Int} {t : Int} : covS [x] t ↔ x.1 ≤ t ∧ t < x.2 :=
  ⟨fun ⟨y, hy, h⟩ => by rw [List.mem_singleton] at hy; subst hy; exact h, fun h => ⟨x, List.mem_singleton.2 rfl, h⟩⟩
structure NxOK (s : Int × Int) (pre : List (Int × Int)) (r : List (Int × Int) × (Int × Int)) : Prop where
  lt : r.2.1 < r.2.2
  mem : ∀ x ∈ r.1, x ∈ pre ∧ (x.2 < r.2.1 ∨ r.2.2 < x.1)
  sep : r.1.Pairwise fun x y => x.2 < y.1
  cov : ∀ t, (covS r.1 t ∨ (r.2.1 ≤ t ∧ t < r.2.2)) ↔ (covS pre t ∨ (s.1 ≤ t ∧ t < s.2))
theorem next_run {s : Int × Int} : ∀ (rest pre : List (Int × Int)) (r : List (Int × Int) × (Int × Int)), CanS (pre ++ rest) → NxOK s pre r → NxOK s (pre ++ rest) (rest.foldl nextS r)
  | [], pre, r, _, h => by simpa using h
  | q :: rest, pre, r, hc, h => by
    have hsep := (List.pairwise_append.1 hc.sep).2.2
    have hq : ∀ x ∈ pre, x.2 < q.1 := fun x hx => hsep x hx q List.mem_cons_self
    have hqq := hc.ok q (by simp)
    have hpre : ∀ x ∈ pre, x.1 < x.2 := fun x hx => hc.ok x (List.mem_append_left _ hx)
    have hc' : CanS ((pre ++ [q]) ++ rest) := by simpa using hc
    have := next_run (s := s) rest (pre ++ [q]) (nextS r q) hc' ?_
    · simpa using this
    · have hs := h.lt
      unfold nextS
      split
      · rename_i hn
        refine ⟨hs, fun x hx => ?_, List.pairwise_append.2 ⟨h.sep, by simp, fun x hx y hy => ?_⟩, fun t => ?_⟩
        · rcases List.mem_append.1 hx with hx | hx
          · exact ⟨List.mem_append_left _ (h.mem x hx).1, (h.mem x hx).2⟩
          · rw [List.mem_singleton] at hx; subst hx
            exact ⟨by simp, by simp only; omega⟩
        · rw [List.mem_singleton] at hy; subst hy
          exact hq x (h.mem x hx).1
        · have := h.cov t
          simp only [covS_append, covS_one]
          constructor
          · rintro ((g | g) | g)
            · rcases this.1 (.inl g) with g | g
              · exact .inl (.inl g)
              · exact .inr g
            · exact .inl (.inr g)
            · rcases this.1 (.inr g) with g | g
              · exact .inl (.inl g)
              · exact .inr g
          · rintro ((g | g) | g)
            · rcases this.2 (.inl g) with g | g
              · exact .inl (.inl g)
              · exact .inr g
            · exact .inl (.inr g)
            · rcases this.2 (.inr g) with g | g
              · exact .inl (.inl g)
              · exact .inr g
      · rename_i hn
        have h1 : ¬ q.2 < r.2.1 := fun g => hn (.inl g)
        have h2 : ¬ q.1 > r.2.2 := fun g => hn (.inr g)
        refine ⟨by simp only; omega, fun x hx => ?_, h.sep, fun t => ?_⟩
        · obtain ⟨m1, m2⟩ := h.mem x hx
          refine ⟨List.mem_append_left _ m1, ?_⟩
          have g1 := hq x m1
          have g2 := hpre x m1
          simp only
          omega
        · have := h.cov t
          simp only [covS_append, covS_one]
          have e : (min r.2.1 q.1 ≤ t ∧ t < max r.2.2 q.2) ↔ (r.2.1 ≤ t ∧ t < r.2.2) ∨ (q.1 ≤ t ∧ t < q.2) := by omega
          rw [e]
          constructor
          · rintro (g | g | g)
            · rcases this.1 (.inl g) with g | g
              · exact .inl (.inl g)
              · exact .inr g
            · rcases this.1 (.inr g) with g | g
              · exact .inl (.inl g)
              · exact .inr g
            · exact .inl (.inr g)
          · rintro ((g | g) | g)
            · rcases this.2 (.inl g) with g | g
              · exact .inl g
              · exact .inr (.inl g)
            · exact .inr (.inr g)
            · rcases this.2 (.inr g) with g | g
              · exact .inl g
              · exact .inr (.inl g)
theorem takeW_mem {α : Type} {p : α → Bool} : ∀ {l : List α} {x : α}, x ∈ l.takeWhile p → p x = true
  | [], x, h => by cases h
  | y :: r, x, h => by
    rw [List.takeWhile_cons] at h
    split at h
    · rcases List.mem_cons.1 h with rfl | h
      · assumption
      · exact takeW_mem h
    · cases h
theorem dropW_ge {s : Int} : ∀ {l : List (Int × Int)}, l.Pairwise (fun x y => x.2 < y.1) → (∀ x ∈ l, x.1 < x.2) → ∀ x ∈ l.dropWhile (fun x => decide (x.1 < s)), s ≤ x.1
  | [], _, _, x, h => by cases h
  | y :: r, hs, hok, x, h => by
    rw [List.dropWhile_cons] at h
    split at h
    · exact dropW_ge (List.pairwise_cons.1 hs).2 (fun z hz => hok z (List.mem_cons_of_mem _ hz)) x h
    · rename_i hn
      have hn : ¬ y.1 < s := by simpa using hn
      rcases List.mem_cons.1 h with rfl | h
      · omega
      · have := (List.pairwise_cons.1 hs).1 x h
        have := hok y List.mem_cons_self
        omega
theorem stepS_ok {out : List (Int × Int)} {s : Int × Int} (h : CanS out) (hs : s.1 < s.2) : CanS (stepS out s) ∧ ∀ t, covS (stepS out s) t ↔ covS out t ∨ (s.1 ≤ t ∧ t < s.2) := by
  have hn := next_run (s := s) out [] ([], s) (by simpa using h) ⟨hs, by simp, by simp, fun t => by simp⟩
  simp only [List.nil_append] at hn
  unfold stepS
  generalize out.foldl nextS ([], s) = r at hn
  obtain ⟨next, s'⟩ := r
  have hs' : s'.1 < s'.2 := hn.lt
  have hmem := hn.mem
  have hsep := hn.sep
  have hcov := hn.cov
  simp only at hmem hsep hcov ⊢
  have hok : ∀ x ∈ next, x.1 < x.2 := fun x hx => h.ok x (hmem x hx).1
  have hta : ∀ x ∈ next.takeWhile (fun x => decide (x.1 < s'.1)), x ∈ next ∧ x.2 < s'.1 := fun x hx => by
    have h1 := takeW_mem hx
    have h2 := (List.takeWhile_sublist _).subset hx
    have h3 := (hmem x h2).2
    have h4 := hok x h2
    simp only [decide_eq_true_eq] at h1
    exact ⟨h2, by omega⟩
  have hdr : ∀ x ∈ next.dropWhile (fun x => decide (x.1 < s'.1)), x ∈ next ∧ s'.2 < x.1 := fun x hx => by
    have h1 := dropW_ge hsep hok x hx
    have h2 := (List.dropWhile_sublist _).subset hx
    have h3 := (hmem x h2).2
    have h4 := hok x h2
    exact ⟨h2, by omega⟩
  refine ⟨⟨fun x hx => ?_, ?_⟩, fun t => ?_⟩
  · unfold insS at hx
    rcases List.mem_append.1 hx with hx | hx
    · exact hok x (hta x hx).1
    · rcases List.mem_cons.1 hx with rfl | hx
      · exact hs'
      · exact hok x (hdr x hx).1
  · unfold insS
    refine List.pairwise_append.2 ⟨hsep.sublist (List.takeWhile_sublist _), List.pairwise_cons.2 ⟨fun x hx => (hdr x hx).2, hsep.sublist (List.dropWhile_sublist _)⟩, fun x hx y hy => ?_⟩
    have h1 := (hta x hx).2
    rcases List.mem_cons.1 hy with rfl | hy
    · exact h1
    · have := (hdr y hy).2; omega
  · rw [← hcov t]
    have e : covS next t ↔ covS (next.takeWhile (fun x => decide (x.1 < s'.1))) t ∨ covS (next.dropWhile (fun x => decide (x.1 < s'.1))) t := by
      rw [← covS_append, List.takeWhile_append_dropWhile]
    rw [e]
    unfold insS
    rw [covS_append, show s' :: next.dropWhile (fun x => decide (x.1 < s'.1)) = [s'] ++ next.dropWhile (fun x => decide (x.1 < s'.1)) from rfl, covS_append, covS_one]
    constructor
    · rintro (g | g | g)
      · exact .inl (.inl g)
      · exact .inr g
      · exact .inl (.inr g)
    · rintro ((g | g) | g)
      · exact .inl g
      · exact .inr (.inr g)
      · exact .inr (.inl g)
theorem joined_run : ∀ (l out : List (Int × Int)), CanS out → (∀ x ∈ l, x.1 < x.2) → CanS (l.foldl stepS out) ∧ ∀ t, covS (l.foldl stepS out) t ↔ covS out t ∨ covS l t
  | [], out, h, _ => ⟨h, fun t => ⟨.inl, fun h => h.elim id fun ⟨_, h, _⟩ => nomatch h⟩⟩
  | x :: l, out, h, hx => by
    obtain ⟨j1, j2⟩ := stepS_ok h (hx x List.mem_cons_self)
    obtain ⟨r1, r2⟩ := joined_run l (stepS out x) j1 fun y hy => hx y (List.mem_cons_of_mem _ hy)
    refine ⟨r1, fun t => ?_⟩
    rw [List.foldl_cons, r2, j2, or_assoc, ← covS_one, ← covS_append]
    rfl
theorem joinedS_ok {l : List (Int × Int)} (h : ∀ x ∈ l, x.1 < x.2) : CanS (joinedS l) ∧ ∀ t, covS (joinedS l) t ↔ covS l t := by
  obtain ⟨h1, h2⟩ := joined_run l [] ⟨by simp, by simp⟩ h
  exact ⟨h1, fun t => (h2 t).trans ⟨fun h => h.elim (fun ⟨_, h, _⟩ => nomatch h) id, .inr⟩⟩
def mkK (k : Int) (x : Int × Int) : Load3 := ⟨k, x.1, x.2⟩
theorem mkK_cov {k k' t : Int} {l : List (Int × Int)} : covL (l.map (mkK k)) k' t ↔ k = k' ∧ covS l t := by
  constructor
  · rintro ⟨x, hx, h1, h2, h3⟩
    obtain ⟨y, hy, rfl⟩ := List.mem_map.1 hx
    exact ⟨h1, y, hy, h2, h3⟩
  · rintro ⟨rfl, y, hy, h2, h3⟩
    exact ⟨mkK k y, List.mem_map.2 ⟨y, hy, rfl⟩, rfl, h2, h3⟩
def shotP (l : List Opt) : List (Int × Int) := l.map fun o => (o.a, o.b)
def sentP (l : List Opt) : List (Int × Int) := l.flatMap fun o => o.sl.map fun x => (x.a, x.b)
theorem rawA_eq (l : List Opt) : rawA l = (shotP l).map (mkK 1) := by simp [rawA, shotP, mkK]
theorem rawB_eq (l : List Opt) : rawB l = (sentP l).map (mkK 2) := by
  unfold rawB sentP
  rw [List.map_flatMap]
  congr 1
  funext o
  simp [mkK]
theorem GoodL.ref {l : List Opt} (h : GoodL l) : (joinedS (shotP l)).map (mkK 1) ++ (joinedS (sentP l)).map (mkK 2) = optLoads l := by
  have hA : ∀ x ∈ shotP l, x.1 < x.2 := fun x hx => by
    obtain ⟨o, ho, rfl⟩ := List.mem_map.1 hx
    exact (h.shot o ho).2.1
  have hB : ∀ x ∈ sentP l, x.1 < x.2 := fun x hx => by
    obtain ⟨o, ho, hx⟩ := List.mem_flatMap.1 hx
    obtain ⟨y, hy, rfl⟩ := List.mem_map.1 hx
    exact (h.slot o ho y hy).2.1
  obtain ⟨a1, a2⟩ := joinedS_ok hA
  obtain ⟨b1, b2⟩ := joinedS_ok hB
  obtain ⟨c1, c2⟩ := h.can
  refine CanL.unique ⟨fun x hx => ?_, List.pairwise_append.2 ⟨?_, ?_, fun x hx y hy => ?_⟩⟩ c1 fun k t => ?_
  · rcases List.mem_append.1 hx with hx | hx
    · obtain ⟨y, hy, rfl⟩ := List.mem_map.1 hx; exact a1.ok y hy
    · obtain ⟨y, hy, rfl⟩ := List.mem_map.1 hx; exact b1.ok y hy
  · exact List.pairwise_map.2 (a1.sep.imp fun h => .inr ⟨rfl, h⟩)
  · exact List.pairwise_map.2 (b1.sep.imp fun h => .inr ⟨rfl, h⟩)
  · obtain ⟨p, hp, rfl⟩ := List.mem_map.1 hx
    obtain ⟨q, hq, rfl⟩ := List.mem_map.1 hy
    exact .inl (by show (1 : Int) < 2; omega)
  · rw [c2, covL_append, rawL, covL_append, rawA_eq, rawB_eq, mkK_cov, mkK_cov, mkK_cov, mkK_cov, a2, b2]
end Go.Proofs
namespace Go.Proofs
open Go Go.AI
theorem idxF_rng {α : Type} (p : α → Bool) : ∀ (l : List α) (k : Nat), (idxF p l k = -1 ∧ ∀ x ∈ l, p x = false) ∨ (k ≤ idxF p l k ∧ idxF p l k < k + l.length ∧ ∃ x ∈ l, p x = true)
  | [], k => .inl ⟨rfl, by simp⟩
  | x :: r, k => by
    simp only [idxF]
    by_cases h : p x = true
    · rw [if_pos h]; right; simp only [List.length_cons]; exact ⟨by omega, by omega, x, List.mem_cons_self, h⟩
    · rw [if_neg h]
      rcases idxF_rng p r (k + 1) with ⟨h1, h2⟩ | ⟨h1, h2, y, h3, h4⟩
      · left; refine ⟨h1, fun y hy => ?_⟩
        rcases List.mem_cons.1 hy with rfl | hy
        · simpa using h
        · exact h2 y hy
      · right; simp only [List.length_cons]; exact ⟨by omega, by omega, y, List.mem_cons_of_mem _ h3, h4⟩
theorem hotS_iff (s : Nat → Int) (l : List Aim3) {a b : Int} (ha : 0 ≤ a ∧ a ≤ 1000000) (hab : b - a ≤ 3000) :
    (hotS s l a b = -1 ∧ ∀ x ∈ heatsL s l a b, x ≤ s 18) ∨ (0 ≤ hotS s l a b ∧ ∃ x ∈ heatsL s l a b, s 18 < x) := by
  have hl := heatsL_len s l a b
  unfold hotS
  rcases idxF_rng (fun h => decide (h > s 18)) (heatsL s l a b) 0 with ⟨h1, h2⟩ | ⟨h1, h2, y, h3, h4⟩
  · left
    simp only [h1]
    exact ⟨rfl, fun x hx => by have := of_decide_eq_false (h2 x hx); omega⟩
  · right
    simp only
    rw [if_pos (by omega), w64_in (by omega) (by omega)]
    exact ⟨by omega, y, h3, of_decide_eq_true h4⟩
theorem heats_mem {s : Nat → Int} {l : List Aim3} (h : HotOK s l) {a b : Int} (hab : b - a ≤ 3000) {x : Int} : x ∈ heatsL s l a b ↔ ∃ i, i < (b - a).toNat ∧ x = hv (gS s l) a (i + 1) := by
  rw [heats_eq h hab, List.mem_map]
  constructor
  · rintro ⟨i, hi, rfl⟩; exact ⟨i, List.mem_range.1 hi, rfl⟩
  · rintro ⟨i, hi, rfl⟩; exact ⟨i, List.mem_range.2 hi, rfl⟩
theorem fit_sym {s : Nat → Int} (hs : SatB s) {x y : Aim3} (hx : AimB x) (hy : AimB y) : fitP s x y = fitP s y x := by
  rw [Bool.eq_iff_iff, fitB hs hx hy, fitB hs hy hx, slM_sym s y x]
  have := (slB hs hx hy).1; have := hx.ab; have := hy.ab
  split <;> split <;> omega
theorem fit_less {s s' : Nat → Int} (hs : SatB s) (hs' : SatB s') (h : s' 19 ≤ s 19) {x y : Aim3} (hx : AimB x) (hy : AimB y) (hf : fitP s x y = true) : fitP s' x y = true := by
  rw [fitB hs hx hy] at hf
  rw [fitB hs' hx hy]
  have : slM s' x y ≤ slM s x y := Int.mul_le_mul_of_nonneg_right h (by omega)
  split at hf <;> (rename_i hc; simp only [hc, if_true, if_false]; omega)
theorem slewO_none {s : Nat → Int} {l : List Aim3} : slewO s l = none ↔ l.Pairwise fun x y => fitP s x y = true := by
  rw [List.pairwise_iff_getElem]
  unfold slewO slewJ slewI
  simp only [List.findSome?_eq_none_iff, List.mem_range]
  constructor
  · intro h i k hi hk hik
    have := h k hk i hik
    rw [aimAt_eq hi, aimAt_eq hk] at this
    split at this
    · assumption
    · cases this
  · intro h k hk i hik
    have hi : i < l.length := by omega
    rw [aimAt_eq hi, aimAt_eq hk, if_pos (h i k hi hk hik)]
theorem hv_mono {g g' : Int → Int} (h : ∀ t, g t ≤ g' t) (a : Int) : ∀ n : Nat, hv g a n ≤ hv g' a n
  | 0 => Int.le_refl _
  | n + 1 => by
    have := hv_mono h a n
    have := h (a + n)
    simp only [hv]
    omega
theorem cnt_sub {l l' : List Aim3} (h : l'.Sublist l) (t : Int) : cnt t l' ≤ cnt t l := (h.filter _).length_le
theorem cnt_perm {l l' : List Aim3} (h : l'.Perm l) (t : Int) : cnt t l' = cnt t l := (h.filter _).length_eq
theorem gS_sub {s : Nat → Int} {l l' : List Aim3} (h : HotOK s l) (h' : HotOK s l') (hs : l'.Sublist l) (t : Int) : gS s l' t ≤ gS s l t := by
  rw [gS_eq h, gS_eq h']
  have := Int.mul_le_mul_of_nonneg_left (show (cnt t l' : Int) ≤ cnt t l by have := cnt_sub hs t; omega) h.w0
  omega
theorem gS_perm {s : Nat → Int} {l l' : List Aim3} (h : HotOK s l) (h' : HotOK s l') (hp : l'.Perm l) (t : Int) : gS s l' t = gS s l t := by
  rw [gS_eq h, gS_eq h', cnt_perm hp]
theorem hotOK_sub {s : Nat → Int} {l l' : List Aim3} (h : HotOK s l) (hl : l'.length ≤ l.length) : HotOK s l' := ⟨h.w0, h.w1, h.c0, h.c1, by have := h.ln; omega⟩
theorem heats_perm {s : Nat → Int} {l l' : List Aim3} (h : HotOK s l) (hp : l'.Perm l) {a b : Int} (hab : b - a ≤ 3000) : heatsL s l' a b = heatsL s l a b := by
  have h' := hotOK_sub h (Nat.le_of_eq hp.length_eq)
  rw [heats_eq h' hab, heats_eq h hab, show gS s l' = gS s l from funext (gS_perm h h' hp)]
theorem pairs_perm {s : Nat → Int} (hs : SatB s) {l l' : List Aim3} (hx : ∀ x ∈ l, AimB x) (hp : l'.Perm l) : (l'.Pairwise fun x y => fitP s x y = true) ↔ l.Pairwise fun x y => fitP s x y = true := by
  have key : ∀ {l l' : List Aim3}, (∀ x ∈ l, AimB x) → l.Perm l' → (l.Pairwise fun x y => fitP s x y = true) → l'.Pairwise fun x y => fitP s x y = true := by
    intro l l' hx hp h
    have h1 : l.Pairwise fun x y => AimB x → AimB y → fitP s x y = true := h.imp fun h _ _ => h
    have h2 : l'.Pairwise fun x y => AimB x → AimB y → fitP s x y = true := hp.pairwise h1 fun {x y} h hy hx => by rw [fit_sym hs hy hx]; exact h hx hy
    exact h2.imp_of_mem fun {x y} mx my h => h (hx _ (hp.mem_iff.2 mx)) (hx _ (hp.mem_iff.2 my))
  exact ⟨key (fun x hm => hx x (hp.mem_iff.1 hm)) hp, key hx hp.symm⟩
end Go.Proofs
namespace Go.Proofs
open Go Go.AI
def opt0 : Opt := ⟨0, 0, 0, 0, 0, 0, 0, 0, []⟩
def slot0 : SlotT := ⟨0, 0, 0⟩
def optAt (l : List Opt) (i : Nat) : Opt := l.getD i opt0
def slotAt (o : Opt) (i : Nat) : SlotT := o.sl.getD i slot0
def lastB (o : Opt) : Int := (slotAt o (o.sl.length - 1)).b
def aimsOf (l : List Opt) : List Aim3 := l.map fun o => ⟨o.a, o.b, o.look⟩
def worstL (l : List Opt) : List Img := l.map fun o => ⟨o.id, o.size, o.a, lastB o⟩
structure Flt where
  k : Int
  a : Int
  b : Int
  t : Int
deriving DecidableEq
def fltA (x : Flt) : List AV := [.int .i64 x.k, .int .i64 x.a, .int .i64 x.b, .int .i64 x.t]
def fltsA (l : List Flt) : AV := .sl .no 4 (l.map fltA)
def meetStep (f : Int) (x y : Int × Int) : Int := if max x.1 y.1 < min x.2 y.2 ∧ (f < 0 ∨ max x.1 y.1 < f) then max x.1 y.1 else f
def meetP (xs ys : List (Int × Int)) : Int := xs.foldl (fun f x => ys.foldl (fun f y => meetStep f x y) f) (-1)
def slP (o : Opt) : List (Int × Int) := o.sl.map fun x => (x.a, x.b)
def meetL (a b : Opt) : Int := meetP (slP a) (slP b)
def sendI (l : List Opt) (k i : Nat) : Option (Nat × Nat × Int) := if meetL (optAt l i) (optAt l k) ≥ 0 then some (i, k, meetL (optAt l i) (optAt l k)) else none
def sendJ (l : List Opt) (k : Nat) : Option (Nat × Nat × Int) := (List.range k).findSome? (sendI l k)
def sendO (l : List Opt) : Option (Nat × Nat × Int) := (List.range l.length).findSome? (sendJ l)
def minF (k sat t : Int) : Option Flt := if t = -1 then none else some ⟨k, sat, 0, t⟩
def slewF (s : Nat → Int) (l : List Opt) : Option Flt := match slewO s (aimsOf l) with
  | none => none
  | some (i, k) => some ⟨2, (optAt l i).id, (optAt l k).id, (optAt l k).a⟩
def heatF (s : Nat → Int) (l : List Opt) (a b : Int) : Option Flt := minF 3 (s 0) (hotS s (aimsOf l) a b)
def storeT (s : Nat → Int) (l : List Opt) : Int := overL (s 10) (fillsL (worstL l))
def storeF (s : Nat → Int) (l : List Opt) : Option Flt := minF 4 (s 0) (storeT s l)
def chargeF (s : Nat → Int) (l : List Opt) (a b : Int) : Option Flt := minF 5 (s 0) (emptyS s (optLoads l) a b)
def sendF (l : List Opt) : Option Flt := match sendO l with
  | none => none
  | some (i, k, t) => some ⟨6, (optAt l i).id, (optAt l k).id, t⟩
def ruleF (s : Nat → Int) (l : List Opt) (a b : Int) : List (Option Flt) := [slewF s l, heatF s l a b, storeF s l, chargeF s l a b, sendF l]
def faultsL (s : Nat → Int) (l : List Opt) (a b : Int) : List Flt := (ruleF s l a b).filterMap id
def hasF (l : List Flt) (k : Int) : Bool := l.any fun x => decide (x.k = k)
theorem faults_eq (s : Nat → Int) (l : List Opt) (a b : Int) : faultsL s l a b = (slewF s l).toList ++ ((heatF s l a b).toList ++ ((storeF s l).toList ++ ((chargeF s l a b).toList ++ (sendF l).toList))) := by
  unfold faultsL ruleF
  cases slewF s l <;> cases heatF s l a b <;> cases storeF s l <;> cases chargeF s l a b <;> cases sendF l <;> rfl
theorem slewF_k {s : Nat → Int} {l : List Opt} {x : Flt} (h : slewF s l = some x) : x.k = 2 := by
  unfold slewF at h
  split at h <;> cases h; rfl
theorem minF_k {k sat t : Int} {x : Flt} (h : minF k sat t = some x) : x.k = k := by
  unfold minF at h
  split at h <;> cases h; rfl
theorem sendF_k {l : List Opt} {x : Flt} (h : sendF l = some x) : x.k = 6 := by
  unfold sendF at h
  split at h <;> cases h; rfl
theorem any_toList {o : Option Flt} {k k' : Int} (h : ∀ x, o = some x → x.k = k) : o.toList.any (fun x => decide (x.k = k')) = (decide (k = k') && o.isSome) := by
  cases o with
  | none => simp
  | some x => simp [h x rfl]
theorem hasF_eq (s : Nat → Int) (l : List Opt) (a b k : Int) : hasF (faultsL s l a b) k = ((decide (2 = k) && (slewF s l).isSome) || ((decide (3 = k) && (heatF s l a b).isSome) || ((decide (4 = k) && (storeF s l).isSome) || ((decide (5 = k) && (chargeF s l a b).isSome) || (decide (6 = k) && (sendF l).isSome))))) := by
  unfold hasF
  rw [faults_eq]
  simp only [List.any_append]
  rw [any_toList (o := slewF s l) (k := 2) fun x h => slewF_k h, any_toList (o := heatF s l a b) (k := 3) fun x h => minF_k h, any_toList (o := storeF s l) (k := 4) fun x h => minF_k h, any_toList (o := chargeF s l a b) (k := 5) fun x h => minF_k h, any_toList (o := sendF l) (k := 6) fun x h => sendF_k h]
theorem has2 (s : Nat → Int) (l : List Opt) (a b : Int) : hasF (faultsL s l a b) 2 = (slewF s l).isSome := by rw [hasF_eq]; simp
theorem has3 (s : Nat → Int) (l : List Opt) (a b : Int) : hasF (faultsL s l a b) 3 = (heatF s l a b).isSome := by rw [hasF_eq]; simp
theorem has4 (s : Nat → Int) (l : List Opt) (a b : Int) : hasF (faultsL s l a b) 4 = (storeF s l).isSome := by rw [hasF_eq]; simp
theorem has5 (s : Nat → Int) (l : List Opt) (a b : Int) : hasF (faultsL s l a b) 5 = (chargeF s l a b).isSome := by rw [hasF_eq]; simp
theorem has6 (s : Nat → Int) (l : List Opt) (a b : Int) : hasF (faultsL s l a b) 6 = (sendF l).isSome := by rw [hasF_eq]; simp
theorem sub_faults {s s' : Nat → Int} {l l' : List Opt} {a b : Int} (h2 : (slewF s' l').isSome = true → (slewF s l).isSome = true) (h3 : (heatF s' l' a b).isSome = true → (heatF s l a b).isSome = true)
    (h4 : (storeF s' l').isSome = true → (storeF s l).isSome = true) (h5 : (chargeF s' l' a b).isSome = true → (chargeF s l a b).isSome = true) (h6 : (sendF l').isSome = true → (sendF l).isSome = true) :
    ∀ x ∈ faultsL s' l' a b, hasF (faultsL s l a b) x.k = true := fun x hx => by
  rw [faults_eq] at hx
  simp only [List.mem_append, Option.mem_toList] at hx
  rcases hx with h | h | h | h | h
  · rw [slewF_k h, has2]; exact h2 (by rw [h]; rfl)
  · rw [minF_k h, has3]; exact h3 (by rw [h]; rfl)
  · rw [minF_k h, has4]; exact h4 (by rw [h]; rfl)
  · rw [minF_k h, has5]; exact h5 (by rw [h]; rfl)
  · rw [sendF_k h, has6]; exact h6 (by rw [h]; rfl)
theorem faults_rise (s : Nat → Int) (l : List Opt) (a b : Int) : (faultsL s l a b).Pairwise fun x y => x.k < y.k := by
  rw [faults_eq]
  have tl : ∀ {o : Option Flt} {m : List Flt} {k : Int}, (∀ x, o = some x → x.k = k) → (∀ y ∈ m, k < y.k) → m.Pairwise (fun x y => x.k < y.k) → (o.toList ++ m).Pairwise fun x y => x.k < y.k := by
    intro o m k h1 h2 h3
    cases o with
    | none => exact h3
    | some x => exact List.pairwise_cons.2 ⟨fun y hy => by rw [h1 x rfl]; exact h2 y hy, h3⟩
  have k2 : ∀ x, slewF s l = some x → x.k = 2 := fun x h => slewF_k h
  have k3 : ∀ x, heatF s l a b = some x → x.k = 3 := fun x h => minF_k h
  have k4 : ∀ x, storeF s l = some x → x.k = 4 := fun x h => minF_k h
  have k5 : ∀ x, chargeF s l a b = some x → x.k = 5 := fun x h => minF_k h
  have k6 : ∀ x, sendF l = some x → x.k = 6 := fun x h => sendF_k h
  refine tl k2 (fun y hy => ?_) (tl k3 (fun y hy => ?_) (tl k4 (fun y hy => ?_) (tl k5 (fun y hy => ?_) ?_)))
  · simp only [List.mem_append, Option.mem_toList] at hy
    rcases hy with h | h | h | h
    · rw [k3 y h]; omega
    · rw [k4 y h]; omega
    · rw [k5 y h]; omega
    · rw [k6 y h]; omega
  · simp only [List.mem_append, Option.mem_toList] at hy
    rcases hy with h | h | h
    · rw [k4 y h]; omega
    · rw [k5 y h]; omega
    · rw [k6 y h]; omega
  · simp only [List.mem_append, Option.mem_toList] at hy
    rcases hy with h | h
    · rw [k5 y h]; omega
    · rw [k6 y h]; omega
  · simp only [Option.mem_toList] at hy
    rw [k6 y hy]; omega
  · cases sendF l <;> simp
theorem meetStep_ge {f : Int} {x y : Int × Int} (hx : 0 ≤ x.1) : 0 ≤ meetStep f x y ↔ 0 ≤ f ∨ max x.1 y.1 < min x.2 y.2 := by
  unfold meetStep
  split
  · rename_i h; omega
  · rename_i h; omega
theorem meet_in {x : Int × Int} (hx : 0 ≤ x.1) : ∀ (ys : List (Int × Int)) (f : Int), 0 ≤ ys.foldl (fun f y => meetStep f x y) f ↔ 0 ≤ f ∨ ∃ y ∈ ys, max x.1 y.1 < min x.2 y.2
  | [], f => by simp
  | y :: ys, f => by
    rw [List.foldl_cons, meet_in hx ys, meetStep_ge hx]
    simp only [List.mem_cons, exists_eq_or_imp, or_assoc]
theorem meet_out : ∀ (xs ys : List (Int × Int)) (f : Int), (∀ x ∈ xs, 0 ≤ x.1) → (0 ≤ xs.foldl (fun f x => ys.foldl (fun f y => meetStep f x y) f) f ↔ 0 ≤ f ∨ ∃ x ∈ xs, ∃ y ∈ ys, max x.1 y.1 < min x.2 y.2)
  | [], ys, f, _ => by simp
  | x :: xs, ys, f, h => by
    rw [List.foldl_cons, meet_out xs ys _ fun z hz => h z (List.mem_cons_of_mem _ hz), meet_in (h x List.mem_cons_self)]
    simp only [List.mem_cons, exists_eq_or_imp, or_assoc]
def Meets (a b : Opt) : Prop := ∃ x ∈ slP a, ∃ y ∈ slP b, max x.1 y.1 < min x.2 y.2
theorem meetL_iff {a b : Opt} (h : ∀ x ∈ a.sl, 0 ≤ x.a) : meetL a b ≥ 0 ↔ Meets a b := by
  have := meet_out (slP a) (slP b) (-1) fun x hx => by
    obtain ⟨y, hy, rfl⟩ := List.mem_map.1 hx
    exact h y hy
  unfold meetL meetP Meets
  constructor
  · intro g
    rcases this.1 g with g | g
    · omega
    · exact g
  · exact fun g => this.2 (.inr g)
theorem Meets.symm {a b : Opt} (h : Meets a b) : Meets b a := by
  obtain ⟨x, hx, y, hy, h⟩ := h
  exact ⟨y, hy, x, hx, by omega⟩
theorem optAt_eq {l : List Opt} {i : Nat} (h : i < l.length) : optAt l i = l[i] := by simp [optAt, List.getD_eq_getElem?_getD, List.getElem?_eq_getElem h]
theorem sendO_none {l : List Opt} : sendO l = none ↔ l.Pairwise fun x y => ¬ meetL x y ≥ 0 := by
  rw [List.pairwise_iff_getElem]
  unfold sendO sendJ sendI
  simp only [List.findSome?_eq_none_iff, List.mem_range]
  constructor
  · intro h i k hi hk hik
    have := h k hk i hik
    rw [optAt_eq hi, optAt_eq hk] at this
    split at this
    · cases this
    · assumption
  · intro h k hk i hik
    have hi : i < l.length := by omega
    rw [optAt_eq hi, optAt_eq hk, if_neg (h i k hi hk hik)]
theorem slewF_none {s : Nat → Int} {l : List Opt} : (slewF s l).isSome = false ↔ (aimsOf l).Pairwise fun x y => fitP s x y = true := by
  rw [← slewO_none]
  unfold slewF
  cases slewO s (aimsOf l) with
  | none => simp
  | some p => simp
theorem sendF_none {l : List Opt} : (sendF l).isSome = false ↔ l.Pairwise fun x y => ¬ meetL x y ≥ 0 := by
  rw [← sendO_none]
  unfold sendF
  cases sendO l with
  | none => simp
  | some p => simp
theorem minF_none {k sat t : Int} : (minF k sat t).isSome = false ↔ t = -1 := by
  unfold minF
  split <;> simp_all
end Go.Proofs
namespace Go.Proofs
open Go Go.AI
theorem isSome_of {α : Type} {p q : Option α} (h : p.isSome = false → q.isSome = false) : q.isSome = true → p.isSome = true := by
  cases hp : p.isSome with
  | true => intro _; rfl
  | false => intro hq; rw [h hp] at hq; cases hq
theorem heat_le {s s' : Nat → Int} {l l' : List Opt} {a b : Int} (ha : 0 ≤ a ∧ a ≤ 1000000) (hab : b - a ≤ 3000) (h : HotOK s (aimsOf l)) (h' : HotOK s' (aimsOf l')) (hg : ∀ t, gS s' (aimsOf l') t ≤ gS s (aimsOf l) t) (h18 : s 18 ≤ s' 18) :
    (heatF s' l' a b).isSome = true → (heatF s l a b).isSome = true := isSome_of fun hn => by
  unfold heatF at *
  rw [minF_none] at *
  rcases hotS_iff s (aimsOf l) ha hab with ⟨_, h2⟩ | ⟨h1, _⟩
  · rcases hotS_iff s' (aimsOf l') ha hab with ⟨h3, _⟩ | ⟨_, x, h4, h5⟩
    · exact h3
    · obtain ⟨i, hi, rfl⟩ := (heats_mem h' hab).1 h4
      have h6 := h2 _ ((heats_mem h hab).2 ⟨i, hi, rfl⟩)
      have h7 := hv_mono hg a (i + 1)
      omega
  · omega
theorem heat_eq {s : Nat → Int} {l l' : List Opt} {a b : Int} (hab : b - a ≤ 3000) (h : HotOK s (aimsOf l)) (hp : l'.Perm l) : heatF s l' a b = heatF s l a b := by
  unfold heatF hotS
  rw [show heatsL s (aimsOf l') a b = heatsL s (aimsOf l) a b from heats_perm h (hp.map _) hab]
theorem isp_of {l : List Opt} (h : ∀ o ∈ l, 0 ≤ o.a ∧ o.a < lastB o) : ∀ x ∈ worstL l, 0 ≤ x.a ∧ x.a < x.b := fun x hx => by
  obtain ⟨o, ho, rfl⟩ := List.mem_map.1 hx
  exact h o ho
theorem store_le {s s' : Nat → Int} {l l' : List Opt} (h : ∀ o ∈ l, 0 ≤ o.a ∧ o.a < lastB o) (h' : ∀ o ∈ l', 0 ≤ o.a ∧ o.a < lastB o) (h0 : 0 ≤ s 10) (h10 : s 10 ≤ s' 10) (hf : ∀ t, fillA t (worstL l') ≤ fillA t (worstL l)) :
    (storeF s' l').isSome = true → (storeF s l).isSome = true := isSome_of fun hn => by
  unfold storeF at *
  rw [minF_none] at *
  rcases over_first (isp_of h) h0 with ⟨_, h2⟩ | ⟨h1, _, _⟩
  · rcases over_first (isp_of h') (store := s' 10) (by omega) with ⟨h3, _⟩ | ⟨h3, h4, _⟩
    · exact h3
    · have := h2 (overL (s' 10) (fillsL (worstL l')))
      have := hf (overL (s' 10) (fillsL (worstL l')))
      simp only at *
      omega
  · unfold storeT at hn; omega
theorem store_eq {s : Nat → Int} {l l' : List Opt} (h : ∀ o ∈ l, 0 ≤ o.a ∧ o.a < lastB o) (h0 : 0 ≤ s 10) (hp : l'.Perm l) : storeF s l' = storeF s l := by
  have h' : ∀ o ∈ l', 0 ≤ o.a ∧ o.a < lastB o := fun o ho => h o (hp.mem_iff.1 ho)
  have e : (fun t => fillA t (worstL l')) = fun t => fillA t (worstL l) := funext fun t => fillA_perm (hp.map _)
  have h1 := over_first (isp_of h) h0
  have h2 := over_first (isp_of h') h0
  rw [e] at h2
  unfold storeF storeT
  rw [h1.unique h2]
theorem fillA_sub {t : Int} {l l' : List Img} (hs : l'.Sublist l) (h : ∀ x ∈ l, 0 ≤ x.u) : fillA t l' ≤ fillA t l := by
  induction hs with
  | slnil => exact Int.le_refl _
  | cons x _ ih =>
    have h2 := h x List.mem_cons_self
    have := ih fun y hy => h y (List.mem_cons_of_mem _ hy)
    simp only [fillA]
    split <;> omega
  | cons_cons x _ ih =>
    have := ih fun y hy => h y (List.mem_cons_of_mem _ hy)
    simp only [fillA]
    omega
theorem add_cov {s : Nat → Int} {t : Int} : ∀ {l : List Load3}, CanL l → (∀ x ∈ l, x.k = 1 ∨ x.k = 2) → ∃ p q : Bool, (p = true ↔ covL l 1 t) ∧ (q = true ↔ covL l 2 t) ∧ addS s t l = (if p then s 14 else 0) + (if q then s 15 else 0)
  | [], _, _ => ⟨false, false, ⟨fun h => (nomatch h), fun ⟨_, h, _⟩ => (nomatch h)⟩, ⟨fun h => (nomatch h), fun ⟨_, h, _⟩ => (nomatch h)⟩, rfl⟩
  | x :: l, hc, hk => by
    obtain ⟨p, q, hp, hq, h⟩ := add_cov (s := s) (t := t) hc.tail fun y hy => hk y (List.mem_cons_of_mem _ hy)
    have hx := hk x List.mem_cons_self
    rw [show addS s t (x :: l) = oneS s t x + addS s t l from rfl, h]
    by_cases hh : x.a ≤ t ∧ t < x.b
    · rw [show oneS s t x = costS s x from if_pos (by simp [holdS, hh])]
      have hn : ¬ covL l x.k t := fun g => ((hc.cov_tail x.k t).1 g).2 ⟨rfl, hh.1, hh.2⟩
      rcases hx with hx | hx
      · refine ⟨true, q, ⟨fun _ => ⟨x, List.mem_cons_self, hx, hh⟩, fun _ => rfl⟩, ?_, ?_⟩
        · rw [hq]
          constructor
          · rintro ⟨y, hy, g⟩; exact ⟨y, List.mem_cons_of_mem _ hy, g⟩
          · rintro ⟨y, hy, g⟩
            rcases List.mem_cons.1 hy with rfl | hy
            · omega
            · exact ⟨y, hy, g⟩
        · have : p = false := by
            cases p with
            | false => rfl
            | true => rw [hx] at hn; exact absurd (hp.1 rfl) hn
          rw [this, show costS s x = s 14 from if_pos hx]; simp
      · refine ⟨p, true, ?_, ⟨fun _ => ⟨x, List.mem_cons_self, hx, hh⟩, fun _ => rfl⟩, ?_⟩
        · rw [hp]
          constructor
          · rintro ⟨y, hy, g⟩; exact ⟨y, List.mem_cons_of_mem _ hy, g⟩
          · rintro ⟨y, hy, g⟩
            rcases List.mem_cons.1 hy with rfl | hy
            · omega
            · exact ⟨y, hy, g⟩
        · have : q = false := by
            cases q with
            | false => rfl
            | true => rw [hx] at hn; exact absurd (hq.1 rfl) hn
          rw [this, show costS s x = s 15 from if_neg (by omega)]; simp; omega
    · rw [show oneS s t x = 0 from if_neg (by simpa [holdS] using hh)]
      refine ⟨p, q, ?_, ?_, by omega⟩
      · rw [hp]
        constructor
        · rintro ⟨y, hy, g⟩; exact ⟨y, List.mem_cons_of_mem _ hy, g⟩
        · rintro ⟨y, hy, g⟩
          rcases List.mem_cons.1 hy with rfl | hy
          · exact absurd g.2 hh
          · exact ⟨y, hy, g⟩
      · rw [hq]
        constructor
        · rintro ⟨y, hy, g⟩; exact ⟨y, List.mem_cons_of_mem _ hy, g⟩
        · rintro ⟨y, hy, g⟩
          rcases List.mem_cons.1 hy with rfl | hy
          · exact absurd g.2 hh
          · exact ⟨y, hy, g⟩
theorem add_le {s : Nat → Int} (hf : Fed s) {t : Int} {l l' : List Load3} (h : CanL l) (hk : ∀ x ∈ l, x.k = 1 ∨ x.k = 2) (h' : CanL l') (hk' : ∀ x ∈ l', x.k = 1 ∨ x.k = 2) (hc : ∀ k, covL l' k t → covL l k t) : addS s t l' ≤ addS s t l := by
  obtain ⟨p, q, hp, hq, e⟩ := add_cov (s := s) (t := t) h hk
  obtain ⟨p', q', hp', hq', e'⟩ := add_cov (s := s) (t := t) h' hk'
  have h1 := hf.h
  have h2 := hf.d
  have g1 : p' = true → p = true := fun g => hp.2 (hc 1 (hp'.1 g))
  have g2 : q' = true → q = true := fun g => hq.2 (hc 2 (hq'.1 g))
  rw [e, e']
  cases p' <;> cases q' <;> cases p <;> cases q <;> simp at g1 g2 ⊢ <;> omega
theorem GoodL.kinds {l : List Opt} (h : GoodL l) : ∀ x ∈ optLoads l, x.k = 1 ∨ x.k = 2 := fun x hx => by
  obtain ⟨h1, h2⟩ := h.can
  exact (can_bounds h1 h2 h.raw x hx).1
theorem empty_iff {s : Nat → Int} (hf : Fed s) {l : List Load3} (hl : l.length ≤ 80) {a b : Int} (ha : 0 ≤ a ∧ a ≤ 1000000) (hab : b - a ≤ 3000) :
    (emptyS s l a b = -1 ∧ ∀ i, i < (b - a).toNat → 0 ≤ levF (s 11) (fun i => netS s l (a + (i : Int))) (i + 1)) ∨ (0 ≤ emptyS s l a b ∧ ∃ i, i < (b - a).toNat ∧ levF (s 11) (fun i => netS s l (a + (i : Int))) (i + 1) < 0) := by
  have hnb : ∀ i : Nat, -1000000 ≤ netS s l (a + (i : Int)) ∧ netS s l (a + (i : Int)) ≤ 1000000 := fun i => by
    obtain ⟨e, h1, h2⟩ := net_eq hf (a + (i : Int)) l (litS (orbO s) (a + (i : Int))) hl
    unfold netS
    omega
  have hc := hf.c
  have hlev : (levRun (s 11) (netsL s l a b)).2 = (List.range (b - a).toNat).map fun i => levF (s 11) (fun i => netS s l (a + (i : Int))) (i + 1) := by
    rw [show netsL s l a b = pairsF a (fun i : Nat => netS s l (a + (i : Int))) (b - a).toNat from rfl, lev_ok (by omega) hnb a _ (by omega)]
  unfold emptyS
  rw [hlev]
  rcases idxF_rng (fun n : Int => decide (n < 0)) ((List.range (b - a).toNat).map fun i => levF (s 11) (fun i => netS s l (a + (i : Int))) (i + 1)) 0 with ⟨h1, h2⟩ | ⟨h1, h2, y, h3, h4⟩
  · left
    simp only [h1]
    refine ⟨rfl, fun i hi => ?_⟩
    have := of_decide_eq_false (h2 _ (List.mem_map.2 ⟨i, List.mem_range.2 hi, rfl⟩))
    omega
  · right
    simp only
    simp only [List.length_map, List.length_range] at h2
    rw [if_pos (by omega), w64_in (by omega) (by omega)]
    refine ⟨by omega, ?_⟩
    obtain ⟨i, hi, rfl⟩ := List.mem_map.1 h3
    exact ⟨i, List.mem_range.1 hi, of_decide_eq_true h4⟩
theorem empty_le {s s' : Nat → Int} (hf : Fed s) (hf' : Fed s') {l l' : List Load3} (hl : l.length ≤ 80) (hl' : l'.length ≤ 80) {a b : Int} (ha : 0 ≤ a ∧ a ≤ 1000000) (hab : b - a ≤ 3000) (h11 : s 11 ≤ s' 11) (hn : ∀ t, netS s' l' t ≤ netS s l t) :
    emptyS s l a b = -1 → emptyS s' l' a b = -1 := fun h => by
  rcases empty_iff hf hl ha hab with ⟨_, h2⟩ | ⟨h1, _⟩
  · rcases empty_iff hf' hl' ha hab with ⟨h3, _⟩ | ⟨_, i, h4, h5⟩
    · exact h3
    · have h6 := h2 i h4
      have h7 := levF_mono (c := s 11) (d := s' 11) (f := fun i => netS s l (a + (i : Int))) (g := fun i => netS s' l' (a + (i : Int))) h11 (fun k => hn _) (i + 1)
      omega
  · omega
theorem opt_len {l : List Opt} (h : GoodL l) : (optLoads l).length ≤ 56 := by rw [h.loads]; exact Nat.le_trans (canonL_len _) h.len
theorem net_le {s s' : Nat → Int} (hf : Fed s) (hf' : Fed s') (h12 : s' 12 = s 12) (h13 : s' 13 = s 13) (ho : ∀ t, litS (orbO s') t = litS (orbO s) t) {l l' : List Load3} (hl : l.length ≤ 80) (hl' : l'.length ≤ 80) {t : Int} (ha : addS s' t l' ≤ addS s t l) : netS s' l' t ≤ netS s l t := by
  unfold netS
  rw [(net_eq hf t l _ hl).1, (net_eq hf' t l' _ hl').1, ho]
  unfold netP
  rw [h12, h13]
  omega
theorem cov_raw_sub {l l' : List Opt} (hs : l'.Sublist l) (k t : Int) : covL (rawL l') k t → covL (rawL l) k t := by
  rintro ⟨x, hx, h⟩
  refine ⟨x, ?_, h⟩
  rcases rawL_mem.1 hx with ⟨o, ho, e⟩ | ⟨o, ho, y, hy, e⟩
  · exact rawL_mem.2 (.inl ⟨o, hs.subset ho, e⟩)
  · exact rawL_mem.2 (.inr ⟨o, hs.subset ho, y, hy, e⟩)
theorem GoodL.sub {l l' : List Opt} (h : GoodL l) (hs : l'.Sublist l) : GoodL l' :=
  ⟨Nat.le_trans hs.length_le h.n, fun o ho => h.shot o (hs.subset ho), fun o ho => h.slot o (hs.subset ho)⟩
theorem GoodL.perm {l l' : List Opt} (h : GoodL l) (hp : l'.Perm l) : GoodL l' :=
  ⟨by rw [hp.length_eq]; exact h.n, fun o ho => h.shot o (hp.mem_iff.1 ho), fun o ho => h.slot o (hp.mem_iff.1 ho)⟩
theorem charge_sub {s : Nat → Int} (hf : Fed s) {l l' : List Opt} (h : GoodL l) (hs : l'.Sublist l) {a b : Int} (ha : 0 ≤ a ∧ a ≤ 1000000) (hab : b - a ≤ 3000) : (chargeF s l' a b).isSome = true → (chargeF s l a b).isSome = true := isSome_of fun hn => by
  have h' := h.sub hs
  have n1 := opt_len h
  have n2 := opt_len h'
  unfold chargeF at *
  rw [minF_none] at *
  obtain ⟨c1, c2⟩ := h.can
  obtain ⟨d1, d2⟩ := h'.can
  refine empty_le hf hf (by omega) (by omega) ha hab (Int.le_refl _) (fun t => net_le hf hf rfl rfl (fun _ => rfl) (by omega) (by omega) (add_le hf c1 h.kinds d1 h'.kinds fun k g => ?_)) hn
  exact (c2 k t).2 (cov_raw_sub hs k t ((d2 k t).1 g))
theorem rawL_perm {l l' : List Opt} (hp : l'.Perm l) : (rawL l').Perm (rawL l) := List.Perm.append (hp.map _) (hp.flatMap_right _)
theorem loads_perm {l l' : List Opt} (h : GoodL l) (hp : l'.Perm l) : optLoads l' = optLoads l := by
  rw [h.loads, (h.perm hp).loads]
  exact canonL_perm (fun x hx => (h.raw x hx).2.2.1) (rawL_perm hp)
theorem send_sub {l l' : List Opt} (hs : l'.Sublist l) : (sendF l').isSome = true → (sendF l).isSome = true := isSome_of fun hn => by
  rw [sendF_none] at *
  exact hn.sublist hs
theorem slew_sub {s : Nat → Int} {l l' : List Opt} (hs : l'.Sublist l) : (slewF s l').isSome = true → (slewF s l).isSome = true := isSome_of fun hn => by
  rw [slewF_none] at *
  exact hn.sublist (hs.map _)
theorem bool_eq {a b : Bool} (h : a = false ↔ b = false) : a = b := by cases a <;> cases b <;> simp_all
theorem send_perm {l l' : List Opt} (h : ∀ o ∈ l, ∀ x ∈ o.sl, 0 ≤ x.a) (hp : l'.Perm l) : (sendF l').isSome = (sendF l).isSome := bool_eq (by
  rw [sendF_none, sendF_none]
  have e : ∀ {m : List Opt}, (∀ o ∈ m, ∀ x ∈ o.sl, 0 ≤ x.a) → (m.Pairwise (fun x y => ¬ meetL x y ≥ 0) ↔ m.Pairwise fun x y => ¬ Meets x y) := fun {m} hm =>
    List.Pairwise.iff_of_mem fun {x y} hx _ => by rw [meetL_iff (hm x hx)]
  rw [e h, e fun o ho => h o (hp.mem_iff.1 ho)]
  exact hp.pairwise_iff fun h g => h g.symm)
theorem slew_perm {s : Nat → Int} (hs : SatB s) {l l' : List Opt} (hx : ∀ x ∈ aimsOf l, AimB x) (hp : l'.Perm l) : (slewF s l').isSome = (slewF s l).isSome := bool_eq (by
  rw [slewF_none, slewF_none]
  exact pairs_perm hs hx (hp.map _))
end Go.Proofs
namespace Go.Proofs
open Go Go.AI
set_option maxRecDepth 10000
theorem Tryz.freed (o : Opt) (k : Nat) (hl : o.sl.length ≤ 1000000) (hc : canS o = true) (hk : k < o.sl.length) : ACalls Tryz.prog 36 [.agg (optA o), .int .i64 k] (.tup [.agg (imgA ⟨o.id, o.size, o.a, (o.sl.getD k ⟨0, 0, 0⟩).b⟩), .int .i64 0]) := by
  have k100 := Tryz.z100 o hl
  rw [hc] at k100
  have hx := slot_at hk
  have hw : IntKind.i64.wrap (((o.sl.map slotA).length : Int) - 1) = (o.sl.length : Int) - 1 := by rw [List.length_map]; exact w64_in (by omega) (by omega)
  have k101 := Tryz.z101 (k : Int) 0 (IntKind.i64.wrap (((o.sl.map slotA).length : Int) - 1))
  rw [inS_ok (show 0 ≤ (k : Int) ∧ (k : Int) ≤ IntKind.i64.wrap (((o.sl.map slotA).length : Int) - 1) by rw [hw]; omega)] at k101
  refine ACalls.ofB Tryz.T Tryz.func36 rfl (by kernel_rfl) Tryz.mixed (Nat.le_of_ble_eq_true rfl) ?_
  intro F n' w0 m0 hG hro h1
  repeat' first|refine Q1 ?_|refine Q2 ?_|refine Q3 hG Tryz.T Tryz.keep36 (by kernel_rfl) ?_|refine Q4 hG Tryz.T Tryz.keep36 (by kernel_rfl) ?_|refine Q5 hG Tryz.T ?_|refine Q6 hG Tryz.T ?_|refine Q7 hG Tryz.T ?_|refine Q8 hG Tryz.T ?_|refine Q9 rfl ?_|refine QF rfl ?_|refine QC rfl (And.intro (fun h => ?_) (fun h => ?_))|((conv => whnf); first|refine anF ?_|refine anT ?_|refine And.intro (by kernel_rfl) ?_|refine Exists.intro _ (And.intro (k100) ?_)|refine Exists.intro _ (And.intro (k101) ?_)|refine And.intro (Int.natCast_nonneg k) (Exists.intro _ (And.intro hx ?_))|refine And.intro (fun h => ?_) (fun h => ?_)|refine Or.inl ?_|fail)
  all_goals exact Ends.mk (Or.inl rfl) (AV.weak.of_eq rfl)
theorem can_len {o : Opt} (h : canS o = true) : 1 ≤ o.sl.length ∧ o.sl.length ≤ 6 := by
  simp only [canS, inS, Bool.and_eq_true, decide_eq_true_eq] at h
  omega
theorem Tryz.worst (o : Opt) (hl : o.sl.length ≤ 1000000) (hc : canS o = true) : ACalls Tryz.prog 35 [.agg (optA o)] (.tup [.agg (imgA ⟨o.id, o.size, o.a, lastB o⟩), .int .i64 0]) := by
  have hn := can_len hc
  have k48 := Tryz.freed o (o.sl.length - 1) hl hc (by omega)
  rw [show ((o.sl.length - 1 : Nat) : Int) = IntKind.i64.wrap (((o.sl.map slotA).length : Int) - 1) by rw [List.length_map]; exact ((w64_in (by omega) (by omega)).trans (by omega)).symm] at k48
  refine ACalls.ofB Tryz.T Tryz.func35 rfl (by kernel_rfl) Tryz.mixed (Nat.le_of_ble_eq_true rfl) ?_
  intro F n' w0 m0 hG hro h1
  repeat' first|refine Q1 ?_|refine Q2 ?_|refine Q3 hG Tryz.T Tryz.keep35 (by kernel_rfl) ?_|refine Q4 hG Tryz.T Tryz.keep35 (by kernel_rfl) ?_|refine Q5 hG Tryz.T ?_|refine Q6 hG Tryz.T ?_|refine Q7 hG Tryz.T ?_|refine Q8 hG Tryz.T ?_|refine Q9 rfl ?_|refine QF rfl ?_|refine QC rfl (And.intro (fun h => ?_) (fun h => ?_))|((conv => whnf); first|refine anF ?_|refine anT ?_|refine And.intro (by kernel_rfl) ?_|refine Exists.intro _ (And.intro (k48) ?_)|refine And.intro (fun h => ?_) (fun h => ?_)|refine Or.inl ?_|fail)
  all_goals exact Ends.mk (Or.inl rfl) (AV.weak.of_eq rfl)
structure PassT where
  sat : Int
  st : Int
  sa : Int
  sb : Int
  ca : Int
  cb : Int
deriving DecidableEq
def passA (p : PassT) : List AV := [.int .i64 p.sat, .int .i64 p.st, .int .i64 p.sa, .int .i64 p.sb, .int .i64 p.ca, .int .i64 p.cb]
def passesA (l : List PassT) : AV := .sl .no 6 (l.map passA)
def pass0 : PassT := ⟨0, 0, 0, 0, 0, 0⟩
def passAt (l : List PassT) (i : Nat) : PassT := l.getD i pass0
def isPassS (p : PassT) : Bool := (inS p.sat 0 23 && (inS p.st 0 11 && true)) && ((decide (0 ≤ p.ca) && decide (p.ca < p.cb) && decide (p.cb ≤ 1000001)) && ((p.sa == 0 && (p.sb == 0 && true)) || (decide (p.ca ≤ p.sa) && decide (p.sa < p.sb) && decide (p.sb ≤ p.cb))))
set_option maxHeartbeats 4000000 in
theorem Tryz.isPass (p : PassT) : ACalls Tryz.prog 158 [.agg (passA p)] (.bool (isPassS p)) := by
  have k114 := (Tryz.c89 [⟨p.sat, 0, 23⟩, ⟨p.st, 0, 11⟩] (Nat.le_of_ble_eq_true rfl)).sl0 (o := .full)
  refine ACalls.ofB Tryz.T Tryz.func158 rfl (by kernel_rfl) Tryz.mixed (Nat.le_of_ble_eq_true rfl) ?_
  intro F n' w0 m0 hG hro h1
  repeat' first|refine Q1 ?_|refine Q2 ?_|refine Q3 hG Tryz.T Tryz.keep158 (by kernel_rfl) ?_|refine Q4 hG Tryz.T Tryz.keep158 (by kernel_rfl) ?_|refine Q5 hG Tryz.T ?_|refine Q6 hG Tryz.T ?_|refine Q7 hG Tryz.T ?_|refine Q8 hG Tryz.T ?_|refine Q9 rfl ?_|refine QF rfl ?_|refine QC rfl (And.intro (fun h => ?_) (fun h => ?_))|((conv => whnf); first|refine anF ?_|refine anT ?_|refine And.intro (by kernel_rfl) ?_|refine Exists.intro _ (And.intro (k114) ?_)|refine And.intro (fun h => ?_) (fun h => ?_)|refine Or.inl ?_|fail)
  all_goals refine Ends.mk (Or.inl rfl) (AV.weak.of_eq (congrArg AV.bool ?_))
  all_goals (unfold isPassS; (try simp only [List.all_cons, List.all_nil, Bool.and_true] at *); simp only [*, Bool.true_and, Bool.and_true, Bool.false_and, Bool.and_false, Bool.true_or, Bool.false_or])
theorem Tryz.notPass (p : PassT) : ACalls Tryz.prog 157 [.agg (passA p)] (.bool (!isPassS p)) := by
  refine ACalls.ofB Tryz.T Tryz.func157 rfl (by kernel_rfl) Tryz.mixed (Nat.le_of_ble_eq_true rfl) ?_
  intro F n' w0 m0 hG hro h1
  repeat' first|refine Q1 ?_|refine Q2 ?_|refine Q3 hG Tryz.T Tryz.keep157 (by kernel_rfl) ?_|refine Q4 hG Tryz.T Tryz.keep157 (by kernel_rfl) ?_|refine Q5 hG Tryz.T ?_|refine Q6 hG Tryz.T ?_|refine Q7 hG Tryz.T ?_|refine Q8 hG Tryz.T ?_|refine Q9 rfl ?_|refine QF rfl ?_|refine QC rfl (And.intro (fun h => ?_) (fun h => ?_))|((conv => whnf); first|refine anF ?_|refine anT ?_|refine And.intro (by kernel_rfl) ?_|refine Exists.intro _ (And.intro (Tryz.isPass p) ?_)|refine And.intro (fun h => ?_) (fun h => ?_)|refine Or.inl ?_|fail)
  all_goals exact Ends.mk (Or.inl rfl) (AV.weak.of_eq rfl)
def cmpP (p q : PassT) : Int := orS [cmpI p.ca q.ca, cmpI p.sat q.sat, cmpI p.st q.st, cmpI p.sa q.sa, cmpI p.cb q.cb]
theorem Tryz.comparePass (p q : PassT) : ACalls Tryz.prog 160 [.agg (passA p), .agg (passA q)] (.int .i64 (cmpP p q)) := by
  refine ACalls.ofB Tryz.T Tryz.func160 rfl (by kernel_rfl) Tryz.mixed (Nat.le_of_ble_eq_true rfl) ?_
  intro F n' w0 m0 hG hro h1
  repeat' first|refine Q1 ?_|refine Q2 ?_|refine Q3 hG Tryz.T Tryz.keep160 (by kernel_rfl) ?_|refine Q4 hG Tryz.T Tryz.keep160 (by kernel_rfl) ?_|refine Q5 hG Tryz.T ?_|refine Q6 hG Tryz.T ?_|refine Q7 hG Tryz.T ?_|refine Q8 hG Tryz.T ?_|refine Q9 rfl ?_|refine QF rfl ?_|refine QC rfl (And.intro (fun h => ?_) (fun h => ?_))|((conv => whnf); first|refine anF ?_|refine anT ?_|refine And.intro (by kernel_rfl) ?_|refine Exists.intro _ (And.intro (Tryz.c55 _ _) ?_)|refine Exists.intro _ (And.intro (Tryz.c54 [cmpI p.ca q.ca, cmpI p.sat q.sat, cmpI p.st q.st, cmpI p.sa q.sa, cmpI p.cb q.cb] (Nat.le_of_ble_eq_true rfl)) ?_)|refine And.intro (fun h => ?_) (fun h => ?_)|refine Or.inl ?_|fail)
  all_goals exact Ends.mk (Or.inl rfl) (AV.weak.of_eq rfl)
theorem Tryz.indexPass (l : List PassT) (p : PassT → Bool) (g : FuncId) (fv : AV) (cap : List AV) (hf : fv = .clo g cap ∨ (fv = .fn g ∧ cap = [])) (hl : l.length ≤ 1000000)
    (hp : ∀ x ∈ l, ACalls Tryz.prog g ((.agg (passA x)) :: cap) (.bool (p x))) : ACalls Tryz.prog 226 [.sl .no 6 (l.map passA), fv] (.int .i64 (idxF p l 0)) := by
  rcases hf with rfl | ⟨rfl, rfl⟩
  · refine ACalls.ofB Tryz.T Tryz.func226 rfl (by kernel_rfl) Tryz.mixed (Nat.le_of_ble_eq_true rfl) ?_
    intro F n' w0 m0 hG hro h1
    repeat' first|refine Q1 ?_|refine Q2 ?_|refine Q3 hG Tryz.T Tryz.keep226 (by kernel_rfl) ?_|refine Q4 hG Tryz.T Tryz.keep226 (by kernel_rfl) ?_|refine Q5 hG Tryz.T ?_|refine Q6 hG Tryz.T ?_|refine Q7 hG Tryz.T ?_|refine Q8 hG Tryz.T ?_|refine Q9 rfl ?_|refine QF rfl ?_|refine QC rfl (And.intro (fun h => ?_) (fun h => ?_))|((conv => whnf); first|refine anF ?_|refine anT ?_|refine And.intro (by kernel_rfl) ?_|refine And.intro (fun h => ?_) (fun h => ?_)|refine Or.inl ?_|fail)
    refine SPB.loop (X := Nat) (fun j => ⟨[(8, .int .i64 j), (7, .int .i64 (l.map passA).length), (0, .sl .no 6 (l.map passA)), (1, .clo g cap)], []⟩) (fun j => j ≤ l.length ∧ idxF p (l.drop j) j = idxF p l 0) (fun j => l.length - j) 0
      ⟨Nat.zero_le _, by simp⟩ (St.le.of ?_ trivial) (fun j hj => ?_)
    · repeat' (first | exact trivial | refine And.intro rfl ?_)
    · obtain ⟨hj, hi⟩ := hj
      have hj2 : decide ((j : Int) < ((l.map passA).length : Int)) = true → j < l.length := fun h => by have := of_decide_eq_true h; simp at this; omega
      have hx : decide ((j : Int) < ((l.map passA).length : Int)) = true → (l.map passA)[(j : Int).toNat]? = some (passA (l.getD j pass0)) := fun h => by have := hj2 h; simp [List.getElem?_eq_getElem this]
      have hc : decide ((j : Int) < ((l.map passA).length : Int)) = true → ACalls Tryz.prog g ((.agg (passA (l.getD j pass0))) :: cap) (.bool (p (l.getD j pass0))) := fun h => hp _ (by have := hj2 h; rw [List.getD_eq_getElem?_getD, List.getElem?_eq_getElem this]; exact List.getElem_mem this)
      repeat' first|refine Q1 ?_|refine Q2 ?_|refine Q3 hG Tryz.T Tryz.keep226 (by kernel_rfl) ?_|refine Q4 hG Tryz.T Tryz.keep226 (by kernel_rfl) ?_|refine Q5 hG Tryz.T ?_|refine Q6 hG Tryz.T ?_|refine Q7 hG Tryz.T ?_|refine Q8 hG Tryz.T ?_|refine Q9 rfl ?_|refine QF rfl ?_|refine QC rfl (And.intro (fun h => ?_) (fun h => ?_))|((conv => whnf); first|refine anF ?_|refine anT ?_|refine And.intro (by kernel_rfl) ?_|refine And.intro (Int.natCast_nonneg j) (Exists.intro _ (And.intro (hx (by assumption)) ?_))|refine Exists.intro _ (And.intro (hc (by assumption)) ?_)|refine And.intro (fun h => ?_) (fun h => ?_)|refine Or.inl ?_|fail)
      · rw [idxF_step (d := pass0) (hj2 (by assumption)), if_pos (by assumption)] at hi
        exact Ends.mk (Or.inl rfl) (AV.weak.of_eq (congrArg (AV.int .i64) hi))
      · have hj2 := hj2 (by assumption)
        rw [idxF_step (d := pass0) hj2, if_neg (fun h => tf h (by assumption))] at hi
        refine Exists.intro (j + 1) (And.intro ⟨hj2, hi⟩ (And.intro (by omega) (St.le.of ?_ trivial)))
        refine And.intro (congrArg (fun z => some (AV.int .i64 z)) ((w64_in (by omega) (by omega)).trans (by omega))) ?_
        repeat' (first | exact trivial | refine And.intro rfl ?_)
      · have hj2 : l.length ≤ j := by have := of_decide_eq_false (by assumption : decide ((j : Int) < ((l.map passA).length : Int)) = false); simp at this; omega
        rw [List.drop_of_length_le hj2] at hi
        exact Ends.mk (Or.inl rfl) (AV.weak.of_eq (congrArg (AV.int .i64) hi))
  · refine ACalls.ofB Tryz.T Tryz.func226 rfl (by kernel_rfl) Tryz.mixed (Nat.le_of_ble_eq_true rfl) ?_
    intro F n' w0 m0 hG hro h1
    repeat' first|refine Q1 ?_|refine Q2 ?_|refine Q3 hG Tryz.T Tryz.keep226 (by kernel_rfl) ?_|refine Q4 hG Tryz.T Tryz.keep226 (by kernel_rfl) ?_|refine Q5 hG Tryz.T ?_|refine Q6 hG Tryz.T ?_|refine Q7 hG Tryz.T ?_|refine Q8 hG Tryz.T ?_|refine Q9 rfl ?_|refine QF rfl ?_|refine QC rfl (And.intro (fun h => ?_) (fun h => ?_))|((conv => whnf); first|refine anF ?_|refine anT ?_|refine And.intro (by kernel_rfl) ?_|refine And.intro (fun h => ?_) (fun h => ?_)|refine Or.inl ?_|fail)
    refine SPB.loop (X := Nat) (fun j => ⟨[(8, .int .i64 j), (7, .int .i64 (l.map passA).length), (0, .sl .no 6 (l.map passA)), (1, .fn g)], []⟩) (fun j => j ≤ l.length ∧ idxF p (l.drop j) j = idxF p l 0) (fun j => l.length - j) 0
      ⟨Nat.zero_le _, by simp⟩ (St.le.of ?_ trivial) (fun j hj => ?_)
    · repeat' (first | exact trivial | refine And.intro rfl ?_)
    · obtain ⟨hj, hi⟩ := hj
      have hj2 : decide ((j : Int) < ((l.map passA).length : Int)) = true → j < l.length := fun h => by have := of_decide_eq_true h; simp at this; omega
      have hx : decide ((j : Int) < ((l.map passA).length : Int)) = true → (l.map passA)[(j : Int).toNat]? = some (passA (l.getD j pass0)) := fun h => by have := hj2 h; simp [List.getElem?_eq_getElem this]
      have hc : decide ((j : Int) < ((l.map passA).length : Int)) = true → ACalls Tryz.prog g ((.agg (passA (l.getD j pass0))) :: []) (.bool (p (l.getD j pass0))) := fun h => hp _ (by have := hj2 h; rw [List.getD_eq_getElem?_getD, List.getElem?_eq_getElem this]; exact List.getElem_mem this)
      repeat' first|refine Q1 ?_|refine Q2 ?_|refine Q3 hG Tryz.T Tryz.keep226 (by kernel_rfl) ?_|refine Q4 hG Tryz.T Tryz.keep226 (by kernel_rfl) ?_|refine Q5 hG Tryz.T ?_|refine Q6 hG Tryz.T ?_|refine Q7 hG Tryz.T ?_|refine Q8 hG Tryz.T ?_|refine Q9 rfl ?_|refine QF rfl ?_|refine QC rfl (And.intro (fun h => ?_) (fun h => ?_))|((conv => whnf); first|refine anF ?_|refine anT ?_|refine And.intro (by kernel_rfl) ?_|refine And.intro (Int.natCast_nonneg j) (Exists.intro _ (And.intro (hx (by assumption)) ?_))|refine Exists.intro _ (And.intro (hc (by assumption)) ?_)|refine And.intro (fun h => ?_) (fun h => ?_)|refine Or.inl ?_|fail)
      · rw [idxF_step (d := pass0) (hj2 (by assumption)), if_pos (by assumption)] at hi
        exact Ends.mk (Or.inl rfl) (AV.weak.of_eq (congrArg (AV.int .i64) hi))
      · have hj2 := hj2 (by assumption)
        rw [idxF_step (d := pass0) hj2, if_neg (fun h => tf h (by assumption))] at hi
        refine Exists.intro (j + 1) (And.intro ⟨hj2, hi⟩ (And.intro (by omega) (St.le.of ?_ trivial)))
        refine And.intro (congrArg (fun z => some (AV.int .i64 z)) ((w64_in (by omega) (by omega)).trans (by omega))) ?_
        repeat' (first | exact trivial | refine And.intro rfl ?_)
      · have hj2 : l.length ≤ j := by have := of_decide_eq_false (by assumption : decide ((j : Int) < ((l.map passA).length : Int)) = false); simp at this; omega
        rw [List.drop_of_length_le hj2] at hi
        exact Ends.mk (Or.inl rfl) (AV.weak.of_eq (congrArg (AV.int .i64) hi))
theorem Tryz.containsPass (l : List PassT) (p : PassT → Bool) (g : FuncId) (fv : AV) (cap : List AV) (hf : fv = .clo g cap ∨ (fv = .fn g ∧ cap = [])) (hl : l.length ≤ 1000000)
    (hp : ∀ x ∈ l, ACalls Tryz.prog g ((.agg (passA x)) :: cap) (.bool (p x))) : ACalls Tryz.prog 156 [.sl .no 6 (l.map passA), fv] (.bool (l.any p)) := by
  rcases hf with rfl | ⟨rfl, rfl⟩
  · refine ACalls.ofB Tryz.T Tryz.func156 rfl (by kernel_rfl) Tryz.mixed (Nat.le_of_ble_eq_true rfl) ?_
    intro F n' w0 m0 hG hro h1
    repeat' first|refine Q1 ?_|refine Q2 ?_|refine Q3 hG Tryz.T Tryz.keep156 (by kernel_rfl) ?_|refine Q4 hG Tryz.T Tryz.keep156 (by kernel_rfl) ?_|refine Q5 hG Tryz.T ?_|refine Q6 hG Tryz.T ?_|refine Q7 hG Tryz.T ?_|refine Q8 hG Tryz.T ?_|refine Q9 rfl ?_|refine QF rfl ?_|refine QC rfl (And.intro (fun h => ?_) (fun h => ?_))|((conv => whnf); first|refine anF ?_|refine anT ?_|refine And.intro (by kernel_rfl) ?_|refine Exists.intro _ (And.intro (Tryz.indexPass l p g _ _ (Or.inl rfl) hl hp) ?_)|refine And.intro (fun h => ?_) (fun h => ?_)|refine Or.inl ?_|fail)
    all_goals exact Ends.mk (Or.inl rfl) (AV.weak.of_eq (congrArg AV.bool (idxF_any p l 0)))
  · refine ACalls.ofB Tryz.T Tryz.func156 rfl (by kernel_rfl) Tryz.mixed (Nat.le_of_ble_eq_true rfl) ?_
    intro F n' w0 m0 hG hro h1
    repeat' first|refine Q1 ?_|refine Q2 ?_|refine Q3 hG Tryz.T Tryz.keep156 (by kernel_rfl) ?_|refine Q4 hG Tryz.T Tryz.keep156 (by kernel_rfl) ?_|refine Q5 hG Tryz.T ?_|refine Q6 hG Tryz.T ?_|refine Q7 hG Tryz.T ?_|refine Q8 hG Tryz.T ?_|refine Q9 rfl ?_|refine QF rfl ?_|refine QC rfl (And.intro (fun h => ?_) (fun h => ?_))|((conv => whnf); first|refine anF ?_|refine anT ?_|refine And.intro (by kernel_rfl) ?_|refine Exists.intro _ (And.intro (Tryz.indexPass l p g _ _ (Or.inr ⟨rfl, rfl⟩) hl hp) ?_)|refine And.intro (fun h => ?_) (fun h => ?_)|refine Or.inl ?_|fail)
    all_goals exact Ends.mk (Or.inl rfl) (AV.weak.of_eq (congrArg AV.bool (idxF_any p l 0)))
theorem Tryz.indexOpt (l : List Opt) (p : Opt → Bool) (g : FuncId) (fv : AV) (cap : List AV) (hf : fv = .clo g cap ∨ (fv = .fn g ∧ cap = [])) (hl : l.length ≤ 1000000)
    (hp : ∀ x ∈ l, ACalls Tryz.prog g ((.agg (optA x)) :: cap) (.bool (p x))) : ACalls Tryz.prog 162 [.sl .no 9 (l.map optA), fv] (.int .i64 (idxF p l 0)) := by
  rcases hf with rfl | ⟨rfl, rfl⟩
  · refine ACalls.ofB Tryz.T Tryz.func162 rfl (by kernel_rfl) Tryz.mixed (Nat.le_of_ble_eq_true rfl) ?_
    intro F n' w0 m0 hG hro h1
    repeat' first|refine Q1 ?_|refine Q2 ?_|refine Q3 hG Tryz.T Tryz.keep162 (by kernel_rfl) ?_|refine Q4 hG Tryz.T Tryz.keep162 (by kernel_rfl) ?_|refine Q5 hG Tryz.T ?_|refine Q6 hG Tryz.T ?_|refine Q7 hG Tryz.T ?_|refine Q8 hG Tryz.T ?_|refine Q9 rfl ?_|refine QF rfl ?_|refine QC rfl (And.intro (fun h => ?_) (fun h => ?_))|((conv => whnf); first|refine anF ?_|refine anT ?_|refine And.intro (by kernel_rfl) ?_|refine And.intro (fun h => ?_) (fun h => ?_)|refine Or.inl ?_|fail)
    refine SPB.loop (X := Nat) (fun j => ⟨[(8, .int .i64 j), (7, .int .i64 (l.map optA).length), (0, .sl .no 9 (l.map optA)), (1, .clo g cap)], []⟩) (fun j => j ≤ l.length ∧ idxF p (l.drop j) j = idxF p l 0) (fun j => l.length - j) 0
      ⟨Nat.zero_le _, by simp⟩ (St.le.of ?_ trivial) (fun j hj => ?_)
    · repeat' (first | exact trivial | refine And.intro rfl ?_)
    · obtain ⟨hj, hi⟩ := hj
      have hj2 : decide ((j : Int) < ((l.map optA).length : Int)) = true → j < l.length := fun h => by have := of_decide_eq_true h; simp at this; omega
      have hx : decide ((j : Int) < ((l.map optA).length : Int)) = true → (l.map optA)[(j : Int).toNat]? = some (optA (l.getD j opt0)) := fun h => by have := hj2 h; simp [List.getElem?_eq_getElem this]
      have hc : decide ((j : Int) < ((l.map optA).length : Int)) = true → ACalls Tryz.prog g ((.agg (optA (l.getD j opt0))) :: cap) (.bool (p (l.getD j opt0))) := fun h => hp _ (by have := hj2 h; rw [List.getD_eq_getElem?_getD, List.getElem?_eq_getElem this]; exact List.getElem_mem this)
      repeat' first|refine Q1 ?_|refine Q2 ?_|refine Q3 hG Tryz.T Tryz.keep162 (by kernel_rfl) ?_|refine Q4 hG Tryz.T Tryz.keep162 (by kernel_rfl) ?_|refine Q5 hG Tryz.T ?_|refine Q6 hG Tryz.T ?_|refine Q7 hG Tryz.T ?_|refine Q8 hG Tryz.T ?_|refine Q9 rfl ?_|refine QF rfl ?_|refine QC rfl (And.intro (fun h => ?_) (fun h => ?_))|((conv => whnf); first|refine anF ?_|refine anT ?_|refine And.intro (by kernel_rfl) ?_|refine And.intro (Int.natCast_nonneg j) (Exists.intro _ (And.intro (hx (by assumption)) ?_))|refine Exists.intro _ (And.intro (hc (by assumption)) ?_)|refine And.intro (fun h => ?_) (fun h => ?_)|refine Or.inl ?_|fail)
      · rw [idxF_step (d := opt0) (hj2 (by assumption)), if_pos (by assumption)] at hi
        exact Ends.mk (Or.inl rfl) (AV.weak.of_eq (congrArg (AV.int .i64) hi))
      · have hj2 := hj2 (by assumption)
        rw [idxF_step (d := opt0) hj2, if_neg (fun h => tf h (by assumption))] at hi
        refine Exists.intro (j + 1) (And.intro ⟨hj2, hi⟩ (And.intro (by omega) (St.le.of ?_ trivial)))
        refine And.intro (congrArg (fun z => some (AV.int .i64 z)) ((w64_in (by omega) (by omega)).trans (by omega))) ?_
        repeat' (first | exact trivial | refine And.intro rfl ?_)
      · have hj2 : l.length ≤ j := by have := of_decide_eq_false (by assumption : decide ((j : Int) < ((l.map optA).length : Int)) = false); simp at this; omega
        rw [List.drop_of_length_le hj2] at hi
        exact Ends.mk (Or.inl rfl) (AV.weak.of_eq (congrArg (AV.int .i64) hi))
  · refine ACalls.ofB Tryz.T Tryz.func162 rfl (by kernel_rfl) Tryz.mixed (Nat.le_of_ble_eq_true rfl) ?_
    intro F n' w0 m0 hG hro h1
    repeat' first|refine Q1 ?_|refine Q2 ?_|refine Q3 hG Tryz.T Tryz.keep162 (by kernel_rfl) ?_|refine Q4 hG Tryz.T Tryz.keep162 (by kernel_rfl) ?_|refine Q5 hG Tryz.T ?_|refine Q6 hG Tryz.T ?_|refine Q7 hG Tryz.T ?_|refine Q8 hG Tryz.T ?_|refine Q9 rfl ?_|refine QF rfl ?_|refine QC rfl (And.intro (fun h => ?_) (fun h => ?_))|((conv => whnf); first|refine anF ?_|refine anT ?_|refine And.intro (by kernel_rfl) ?_|refine And.intro (fun h => ?_) (fun h => ?_)|refine Or.inl ?_|fail)
    refine SPB.loop (X := Nat) (fun j => ⟨[(8, .int .i64 j), (7, .int .i64 (l.map optA).length), (0, .sl .no 9 (l.map optA)), (1, .fn g)], []⟩) (fun j => j ≤ l.length ∧ idxF p (l.drop j) j = idxF p l 0) (fun j => l.length - j) 0
      ⟨Nat.zero_le _, by simp⟩ (St.le.of ?_ trivial) (fun j hj => ?_)
    · repeat' (first | exact trivial | refine And.intro rfl ?_)
    · obtain ⟨hj, hi⟩ := hj
      have hj2 : decide ((j : Int) < ((l.map optA).length : Int)) = true → j < l.length := fun h => by have := of_decide_eq_true h; simp at this; omega
      have hx : decide ((j : Int) < ((l.map optA).length : Int)) = true → (l.map optA)[(j : Int).toNat]? = some (optA (l.getD j opt0)) := fun h => by have := hj2 h; simp [List.getElem?_eq_getElem this]
      have hc : decide ((j : Int) < ((l.map optA).length : Int)) = true → ACalls Tryz.prog g ((.agg (optA (l.getD j opt0))) :: []) (.bool (p (l.getD j opt0))) := fun h => hp _ (by have := hj2 h; rw [List.getD_eq_getElem?_getD, List.getElem?_eq_getElem this]; exact List.getElem_mem this)
      repeat' first|refine Q1 ?_|refine Q2 ?_|refine Q3 hG Tryz.T Tryz.keep162 (by kernel_rfl) ?_|refine Q4 hG Tryz.T Tryz.keep162 (by kernel_rfl) ?_|refine Q5 hG Tryz.T ?_|refine Q6 hG Tryz.T ?_|refine Q7 hG Tryz.T ?_|refine Q8 hG Tryz.T ?_|refine Q9 rfl ?_|refine QF rfl ?_|refine QC rfl (And.intro (fun h => ?_) (fun h => ?_))|((conv => whnf); first|refine anF ?_|refine anT ?_|refine And.intro (by kernel_rfl) ?_|refine And.intro (Int.natCast_nonneg j) (Exists.intro _ (And.intro (hx (by assumption)) ?_))|refine Exists.intro _ (And.intro (hc (by assumption)) ?_)|refine And.intro (fun h => ?_) (fun h => ?_)|refine Or.inl ?_|fail)
      · rw [idxF_step (d := opt0) (hj2 (by assumption)), if_pos (by assumption)] at hi
        exact Ends.mk (Or.inl rfl) (AV.weak.of_eq (congrArg (AV.int .i64) hi))
      · have hj2 := hj2 (by assumption)
        rw [idxF_step (d := opt0) hj2, if_neg (fun h => tf h (by assumption))] at hi
        refine Exists.intro (j + 1) (And.intro ⟨hj2, hi⟩ (And.intro (by omega) (St.le.of ?_ trivial)))
        refine And.intro (congrArg (fun z => some (AV.int .i64 z)) ((w64_in (by omega) (by omega)).trans (by omega))) ?_
        repeat' (first | exact trivial | refine And.intro rfl ?_)
      · have hj2 : l.length ≤ j := by have := of_decide_eq_false (by assumption : decide ((j : Int) < ((l.map optA).length : Int)) = false); simp at this; omega
        rw [List.drop_of_length_le hj2] at hi
        exact Ends.mk (Or.inl rfl) (AV.weak.of_eq (congrArg (AV.int .i64) hi))
theorem Tryz.containsOpt (l : List Opt) (p : Opt → Bool) (g : FuncId) (fv : AV) (cap : List AV) (hf : fv = .clo g cap ∨ (fv = .fn g ∧ cap = [])) (hl : l.length ≤ 1000000)
    (hp : ∀ x ∈ l, ACalls Tryz.prog g ((.agg (optA x)) :: cap) (.bool (p x))) : ACalls Tryz.prog 88 [.sl .no 9 (l.map optA), fv] (.bool (l.any p)) := by
  rcases hf with rfl | ⟨rfl, rfl⟩
  · refine ACalls.ofB Tryz.T Tryz.func88 rfl (by kernel_rfl) Tryz.mixed (Nat.le_of_ble_eq_true rfl) ?_
    intro F n' w0 m0 hG hro h1
    repeat' first|refine Q1 ?_|refine Q2 ?_|refine Q3 hG Tryz.T Tryz.keep88 (by kernel_rfl) ?_|refine Q4 hG Tryz.T Tryz.keep88 (by kernel_rfl) ?_|refine Q5 hG Tryz.T ?_|refine Q6 hG Tryz.T ?_|refine Q7 hG Tryz.T ?_|refine Q8 hG Tryz.T ?_|refine Q9 rfl ?_|refine QF rfl ?_|refine QC rfl (And.intro (fun h => ?_) (fun h => ?_))|((conv => whnf); first|refine anF ?_|refine anT ?_|refine And.intro (by kernel_rfl) ?_|refine Exists.intro _ (And.intro (Tryz.indexOpt l p g _ _ (Or.inl rfl) hl hp) ?_)|refine And.intro (fun h => ?_) (fun h => ?_)|refine Or.inl ?_|fail)
    all_goals exact Ends.mk (Or.inl rfl) (AV.weak.of_eq (congrArg AV.bool (idxF_any p l 0)))
  · refine ACalls.ofB Tryz.T Tryz.func88 rfl (by kernel_rfl) Tryz.mixed (Nat.le_of_ble_eq_true rfl) ?_
    intro F n' w0 m0 hG hro h1
    repeat' first|refine Q1 ?_|refine Q2 ?_|refine Q3 hG Tryz.T Tryz.keep88 (by kernel_rfl) ?_|refine Q4 hG Tryz.T Tryz.keep88 (by kernel_rfl) ?_|refine Q5 hG Tryz.T ?_|refine Q6 hG Tryz.T ?_|refine Q7 hG Tryz.T ?_|refine Q8 hG Tryz.T ?_|refine Q9 rfl ?_|refine QF rfl ?_|refine QC rfl (And.intro (fun h => ?_) (fun h => ?_))|((conv => whnf); first|refine anF ?_|refine anT ?_|refine And.intro (by kernel_rfl) ?_|refine Exists.intro _ (And.intro (Tryz.indexOpt l p g _ _ (Or.inr ⟨rfl, rfl⟩) hl hp) ?_)|refine And.intro (fun h => ?_) (fun h => ?_)|refine Or.inl ?_|fail)
    all_goals exact Ends.mk (Or.inl rfl) (AV.weak.of_eq (congrArg AV.bool (idxF_any p l 0)))
def srtB (l : List PassT) : Bool := (List.range (l.length - 1)).all fun i => !decide (cmpP (passAt l (i + 1)) (passAt l i) < 0)
theorem passAt_get {l : List PassT} {i : Nat} (h : i < l.length) : (l.map passA)[i]? = some (passA (passAt l i)) := by simp [passAt, List.getElem?_eq_getElem h]
set_option maxHeartbeats 4000000 in
theorem Tryz.isSorted (l : List PassT) (hl : l.length ≤ 1000000) : ACalls Tryz.prog 159 [passesA l, .fn 160] (.bool (srtB l)) := by
  refine ACalls.ofB Tryz.T Tryz.func159 rfl (by kernel_rfl) Tryz.mixed (Nat.le_of_ble_eq_true rfl) ?_
  intro F n' w0 m0 hG hro h1
  repeat' first|refine Q1 ?_|refine Q2 ?_|refine Q3 hG Tryz.T Tryz.keep159 (by kernel_rfl) ?_|refine Q4 hG Tryz.T Tryz.keep159 (by kernel_rfl) ?_|refine Q5 hG Tryz.T ?_|refine Q6 hG Tryz.T ?_|refine Q7 hG Tryz.T ?_|refine Q8 hG Tryz.T ?_|refine Q9 rfl ?_|refine QF rfl ?_|refine QC rfl (And.intro (fun h => ?_) (fun h => ?_))|((conv => whnf); first|refine anF ?_|refine anT ?_|refine And.intro (by kernel_rfl) ?_|refine And.intro (fun h => ?_) (fun h => ?_)|refine Or.inl ?_|fail)
  refine SPB.loop (X := Int) (fun i => ⟨[(5, .int .i64 i), (0, passesA l), (1, .fn 160)], []⟩)
    (fun i => -1 ≤ i ∧ i ≤ (l.length : Int) - 1 ∧ ∀ j : Nat, i ≤ (j : Int) → (j : Int) < (l.length : Int) - 1 → decide (cmpP (passAt l (j + 1)) (passAt l j) < 0) = false) (fun i => (i + 1).toNat) (IntKind.i64.wrap (((l.map passA).length : Int) - 1)) ?_ (St.le.of ?_ ?_) (fun i hi => ?_)
  · rw [show IntKind.i64.wrap (((l.map passA).length : Int) - 1) = (l.length : Int) - 1 by rw [List.length_map]; exact w64_in (by omega) (by omega)]
    exact ⟨by omega, by omega, fun j h1 h2 => by omega⟩
  · repeat' (first | exact trivial | refine And.intro rfl ?_)
  · repeat' (first | exact trivial | refine And.intro rfl ?_)
  · obtain ⟨h1, h2, h3⟩ := hi
    by_cases hp : i > 0
    · obtain ⟨j, rfl⟩ : ∃ j : Nat, i = ((j + 1 : Nat) : Int) := ⟨(i - 1).toNat, by omega⟩
      have hw : IntKind.i64.wrap (((j + 1 : Nat) : Int) - 1) = (j : Int) := (w64_in (by omega) (by omega)).trans (by omega)
      have hx := passAt_get (l := l) (i := j + 1) (by omega)
      have hy := passAt_get (l := l) (i := j) (by omega)
      have hy' : (l.map passA)[(IntKind.i64.wrap (((j + 1 : Nat) : Int) - 1)).toNat]? = some (passA (passAt l j)) := by rw [hw]; exact hy
      have h0 : 0 ≤ IntKind.i64.wrap (((j + 1 : Nat) : Int) - 1) := by rw [hw]; exact Int.natCast_nonneg j
      have bb : decide (((j + 1 : Nat) : Int) > 0) = false → False := fun h => by have := of_decide_eq_false h; omega
      repeat' first|exact (bb (by assumption)).elim|refine Q1 ?_|refine Q2 ?_|refine Q3 hG Tryz.T Tryz.keep159 (by kernel_rfl) ?_|refine Q4 hG Tryz.T Tryz.keep159 (by kernel_rfl) ?_|refine Q5 hG Tryz.T ?_|refine Q6 hG Tryz.T ?_|refine Q7 hG Tryz.T ?_|refine Q8 hG Tryz.T ?_|refine Q9 rfl ?_|refine QF rfl ?_|refine QC rfl (And.intro (fun h => ?_) (fun h => ?_))|((conv => whnf); first|refine anF ?_|refine anT ?_|refine And.intro (by kernel_rfl) ?_|refine And.intro (Int.natCast_nonneg (j + 1)) (Exists.intro _ (And.intro hx ?_))|refine And.intro h0 (Exists.intro _ (And.intro hy' ?_))|refine Exists.intro _ (And.intro (Tryz.comparePass _ _) ?_)|refine And.intro (fun h => ?_) (fun h => ?_)|refine Or.inl ?_|fail)
      · refine Ends.mk (Or.inl rfl) (AV.weak.of_eq (congrArg AV.bool ?_))
        symm
        unfold srtB
        rw [List.all_eq_false]
        exact ⟨j, List.mem_range.2 (by omega), by
          have hb := (by assumption : decide (cmpP (passAt l (j + 1)) (passAt l j) < 0) = true)
          rw [hb]; simp⟩
      · refine Exists.intro (IntKind.i64.wrap (((j + 1 : Nat) : Int) - 1)) (And.intro ?_ (And.intro ?_ (St.le.of ?_ ?_)))
        · rw [hw]
          refine ⟨by omega, by omega, fun k g1 g2 => ?_⟩
          by_cases hk : k = j
          · rw [hk]; assumption
          · exact h3 k (by omega) g2
        · rw [hw]; omega
        · repeat' (first | exact trivial | refine And.intro rfl ?_)
        · repeat' (first | exact trivial | refine And.intro rfl ?_)
    · have bb : decide (i > 0) = true → False := fun h => hp (of_decide_eq_true h)
      repeat' first|exact (bb (by assumption)).elim|refine Q1 ?_|refine Q2 ?_|refine Q3 hG Tryz.T Tryz.keep159 (by kernel_rfl) ?_|refine Q4 hG Tryz.T Tryz.keep159 (by kernel_rfl) ?_|refine Q5 hG Tryz.T ?_|refine Q6 hG Tryz.T ?_|refine Q7 hG Tryz.T ?_|refine Q8 hG Tryz.T ?_|refine Q9 rfl ?_|refine QF rfl ?_|refine QC rfl (And.intro (fun h => ?_) (fun h => ?_))|((conv => whnf); first|refine anF ?_|refine anT ?_|refine And.intro (by kernel_rfl) ?_|refine And.intro (fun h => ?_) (fun h => ?_)|refine Or.inl ?_|fail)
      refine Ends.mk (Or.inl rfl) (AV.weak.of_eq (congrArg AV.bool ?_))
      symm
      unfold srtB
      rw [List.all_eq_true]
      intro j hj
      have := List.mem_range.1 hj
      rw [h3 j (by omega) (by omega)]; rfl
def passS (l : List PassT) : Bool := decide (l.length ≤ 64) && !(l.any fun p => !isPassS p) && srtB l
theorem Tryz.properPass (l : List PassT) (hl : l.length ≤ 1000000) : ACalls Tryz.prog 85 [passesA l] (.bool (passS l)) := by
  have hlm : decide (((l.map passA).length : Int) ≤ 64) = decide (l.length ≤ 64) := by rw [List.length_map]; exact decide_eq_decide.2 (by omega)
  refine ACalls.ofB Tryz.T Tryz.func85 rfl (by kernel_rfl) Tryz.mixed (Nat.le_of_ble_eq_true rfl) ?_
  intro F n' w0 m0 hG hro h1
  repeat' first|refine Q1 ?_|refine Q2 ?_|refine Q3 hG Tryz.T Tryz.keep85 (by kernel_rfl) ?_|refine Q4 hG Tryz.T Tryz.keep85 (by kernel_rfl) ?_|refine Q5 hG Tryz.T ?_|refine Q6 hG Tryz.T ?_|refine Q7 hG Tryz.T ?_|refine Q8 hG Tryz.T ?_|refine Q9 rfl ?_|refine QF rfl ?_|refine QC rfl (And.intro (fun h => ?_) (fun h => ?_))|((conv => whnf); first|refine anF ?_|refine anT ?_|refine And.intro (by kernel_rfl) ?_|refine Exists.intro _ (And.intro (Tryz.containsPass l (fun p => !isPassS p) 157 _ [] (Or.inr ⟨rfl, rfl⟩) hl (fun p _ => Tryz.notPass p)) ?_)|refine Exists.intro _ (And.intro (Tryz.isSorted l hl) ?_)|refine And.intro (fun h => ?_) (fun h => ?_)|refine Or.inl ?_|fail)
  all_goals refine Ends.mk (Or.inl rfl) (AV.weak.of_eq (congrArg AV.bool ?_))
  all_goals (unfold passS; rw [← hlm]; clear hlm; simp only [*, Bool.true_and, Bool.and_true, Bool.false_and, Bool.and_false])
end Go.Proofs
namespace Go.Proofs
open Go Go.AI
set_option maxRecDepth 10000
def slotOK (s : Nat → Int) (ps : List PassT) (size t : Int) (x : SlotT) : Bool :=
  inS x.p 0 (w64 ((ps.length : Int) - 1)) && ((((passAt ps x.p.toNat).sat == s 0) && decide (x.a ≥ max t (passAt ps x.p.toNat).sa) && decide (x.b ≤ (passAt ps x.p.toNat).sb) && decide (x.a < x.b)) &&
    !decide (w64 (w64 (x.b - x.a) * s 20) < size))
def slotsOK (s : Nat → Int) (ps : List PassT) (size : Int) : Int → List SlotT → Bool
  | _, [] => true
  | t, x :: r => slotOK s ps size t x && slotsOK s ps size x.b r
def headS (s : Nat → Int) (o : Opt) : Bool := inS o.id 0 63 && inS o.ord 0 63 && inS o.cl 0 11 && (o.sat == s 0) && inS o.size 1 (s 10)
def shotS (s : Nat → Int) (o : Opt) : Bool := swathS (orbO s) o.a o.b o.look && inS o.look (w64 (0 - s 9)) (s 9) && decide (o.b ≤ 1000000)
def fitsS (s : Nat → Int) (o : Opt) (ps : List PassT) : Bool := headS s o && shotS s o && inS (o.sl.length : Int) 1 6 && slotsOK s ps o.size o.b o.sl
theorem slotsOK_step {s : Nat → Int} {ps : List PassT} {z t : Int} {l : List SlotT} {i : Nat} (h : i < l.length) : slotsOK s ps z t (l.drop i) = (slotOK s ps z t (l.getD i ⟨0, 0, 0⟩) && slotsOK s ps z (l.getD i ⟨0, 0, 0⟩).b (l.drop (i + 1))) := by
  rw [List.drop_eq_getElem_cons h, List.getD_eq_getElem?_getD, List.getElem?_eq_getElem h]; rfl
set_option maxHeartbeats 16000000 in
theorem Tryz.fits (s : Nat → Int) (o : Opt) (ps : List PassT) (hl : o.sl.length ≤ 1000000) (hps : ps.length ≤ 1000000) : ACalls Tryz.prog 87 [.agg (satA s), .agg (optA o), passesA ps] (.bool (fitsS s o ps)) := by
  have hlm : ((o.sl.map slotA).length : Int) = (o.sl.length : Int) := by rw [List.length_map]
  have hpm : ((ps.map passA).length : Int) = (ps.length : Int) := by rw [List.length_map]
  refine ACalls.ofB Tryz.T Tryz.func87 rfl (by kernel_rfl) Tryz.mixed (Nat.le_of_ble_eq_true rfl) ?_
  intro F n' w0 m0 hG hro h1
  refine Q1 ?_
  refine Q4 hG Tryz.T Tryz.keep87 (by kernel_rfl) ?_
  conv => whnf
  refine Q1 ?_
  refine SPB.cut (X := Unit) (fun _ => ⟨[(7, .bool (headS s o)), (6, .bool false), (4, .loc 4 0), (3, .loc 3 0), (2, passesA ps)], [(4, optA o), (3, satA s)]⟩) (fun _ => True) ?_ (fun _ _ => ?_)
  · refine Q4 hG Tryz.T Tryz.keep87 (by kernel_rfl) ?_
    repeat' first|refine Q1 ?_|refine Q2 ?_|refine Q3 hG Tryz.T Tryz.keep87 (by kernel_rfl) ?_|refine Q4 hG Tryz.T Tryz.keep87 (by kernel_rfl) ?_|refine Q5 hG Tryz.T ?_|refine Q6 hG Tryz.T ?_|refine Q7 hG Tryz.T ?_|refine Q8 hG Tryz.T ?_|refine Q9 rfl ?_|refine QF rfl ?_|refine QC rfl (And.intro (fun h => ?_) (fun h => ?_))|((conv => whnf); first|refine anF ?_|refine anT ?_|refine And.intro (by kernel_rfl) ?_|refine Exists.intro _ (And.intro (Tryz.z133 _ _ _) ?_)|refine And.intro (fun h => ?_) (fun h => ?_)|refine Or.inl ?_|fail)
    all_goals refine Exists.intro () (And.intro trivial (St.le.of (And.intro (congrArg (fun z => some (AV.bool z)) ?_) ?_) ?_))
    all_goals first
      | (simp only [headS, *, Bool.true_and, Bool.and_true, Bool.false_and, Bool.and_false, Bool.true_or, Bool.or_true, Bool.false_or, Bool.or_false, Bool.not_true, Bool.not_false]; done)
      | (repeat' (first | exact trivial | refine And.intro rfl ?_))
  conv => whnf
  refine Q1 ?_
  refine SPB.cut (X := Unit) (fun _ => ⟨[(8, .bool (shotS s o)), (7, .bool (headS s o)), (6, .bool false), (4, .loc 4 0), (3, .loc 3 0), (2, passesA ps)], [(4, optA o), (3, satA s)]⟩) (fun _ => True) ?_ (fun _ _ => ?_)
  · refine Q4 hG Tryz.T Tryz.keep87 (by kernel_rfl) ?_
    repeat' first|refine Q1 ?_|refine Q2 ?_|refine Q3 hG Tryz.T Tryz.keep87 (by kernel_rfl) ?_|refine Q4 hG Tryz.T Tryz.keep87 (by kernel_rfl) ?_|refine Q5 hG Tryz.T ?_|refine Q6 hG Tryz.T ?_|refine Q7 hG Tryz.T ?_|refine Q8 hG Tryz.T ?_|refine Q9 rfl ?_|refine QF rfl ?_|refine QC rfl (And.intro (fun h => ?_) (fun h => ?_))|((conv => whnf); first|refine anF ?_|refine anT ?_|refine And.intro (by kernel_rfl) ?_|refine Exists.intro _ (And.intro (Tryz.z133 _ _ _) ?_)|refine Exists.intro _ (And.intro (Tryz.z139 (orbO s) _ _ _) ?_)|refine And.intro (fun h => ?_) (fun h => ?_)|refine Or.inl ?_|fail)
    all_goals refine Exists.intro () (And.intro trivial (St.le.of (And.intro (congrArg (fun z => some (AV.bool z)) ?_) ?_) ?_))
    all_goals first
      | (simp only [shotS, w64, *, Bool.true_and, Bool.and_true, Bool.false_and, Bool.and_false, Bool.true_or, Bool.or_true, Bool.false_or, Bool.or_false, Bool.not_true, Bool.not_false]; done)
      | (repeat' (first | exact trivial | refine And.intro rfl ?_))
  conv => whnf
  repeat' first|refine Q1 ?_|refine Q2 ?_|refine Q3 hG Tryz.T Tryz.keep87 (by kernel_rfl) ?_|refine Q4 hG Tryz.T Tryz.keep87 (by kernel_rfl) ?_|refine Q5 hG Tryz.T ?_|refine Q6 hG Tryz.T ?_|refine Q7 hG Tryz.T ?_|refine Q8 hG Tryz.T ?_|refine Q9 rfl ?_|refine QF rfl ?_|refine QC rfl (And.intro (fun h => ?_) (fun h => ?_))|((conv => whnf); first|refine anF ?_|refine anT ?_|refine And.intro (by kernel_rfl) ?_|refine Exists.intro _ (And.intro (Tryz.z133 _ _ _) ?_)|refine And.intro (fun h => ?_) (fun h => ?_)|refine Or.inl ?_|fail)
  · refine Ends.mk (Or.inl rfl) (AV.weak.of_eq (congrArg AV.bool ?_))
    simp only [fitsS, notT (by assumption : (!headS s o) = true), Bool.false_and]
  · refine Ends.mk (Or.inl rfl) (AV.weak.of_eq (congrArg AV.bool ?_))
    simp only [fitsS, notT (by assumption : (!shotS s o) = true), Bool.false_and, Bool.and_false]
  · refine Ends.mk (Or.inl rfl) (AV.weak.of_eq (congrArg AV.bool ?_))
    have h := notT (by assumption : (!inS (((o.sl.map slotA).length : Nat) : Int) 1 6) = true)
    rw [hlm] at h
    simp only [fitsS, h, Bool.false_and, Bool.and_false]
  · have q1 := notF (by assumption : (!headS s o) = false)
    have q2 := notF (by assumption : (!shotS s o) = false)
    have q3 := notF (by assumption : (!inS (((o.sl.map slotA).length : Nat) : Int) 1 6) = false)
    rw [hlm] at q3
    have hfit : fitsS s o ps = slotsOK s ps o.size o.b o.sl := by simp only [fitsS, q1, q2, q3, Bool.true_and]
    rw [hfit]
    refine SPB.loop (X := Nat × Int) (fun q => ⟨[(83, .int .i64 q.1), (82, .int .i64 (o.sl.map slotA).length), (81, .sl .no 3 (o.sl.map slotA)), (9, .int .i64 q.2), (6, .bool false), (4, .loc 4 0), (3, .loc 3 0), (2, passesA ps)], [(4, optA o), (3, satA s)]⟩)
      (fun q => q.1 ≤ o.sl.length ∧ slotsOK s ps o.size q.2 (o.sl.drop q.1) = slotsOK s ps o.size o.b o.sl) (fun q => o.sl.length - q.1) (0, o.b) ⟨Nat.zero_le _, rfl⟩ (St.le.of ?_ ?_) (fun q hq => ?_)
    · repeat' (first | exact trivial | refine And.intro rfl ?_)
    · repeat' (first | exact trivial | refine And.intro rfl ?_)
    · obtain ⟨i, t⟩ := q
      obtain ⟨hi, hf⟩ := hq
      have hi : i ≤ o.sl.length := hi
      have hf : slotsOK s ps o.size t (o.sl.drop i) = slotsOK s ps o.size o.b o.sl := hf
      by_cases hlt : i < o.sl.length
      · have bbk : decide ((i : Int) < ((o.sl.map slotA).length : Int)) = false → False := fun h => by have := of_decide_eq_false h; omega
        have hx := slot_at hlt
        rw [slotsOK_step hlt] at hf
        generalize o.sl.getD i ⟨0, 0, 0⟩ = x at hx hf
        have bad : slotOK s ps o.size t x = false → false = slotsOK s ps o.size o.b o.sl := fun h => by rw [← hf, h, Bool.false_and]
        have hin : (!inS x.p 0 (IntKind.i64.wrap (((ps.map passA).length : Int) - 1))) = false → 0 ≤ x.p ∧ (ps.map passA)[x.p.toNat]? = some (passA (passAt ps x.p.toNat)) := fun h => by
          have h := notF h
          rw [hpm, show IntKind.i64.wrap ((ps.length : Int) - 1) = (ps.length : Int) - 1 from w64_in (by omega) (by omega)] at h
          simp only [inS, Bool.and_eq_true, decide_eq_true_eq] at h
          exact ⟨h.1, passAt_get (by omega)⟩
        have hpm' : w64 ((ps.length : Int) - 1) = IntKind.i64.wrap (((ps.map passA).length : Int) - 1) := by rw [hpm]; rfl
        repeat' first|exact (bbk (by assumption)).elim|refine Q1 ?_|refine Q2 ?_|refine Q3 hG Tryz.T Tryz.keep87 (by kernel_rfl) ?_|refine Q4 hG Tryz.T Tryz.keep87 (by kernel_rfl) ?_|refine Q5 hG Tryz.T ?_|refine Q6 hG Tryz.T ?_|refine Q7 hG Tryz.T ?_|refine Q8 hG Tryz.T ?_|refine Q9 rfl ?_|refine QF rfl ?_|refine QC rfl (And.intro (fun h => ?_) (fun h => ?_))|((conv => whnf); first|refine anF ?_|refine anT ?_|refine And.intro (by kernel_rfl) ?_|refine And.intro (Int.natCast_nonneg i) (Exists.intro _ (And.intro hx ?_))|refine Exists.intro _ (And.intro (Tryz.z133 _ _ _) ?_)|refine And.intro (hin (by assumption)).1 (Exists.intro _ (And.intro (hin (by assumption)).2 ?_))|refine And.intro (fun h => ?_) (fun h => ?_)|refine Or.inl ?_|fail)
        rotate_left 3
        · have hok : slotOK s ps o.size t x = true := by
            (try simp only [Bool.not_eq_true', Bool.not_eq_false', cond_true] at *)
            unfold slotOK w64
            unfold w64 at hpm'
            rw [hpm']
            simp only [*, Bool.true_and, Bool.and_true, Bool.false_and, Bool.and_false, Bool.true_or, Bool.or_true, Bool.false_or, Bool.or_false, Bool.not_true, Bool.not_false]
          refine Exists.intro (i + 1, x.b) (And.intro ⟨hlt, ?_⟩ (And.intro (by show o.sl.length - (i + 1) < o.sl.length - i; omega) (St.le.of ?_ ?_)))
          · show slotsOK s ps o.size x.b (o.sl.drop (i + 1)) = _
            rw [← hf, hok, Bool.true_and]
          · refine And.intro (congrArg some (le_next (by omega))) ?_
            repeat' (first | exact trivial | refine And.intro rfl ?_)
          · repeat' (first | exact trivial | refine And.intro rfl ?_)
        all_goals refine Ends.mk (Or.inl rfl) (AV.weak.of_eq (congrArg AV.bool (bad ?_)))
        all_goals (try simp only [Bool.not_eq_true', Bool.not_eq_false', cond_true] at *)
        all_goals (unfold slotOK w64; unfold w64 at hpm'; rw [hpm']; simp only [*, Bool.true_and, Bool.and_true, Bool.false_and, Bool.and_false, Bool.true_or, Bool.or_true, Bool.false_or, Bool.or_false, Bool.not_true, Bool.not_false])
      · have hge : i = o.sl.length := by omega
        have bbk : decide ((i : Int) < ((o.sl.map slotA).length : Int)) = true → False := fun h => by have := of_decide_eq_true h; omega
        rw [List.drop_of_length_le (by omega)] at hf
        repeat' first|exact (bbk (by assumption)).elim|refine Q1 ?_|refine Q2 ?_|refine Q3 hG Tryz.T Tryz.keep87 (by kernel_rfl) ?_|refine Q4 hG Tryz.T Tryz.keep87 (by kernel_rfl) ?_|refine Q5 hG Tryz.T ?_|refine Q6 hG Tryz.T ?_|refine Q7 hG Tryz.T ?_|refine Q8 hG Tryz.T ?_|refine Q9 rfl ?_|refine QF rfl ?_|refine QC rfl (And.intro (fun h => ?_) (fun h => ?_))|((conv => whnf); first|refine anF ?_|refine anT ?_|refine And.intro (by kernel_rfl) ?_|refine And.intro (fun h => ?_) (fun h => ?_)|refine Or.inl ?_|fail)
        exact Ends.mk (Or.inl rfl) (AV.weak.of_eq (congrArg AV.bool hf))
def okOpt (s : Nat → Int) (ps : List PassT) (a b : Int) (pre : List Opt) (o : Opt) : Bool := fitsS s o ps && !decide (o.a < a) && !decide (lastB o > b) && !(pre.any fun p => p.id == o.id)
def optsOK (s : Nat → Int) (ps : List PassT) (a b : Int) : List Opt → List Opt → Bool
  | _, [] => true
  | pre, o :: r => okOpt s ps a b pre o && optsOK s ps a b (pre ++ [o]) r
theorem optsOK_step {s : Nat → Int} {ps : List PassT} {a b : Int} {l : List Opt} {i : Nat} (h : i < l.length) : optsOK s ps a b (l.take i) (l.drop i) = (okOpt s ps a b (l.take i) (optAt l i) && optsOK s ps a b (l.take (i + 1)) (l.drop (i + 1))) := by
  rw [List.drop_eq_getElem_cons h, optsOK, optAt_eq h, List.take_add_one, List.getElem?_eq_getElem h]; rfl
def trackS (s : Nat → Int) (l : List Opt) (ps : List PassT) (a b : Int) : Bool := decide (l.length ≤ 8) && rightS a b && !decide (w64 (b - a) > 3000) && satS s && passS ps && optsOK s ps a b [] l
theorem Tryz.proper (s : Nat → Int) (o : Opt) (ps : List PassT) (hl : o.sl.length ≤ 1000000) (hps : ps.length ≤ 1000000) : ACalls Tryz.prog 30 [.agg (satA s), .agg (optA o), passesA ps] (.bool (satS s && passS ps && fitsS s o ps)) := by
  refine ACalls.ofB Tryz.T Tryz.func30 rfl (by kernel_rfl) Tryz.mixed (Nat.le_of_ble_eq_true rfl) ?_
  intro F n' w0 m0 hG hro h1
  repeat' first|refine Q1 ?_|refine Q2 ?_|refine Q3 hG Tryz.T Tryz.keep30 (by kernel_rfl) ?_|refine Q4 hG Tryz.T Tryz.keep30 (by kernel_rfl) ?_|refine Q5 hG Tryz.T ?_|refine Q6 hG Tryz.T ?_|refine Q7 hG Tryz.T ?_|refine Q8 hG Tryz.T ?_|refine Q9 rfl ?_|refine QF rfl ?_|refine QC rfl (And.intro (fun h => ?_) (fun h => ?_))|((conv => whnf); first|refine anF ?_|refine anT ?_|refine And.intro (by kernel_rfl) ?_|refine Exists.intro _ (And.intro (Tryz.c68 s) ?_)|refine Exists.intro _ (And.intro (Tryz.properPass ps hps) ?_)|refine Exists.intro _ (And.intro (Tryz.fits s o ps hl hps) ?_)|refine And.intro (fun h => ?_) (fun h => ?_)|refine Or.inl ?_|fail)
  all_goals refine Ends.mk (Or.inl rfl) (AV.weak.of_eq (congrArg AV.bool ?_))
  all_goals (simp only [*, Bool.true_and, Bool.and_true, Bool.false_and, Bool.and_false, Bool.true_or, Bool.or_true, Bool.false_or, Bool.or_false, Bool.not_true, Bool.not_false])
theorem Tryz.twin (o p : Opt) : ACalls Tryz.prog 86 [.agg (optA p), .ref (optA o)] (.bool (p.id == o.id)) := by
  refine ACalls.ofB Tryz.T Tryz.func86 rfl (by kernel_rfl) Tryz.mixed (Nat.le_of_ble_eq_true rfl) ?_
  intro F n' w0 m0 hG hro h1
  repeat' first|refine Q1 ?_|refine Q2 ?_|refine Q3 hG Tryz.T Tryz.keep86 (by kernel_rfl) ?_|refine Q4 hG Tryz.T Tryz.keep86 (by kernel_rfl) ?_|refine Q5 hG Tryz.T ?_|refine Q6 hG Tryz.T ?_|refine Q7 hG Tryz.T ?_|refine Q8 hG Tryz.T ?_|refine Q9 rfl ?_|refine QF rfl ?_|refine QC rfl (And.intro (fun h => ?_) (fun h => ?_))|((conv => whnf); first|refine anF ?_|refine anT ?_|refine And.intro (by kernel_rfl) ?_|refine And.intro (fun h => ?_) (fun h => ?_)|refine Or.inl ?_|fail)
  all_goals exact Ends.mk (Or.inl rfl) (AV.weak.of_eq rfl)
theorem opt_at {l : List Opt} {i : Nat} (h : i < l.length) : (l.map optA)[(i : Int).toNat]? = some (optA (optAt l i)) := by simp [optAt, List.getElem?_eq_getElem h]
theorem fits_len {s : Nat → Int} {o : Opt} {ps : List PassT} (h : fitsS s o ps = true) : 1 ≤ o.sl.length ∧ o.sl.length ≤ 6 := by
  simp only [fitsS, inS, Bool.and_eq_true, decide_eq_true_eq] at h
  omega
end Go.Proofs
namespace Go.Proofs
open Go Go.AI
set_option maxRecDepth 10000
def slens (l : List Opt) : Prop := ∀ o ∈ l, o.sl.length ≤ 1000000
set_option maxHeartbeats 16000000 in
theorem Tryz.valid (s : Nat → Int) (l : List Opt) (ps : List PassT) (a b : Int) (hl : l.length ≤ 1000000) (hs : slens l) (hps : ps.length ≤ 1000000) : ACalls Tryz.prog 23 [.agg (satA s), optsA l, passesA ps, .agg (spellA a b)] (.bool (trackS s l ps a b)) := by
  have hlm : ((l.map optA).length : Int) = (l.length : Int) := by rw [List.length_map]
  have hn8 : decide (l.length ≤ 8) = !decide (((l.map optA).length : Int) > 8) := by rw [hlm]; by_cases h : l.length ≤ 8 <;> simp [h] <;> omega
  refine ACalls.ofB Tryz.T Tryz.func23 rfl (by kernel_rfl) Tryz.mixed (Nat.le_of_ble_eq_true rfl) ?_
  intro F n' w0 m0 hG hro h1
  repeat' first|refine Q1 ?_|refine Q2 ?_|refine Q3 hG Tryz.T Tryz.keep23 (by kernel_rfl) ?_|refine Q4 hG Tryz.T Tryz.keep23 (by kernel_rfl) ?_|refine Q5 hG Tryz.T ?_|refine Q6 hG Tryz.T ?_|refine Q7 hG Tryz.T ?_|refine Q8 hG Tryz.T ?_|refine Q9 rfl ?_|refine QF rfl ?_|refine QC rfl (And.intro (fun h => ?_) (fun h => ?_))|((conv => whnf); first|refine anF ?_|refine anT ?_|refine And.intro (by kernel_rfl) ?_|refine Exists.intro _ (And.intro (Tryz.z82 _ _) ?_)|refine Exists.intro _ (And.intro (Tryz.c68 s) ?_)|refine Exists.intro _ (And.intro (Tryz.properPass ps hps) ?_)|refine And.intro (fun h => ?_) (fun h => ?_)|refine Or.inl ?_|fail)
  rotate_left 5
  · have c1 : l.length ≤ 8 := by
      have h := (by assumption : decide (((l.map optA).length : Int) > 8) = false)
      have h2 := hn8; rw [h] at h2; simpa using h2
    have hv : trackS s l ps a b = optsOK s ps a b [] l := by
      have c2 := notF (by assumption : (!rightS a b) = false)
      have c3 := notF (by assumption : (!satS s) = false)
      have c4 := notF (by assumption : (!passS ps) = false)
      have c5 : decide (w64 (b - a) > 3000) = false := (by assumption : decide (IntKind.i64.wrap (b - a) > 3000) = false)
      simp only [trackS, decide_eq_true c1, c2, c3, c4, c5, Bool.true_and, Bool.not_false, Bool.and_true]
    rw [hv]
    refine SPB.loop (X := Nat) (fun i => ⟨[(40, .int .i64 i), (39, .int .i64 (l.map optA).length), (38, optsA l), (8, .bool false), (7, .loc 7 0), (4, .loc 4 0), (2, passesA ps), (1, optsA l)], [(7, spellA a b), (4, satA s)]⟩)
      (fun i => i ≤ l.length ∧ optsOK s ps a b (l.take i) (l.drop i) = optsOK s ps a b [] l) (fun i => l.length - i) 0 ⟨Nat.zero_le _, rfl⟩ (St.le.of ?_ ?_) (fun i hi => ?_)
    · repeat' (first | exact trivial | refine And.intro rfl ?_)
    · repeat' (first | exact trivial | refine And.intro rfl ?_)
    · obtain ⟨hi, hok⟩ := hi
      by_cases hlt : i < l.length
      · have bbk : decide ((i : Int) < ((l.map optA).length : Int)) = false → False := fun h => by have := of_decide_eq_false h; omega
        have hx := opt_at hlt
        rw [optsOK_step hlt] at hok
        have hsx : (optAt l i).sl.length ≤ 1000000 := hs _ (by rw [optAt_eq hlt]; exact List.getElem_mem hlt)
        generalize optAt l i = x at hx hok hsx
        have hle : (i : Int).toNat ≤ (l.map optA).length := by simp; exact hi
        have he : ((l.map optA).take (i : Int).toNat).drop 0 = (l.take i).map optA := by simp [List.map_take]
        have h88 := Tryz.containsOpt (l.take i) (fun p => p.id == x.id) 86 _ [.ref (optA x)] (Or.inl rfl) (by simp; omega) (fun y _ => Tryz.twin x y)
        rw [← he] at h88
        have hlast : (!fitsS s x ps) = false → 0 ≤ IntKind.i64.wrap (((x.sl.map slotA).length : Int) - 1) ∧ (x.sl.map slotA)[(IntKind.i64.wrap (((x.sl.map slotA).length : Int) - 1)).toNat]? = some [.int .i64 (slotAt x (x.sl.length - 1)).p, .int .i64 (slotAt x (x.sl.length - 1)).a, .int .i64 (lastB x)] := fun h => by
          have hn := fits_len (notF h)
          rw [List.length_map, show IntKind.i64.wrap ((x.sl.length : Int) - 1) = ((x.sl.length - 1 : Nat) : Int) from (w64_in (by omega) (by omega)).trans (by omega)]
          exact ⟨Int.natCast_nonneg _, slot_at (by omega)⟩
        repeat' first|exact (bbk (by assumption)).elim|refine Q1 ?_|refine Q2 ?_|refine Q3 hG Tryz.T Tryz.keep23 (by kernel_rfl) ?_|refine Q4 hG Tryz.T Tryz.keep23 (by kernel_rfl) ?_|refine Q5 hG Tryz.T ?_|refine Q6 hG Tryz.T ?_|refine Q7 hG Tryz.T ?_|refine Q8 hG Tryz.T ?_|refine Q9 rfl ?_|refine QF rfl ?_|refine QC rfl (And.intro (fun h => ?_) (fun h => ?_))|((conv => whnf); first|refine anF ?_|refine anT ?_|refine And.intro (by kernel_rfl) ?_|refine And.intro (Int.natCast_nonneg i) (Exists.intro _ (And.intro hx ?_))|refine Exists.intro _ (And.intro (Tryz.fits s _ ps hsx hps) ?_)|refine Exists.intro _ (And.intro (h88) ?_)|refine And.intro (hlast (by assumption)).1 (Exists.intro _ (And.intro (hlast (by assumption)).2 ?_))|refine And.intro (Int.natCast_nonneg i) (And.intro (Nat.zero_le _) (And.intro hle ?_))|refine And.intro (fun h => ?_) (fun h => ?_)|refine Or.inl ?_|fail)
        all_goals first
          | (refine Ends.mk (Or.inl rfl) (AV.weak.of_eq (congrArg AV.bool ?_))
             have hb : okOpt s ps a b (l.take i) x = false := by
               (try simp only [Bool.not_eq_true', Bool.not_eq_false'] at *)
               unfold okOpt
               simp only [*, Bool.true_and, Bool.and_true, Bool.false_and, Bool.and_false, Bool.true_or, Bool.or_true, Bool.false_or, Bool.or_false, Bool.not_true, Bool.not_false]
             rw [← hok, hb, Bool.false_and])
          | skip
        have hb : okOpt s ps a b (l.take i) x = true := by
          (try simp only [Bool.not_eq_true', Bool.not_eq_false'] at *)
          unfold okOpt
          simp only [*, Bool.true_and, Bool.and_true, Bool.false_and, Bool.and_false, Bool.true_or, Bool.or_true, Bool.false_or, Bool.or_false, Bool.not_true, Bool.not_false]
        rw [hb, Bool.true_and] at hok
        refine Exists.intro (i + 1) (And.intro ⟨hlt, hok⟩ (And.intro (by omega) (St.le.of ?_ ?_)))
        · refine And.intro (congrArg some (le_next (by omega))) ?_
          repeat' (first | exact trivial | refine And.intro rfl ?_)
        · repeat' (first | exact trivial | refine And.intro rfl ?_)
      · have bbk : decide ((i : Int) < ((l.map optA).length : Int)) = true → False := fun h => by have := of_decide_eq_true h; omega
        rw [List.drop_of_length_le (by omega)] at hok
        repeat' first|exact (bbk (by assumption)).elim|refine Q1 ?_|refine Q2 ?_|refine Q3 hG Tryz.T Tryz.keep23 (by kernel_rfl) ?_|refine Q4 hG Tryz.T Tryz.keep23 (by kernel_rfl) ?_|refine Q5 hG Tryz.T ?_|refine Q6 hG Tryz.T ?_|refine Q7 hG Tryz.T ?_|refine Q8 hG Tryz.T ?_|refine Q9 rfl ?_|refine QF rfl ?_|refine QC rfl (And.intro (fun h => ?_) (fun h => ?_))|((conv => whnf); first|refine anF ?_|refine anT ?_|refine And.intro (by kernel_rfl) ?_|refine And.intro (fun h => ?_) (fun h => ?_)|refine Or.inl ?_|fail)
        exact Ends.mk (Or.inl rfl) (AV.weak.of_eq (congrArg AV.bool hok))
  all_goals refine Ends.mk (Or.inl rfl) (AV.weak.of_eq (congrArg AV.bool ?_))
  all_goals ((try simp only [Bool.not_eq_true', Bool.not_eq_false'] at *); unfold trackS w64; rw [hn8]; clear hlm; simp only [*, Bool.true_and, Bool.and_true, Bool.false_and, Bool.and_false, Bool.true_or, Bool.or_true, Bool.false_or, Bool.or_false, Bool.not_true, Bool.not_false])
theorem aims_snoc {l : List Opt} {i : Nat} (h : i < l.length) : aimsOf (l.take (i + 1)) = aimsOf (l.take i) ++ [⟨(optAt l i).a, (optAt l i).b, (optAt l i).look⟩] := by
  rw [List.take_add_one, List.getElem?_eq_getElem h, optAt_eq h]; exact List.map_append
set_option maxHeartbeats 4000000 in
theorem Tryz.aims (l : List Opt) (hl : l.length ≤ 1000000) : ACalls Tryz.prog 29 [optsA l] (aimsA (aimsOf l)) := by
  refine ACalls.ofB Tryz.T Tryz.func29 rfl (by kernel_rfl) Tryz.mixed (Nat.le_of_ble_eq_true rfl) ?_
  intro F n' w0 m0 hG hro h1
  repeat' first|refine Q1 ?_|refine Q2 ?_|refine Q3 hG Tryz.T Tryz.keep29 (by kernel_rfl) ?_|refine Q4 hG Tryz.T Tryz.keep29 (by kernel_rfl) ?_|refine Q5 hG Tryz.T ?_|refine Q6 hG Tryz.T ?_|refine Q7 hG Tryz.T ?_|refine Q8 hG Tryz.T ?_|refine Q9 rfl ?_|refine QF rfl ?_|refine QC rfl (And.intro (fun h => ?_) (fun h => ?_))|((conv => whnf); first|refine anF ?_|refine anT ?_|refine And.intro (by kernel_rfl) ?_|refine And.intro (fun h => ?_) (fun h => ?_)|refine Or.inl ?_|fail)
  refine SPB.loop (X := Nat) (fun i => ⟨[(8, .int .i64 i), (3, .sl (.id 3) 3 ((aimsOf (l.take i)).map aimA)), (7, .int .i64 (l.map optA).length), (6, optsA l)], []⟩) (fun i => i ≤ l.length) (fun i => l.length - i) 0 (Nat.zero_le _) (St.le.of ?_ ?_) (fun i hi => ?_)
  · repeat' (first | exact trivial | refine And.intro rfl ?_)
  · repeat' (first | exact trivial | refine And.intro rfl ?_)
  · by_cases hlt : i < l.length
    · have bbk : decide ((i : Int) < ((l.map optA).length : Int)) = false → False := fun h => by have := of_decide_eq_false h; simp at this; omega
      have hx := opt_at hlt
      have hsn := aims_snoc hlt
      have hln : ((aimsOf (l.take i)).map aimA).length = i := by simp [aimsOf]; omega
      generalize optAt l i = x at hx hsn
      repeat' first|exact (bbk (by assumption)).elim|refine Q1 ?_|refine Q2 ?_|refine Q3 hG Tryz.T Tryz.keep29 (by kernel_rfl) ?_|refine Q4 hG Tryz.T Tryz.keep29 (by kernel_rfl) ?_|refine Q5 hG Tryz.T ?_|refine Q6 hG Tryz.T ?_|refine Q7 hG Tryz.T ?_|refine Q8 hG Tryz.T ?_|refine Q9 rfl ?_|refine QF rfl ?_|refine QC rfl (And.intro (fun h => ?_) (fun h => ?_))|((conv => whnf); first|refine anF ?_|refine anT ?_|refine And.intro (by kernel_rfl) ?_|refine And.intro (Int.natCast_nonneg i) (Exists.intro _ (And.intro hx ?_))|refine And.intro (show (((aimsOf (l.take i)).map aimA).length + 1) * 24 ≤ 70368744177664 by rw [hln]; omega) (And.intro (show ((aimsOf (l.take i)).map aimA).length + 1 ≤ 4611686018427387904 by rw [hln]; omega) ?_)|refine And.intro (fun h => ?_) (fun h => ?_)|refine Or.inl ?_|fail)
      refine Exists.intro (i + 1) (And.intro hlt (And.intro (by omega) (St.le.of ?_ ?_)))
      · refine And.intro (congrArg some (le_next (by omega))) (And.intro (congrArg (fun z => some (AV.sl (.id 3) 3 z)) ?_) ?_)
        · rw [hsn, List.map_append]; rfl
        · repeat' (first | exact trivial | refine And.intro rfl ?_)
      · repeat' (first | exact trivial | refine And.intro rfl ?_)
    · have bbk : decide ((i : Int) < ((l.map optA).length : Int)) = true → False := fun h => by have := of_decide_eq_true h; simp at this; omega
      have he : l.take i = l := List.take_of_length_le (by omega)
      rw [he]
      repeat' first|exact (bbk (by assumption)).elim|refine Q1 ?_|refine Q2 ?_|refine Q3 hG Tryz.T Tryz.keep29 (by kernel_rfl) ?_|refine Q4 hG Tryz.T Tryz.keep29 (by kernel_rfl) ?_|refine Q5 hG Tryz.T ?_|refine Q6 hG Tryz.T ?_|refine Q7 hG Tryz.T ?_|refine Q8 hG Tryz.T ?_|refine Q9 rfl ?_|refine QF rfl ?_|refine QC rfl (And.intro (fun h => ?_) (fun h => ?_))|((conv => whnf); first|refine anF ?_|refine anT ?_|refine And.intro (by kernel_rfl) ?_|refine And.intro (fun h => ?_) (fun h => ?_)|refine Or.inl ?_|fail)
      exact Ends.mk (Or.inl rfl) (AV.weak.of_eq rfl)
end Go.Proofs
namespace Go.Proofs
open Go Go.AI
set_option maxRecDepth 10000
theorem Tryz.sent (l : List Opt) : ACalls Tryz.prog 92 [optsA l] (.clo 166 [.ref [optsA l]]) := by
  refine ACalls.ofB Tryz.T Tryz.func92 rfl (by kernel_rfl) Tryz.mixed (Nat.le_of_ble_eq_true rfl) ?_
  intro F n' w0 m0 hG hro h1
  repeat' first|refine Q1 ?_|refine Q2 ?_|refine Q3 hG Tryz.T Tryz.keep92 (by kernel_rfl) ?_|refine Q4 hG Tryz.T Tryz.keep92 (by kernel_rfl) ?_|refine Q5 hG Tryz.T ?_|refine Q6 hG Tryz.T ?_|refine Q7 hG Tryz.T ?_|refine Q8 hG Tryz.T ?_|refine Q9 rfl ?_|refine QF rfl ?_|refine QC rfl (And.intro (fun h => ?_) (fun h => ?_))|((conv => whnf); first|refine anF ?_|refine anT ?_|refine And.intro (by kernel_rfl) ?_|refine And.intro (fun h => ?_) (fun h => ?_)|refine Or.inl ?_|fail)
  all_goals exact Ends.mk (Or.inl rfl) (AV.weak.of_eq rfl)
def spA (x : Int × Int) : List AV := [.agg (spellA x.1 x.2)]
theorem sent_take {l : List Opt} {i : Nat} (h : i < l.length) : sentP (l.take (i + 1)) = sentP (l.take i) ++ slP (optAt l i) := by
  rw [List.take_add_one, List.getElem?_eq_getElem h, optAt_eq h]
  simp only [sentP, List.flatMap_append, Option.toList_some, List.flatMap_cons, List.flatMap_nil, List.append_nil, slP]
theorem sent_get {l : List Opt} {i j : Nat} (h : i < l.length) (hj : j < (optAt l i).sl.length) : (sentP l)[(sentP (l.take i)).length + j]? = some ((slotAt (optAt l i) j).a, (slotAt (optAt l i) j).b) := by
  have e : sentP l = sentP (l.take (i + 1)) ++ sentP (l.drop (i + 1)) := by
    conv => lhs; rw [← List.take_append_drop (i + 1) l]
    simp only [sentP, List.flatMap_append]
  have h1 : j < (slP (optAt l i)).length := by simpa [slP] using hj
  rw [e, sent_take h, List.append_assoc, List.getElem?_append_right (by omega), Nat.add_sub_cancel_left, List.getElem?_append_left h1]
  simp [slP, slotAt, List.getElem?_eq_getElem hj]
set_option maxHeartbeats 8000000 in
theorem Tryz.sentSeq (l : List Opt) (hl : l.length ≤ 1000000) (hs : slens l) : ASeqM Tryz.prog spA 166 [.ref [optsA l]] (sentP l) := by
  refine ASeqM.of Tryz.func166 rfl (by kernel_rfl) Tryz.mixed (Nat.le_of_ble_eq_true rfl) rfl ?_
  intro F n m y J Jx hY
  repeat' first|refine MPB.seq ?_|refine MPB.block ?_|refine MPB.reg hY Tryz.T Tryz.keep166 (by kernel_rfl) ?_|refine MPB.skip ?_|refine MPB.label ?_|refine MPB.ret ?_|refine MPB.exit ?_|refine MPB.condT rfl ?_|refine MPB.condF rfl ?_|refine MPB.cond rfl (And.intro (fun h => ?_) (fun h => ?_))|((conv => whnf); first|refine anF ?_|refine anT ?_|refine And.intro (by kernel_rfl) ?_|refine And.intro (fun h => ?_) (fun h => ?_)|refine Or.inl ?_|fail)
  refine MPB.loop (X := Nat) (fun i => ((false, (sentP (l.take i)).length), ⟨[(9, .int .i64 i), (8, .int .i64 (l.map optA).length), (7, optsA l), (0, .lit (.func (.yield y) #[] #[]))], []⟩)) (fun i => i ≤ l.length) (fun i => l.length - i) 0 (Nat.zero_le _) rfl (St.le.of ?_ ?_) (fun i hi => ?_)
  · repeat' (first | exact trivial | refine And.intro rfl ?_)
  · repeat' (first | exact trivial | refine And.intro rfl ?_)
  · by_cases hlt : i < l.length
    · have bbk : decide ((i : Int) < ((l.map optA).length : Int)) = false → False := fun h => by have := of_decide_eq_false h; simp at this; omega
      have hx := opt_at hlt
      have hsx : (optAt l i).sl.length ≤ 1000000 := hs _ (by rw [optAt_eq hlt]; exact List.getElem_mem hlt)
      have hget := fun (j : Nat) (hj : j < (optAt l i).sl.length) => sent_get hlt hj
      have htk : (sentP (l.take (i + 1))).length = (sentP (l.take i)).length + (optAt l i).sl.length := by rw [sent_take hlt]; simp [slP]
      generalize optAt l i = x at hx hsx hget htk
      have hlm : ((x.sl.map slotA).length : Int) = (x.sl.length : Int) := by rw [List.length_map]
      repeat' first|exact (bbk (by assumption)).elim|refine MPB.seq ?_|refine MPB.block ?_|refine MPB.reg hY Tryz.T Tryz.keep166 (by kernel_rfl) ?_|refine MPB.skip ?_|refine MPB.label ?_|refine MPB.ret ?_|refine MPB.exit ?_|refine MPB.condT rfl ?_|refine MPB.condF rfl ?_|refine MPB.cond rfl (And.intro (fun h => ?_) (fun h => ?_))|((conv => whnf); first|refine anF ?_|refine anT ?_|refine And.intro (by kernel_rfl) ?_|refine And.intro (Int.natCast_nonneg i) (Exists.intro _ (And.intro hx ?_))|refine And.intro (fun h => ?_) (fun h => ?_)|refine Or.inl ?_|fail)
      refine MPB.loop (X := Nat) (fun j => ((false, (sentP (l.take i)).length + j), ⟨[(16, .int .i64 j), (15, .int .i64 (x.sl.map slotA).length), (14, .sl .no 3 (x.sl.map slotA)), (9, .int .i64 i), (8, .int .i64 (l.map optA).length), (7, optsA l), (0, .lit (.func (.yield y) #[] #[]))], []⟩)) (fun j => j ≤ x.sl.length) (fun j => x.sl.length - j) 0 (Nat.zero_le _) rfl (St.le.of ?_ ?_) (fun j hj => ?_)
      · repeat' (first | exact trivial | refine And.intro rfl ?_)
      · repeat' (first | exact trivial | refine And.intro rfl ?_)
      · by_cases hjl : j < x.sl.length
        · have bbj : decide ((j : Int) < ((x.sl.map slotA).length : Int)) = false → False := fun h => by have := of_decide_eq_false h; omega
          have hy := slot_at hjl
          have hg := hget j hjl
          have hsl : x.sl.getD j ⟨0, 0, 0⟩ = slotAt x j := rfl
          rw [hsl] at hy
          generalize slotAt x j = z at hy hg
          repeat' first|exact (bbj (by assumption)).elim|refine MPB.seq ?_|refine MPB.block ?_|refine MPB.reg hY Tryz.T Tryz.keep166 (by kernel_rfl) ?_|refine MPB.skip ?_|refine MPB.label ?_|refine MPB.ret ?_|refine MPB.exit ?_|refine MPB.condT rfl ?_|refine MPB.condF rfl ?_|refine MPB.cond rfl (And.intro (fun h => ?_) (fun h => ?_))|((conv => whnf); first|refine anF ?_|refine anT ?_|refine And.intro (by kernel_rfl) ?_|refine And.intro (Int.natCast_nonneg j) (Exists.intro _ (And.intro hy ?_))|refine And.intro (fun h => ?_) (fun h => ?_)|refine Or.inl ?_|fail)
          refine Exists.intro (z.a, z.b) (And.intro hg (And.intro rfl (fun t ht => ?_)))
          subst ht
          refine And.intro ?_ ?_
          · repeat' first|refine MPB.seq ?_|refine MPB.block ?_|refine MPB.reg hY Tryz.T Tryz.keep166 (by kernel_rfl) ?_|refine MPB.skip ?_|refine MPB.label ?_|refine MPB.ret ?_|refine MPB.exit ?_|refine MPB.condT rfl ?_|refine MPB.condF rfl ?_|refine MPB.cond rfl (And.intro (fun h => ?_) (fun h => ?_))|((conv => whnf); first|refine anF ?_|refine anT ?_|refine And.intro (by kernel_rfl) ?_|refine And.intro (fun h => ?_) (fun h => ?_)|refine Or.inl ?_|fail)
            refine Exists.intro (j + 1) (And.intro hjl (And.intro (by omega) (And.intro rfl (St.le.of ?_ ?_))))
            · refine And.intro (congrArg some (le_next (by omega))) ?_
              repeat' (first | exact trivial | refine And.intro rfl ?_)
            · repeat' (first | exact trivial | refine And.intro rfl ?_)
          · repeat' first|refine MPB.seq ?_|refine MPB.block ?_|refine MPB.reg hY Tryz.T Tryz.keep166 (by kernel_rfl) ?_|refine MPB.skip ?_|refine MPB.label ?_|refine MPB.ret ?_|refine MPB.exit ?_|refine MPB.condT rfl ?_|refine MPB.condF rfl ?_|refine MPB.cond rfl (And.intro (fun h => ?_) (fun h => ?_))|((conv => whnf); first|refine anF ?_|refine anT ?_|refine And.intro (by kernel_rfl) ?_|refine And.intro (fun h => ?_) (fun h => ?_)|refine Or.inl ?_|fail)
            exact EndsY.mk (Or.inl rfl) (Or.inr rfl)
        · have hge : j = x.sl.length := by omega
          have bbj : decide ((j : Int) < ((x.sl.map slotA).length : Int)) = true → False := fun h => by have := of_decide_eq_true h; omega
          repeat' first|exact (bbj (by assumption)).elim|refine MPB.seq ?_|refine MPB.block ?_|refine MPB.reg hY Tryz.T Tryz.keep166 (by kernel_rfl) ?_|refine MPB.skip ?_|refine MPB.label ?_|refine MPB.ret ?_|refine MPB.exit ?_|refine MPB.condT rfl ?_|refine MPB.condF rfl ?_|refine MPB.cond rfl (And.intro (fun h => ?_) (fun h => ?_))|((conv => whnf); first|refine anF ?_|refine anT ?_|refine And.intro (by kernel_rfl) ?_|refine And.intro (fun h => ?_) (fun h => ?_)|refine Or.inl ?_|fail)
          refine Exists.intro (i + 1) (And.intro hlt (And.intro (by omega) (And.intro (congrArg (Prod.mk false) (by rw [htk, hge])) (St.le.of ?_ ?_))))
          · refine And.intro (congrArg some (le_next (by omega))) ?_
            repeat' (first | exact trivial | refine And.intro rfl ?_)
          · repeat' (first | exact trivial | refine And.intro rfl ?_)
    · have bbk : decide ((i : Int) < ((l.map optA).length : Int)) = true → False := fun h => by have := of_decide_eq_true h; simp at this; omega
      have he : l.take i = l := List.take_of_length_le (by omega)
      repeat' first|exact (bbk (by assumption)).elim|refine MPB.seq ?_|refine MPB.block ?_|refine MPB.reg hY Tryz.T Tryz.keep166 (by kernel_rfl) ?_|refine MPB.skip ?_|refine MPB.label ?_|refine MPB.ret ?_|refine MPB.exit ?_|refine MPB.condT rfl ?_|refine MPB.condF rfl ?_|refine MPB.cond rfl (And.intro (fun h => ?_) (fun h => ?_))|((conv => whnf); first|refine anF ?_|refine anT ?_|refine And.intro (by kernel_rfl) ?_|refine And.intro (fun h => ?_) (fun h => ?_)|refine Or.inl ?_|fail)
      exact EndsY.mk (Or.inr rfl) (Or.inl (congrArg (Prod.mk false) (by rw [he])))
end Go.Proofs
