/- Contracts of the functions and plain facts about what they reckon, part 2: called with arguments that read so, each hands back what is typed. The conditions are those typed. -/
import Derived.Test.YtehdegggapeihaaGreatWConA
import Derived.Shelf.SlLaysF0
set_option linter.unusedSectionVars false
set_option linter.unusedVariables false
set_option linter.unusedSimpArgs false
namespace Go.Proofs
open Go Go.AI
set_option maxRecDepth 10000
def o5 (a b : Int) : Bool := decide (0 ≤ a) && decide (a < b) && decide (b ≤ 1000000) && decide (w64 (b - a) ≤ 3000)
theorem AY (a b : Int) : ae Tryz.prog 213 [.agg [.int .i64 a, .int .i64 b]] (.bool (o5 a b)) := by
 refine ae.of aa uP Tryz.func213 rfl (by kernel_rfl) af (by kernel_rfl) (Nat.le_of_ble_eq_true rfl) ?_
 intro F n w0 m0 hG hro h1
 repeat' first|refine anF ?_|refine anT ?_|refine And.intro (fun h => ?_) (fun h => ?_)
 all_goals refine Ends.mk (Or.inl rfl) (ac (congrArg AV.bool ?_))
 all_goals (simp_all [o5, w64] <;> first | rfl | (intros; omega))
theorem AT (n a b : Int) : ae Tryz.prog 234 [.int .i64 n, .int .i64 a, .int .i64 b] (.bool (decide (a ≤ n) && decide (n ≤ b))) := by
 refine ae.of aa uJ Tryz.func234 rfl (by kernel_rfl) af (by kernel_rfl) (Nat.le_of_ble_eq_true rfl) ?_
 intro F n w0 m0 hG hro h1
 repeat' first|refine anF ?_|refine anT ?_|refine And.intro (fun h => ?_) (fun h => ?_)
 all_goals refine Ends.mk (Or.inl rfl) (ac (congrArg AV.bool ?_))
 all_goals simp_all <;> omega
structure dD where
 a : Int
 b : Int
 k : Int
def fz (x : dD) : List AV := [.int .i64 x.a, .int .i64 x.b, .int .i64 x.k]
def gD (l : List dD) : AV := .sl .no 3 (l.map fz)
def jP (s : Nat → Int) (l : List dD) (a b : Int) : List AV := [.ref (aQ a b), .ref (aX s), .ref [gD l]]
theorem AU (s : Nat → Int) (l : List dD) (a b : Int) : ae Tryz.prog 269 [.agg (aX s), gD l, .agg (aQ a b)] (.clo 305 (jP s l a b)) := by
 refine ae.of aa uI Tryz.func269 rfl (by kernel_rfl) af (by kernel_rfl) (Nat.le_of_ble_eq_true rfl) ?_
 intro F n w0 m0 hG hro h1
 refine Ends.mk (Or.inl rfl) (ac rfl)
def hit (t : Int) (x : dD) : Bool := decide (x.a ≤ t) && decide (t < x.b)
def rk (warm cool : Int) (t : Int) (l : List dD) : Int := l.foldl (fun g x => if hit t x then w64 (g + warm) else g) (w64 (0 - cool))
def iZ (s : Nat → Int) (l : List dD) (a b : Int) : List (Int × Int) := (List.range (b - a).toNat).map fun (i : Nat) => (a + i, rk (s 16) (s 17) (a + (i : Int)) l)
theorem lk (w c t : Int) (l : List dD) (x : dD) : rk w c t (l ++ [x]) = if hit t x then w64 (rk w c t l + w) else rk w c t l := by simp [rk, List.foldl_append]
theorem AP (s : Nat → Int) (l : List dD) (a b : Int) (ha : 0 ≤ a) (hb : b ≤ 1000000) (hl : l.length ≤ 1000000) : uY Tryz.prog vp 305 (jP s l a b) (iZ s l a b) := by
  refine uY.of aa jh Tryz.func305 rfl (by kernel_rfl) af (by kernel_rfl) (Nat.le_of_ble_eq_true rfl) rfl (fun l => by kernel_rfl) ?_
  intro F n m y J Jx hY
  refine YP.loop (X := Nat) (fun i => ((false, i), ⟨(5, .int .i64 (a + i)) :: params 0 (.lit (.func (.yield y) #[] #[]) :: jP s l a b), []⟩)) (fun i => i ≤ (b - a).toNat) (fun i => (b - a).toNat - i) 0 (Nat.zero_le _) rfl
    (ah ?_ ?_) (fun i hi => ?_)
  · refine And.intro (congrArg (fun z => some (AV.int .i64 z)) (show a = a + ((0 : Nat) : Int) by omega)) ?_
    repeat' (first | exact trivial | refine And.intro rfl ?_)
  · exact trivial
  · refine bL (keep := jh) hY aa _ _ _ _ (by kernel_rfl) (by kernel_rfl) ?_
    refine And.intro (fun h => ?_) (fun h => ?_)
    · refine YP.of_SP hY.round (by kernel_rfl) (fun W0 => SP.loop (X := Nat) (fun j => ⟨(22, .int .i64 j) :: (6, .int .i64 (rk (s 16) (s 17) (a + i) (l.take j))) :: (20, gD l) :: (21, .int .i64 (l.map fz).length) :: (5, .int .i64 (a + i)) :: params 0 (.lit (.func (.yield y) #[] #[]) :: jP s l a b), []⟩)
        (fun j => j ≤ l.length) (fun j => l.length - j) 0 (Nat.zero_le _) (ah ?_ ?_) (fun j hj => ?_))
      · repeat' (first | exact trivial | refine And.intro rfl ?_)
      · exact trivial
      · refine bw (keep := jh) (hY.base W0) aa _ _ _ (by kernel_rfl) ?_
        refine And.intro (fun h => ?_) (fun h => ?_)
        · have hj2 : j < l.length := by have := of_decide_eq_true h; simp at this; omega
          have hx : (l.map fz)[(j : Int).toNat]? = some (fz l[j]) := by simp [List.getElem?_eq_getElem hj2]
          have htk : l.take (j + 1) = l.take j ++ [l[j]] := by rw [List.take_add_one, List.getElem?_eq_getElem hj2]; rfl
          refine And.intro (by omega) (Exists.intro (fz l[j]) (And.intro hx ?_))
          repeat' (conv => whnf
                   first
                   | refine anF ?_
                   | refine anT ?_
                   | refine And.intro (fun h => ?_) (fun h => ?_))
          all_goals refine Exists.intro (j + 1) (And.intro hj2 (And.intro (by omega) (ah ?_ trivial)))
          all_goals refine And.intro (congrArg (fun z => some (AV.int .i64 z)) ((am (by omega) (by omega)).trans (by omega))) ?_
          · refine And.intro (congrArg (fun z => some (AV.int .i64 z)) ?_) ?_
            · rw [htk, lk]
              simp only [hit, *]
              rfl
            · repeat' (first | exact trivial | refine And.intro rfl ?_)
          · refine And.intro (congrArg (fun z => some (AV.int .i64 z)) ?_) ?_
            · rw [htk, lk]
              simp only [hit, *]
              rfl
            · repeat' (first | exact trivial | refine And.intro rfl ?_)
          · refine And.intro (congrArg (fun z => some (AV.int .i64 z)) ?_) ?_
            · rw [htk, lk]
              simp only [hit, *]
              rfl
            · repeat' (first | exact trivial | refine And.intro rfl ?_)
        · have e : l.take j = l := List.take_of_length_le (by have := of_decide_eq_false h; simp at this; omega)
          have hib : i < (b - a).toNat := by have := of_decide_eq_true (by assumption : decide (a + (i : Int) < b) = true); omega
          refine And.intro rfl (Exists.intro (a + (i : Int), rk (s 16) (s 17) (a + i) (l.take j)) (And.intro ?_ (And.intro rfl (And.intro ?_ ?_))))
          · rw [e]; simp [iZ, List.getElem?_map, List.getElem?_range hib]
          · refine anF ?_
            refine Exists.intro (i + 1) (And.intro hib (And.intro (by omega) (And.intro rfl (ah ?_ trivial))))
            refine And.intro (congrArg (fun z => some (AV.int .i64 z)) ((am (by omega) (by omega)).trans (by omega))) ?_
            repeat' (first | exact trivial | refine And.intro rfl ?_)
          · refine anT ?_
            exact fD.mk (Or.inl rfl) (Or.inr rfl)
    · refine fD.mk (Or.inr rfl) (Or.inl ?_)
      simp [iZ]
      have := of_decide_eq_false h
      omega
def ef (pre : List (Int × Int)) : Int × List Int := pre.foldl (fun r p => (max 0 (w64 (r.1 + p.2)), r.2 ++ [max 0 (w64 (r.1 + p.2))])) (0, [])
theorem pr (pre : List (Int × Int)) : (ef pre).2.length = pre.length := by
 suffices h : ∀ (r : Int × List Int), (pre.foldl (fun r p => (max 0 (w64 (r.1 + p.2)), r.2 ++ [max 0 (w64 (r.1 + p.2))])) r).2.length = r.2.length + pre.length by simpa [ef] using h (0, [])
 induction pre with
 | nil => intro r; simp
 | cons p t ih => intro r; simp [ih]; omega
theorem ms (pre : List (Int × Int)) (x : Int × Int) : ef (pre ++ [x]) = (max 0 (w64 ((ef pre).1 + x.2)), (ef pre).2 ++ [max 0 (w64 ((ef pre).1 + x.2))]) := by simp [ef, List.foldl_append]
def Fn (pre : List (Int × Int)) : List (Nat × List AV) := [(8, [.int .i64 (ef pre).1]), (7, [.sl (.id 16) 1 ((ef pre).2.map fun h => [.int .i64 h])])]
theorem AX (s : Nat → Int) (l : List dD) (a b : Int) (ha : 0 ≤ a) (hab : a ≤ b) (hb : b ≤ 1000000) (hl : l.length ≤ 1000000) :
  ae Tryz.prog 215 [.agg (aX s), gD l, .agg (aQ a b)] (aB (ef (iZ s l a b)).2) := by
 refine ae.of aa ji Tryz.func215 rfl (by kernel_rfl) af (by kernel_rfl) (Nat.le_of_ble_eq_true rfl) ?_
 intro F n w0 m0 hG hro h1
 have hba : w64 (b - a) = b - a := am (by omega) (by omega)
 have hba : IntKind.i64.wrap (b - a) = b - a := hba
 refine And.intro (by omega) ?_
 conv => whnf
 rw [hba]
 refine And.intro (by omega) (And.intro (show (b - a).toNat * 8 ≤ 70368744177664 by omega) (And.intro (by omega) ?_))
 refine Exists.intro _ (And.intro (AU s l a b) ?_)
 refine SP.range hG hro h1 (α := Int × Int) (fun p => [.int .i64 p.1, .int .i64 p.2]) vp (f := 305) (cap := jP s l a b) (items := iZ s l a b) rfl (AP s l a b ha hb hl) (fun _ => rfl) (fun _ => rfl) ?_
  [(7, .loc 7 0), (8, .loc 8 0)] Fn (ah ?_ ?_) (by kernel_rfl) (by decide) ?_ ?_
 ·intro m x i c v h1 h2
  match i, h1, h2 with
  | 0, h1, h2 => cases h1; cases h2; exact .int _ _
  | 1, h1, h2 => cases h1; cases h2; exact .int _ _
 ·repeat' (first | exact trivial | refine And.intro rfl ?_)
 ·repeat' (first | exact trivial | refine And.intro rfl ?_)
 ·intro F' n' m' hG' pre x rest hit
  refine bw (keep := ji) hG' aa _ _ _ (by kernel_rfl) ?_
  have hlen : (iZ s l a b).length ≤ 1000000 := by simp [iZ]; omega
  have hpre : pre.length < 1000000 := by rw [hit] at hlen; simp at hlen; omega
  have hr : ((ef pre).2.map fun h => [AV.int .i64 h]).length = pre.length := by rw [List.length_map, pr]
  refine And.intro rfl (And.intro (ah ?_ ?_) (bw (keep := ji) hG' aa _ _ _ (by kernel_rfl) ?_))
  ·repeat' (first | exact trivial | refine And.intro rfl ?_)
  ·repeat' (first | exact trivial | refine And.intro rfl ?_)
  ·refine And.intro (show (_ + 1) * 8 ≤ 70368744177664 by rw [hr]; omega) (And.intro (show _ + 1 ≤ 4611686018427387904 by rw [hr]; omega) ?_)
   refine ah ?_ ?_
   ·repeat' (first | exact trivial | refine And.intro rfl ?_)
   ·refine And.intro ?_ (And.intro ?_ trivial)
    ·rw [ms]; rfl
    ·rw [ms, List.map_append]; rfl
 ·exact Ends.mk (Or.inl rfl) (ac rfl)
theorem AS (x : dD) : ae Tryz.prog 231 [.agg (fz x)] (.bool (decide (0 ≤ x.a) && decide (x.a < x.b) && decide (x.b ≤ 1000000))) := by
  refine ae.of aa uN Tryz.func231 rfl (by kernel_rfl) af (by kernel_rfl) (Nat.le_of_ble_eq_true rfl) ?_
  intro F n' w0 m0 hG hro h1
  repeat' (conv => whnf
           first
           | refine anF ?_
           | refine anT ?_
           | refine And.intro (fun h => ?_) (fun h => ?_))
  all_goals refine Ends.mk (Or.inl rfl) (ac (congrArg AV.bool ?_))
  all_goals (simp_all <;> first | rfl | (intros; omega) | (intros; simp_all; done) | (intros; simp_all; omega))
theorem AR (x : dD) : ae Tryz.prog 232 [.agg (fz x)] (.bool (decide (w64 (x.b - x.a) ≤ 60))) := by
  refine ae.of aa uL Tryz.func232 rfl (by kernel_rfl) af (by kernel_rfl) (Nat.le_of_ble_eq_true rfl) ?_
  intro F n' w0 m0 hG hro h1
  repeat' (conv => whnf
           first
           | refine anF ?_
           | refine anT ?_
           | refine And.intro (fun h => ?_) (fun h => ?_))
  all_goals refine Ends.mk (Or.inl rfl) (ac (congrArg AV.bool ?_))
  all_goals rfl
theorem AQ (s : Nat → Int) (x : dD) : ae Tryz.prog 233 [.agg (fz x), .ref (aX s)] (.bool (inS x.k (w64 (0 - s 9)) (s 9))) := by
  refine ae.of aa uK Tryz.func233 rfl (by kernel_rfl) af (by kernel_rfl) (Nat.le_of_ble_eq_true rfl) ?_
  intro F n' w0 m0 hG hro h1
  repeat' (conv => whnf
           first
           | refine anF ?_
           | refine anT ?_
           | refine Exists.intro _ (And.intro (AT _ _ _) ?_)
           | refine And.intro (fun h => ?_) (fun h => ?_))
  all_goals refine Ends.mk (Or.inl rfl) (ac (congrArg AV.bool ?_))
  all_goals rfl
end Go.Proofs
namespace Go.Proofs
open Go Go.AI
set_option maxRecDepth 10000
def AJ (s : Nat → Int) (x : dD) : Bool := decide (0 ≤ x.a) && decide (x.a < x.b) && decide (x.b ≤ 1000000) && decide (w64 (x.b - x.a) ≤ 60) && inS x.k (w64 (0 - s 9)) (s 9)
def tst (s : Nat → Int) (x : dD) (j : Nat) : Bool := match j with
 | 0 => decide (0 ≤ x.a) && decide (x.a < x.b) && decide (x.b ≤ 1000000)
 | 1 => decide (w64 (x.b - x.a) ≤ 60)
 | _ => inS x.k (w64 (0 - s 9)) (s 9)
theorem yD (s : Nat → Int) (x : dD) : AJ s x = (tst s x 0 && tst s x 1 && tst s x 2) := rfl
def ye (s : Nat → Int) (l : List dD) : Bool := l.all (AJ s) && decide (l.length ≤ 64)
theorem CO {α : Type} {p : α → Bool} {l : List α} {i : Nat} (hi : i < l.length) (h : (l.take i).all p = true) (hx : p l[i] = true) : (l.take (i + 1)).all p = true := by
 rw [List.take_add_one, List.getElem?_eq_getElem hi, List.all_append, h]; simp [hx]
theorem EE {α : Type} {p : α → Bool} {l : List α} {i : Nat} (hi : i < l.length) (hx : p l[i] = false) : l.all p = false := by
 rw [List.all_eq_false]; exact ⟨l[i], List.getElem_mem hi, by simp [hx]⟩
theorem A0 (s : Nat → Int) (l : List dD) (hl : l.length ≤ 1000000) : ae Tryz.prog 169 [.agg (aX s), gD l] (.bool (ye s l)) := by
 refine ae.of aa jj Tryz.func169 rfl (by kernel_rfl) af (by kernel_rfl) (Nat.le_of_ble_eq_true rfl) ?_
 intro F n' w0 m0 hG hro h1
 refine SP.loop (X := Nat) (fun i => ⟨[(14, .int .i64 i), (13, .int .i64 (l.map fz).length), (12, gD l), (1, gD l), (5, .loc 5 0)], [(5, [.fn 231, .fn 232, .clo 233 [.ref (aX s)]])]⟩)
  (fun i => i ≤ l.length ∧ (l.take i).all (AJ s) = true) (fun i => l.length - i) 0 ⟨Nat.zero_le _, rfl⟩ (ah ?_ ?_) (fun i hi => ?_)
 ·repeat' (first | exact trivial | refine And.intro rfl ?_)
 ·repeat' (first | exact trivial | refine And.intro rfl ?_)
 ·obtain ⟨hi, hall⟩ := hi
  refine bw (keep := jj) hG aa _ _ _ (by kernel_rfl) ?_
  refine And.intro (fun h => ?_) (fun h => ?_)
  ·have hi2 : i < l.length := by have := of_decide_eq_true h; simp at this; omega
   have hx : (l.map fz)[(i : Int).toNat]? = some (fz l[i]) := by simp [List.getElem?_eq_getElem hi2]
   have bad : ∀ j, j < 3 → tst s l[i] j = false → false = ye s l := fun j hj hf => by
    have : AJ s l[i] = false := by
     rw [yD]
     obtain rfl | rfl | rfl : j = 0 ∨ j = 1 ∨ j = 2 := by omega
     ·rw [hf]; rfl
     ·rw [hf, Bool.and_false]; rfl
     ·rw [hf, Bool.and_false]
    rw [ye, EE hi2 this]; rfl
   refine And.intro (by omega) (Exists.intro (fz l[i]) (And.intro hx ?_))
   refine SP.loop (X := Nat) (fun j => ⟨[(19, .int .i64 j), (18, .agg [.fn 231, .fn 232, .clo 233 [.ref (aX s)]]), (7, .loc 7 0), (14, .int .i64 i), (13, .int .i64 (l.map fz).length), (12, gD l), (1, gD l), (5, .loc 5 0)],
     [(7, fz l[i]), (5, [.fn 231, .fn 232, .clo 233 [.ref (aX s)]])]⟩)
    (fun j => j ≤ 3 ∧ ∀ k, k < j → tst s l[i] k = true) (fun j => 3 - j) 0 ⟨Nat.zero_le _, fun k hk => absurd hk (Nat.not_lt_zero _)⟩ (ah ?_ ?_) (fun j hj => ?_)
   ·repeat' (first | exact trivial | refine And.intro rfl ?_)
   ·repeat' (first | exact trivial | refine And.intro rfl ?_)
   ·obtain ⟨hj, hts⟩ := hj
    refine bw (keep := jj) hG aa _ _ _ (by kernel_rfl) ?_
    refine And.intro (fun h => ?_) (fun h => ?_)
    ·have hj2 : j < 3 := by have := of_decide_eq_true h; omega
     have step : ∀ {k : Nat}, k < 3 → (∀ q, q < k → tst s l[i] q = true) → tst s l[i] k = true → ∀ q, q < k + 1 → tst s l[i] q = true := fun hk hp hq q hqk => by
      rcases Nat.lt_succ_iff_lt_or_eq.1 hqk with h | rfl
      ·exact hp q h
      ·exact hq
     obtain rfl | rfl | rfl : j = 0 ∨ j = 1 ∨ j = 2 := by omega
     ·refine And.intro (Int.le_of_sub_nonneg (by simp)) (And.intro (by simp) (And.intro (Nat.le_of_ble_eq_true rfl) ?_))
      refine Exists.intro _ (And.intro (AS l[i]) ?_)
      refine And.intro (fun h2 => ?_) (fun h2 => ?_)
      ·exact Ends.mk (Or.inl rfl) (ac (congrArg AV.bool (bad 0 (by omega) (tY h2))))
      ·refine Exists.intro 1 (And.intro ⟨by omega, step (by omega) hts (ml h2)⟩ (And.intro (by omega) (ah ?_ ?_)))
       ·refine And.intro (congrArg some (ap (by omega))) ?_
        repeat' (first | exact trivial | refine And.intro rfl ?_)
       ·repeat' (first | exact trivial | refine And.intro rfl ?_)
     ·refine And.intro (Int.le_of_sub_nonneg (by simp)) (And.intro (by simp) (And.intro (Nat.le_of_ble_eq_true rfl) ?_))
      refine Exists.intro _ (And.intro (AR l[i]) ?_)
      refine And.intro (fun h2 => ?_) (fun h2 => ?_)
      ·exact Ends.mk (Or.inl rfl) (ac (congrArg AV.bool (bad 1 (by omega) (tY h2))))
      ·refine Exists.intro 2 (And.intro ⟨by omega, step (by omega) hts (ml h2)⟩ (And.intro (by omega) (ah ?_ ?_)))
       ·refine And.intro (congrArg some (ap (by omega))) ?_
        repeat' (first | exact trivial | refine And.intro rfl ?_)
       ·repeat' (first | exact trivial | refine And.intro rfl ?_)
     ·refine And.intro (Int.le_of_sub_nonneg (by simp)) (And.intro (by simp) (And.intro (Nat.le_of_ble_eq_true rfl) ?_))
      refine Exists.intro _ (And.intro (AQ s l[i]) ?_)
      refine And.intro (fun h2 => ?_) (fun h2 => ?_)
      ·exact Ends.mk (Or.inl rfl) (ac (congrArg AV.bool (bad 2 (by omega) (tY h2))))
      ·refine Exists.intro 3 (And.intro ⟨by omega, step (by omega) hts (ml h2)⟩ (And.intro (by omega) (ah ?_ ?_)))
       ·refine And.intro (congrArg some (ap (by omega))) ?_
        repeat' (first | exact trivial | refine And.intro rfl ?_)
       ·repeat' (first | exact trivial | refine And.intro rfl ?_)
    ·have e : j = 3 := by have := of_decide_eq_false h; omega
     subst e
     have hp : AJ s l[i] = true := by rw [yD, hts 0 (by omega), hts 1 (by omega), hts 2 (by omega)]; rfl
     refine Exists.intro (i + 1) (And.intro ⟨hi2, CO hi2 hall hp⟩ (And.intro (by omega) (ah ?_ ?_)))
     ·refine And.intro (congrArg some (ap (by omega))) ?_
      repeat' (first | exact trivial | refine And.intro rfl ?_)
     ·repeat' (first | exact trivial | refine And.intro rfl ?_)
  ·have e : l.take i = l := List.take_of_length_le (by have := of_decide_eq_false h; simp at this; omega)
   rw [e] at hall
   refine Ends.mk (Or.inl rfl) (ac (congrArg AV.bool ?_))
   simp only [ye, hall, Bool.true_and, List.length_map]
   rw [Bool.eq_iff_iff]; simp only [decide_eq_true_eq]; omega
theorem tD (s : Nat → Int) (l : List dD) (hl : l.length ≤ 1000000) : ae Tryz.prog 101 [.agg (aX s), gD l] (.bool (ye s l && fF s)) := by
  refine ae.of aa uS Tryz.func101 rfl (by kernel_rfl) af (by kernel_rfl) (Nat.le_of_ble_eq_true rfl) ?_
  intro F n' w0 m0 hG hro h1
  repeat' (conv => whnf
           first
           | refine anF ?_
           | refine anT ?_
           | refine Exists.intro _ (And.intro (A0 s l hl) ?_)
           | refine Exists.intro _ (And.intro (rY s) ?_)
           | refine And.intro (fun h => ?_) (fun h => ?_))
  all_goals refine Ends.mk (Or.inl rfl) (ac (congrArg AV.bool ?_))
  all_goals simp only [*, Bool.true_and, Bool.false_and]
def FD (s : Nat → Int) (j k : Int) : Int := w64 (s 19 * max (w64 (j - k)) (w64 (k - j)))
def FL (s : Nat → Int) (x y : dD) : Bool := decide (y.a ≥ w64 (x.b + FD s x.k y.k))
def Ev (s : Nat → Int) (x y : dD) : Bool := if y.a < x.a then FL s y x else FL s x y
def xq (s : Nat → Int) (l : List dD) : Bool := ye s l && fF s
theorem AZ (s : Nat → Int) (x y : dD) : ae Tryz.prog 102 [.agg (aX s), .agg (fz x), .agg (fz y)] (.bool (Ev s x y)) := by
  refine ae.of aa uR Tryz.func102 rfl (by kernel_rfl) af (by kernel_rfl) (Nat.le_of_ble_eq_true rfl) ?_
  intro F n' w0 m0 hG hro h1
  repeat' (conv => whnf
           first
           | refine anF ?_
           | refine anT ?_
           | refine And.intro (fun h => ?_) (fun h => ?_))
  all_goals refine Ends.mk (Or.inl rfl) (ac (congrArg AV.bool ?_))
  · rw [Ev, if_pos (of_decide_eq_true (by assumption))]; rfl
  · rw [Ev, if_neg (of_decide_eq_false (by assumption))]; rfl
theorem tg {α : Type} {f : Nat → Option α} {N n : Nat} {v : α} (hn : n < N) (h : ∀ j, j < n → f j = none) (hv : f n = some v) : (List.range N).findSome? f = some v := by
 obtain ⟨d, rfl⟩ : ∃ d, N = n + (d + 1) := ⟨N - n - 1, by omega⟩
 rw [List.range_add, List.findSome?_append, List.findSome?_eq_none_iff.2 (fun x hx => h x (List.mem_range.1 hx)), List.range_succ_eq_map]
 simp [hv]
theorem th {α : Type} {f : Nat → Option α} {N : Nat} (h : ∀ j, j < N → f j = none) : (List.range N).findSome? f = none := List.findSome?_eq_none_iff.2 (fun x hx => h x (List.mem_range.1 hx))
def pB (l : List dD) (i : Nat) : dD := l.getD i ⟨0, 0, 0⟩
theorem wz {l : List dD} {i : Nat} (h : i < l.length) : pB l i = l[i] := by simp [pB, List.getD_eq_getElem?_getD, List.getElem?_eq_getElem h]
def vc (s : Nat → Int) (l : List dD) (k i : Nat) : Option (Nat × Nat) := if Ev s (pB l i) (pB l k) then none else some (i, k)
def EO (s : Nat → Int) (l : List dD) (k : Nat) : Option (Nat × Nat) := (List.range k).findSome? (vc s l k)
def qx (s : Nat → Int) (l : List dD) : Option (Nat × Nat) := (List.range l.length).findSome? (EO s l)
def FE : Option (Nat × Nat) → List AV
 | none => [.int .i64 0, .int .i64 0, .bool false, .int .i64 0]
 | some (i, k) => [.int .i64 i, .int .i64 k, .bool true, .int .i64 0]
theorem A2 (s : Nat → Int) (l : List dD) (hl : l.length ≤ 1000000) (hv : xq s l = true) : ae Tryz.prog 32 [.agg (aX s), gD l] (.tup (FE (qx s l))) := by
 refine ae.of aa gX Tryz.func32 rfl (by kernel_rfl) af (by kernel_rfl) (Nat.le_of_ble_eq_true rfl) ?_
 intro F n' w0 m0 hG hro h1
 refine SP.scopeEnds (bw (keep := gX) hG aa _ _ _ (by kernel_rfl) ?_)
 refine Exists.intro _ (And.intro (tD s l hl) ?_)
 refine And.intro (fun hs => ?_) (fun hs => ?_)
 ·have := tY hs; simp [xq] at hv; simp [hv] at this
 ·refine SP.loop (X := Nat) (fun k => ⟨[(16, .int .i64 k), (15, .int .i64 (l.map fz).length), (1, gD l), (2, .loc 2 0), (4, .int .i64 0), (5, .int .i64 0), (6, .bool false)], [(2, aX s)]⟩)
   (fun k => k ≤ l.length ∧ ∀ j, j < k → EO s l j = none) (fun k => l.length - k) 0 ⟨Nat.zero_le _, fun k hk => absurd hk (Nat.not_lt_zero _)⟩ (ah ?_ ?_) (fun k hk => ?_)
  ·repeat' (first | exact trivial | refine And.intro rfl ?_)
  ·repeat' (first | exact trivial | refine And.intro rfl ?_)
  ·obtain ⟨hk, hall⟩ := hk
   refine bw (keep := gX) hG aa _ _ _ (by kernel_rfl) ?_
   refine And.intro (fun h => ?_) (fun h => ?_)
   ·have hk2 : k < l.length := by have := of_decide_eq_true h; simp at this; omega
    have hxk : (l.map fz)[(k : Int).toNat]? = some (fz (pB l k)) := by simp [wz hk2, List.getElem?_eq_getElem hk2]
    refine SP.loop (X := Nat) (fun i => ⟨[(20, .int .i64 i), (19, .int .i64 k), (8, .int .i64 k), (16, .int .i64 k), (15, .int .i64 (l.map fz).length), (1, gD l), (2, .loc 2 0), (4, .int .i64 0), (5, .int .i64 0), (6, .bool false)], [(2, aX s)]⟩)
     (fun i => i ≤ k ∧ ∀ j, j < i → vc s l k j = none) (fun i => k - i) 0 ⟨Nat.zero_le _, fun k hk => absurd hk (Nat.not_lt_zero _)⟩ (ah ?_ ?_) (fun i hi => ?_)
    ·repeat' (first | exact trivial | refine And.intro rfl ?_)
    ·repeat' (first | exact trivial | refine And.intro rfl ?_)
    ·obtain ⟨hi, hall2⟩ := hi
     refine bw (keep := gX) hG aa _ _ _ (by kernel_rfl) ?_
     refine And.intro (fun h => ?_) (fun h => ?_)
     ·have hi2 : i < k := by have := of_decide_eq_true h; simp at this; omega
      have hxi : (l.map fz)[(i : Int).toNat]? = some (fz (pB l i)) := by simp [wz (Nat.lt_trans hi2 hk2), List.getElem?_eq_getElem (Nat.lt_trans hi2 hk2)]
      refine And.intro (by omega) (Exists.intro _ (And.intro hxi ?_))
      refine And.intro (by omega) (Exists.intro _ (And.intro hxk ?_))
      refine Exists.intro _ (And.intro (AZ s (pB l i) (pB l k)) ?_)
      refine And.intro (by kernel_rfl) ?_
      refine And.intro (fun h2 => ?_) (fun h2 => ?_)
      ·have e : qx s l = some (i, k) := tg hk2 hall (tg hi2 hall2 (by rw [vc, tY h2]; rfl))
       refine Ends.mk (Or.inl rfl) (ac ?_)
       rw [e]; rfl
      ·refine Exists.intro (i + 1) (And.intro ⟨hi2, fun j hj => ?_⟩ (And.intro (by omega) (ah ?_ ?_)))
       ·rcases Nat.lt_succ_iff_lt_or_eq.1 hj with h | rfl
        ·exact hall2 j h
        ·rw [vc, ml h2]; rfl
       ·refine And.intro (congrArg some (ap (by omega))) ?_
        repeat' (first | exact trivial | refine And.intro rfl ?_)
       ·repeat' (first | exact trivial | refine And.intro rfl ?_)
     ·have e : i = k := by have := of_decide_eq_false h; simp at this; omega
      subst e
      refine Exists.intro (i + 1) (And.intro ⟨hk2, fun j hj => ?_⟩ (And.intro (by omega) (ah ?_ ?_)))
      ·rcases Nat.lt_succ_iff_lt_or_eq.1 hj with h | rfl
       ·exact hall j h
       ·exact th hall2
      ·refine And.intro (congrArg some (ap (by omega))) ?_
       repeat' (first | exact trivial | refine And.intro rfl ?_)
      ·repeat' (first | exact trivial | refine And.intro rfl ?_)
   ·have e : k = l.length := by have := of_decide_eq_false h; simp at this; omega
    refine Ends.mk (Or.inl rfl) (ac ?_)
    rw [show qx s l = none from th (e ▸ hall)]; rfl
theorem E7 {a b : Int} (h : o5 a b = true) : 0 ≤ a ∧ a < b ∧ b ≤ 1000000 := by simp only [o5, Bool.and_eq_true, decide_eq_true_eq] at h; omega
theorem FY {p : Prop} {b : Bool} (h : (!b) = true) (g : b = true) : p := by rw [g] at h; cases h
def ui (s : Nat → Int) (l : List dD) (a b : Int) : List Int := (ef (iZ s l a b)).2
theorem AW (s : Nat → Int) (h : Int) : ae Tryz.prog 216 [.int .i64 h, .ref (aX s)] (.bool (decide (h > s 18))) := by
  refine ae.of aa uO Tryz.func216 rfl (by kernel_rfl) af (by kernel_rfl) (Nat.le_of_ble_eq_true rfl) ?_
  intro F n' w0 m0 hG hro h1
  repeat' (conv => whnf
           first
           | refine anF ?_
           | refine anT ?_
           | refine And.intro (fun h => ?_) (fun h => ?_))
  all_goals exact Ends.mk (Or.inl rfl) (ac rfl)
theorem xY (s : Nat → Int) (l : List dD) (a b : Int) : (ui s l a b).length = (b - a).toNat := by rw [ui, pr, iZ]; simp
def Cl (s : Nat → Int) (l : List dD) (a b : Int) : Int := let i := bj (fun h => decide (h > s 18)) (ui s l a b) 0; if i ≥ 0 then w64 (a + i) else -1
theorem A1 (s : Nat → Int) (l : List dD) (a b : Int) (hl : l.length ≤ 1000000) (hs : o5 a b = true) (hv : xq s l = true) : ae Tryz.prog 144 [.agg (aX s), gD l, .agg (aQ a b)] (.tup [.int .i64 (Cl s l a b), .int .i64 0]) := by
 obtain ⟨ha, hab, hb⟩ := E7 hs
 refine ae.of aa uQ Tryz.func144 rfl (by kernel_rfl) af (by kernel_rfl) (Nat.le_of_ble_eq_true rfl) ?_
 intro F n' w0 m0 hG hro h1
 refine Exists.intro _ (And.intro (AY a b) (And.intro (fun h => FY h hs) (fun h => ?_)))
 refine Exists.intro _ (And.intro (tD s l hl) (And.intro (fun h => FY h hv) (fun h => ?_)))
 refine Exists.intro _ (And.intro (AX s l a b ha (Int.le_of_lt hab) hb hl) ?_)
 refine Exists.intro _ (And.intro (wS (ui s l a b) (fun h => decide (h > s 18)) 216 _ [.ref (aX s)] (Or.inl rfl) (by rw [xY]; omega) (fun h _ => AW s h)) ?_)
 refine And.intro (fun h => ?_) (fun h => ?_)
 ·refine Ends.mk (Or.inl rfl) (ac ?_)
  rw [Cl, if_pos (of_decide_eq_true h)]; rfl
 ·refine Ends.mk (Or.inl rfl) (ac ?_)
  rw [Cl, if_neg (of_decide_eq_false h)]; rfl
end Go.Proofs
namespace Go.Proofs
open Go Go.AI
set_option maxRecDepth 10000
def cnt (t : Int) (l : List dD) : Nat := (l.filter (hit t)).length
def hv (g : Int → Int) (a : Int) : Nat → Int
 | 0 => 0
 | n + 1 => max 0 (hv g a n + g (a + n))
end Go.Proofs
namespace Go.Proofs
open Go Go.AI
set_option maxRecDepth 10000
structure aZ where
 p : Int
 a : Int
 b : Int
deriving DecidableEq
def aC (x : aZ) : List AV := [.int .i64 x.p, .int .i64 x.a, .int .i64 x.b]
structure Opt where
 id : Int
 ord : Int
 cl : Int
 sat : Int
 a : Int
 b : Int
 look : Int
 size : Int
 sl : List aZ
def xy (l : List aZ) : AV := .sl .no 3 (l.map aC)
def aG (o : Opt) : List AV := [.int .i64 o.id, .int .i64 o.ord, .int .i64 o.cl, .int .i64 o.sat, .int .i64 o.a, .int .i64 o.b, .int .i64 o.look, .int .i64 o.size, xy o.sl]
def aP (l : List Opt) : AV := .sl .no 9 (l.map aG)
theorem iy (n a b : Int) : ae Tryz.prog 153 [.int .i64 n, .int .i64 a, .int .i64 b] (.bool (inS n a b)) := by
 refine ag aa Tryz.func153 rfl (by kernel_rfl) af (Nat.le_of_ble_eq_true rfl) ?_
 intro F n' w0 m0 hG hro h1
 repeat' first|refine Q1 ?_|refine Q2 ?_|refine Q3 hG aa nN ?_|refine Q4 hG aa nN ?_|refine Q5 hG aa ?_|refine Q6 hG aa ?_|refine Q7 hG aa ?_|refine Q8 hG aa ?_|refine Q9 rfl ?_|refine QF rfl ?_|refine QC rfl ⟨fun h => ?_,fun h => ?_⟩|((conv => whnf); first|refine anF ?_|refine anT ?_|refine anK ?_|refine And.intro (fun h => ?_) (fun h => ?_)|refine Or.inl ?_)
 all_goals refine Ends.mk (Or.inl rfl) (ac (congrArg AV.bool ?_))
 all_goals (simp_all [inS] <;> omega)
theorem AK (n a b : Int) : ae Tryz.prog 228 [.int .i64 n, .int .i64 a, .int .i64 b] (.bool (inS n a b)) := by
 refine ag aa Tryz.func228 rfl (by kernel_rfl) af (Nat.le_of_ble_eq_true rfl) ?_
 intro F n' w0 m0 hG hro h1
 repeat' first|refine Q1 ?_|refine Q2 ?_|refine Q3 hG aa nb ?_|refine Q4 hG aa nb ?_|refine Q5 hG aa ?_|refine Q6 hG aa ?_|refine Q7 hG aa ?_|refine Q8 hG aa ?_|refine Q9 rfl ?_|refine QF rfl ?_|refine QC rfl ⟨fun h => ?_,fun h => ?_⟩|((conv => whnf); first|refine anF ?_|refine anT ?_|refine anK ?_|refine And.intro (fun h => ?_) (fun h => ?_)|refine Or.inl ?_)
 all_goals refine Ends.mk (Or.inl rfl) (ac (congrArg AV.bool ?_))
 all_goals (simp_all [inS] <;> omega)
theorem tA (n a b : Int) : ae Tryz.prog 104 [.int .i64 n, .int .i64 a, .int .i64 b] (.bool (inS n a b)) := by
 refine ag aa Tryz.func104 rfl (by kernel_rfl) af (Nat.le_of_ble_eq_true rfl) ?_
 intro F n' w0 m0 hG hro h1
 repeat' first|refine Q1 ?_|refine Q2 ?_|refine Q3 hG aa f8 ?_|refine Q4 hG aa f8 ?_|refine Q5 hG aa ?_|refine Q6 hG aa ?_|refine Q7 hG aa ?_|refine Q8 hG aa ?_|refine Q9 rfl ?_|refine QF rfl ?_|refine QC rfl ⟨fun h => ?_,fun h => ?_⟩|((conv => whnf); first|refine anF ?_|refine anT ?_|refine anK ?_|refine And.intro (fun h => ?_) (fun h => ?_)|refine Or.inl ?_)
 all_goals refine Ends.mk (Or.inl rfl) (ac (congrArg AV.bool ?_))
 all_goals (simp_all [inS] <;> omega)
theorem rG (a b : Int) : ae Tryz.prog 83 [.agg (aQ a b)] (.bool (ce a b)) := by
 refine ag aa Tryz.func83 rfl (by kernel_rfl) af (Nat.le_of_ble_eq_true rfl) ?_
 intro F n' w0 m0 hG hro h1
 repeat' first|refine Q1 ?_|refine Q2 ?_|refine Q3 hG aa pO ?_|refine Q4 hG aa pO ?_|refine Q5 hG aa ?_|refine Q6 hG aa ?_|refine Q7 hG aa ?_|refine Q8 hG aa ?_|refine Q9 rfl ?_|refine QF rfl ?_|refine QC rfl ⟨fun h => ?_,fun h => ?_⟩|((conv => whnf); first|refine anF ?_|refine anT ?_|refine anK ?_|refine Exists.intro _ (And.intro (iy _ _ _) ?_)|refine And.intro (fun h => ?_) (fun h => ?_)|refine Or.inl ?_)
 all_goals refine Ends.mk (Or.inl rfl) (ac (congrArg AV.bool ?_))
 all_goals (simp only [ce, *, Bool.true_and, Bool.and_true, Bool.false_and, Bool.and_false]; try rfl)
def lg (a b : Int) : Bool := decide (0 ≤ a) && decide (a < b) && decide (b ≤ 1000001)
theorem tx (a b : Int) : ae Tryz.prog 170 [.agg (aQ a b)] (.bool (lg a b)) := by
 refine ag aa Tryz.func170 rfl (by kernel_rfl) af (Nat.le_of_ble_eq_true rfl) ?_
 intro F n' w0 m0 hG hro h1
 repeat' first|refine Q1 ?_|refine Q2 ?_|refine Q3 hG aa fY ?_|refine Q4 hG aa fY ?_|refine Q5 hG aa ?_|refine Q6 hG aa ?_|refine Q7 hG aa ?_|refine Q8 hG aa ?_|refine Q9 rfl ?_|refine QF rfl ?_|refine QC rfl ⟨fun h => ?_,fun h => ?_⟩|((conv => whnf); first|refine anF ?_|refine anT ?_|refine anK ?_|refine And.intro (fun h => ?_) (fun h => ?_)|refine Or.inl ?_)
 all_goals refine Ends.mk (Or.inl rfl) (ac (congrArg AV.bool ?_))
 all_goals (simp_all [lg] <;> (intros; omega))
def vI (a b m : Int) : Bool := lg a b && decide (w64 (b - a) ≤ m)
theorem AL (a b m : Int) : ae Tryz.prog 227 [.agg (aQ a b), .int .i64 m] (.bool (vI a b m)) := by
 refine ag aa Tryz.func227 rfl (by kernel_rfl) af (Nat.le_of_ble_eq_true rfl) ?_
 intro F n' w0 m0 hG hro h1
 repeat' first|refine Q1 ?_|refine Q2 ?_|refine Q3 hG aa nc ?_|refine Q4 hG aa nc ?_|refine Q5 hG aa ?_|refine Q6 hG aa ?_|refine Q7 hG aa ?_|refine Q8 hG aa ?_|refine Q9 rfl ?_|refine QF rfl ?_|refine QC rfl ⟨fun h => ?_,fun h => ?_⟩|((conv => whnf); first|refine anF ?_|refine anT ?_|refine anK ?_|refine And.intro (fun h => ?_) (fun h => ?_)|refine Or.inl ?_)
 all_goals refine Ends.mk (Or.inl rfl) (ac (congrArg AV.bool ?_))
 all_goals (simp only [vI, lg, w64, *, Bool.true_and, Bool.and_true, Bool.false_and, Bool.and_false]; try rfl)
def oo (o : Nat → Int) (a b k : Int) : Bool := kY o && vI a b 60 && inS k (-4) 4
theorem AM (o : Nat → Int) (a b k : Int) : ae Tryz.prog 161 [.agg (kl o), .agg (aQ a b), .int .i64 k] (.bool (oo o a b k)) := by
 refine ag aa Tryz.func161 rfl (by kernel_rfl) af (Nat.le_of_ble_eq_true rfl) ?_
 intro F n' w0 m0 hG hro h1
 repeat' first|refine Q1 ?_|refine Q2 ?_|refine Q3 hG aa nH ?_|refine Q4 hG aa nH ?_|refine Q5 hG aa ?_|refine Q6 hG aa ?_|refine Q7 hG aa ?_|refine Q8 hG aa ?_|refine Q9 rfl ?_|refine QF rfl ?_|refine QC rfl ⟨fun h => ?_,fun h => ?_⟩|((conv => whnf); first|refine anF ?_|refine anT ?_|refine anK ?_|refine Exists.intro _ (And.intro (r7 o) ?_)|refine Exists.intro _ (And.intro (AL _ _ _) ?_)|refine Exists.intro _ (And.intro (AK _ _ _) ?_)|refine And.intro (fun h => ?_) (fun h => ?_)|refine Or.inl ?_)
 all_goals refine Ends.mk (Or.inl rfl) (ac (congrArg AV.bool ?_))
 all_goals simp only [oo, *, Bool.true_and, Bool.and_true, Bool.false_and, Bool.and_false]
def fa : Int → List aZ → Bool
 | _, [] => true
 | t, x :: r => decide (t ≤ x.a) && lg x.a x.b && fa x.b r
def lu (o : Opt) : Bool := fa o.b o.sl && (inS o.id 0 63 && inS o.size 1 1000000 && lg o.a o.b && inS (o.sl.length : Int) 1 6)
theorem fL {l : List aZ} {i : Nat} (h : i < l.length) : (l.map aC)[(i : Int).toNat]? = some [.int .i64 (l.getD i ⟨0, 0, 0⟩).p, .int .i64 (l.getD i ⟨0, 0, 0⟩).a, .int .i64 (l.getD i ⟨0, 0, 0⟩).b] := by simp [List.getElem?_eq_getElem h]; rfl
theorem vX {t : Int} {l : List aZ} {i : Nat} (h : i < l.length) : fa t (l.drop i) = (decide (t ≤ (l.getD i ⟨0, 0, 0⟩).a) && lg (l.getD i ⟨0, 0, 0⟩).a (l.getD i ⟨0, 0, 0⟩).b && fa (l.getD i ⟨0, 0, 0⟩).b (l.drop (i + 1))) := by
 rw [List.drop_eq_getElem_cons h, List.getD_eq_getElem?_getD, List.getElem?_eq_getElem h]; rfl
set_option maxHeartbeats 4000000 in
theorem AN (o : Opt) (hl : o.sl.length ≤ 1000000) : ae Tryz.prog 103 [.agg (aG o)] (.bool (lu o)) := by
 have hlm : ((o.sl.map aC).length : Int) = (o.sl.length : Int) := by rw [List.length_map]
 refine ag aa Tryz.func103 rfl (by kernel_rfl) af (Nat.le_of_ble_eq_true rfl) ?_
 intro F n' w0 m0 hG hro h1
 repeat' first|refine Q1 ?_|refine Q2 ?_|refine Q3 hG aa dX ?_|refine Q4 hG aa dX ?_|refine Q5 hG aa ?_|refine Q6 hG aa ?_|refine Q7 hG aa ?_|refine Q8 hG aa ?_|refine Q9 rfl ?_|refine QF rfl ?_|refine QC rfl ⟨fun h => ?_,fun h => ?_⟩|((conv => whnf); first|refine anF ?_|refine anT ?_|refine anK ?_|refine And.intro (fun h => ?_) (fun h => ?_)|refine Or.inl ?_)
 refine aw (X := Nat × Int × Int) (fun q => ⟨[(11, .int .i64 q.1), (10, .int .i64 (o.sl.map aC).length), (9, xy o.sl), (3, .loc 3 0), (1, .loc 1 0)], [(3, aQ q.2.1 q.2.2), (1, aG o)]⟩)
  (fun q => q.1 ≤ o.sl.length ∧ fa q.2.2 (o.sl.drop q.1) = fa o.b o.sl) (fun q => o.sl.length - q.1) (0, o.a, o.b) ⟨Nat.zero_le _, rfl⟩ (ah ?_ ?_) (fun q hq => ?_)
 ·repeat' (first | exact trivial | refine And.intro rfl ?_)
 ·repeat' (first | exact trivial | refine And.intro rfl ?_)
 ·obtain ⟨i, la, lb⟩ := q
  obtain ⟨hi, hf⟩ := hq
  have hi : i ≤ o.sl.length := hi
  have hf : fa lb (o.sl.drop i) = fa o.b o.sl := hf
  by_cases hlt : i < o.sl.length
  ·have bbk : decide ((i : Int) < ((o.sl.map aC).length : Int)) = false → False := fun h => by have := of_decide_eq_false h; omega
   have hx := fL hlt
   rw [vX hlt] at hf
   generalize o.sl.getD i ⟨0, 0, 0⟩ = x at hx hf
   have bad : (decide (lb ≤ x.a) && lg x.a x.b) = false → false = lu o := fun h => by rw [h, Bool.false_and] at hf; rw [lu, ← hf, Bool.false_and]
   repeat' first|exact (bbk (by assumption)).elim|refine Q1 ?_|refine Q2 ?_|refine Q3 hG aa dX ?_|refine Q4 hG aa dX ?_|refine Q5 hG aa ?_|refine Q6 hG aa ?_|refine Q7 hG aa ?_|refine Q8 hG aa ?_|refine Q9 rfl ?_|refine QF rfl ?_|refine QC rfl ⟨fun h => ?_,fun h => ?_⟩|((conv => whnf); first|refine anF ?_|refine anT ?_|refine anK ?_|refine And.intro (Int.natCast_nonneg i) (Exists.intro _ (And.intro hx ?_))|refine Exists.intro _ (And.intro (tx _ _) ?_)|refine And.intro (fun h => ?_) (fun h => ?_)|refine Or.inl ?_)
   ·have h := of_decide_eq_true (by assumption : decide (x.a < lb) = true)
    exact Ends.mk (Or.inl rfl) (ac (congrArg AV.bool (bad (by rw [decide_eq_false (by omega), Bool.false_and]))))
   ·have h := tY (by assumption : (!lg x.a x.b) = true)
    exact Ends.mk (Or.inl rfl) (ac (congrArg AV.bool (bad (by rw [h, Bool.and_false]))))
   ·have h1 := of_decide_eq_false (by assumption : decide (x.a < lb) = false)
    have h2 := ml (by assumption : (!lg x.a x.b) = false)
    rw [decide_eq_true (show lb ≤ x.a by omega), h2, Bool.true_and, Bool.true_and] at hf
    refine Exists.intro (i + 1, x.a, x.b) (And.intro ⟨hlt, hf⟩ (And.intro (by show o.sl.length - (i + 1) < o.sl.length - i; omega) (ah ?_ ?_)))
    ·refine And.intro (congrArg some (ap (by omega))) ?_
     repeat' (first | exact trivial | refine And.intro rfl ?_)
    ·repeat' (first | exact trivial | refine And.intro rfl ?_)
  ·have hge : i = o.sl.length := by omega
   have bbk : decide ((i : Int) < ((o.sl.map aC).length : Int)) = true → False := fun h => by have := of_decide_eq_true h; omega
   rw [List.drop_of_length_le (by omega)] at hf
   have hft : fa o.b o.sl = true := hf.symm
   clear hf
   repeat' first|exact (bbk (by assumption)).elim|refine Q1 ?_|refine Q2 ?_|refine Q3 hG aa dX ?_|refine Q4 hG aa dX ?_|refine Q5 hG aa ?_|refine Q6 hG aa ?_|refine Q7 hG aa ?_|refine Q8 hG aa ?_|refine Q9 rfl ?_|refine QF rfl ?_|refine QC rfl ⟨fun h => ?_,fun h => ?_⟩|((conv => whnf); first|refine anF ?_|refine anT ?_|refine anK ?_|refine Exists.intro _ (And.intro (tA _ _ _) ?_)|refine Exists.intro _ (And.intro (tx _ _) ?_)|refine And.intro (fun h => ?_) (fun h => ?_)|refine Or.inl ?_)
   all_goals refine Ends.mk (Or.inl rfl) (ac (congrArg AV.bool ?_))
   all_goals (rw [lu, hft]; simp only [hlm, *, Bool.true_and, Bool.and_true, Bool.false_and, Bool.and_false])
end Go.Proofs
namespace Go.Proofs
open Go Go.AI
def eB (out : List ao) (x : ao) : List ao := match out.getLast? with
 | some y => if y.k = x.k ∧ x.a ≤ y.b then out.dropLast ++ [⟨y.k, y.a, max y.b x.b⟩] else out ++ [x]
 | none => [x]
def dB (l : List ao) : List ao := l.foldl eB []
def dx (l : List ao) (k t : Int) : Prop := ∃ x ∈ l, x.k = k ∧ x.a ≤ t ∧ t < x.b
def ly (x y : ao) : Prop := x.k < y.k ∨ (x.k = y.k ∧ x.b < y.a)
structure dJ (l : List ao) : Prop where
 ok : ∀ x ∈ l, x.a < x.b
 sep : l.Pairwise ly
theorem dJ.tail {x : ao} {l : List ao} (h : dJ (x :: l)) : dJ l := ⟨fun y hy => h.ok y (List.mem_cons_of_mem _ hy), (List.pairwise_cons.1 h.sep).2⟩
theorem dJ.head {x : ao} {l : List ao} (h : dJ (x :: l)) : x.a < x.b ∧ ∀ y ∈ l, ly x y := ⟨h.ok x List.mem_cons_self, (List.pairwise_cons.1 h.sep).1⟩
theorem dJ.cov_tail {x : ao} {l : List ao} (h : dJ (x :: l)) (k t : Int) : dx l k t ↔ dx (x :: l) k t ∧ ¬ (k = x.k ∧ x.a ≤ t ∧ t < x.b) := by
 constructor
 ·rintro ⟨y, hy, h1, h2, h3⟩
  refine ⟨⟨y, List.mem_cons_of_mem _ hy, h1, h2, h3⟩, fun ⟨g1, g2, g3⟩ => ?_⟩
  rcases h.head.2 y hy with g | g <;> omega
 ·rintro ⟨⟨y, hy, h1, h2, h3⟩, hn⟩
  rcases List.mem_cons.1 hy with rfl | hy
  ·exact absurd ⟨h1.symm, h2, h3⟩ hn
  ·exact ⟨y, hy, h1, h2, h3⟩
theorem dJ.cov_ge {x : ao} {l : List ao} (h : dJ (x :: l)) {k t : Int} (hc : dx (x :: l) k t) : x.k < k ∨ (x.k = k ∧ x.a ≤ t) := by
 obtain ⟨y, hy, h1, h2, h3⟩ := hc
 rcases List.mem_cons.1 hy with rfl | hy
 ·right; omega
 ·have := h.head.1
  rcases h.head.2 y hy with g | g <;> omega
theorem dJ.cov_end {x : ao} {l : List ao} (h : dJ (x :: l)) : ¬ dx (x :: l) x.k x.b := by
 rintro ⟨y, hy, h1, h2, h3⟩
 rcases List.mem_cons.1 hy with rfl | hy
 ·omega
 ·rcases h.head.2 y hy with g | g <;> omega
theorem dJ.cov_head {x : ao} {l : List ao} {t : Int} (h1 : x.a ≤ t) (h2 : t < x.b) : dx (x :: l) x.k t := ⟨x, List.mem_cons_self, rfl, h1, h2⟩
theorem dJ.unique : ∀ {l m : List ao}, dJ l → dJ m → (∀ k t, dx l k t ↔ dx m k t) → l = m
 | [], [], _, _, _ => rfl
 | [], y :: m, _, hm, h => by
  obtain ⟨z, hz, _⟩ := (h y.k y.a).2 (dJ.cov_head (Int.le_refl _) hm.head.1)
  cases hz
 | x :: l, [], hl, _, h => by
  obtain ⟨z, hz, _⟩ := (h x.k x.a).1 (dJ.cov_head (Int.le_refl _) hl.head.1)
  cases hz
 | x :: l, y :: m, hl, hm, h => by
  have a1 := hm.cov_ge ((h x.k x.a).1 (dJ.cov_head (Int.le_refl _) hl.head.1))
  have a2 := hl.cov_ge ((h y.k y.a).2 (dJ.cov_head (Int.le_refl _) hm.head.1))
  have hk : x.k = y.k := by omega
  have ha : x.a = y.a := by omega
  have b1 : ¬ x.b < y.b := fun hb => hl.cov_end ((h x.k x.b).2 (by rw [hk]; exact dJ.cov_head (by have := hl.head.1; omega) hb))
  have b2 : ¬ y.b < x.b := fun hb => hm.cov_end ((h y.k y.b).1 (by rw [← hk]; exact dJ.cov_head (by have := hm.head.1; omega) hb))
  have hxy : x = y := by
   obtain ⟨xk, xa, xb⟩ := x
   obtain ⟨yk, ya, yb⟩ := y
   (try simp only [ao.mk.injEq] at *)
   omega
  subst hxy
  rw [dJ.unique hl.tail hm.tail fun k t => by rw [hl.cov_tail, hm.cov_tail, h]]
theorem gS {l m : List ao} {k t : Int} : dx (l ++ m) k t ↔ dx l k t ∨ dx m k t := by
 constructor
 ·rintro ⟨x, hx, h⟩
  rcases List.mem_append.1 hx with hx | hx
  ·exact .inl ⟨x, hx, h⟩
  ·exact .inr ⟨x, hx, h⟩
 ·rintro (⟨x, hx, h⟩ | ⟨x, hx, h⟩)
  ·exact ⟨x, List.mem_append_left _ hx, h⟩
  ·exact ⟨x, List.mem_append_right _ hx, h⟩
theorem rq {x : ao} {k t : Int} : dx [x] k t ↔ x.k = k ∧ x.a ≤ t ∧ t < x.b :=
 ⟨fun ⟨y, hy, h⟩ => by rw [List.mem_singleton] at hy; subst hy; exact h, fun h => ⟨x, List.mem_singleton.2 rfl, h⟩⟩
theorem tk {l m : List ao} (h : l.Perm m) {k t : Int} : dx l k t ↔ dx m k t :=
 ⟨fun ⟨x, hx, g⟩ => ⟨x, h.mem_iff.1 hx, g⟩, fun ⟨x, hx, g⟩ => ⟨x, h.mem_iff.2 hx, g⟩⟩
def leL (x y : ao) : Prop := x.k < y.k ∨ (x.k = y.k ∧ x.a ≤ y.a)
theorem oR {l : List ao} {x : ao} : dJ (l ++ [x]) ↔ dJ l ∧ x.a < x.b ∧ ∀ y ∈ l, ly y x := by
 constructor
 ·rintro ⟨h1, h2⟩
  obtain ⟨p1, _, p3⟩ := List.pairwise_append.1 h2
  exact ⟨⟨fun y hy => h1 y (List.mem_append_left _ hy), p1⟩, h1 x (by simp), fun y hy => p3 y hy x (by simp)⟩
 ·rintro ⟨⟨h1, h2⟩, h3, h4⟩
  refine ⟨fun y hy => ?_, List.pairwise_append.2 ⟨h2, by simp, fun y hy z hz => ?_⟩⟩
  ·rcases List.mem_append.1 hy with hy | hy
   ·exact h1 y hy
   ·rw [List.mem_singleton] at hy; subst hy; exact h3
  ·rw [List.mem_singleton] at hz; subst hz; exact h4 y hy
theorem iY (o : List ao) (y x : ao) : eB (o ++ [y]) x = if y.k = x.k ∧ x.a ≤ y.b then o ++ [⟨y.k, y.a, max y.b x.b⟩] else o ++ [y] ++ [x] := by
 unfold eB
 rw [List.getLast?_concat]
 simp only [List.dropLast_concat]
theorem bR {α : Type} (l : List α) : l = [] ∨ ∃ o y, l = o ++ [y] := by
 rcases List.eq_nil_or_concat l with h | ⟨o, y, h⟩
 ·exact .inl h
 ·exact .inr ⟨o, y, by rw [h, List.concat_eq_append]⟩
theorem Ce {out : List ao} {x : ao} (h : dJ out) (hx : x.a < x.b) (hle : ∀ y ∈ out, leL y x) : dJ (eB out x) ∧ (∀ k t, dx (eB out x) k t ↔ dx out k t ∨ dx [x] k t) ∧ ∀ y ∈ eB out x, ∀ z, leL x z → leL y z := by
 rcases bR out with rfl | ⟨o, y, rfl⟩
 ·refine ⟨⟨fun y hy => ?_, by simp [eB]⟩, fun k t => ?_, fun y hy z hz => ?_⟩
  ·simp only [eB, List.getLast?_nil, List.mem_singleton] at hy; subst hy; exact hx
  ·simp only [eB, List.getLast?_nil]
   exact ⟨.inr, fun h => h.elim (fun ⟨_, h, _⟩ => nomatch h) id⟩
  ·simp only [eB, List.getLast?_nil, List.mem_singleton] at hy; subst hy; exact hz
 ·rw [iY]
  obtain ⟨c1, c2, c3⟩ := oR.1 h
  have hyx := hle y (by simp)
  by_cases ht : y.k = x.k ∧ x.a ≤ y.b
  ·rw [if_pos ht]
   have hya : y.a ≤ x.a := by rcases hyx with g | g <;> omega
   refine ⟨oR.2 ⟨c1, by show y.a < max y.b x.b; omega, fun z hz => ?_⟩, fun k t => ?_, fun z hz q hq => ?_⟩
   ·have := c3 z hz
    unfold ly at this ⊢
    exact this
   ·rw [gS, gS, rq, rq, rq]
    simp only
    constructor
    ·rintro (g0 | ⟨g1, g2, g3⟩)
     ·exact .inl (.inl g0)
     by_cases g4 : t < y.b
     ·exact .inl (.inr ⟨g1, g2, g4⟩)
     ·exact .inr ⟨by omega, by omega, by omega⟩
    ·rintro ((g0 | ⟨g1, g2, g3⟩) | ⟨g1, g2, g3⟩)
     ·exact .inl g0
     ·exact .inr ⟨g1, g2, by omega⟩
     ·exact .inr ⟨by omega, by omega, by omega⟩
   ·rcases List.mem_append.1 hz with hz | hz
    ·have h1 := hle z (by simp [hz])
     unfold leL at *
     omega
    ·rw [List.mem_singleton] at hz; subst hz
     unfold leL at *
     simp only
     omega
  ·rw [if_neg ht]
   refine ⟨oR.2 ⟨h, hx, fun z hz => ?_⟩, fun k t => gS, fun z hz q hq => ?_⟩
   ·rcases List.mem_append.1 hz with hz | hz
    ·have h1 := c3 z hz
     unfold ly leL at *
     have := c1.ok z hz
     omega
    ·rw [List.mem_singleton] at hz; subst hz
     unfold ly leL at *
     omega
   ·rcases List.mem_append.1 hz with hz | hz
    ·have h1 := hle z hz
     unfold leL at *
     omega
    ·rw [List.mem_singleton] at hz; subst hz; exact hq
theorem Ae {x y z : ao} (h1 : leL x y) (h2 : leL y z) : leL x z := by unfold leL at *; omega
theorem qM : ∀ (l out : List ao), dJ out → (∀ x ∈ l, x.a < x.b) → l.Pairwise leL → (∀ y ∈ out, ∀ x ∈ l, leL y x) → dJ (l.foldl eB out) ∧ ∀ k t, dx (l.foldl eB out) k t ↔ dx out k t ∨ dx l k t
 | [], out, h, _, _, _ => ⟨h, fun k t => ⟨.inl, fun h => h.elim id fun ⟨_, h, _⟩ => nomatch h⟩⟩
 | x :: l, out, h, hx, hs, hle => by
  obtain ⟨s1, s2⟩ := List.pairwise_cons.1 hs
  obtain ⟨j1, j2, j3⟩ := Ce h (hx x List.mem_cons_self) fun y hy => hle y hy x List.mem_cons_self
  obtain ⟨r1, r2⟩ := qM l (eB out x) j1 (fun y hy => hx y (List.mem_cons_of_mem _ hy)) s2 fun y hy z hz => j3 y hy z (s1 z hz)
  refine ⟨r1, fun k t => ?_⟩
  rw [List.foldl_cons, r2, j2, or_assoc, ← gS]
  rfl
theorem sY {l : List ao} (hx : ∀ x ∈ l, x.a < x.b) (hs : l.Pairwise leL) : dJ (dB l) ∧ ∀ k t, dx (dB l) k t ↔ dx l k t := by
 obtain ⟨h1, h2⟩ := qM l [] ⟨by simp, by simp⟩ hx hs (by simp)
 exact ⟨h1, fun k t => (h2 k t).trans ⟨fun h => h.elim (fun ⟨_, h, _⟩ => nomatch h) id, .inr⟩⟩
def sr (x y : ao) : Bool := decide (x.k < y.k) || (decide (x.k = y.k) && decide (x.a ≤ y.a))
theorem mr {x y : ao} : sr x y = true ↔ leL x y := by simp [sr, leL]
def jU (l : List ao) : List ao := dB (l.mergeSort sr)
theorem BL (l : List ao) : (l.mergeSort sr).Pairwise leL :=
 (List.pairwise_mergeSort (le := sr) (fun a b c h1 h2 => mr.2 (Ae (mr.1 h1) (mr.1 h2))) (fun a b => by simp only [sr, Bool.or_eq_true, Bool.and_eq_true, decide_eq_true_eq]; omega) l).imp fun h => mr.1 h
theorem tq {l : List ao} (hx : ∀ x ∈ l, x.a < x.b) : dJ (jU l) ∧ ∀ k t, dx (jU l) k t ↔ dx l k t := by
 have hp := List.mergeSort_perm l sr
 obtain ⟨h1, h2⟩ := sY (l := l.mergeSort sr) (fun x h => hx x (hp.mem_iff.1 h)) (BL l)
 exact ⟨h1, fun k t => (h2 k t).trans (tk hp)⟩
theorem vE {l m : List ao} (hx : ∀ x ∈ l, x.a < x.b) (hp : m.Perm l) (hs : m.Pairwise leL) : dB m = jU l := by
 obtain ⟨h1, h2⟩ := sY (fun x h => hx x (hp.mem_iff.1 h)) hs
 obtain ⟨h3, h4⟩ := tq hx
 exact h1.unique h3 fun k t => by rw [h2, h4, tk hp]
end Go.Proofs
namespace Go.Proofs
open Go Go.AI
structure Img where
 i : Int
 u : Int
 a : Int
 b : Int
deriving DecidableEq
def gw (x : Img) : List AV := [.int .i64 x.i, .int .i64 x.u, .int .i64 x.a, .int .i64 x.b]
def gP (l : List Img) : AV := .sl .no 4 (l.map gw)
def bk : List Img → List (Int × Int)
 | [] => []
 | x :: r => (x.a, x.u) :: (x.b, 0 - x.u) :: bk r
def fJ (t : Int) : List (Int × Int) → Int
 | [] => 0
 | x :: r => (if x.1 ≤ t then x.2 else 0) + fJ t r
def eR (t : Int) : List Img → Int
 | [] => 0
 | x :: r => (if x.a ≤ t ∧ t < x.b then x.u else 0) + eR t r
def bO : Int → List (Int × Int) → List (Int × Int)
 | _, [] => []
 | f, x :: [] => [(x.1, f + x.2)]
 | f, x :: y :: r => if y.1 = x.1 then bO (f + x.2) (y :: r) else (x.1, f + x.2) :: bO (f + x.2) (y :: r)
def gM (store : Int) : List (Int × Int) → Int
 | [] => -1
 | p :: r => if p.2 > store then p.1 else gM store r
theorem fq (t : Int) : ∀ l : List Img, (∀ x ∈ l, x.a < x.b) → fJ t (bk l) = eR t l
 | [], _ => rfl
 | x :: r, h => by
  have hx := h x List.mem_cons_self
  simp only [bk, fJ, eR]
  rw [fq t r fun y hy => h y (List.mem_cons_of_mem _ hy)]
  split <;> split <;> split <;> omega
theorem kT {t : Int} {s s' : List (Int × Int)} (h : s.Perm s') : fJ t s = fJ t s' := by
 induction h with
 | nil => rfl
 | cons x _ ih => simp only [fJ, ih]
 | swap x y l => simp only [fJ]; omega
 | trans _ _ h1 h2 => exact h1.trans h2
theorem o4 {t t' : Int} : ∀ {s : List (Int × Int)}, (∀ y ∈ s, y.1 ≤ t ↔ y.1 ≤ t') → fJ t s = fJ t' s
 | [], _ => rfl
 | x :: r, h => by
  have hx := h x List.mem_cons_self
  simp only [fJ]
  rw [o4 fun y hy => h y (List.mem_cons_of_mem _ hy)]
  by_cases h1 : x.1 ≤ t
  ·rw [if_pos h1, if_pos (hx.1 h1)]
  ·rw [if_neg h1, if_neg fun h2 => h1 (hx.2 h2)]
theorem iJ {t : Int} : ∀ {s : List (Int × Int)}, (∀ y ∈ s, t < y.1) → fJ t s = 0
 | [], _ => rfl
 | x :: r, h => by
  have hx := h x List.mem_cons_self
  simp only [fJ]
  rw [iJ fun y hy => h y (List.mem_cons_of_mem _ hy), if_neg (by omega)]; rfl
theorem gz : ∀ (s : List (Int × Int)) (f : Int), s.Pairwise (fun x y => x.1 ≤ y.1) → ∀ p : Int × Int, p ∈ bO f s ↔ (∃ x ∈ s, x.1 = p.1) ∧ p.2 = f + fJ p.1 s
 | [], f, _, p => by simp [bO]
 | x :: [], f, _, p => by
  simp only [bO, List.mem_singleton, exists_eq_left, fJ]
  constructor
  ·rintro rfl; exact ⟨rfl, by simp⟩
  ·rintro ⟨h1, h2⟩
   rw [if_pos (by omega)] at h2
   exact Prod.ext h1.symm (by simp; omega)
 | x :: y :: r, f, hs, p => by
  obtain ⟨s1, s2⟩ := List.pairwise_cons.1 hs
  have ih := gz (y :: r) (f + x.2) s2 p
  have hxy := s1 y List.mem_cons_self
  have hsum : fJ p.1 (x :: y :: r) = (if x.1 ≤ p.1 then x.2 else 0) + fJ p.1 (y :: r) := rfl
  rw [hsum]
  by_cases he : y.1 = x.1
  ·rw [show bO f (x :: y :: r) = bO (f + x.2) (y :: r) from if_pos he, ih]
   constructor
   ·rintro ⟨⟨z, hz, h1⟩, h2⟩
    have := s1 z hz
    refine ⟨⟨z, List.mem_cons_of_mem _ hz, h1⟩, ?_⟩
    rw [if_pos (by omega)]; omega
   ·rintro ⟨⟨z, hz, h1⟩, h2⟩
    have hz' : ∃ z ∈ y :: r, z.1 = p.1 := by
     rcases List.mem_cons.1 hz with rfl | hz
     ·exact ⟨y, List.mem_cons_self, by omega⟩
     ·exact ⟨z, hz, h1⟩
    obtain ⟨q, hq, h3⟩ := hz'
    have := s1 q hq
    rw [if_pos (by omega)] at h2
    exact ⟨⟨q, hq, h3⟩, by omega⟩
  ·rw [show bO f (x :: y :: r) = (x.1, f + x.2) :: bO (f + x.2) (y :: r) from if_neg he, List.mem_cons, ih]
   have hlt : ∀ z ∈ y :: r, x.1 < z.1 := fun z hz => by
    rcases List.mem_cons.1 hz with rfl | hz
    ·omega
    ·have := (List.pairwise_cons.1 s2).1 z hz
     omega
   constructor
   ·rintro (rfl | ⟨⟨z, hz, h1⟩, h2⟩)
    ·refine ⟨⟨x, List.mem_cons_self, rfl⟩, ?_⟩
     simp only [Int.le_refl, if_true]
     rw [iJ fun z hz => hlt z hz]; omega
    ·have := hlt z hz
     refine ⟨⟨z, List.mem_cons_of_mem _ hz, h1⟩, ?_⟩
     rw [if_pos (by omega)]; omega
   ·rintro ⟨⟨z, hz, h1⟩, h2⟩
    rcases List.mem_cons.1 hz with rfl | hz
    ·left
     rw [if_pos (by omega), iJ fun z hz => by have := hlt z hz; omega] at h2
     exact Prod.ext h1.symm (by simp; omega)
    ·right
     have := hlt z hz
     rw [if_pos (by omega)] at h2
     exact ⟨⟨z, hz, h1⟩, by omega⟩
theorem ja : ∀ (s : List (Int × Int)) (f : Int), s.Pairwise (fun x y => x.1 ≤ y.1) → (bO f s).Pairwise fun x y => x.1 < y.1
 | [], f, _ => by simp [bO]
 | x :: [], f, _ => by simp [bO]
 | x :: y :: r, f, hs => by
  obtain ⟨s1, s2⟩ := List.pairwise_cons.1 hs
  have ih := ja (y :: r) (f + x.2) s2
  have hxy := s1 y List.mem_cons_self
  by_cases he : y.1 = x.1
  ·rw [show bO f (x :: y :: r) = bO (f + x.2) (y :: r) from if_pos he]; exact ih
  ·rw [show bO f (x :: y :: r) = (x.1, f + x.2) :: bO (f + x.2) (y :: r) from if_neg he, List.pairwise_cons]
   refine ⟨fun p hp => ?_, ih⟩
   obtain ⟨⟨z, hz, h1⟩, _⟩ := (gz _ _ s2 p).1 hp
   show x.1 < p.1
   rcases List.mem_cons.1 hz with rfl | hz
   ·omega
   ·have := (List.pairwise_cons.1 s2).1 z hz
    omega
theorem rE : ∀ {l m : List (Int × Int)}, l.Pairwise (fun x y => x.1 < y.1) → m.Pairwise (fun x y => x.1 < y.1) → (∀ p, p ∈ l ↔ p ∈ m) → l = m
 | [], [], _, _, _ => rfl
 | [], y :: m, _, _, h => by have := (h y).2 List.mem_cons_self; cases this
 | x :: l, [], _, _, h => by have := (h x).1 List.mem_cons_self; cases this
 | x :: l, y :: m, h1, h2, h => by
  obtain ⟨p1, p2⟩ := List.pairwise_cons.1 h1
  obtain ⟨q1, q2⟩ := List.pairwise_cons.1 h2
  have hxy : x = y := by
   rcases List.mem_cons.1 ((h x).1 List.mem_cons_self) with e | e
   ·exact e
   ·rcases List.mem_cons.1 ((h y).2 List.mem_cons_self) with e' | e'
    ·exact e'.symm
    ·have := q1 x e; have := p1 y e'; omega
  subst hxy
  rw [rE p2 q2 fun p => ?_]
  constructor
  ·intro hp
   rcases List.mem_cons.1 ((h p).1 (List.mem_cons_of_mem _ hp)) with e | e
   ·have := p1 p hp; rw [e] at this; omega
   ·exact e
  ·intro hp
   rcases List.mem_cons.1 ((h p).2 (List.mem_cons_of_mem _ hp)) with e | e
   ·have := q1 p hp; rw [e] at this; omega
   ·exact e
def leT (x y : Int × Int) : Bool := decide (x.1 ≤ y.1)
def bf (l : List Img) : List (Int × Int) := bO 0 ((bk l).mergeSort leT)
theorem lI (s : List (Int × Int)) : (s.mergeSort leT).Pairwise fun x y => x.1 ≤ y.1 :=
 (List.pairwise_mergeSort (le := leT) (fun a b c h1 h2 => by (try simp only [leT, decide_eq_true_eq] at *); omega) (fun a b => by simp only [leT, Bool.or_eq_true, decide_eq_true_eq]; omega) s).imp fun h => by simpa [leT] using h
theorem rn {l : List Img} {s : List (Int × Int)} (hp : s.Perm (bk l)) (hs : s.Pairwise fun x y => x.1 ≤ y.1) : bO 0 s = bf l := by
 have hq := List.mergeSort_perm (bk l) leT
 refine rE (ja _ _ hs) (ja _ _ (lI _)) fun p => ?_
 rw [gz _ _ hs, bf, gz _ _ (lI _), kT hp, kT hq]
 constructor
 ·rintro ⟨⟨x, hx, h1⟩, h2⟩; exact ⟨⟨x, hq.mem_iff.2 (hp.mem_iff.1 hx), h1⟩, h2⟩
 ·rintro ⟨⟨x, hx, h1⟩, h2⟩; exact ⟨⟨x, hp.mem_iff.2 (hq.mem_iff.1 hx), h1⟩, h2⟩
theorem kc {l : List Img} (h : ∀ x ∈ l, x.a < x.b) (p : Int × Int) : p ∈ bf l ↔ (∃ x ∈ bk l, x.1 = p.1) ∧ p.2 = eR p.1 l := by
 have hq := List.mergeSort_perm (bk l) leT
 unfold bf
 rw [gz _ _ (lI _), kT hq, fq _ _ h, Int.zero_add]
 exact ⟨fun ⟨⟨x, hx, h1⟩, h2⟩ => ⟨⟨x, hq.mem_iff.1 hx, h1⟩, h2⟩, fun ⟨⟨x, hx, h1⟩, h2⟩ => ⟨⟨x, hq.mem_iff.2 hx, h1⟩, h2⟩⟩
theorem Au (l : List Img) : (bf l).Pairwise fun x y => x.1 < y.1 := ja _ _ (lI _)
def BC (f : Int → Int) (store r : Int) : Prop := (r = -1 ∧ ∀ t, f t ≤ store) ∨ (0 ≤ r ∧ store < f r ∧ ∀ t, t < r → f t ≤ store)
theorem s6 (t : Int) : ∀ s : List (Int × Int), (∀ x ∈ s, t < x.1) ∨ ∃ x ∈ s, x.1 ≤ t ∧ ∀ y ∈ s, y.1 ≤ t → y.1 ≤ x.1
 | [] => .inl (by simp)
 | x :: r => by
  rcases s6 t r with h | ⟨z, hz, h1, h2⟩
  ·by_cases hx : x.1 ≤ t
   ·refine .inr ⟨x, List.mem_cons_self, hx, fun y hy hyt => ?_⟩
    rcases List.mem_cons.1 hy with rfl | hy
    ·exact Int.le_refl _
    ·have := h y hy; omega
   ·refine .inl fun y hy => ?_
    rcases List.mem_cons.1 hy with rfl | hy
    ·omega
    ·exact h y hy
  ·by_cases hx : x.1 ≤ t ∧ z.1 < x.1
   ·refine .inr ⟨x, List.mem_cons_self, hx.1, fun y hy hyt => ?_⟩
    rcases List.mem_cons.1 hy with rfl | hy
    ·exact Int.le_refl _
    ·have := h2 y hy hyt; omega
   ·refine .inr ⟨z, List.mem_cons_of_mem _ hz, h1, fun y hy hyt => ?_⟩
    rcases List.mem_cons.1 hy with rfl | hy
    ·omega
    ·exact h2 y hy hyt
theorem oN {l : List Img} (h : ∀ x ∈ l, x.a < x.b) (t : Int) : eR t l = 0 ∨ ∃ p ∈ bf l, p.1 ≤ t ∧ p.2 = eR t l := by
 rcases s6 t (bk l) with g | ⟨z, hz, h1, h2⟩
 ·left; rw [← fq t l h]; exact iJ g
 ·right
  have e : eR z.1 l = eR t l := by
   rw [← fq t l h, ← fq z.1 l h]
   exact o4 fun y hy => ⟨fun g => by omega, fun g => h2 y hy g⟩
  exact ⟨(z.1, eR z.1 l), (kc h _).2 ⟨⟨z, hz, rfl⟩, rfl⟩, h1, e⟩
theorem qE (store : Int) : ∀ l : List (Int × Int), (∀ p ∈ l, 0 ≤ p.1) → l.Pairwise (fun x y => x.1 < y.1) → (gM store l = -1 ∧ ∀ p ∈ l, p.2 ≤ store) ∨ ∃ p ∈ l, gM store l = p.1 ∧ store < p.2 ∧ ∀ q ∈ l, q.1 < p.1 → q.2 ≤ store
 | [], _, _ => .inl ⟨rfl, by simp⟩
 | x :: r, h0, hs => by
  obtain ⟨s1, s2⟩ := List.pairwise_cons.1 hs
  by_cases hx : x.2 > store
  ·refine .inr ⟨x, List.mem_cons_self, if_pos hx, hx, fun q hq hlt => ?_⟩
   rcases List.mem_cons.1 hq with rfl | hq
   ·omega
   ·have := s1 q hq; omega
  ·rw [show gM store (x :: r) = gM store r from if_neg hx]
   rcases qE store r (fun p hp => h0 p (List.mem_cons_of_mem _ hp)) s2 with ⟨h1, h2⟩ | ⟨p, hp, h1, h2, h3⟩
   ·refine .inl ⟨h1, fun p hp => ?_⟩
    rcases List.mem_cons.1 hp with rfl | hp
    ·omega
    ·exact h2 p hp
   ·refine .inr ⟨p, List.mem_cons_of_mem _ hp, h1, h2, fun q hq hlt => ?_⟩
    rcases List.mem_cons.1 hq with rfl | hq
    ·omega
    ·exact h3 q hq hlt
theorem zC {l : List Img} {x : Int × Int} (h : x ∈ bk l) : ∃ y ∈ l, x.1 = y.a ∨ x.1 = y.b := by
 induction l with
 | nil => cases h
 | cons z r ih =>
  simp only [bk, List.mem_cons] at h
  rcases h with rfl | rfl | h
  ·exact ⟨z, List.mem_cons_self, .inl rfl⟩
  ·exact ⟨z, List.mem_cons_self, .inr rfl⟩
  ·obtain ⟨y, hy, h⟩ := ih h
   exact ⟨y, List.mem_cons_of_mem _ hy, h⟩
theorem xI {l : List Img} (h : ∀ x ∈ l, 0 ≤ x.a ∧ x.a < x.b) {store : Int} (h0 : 0 ≤ store) : BC (fun t => eR t l) store (gM store (bf l)) := by
 have hab : ∀ x ∈ l, x.a < x.b := fun x hx => (h x hx).2
 have hpos : ∀ p ∈ bf l, 0 ≤ p.1 := fun p hp => by
  obtain ⟨⟨x, hx, h1⟩, _⟩ := (kc hab p).1 hp
  obtain ⟨y, hy, h2⟩ := zC hx
  have := h y hy
  rcases h2 with h2 | h2 <;> omega
 have hval : ∀ p ∈ bf l, p.2 = eR p.1 l := fun p hp => ((kc hab p).1 hp).2
 rcases qE store (bf l) hpos (Au l) with ⟨h1, h2⟩ | ⟨p, hp, h1, h2, h3⟩
 ·refine .inl ⟨h1, fun t => ?_⟩
  rcases oN hab t with g | ⟨q, hq, _, g⟩
  ·simp only [g]; exact h0
  ·have := h2 q hq
   simp only
   omega
 ·refine .inr ⟨by rw [h1]; exact hpos p hp, by rw [h1]; simp only; rw [← hval p hp]; exact h2, fun t ht => ?_⟩
  rcases oN hab t with g | ⟨q, hq, g1, g⟩
  ·simp only [g]; exact h0
  ·have := h3 q hq (by omega)
   simp only
   omega
end Go.Proofs
namespace Go.Proofs
open Go Go.AI
def io (l : List Opt) : List ao := l.map fun o => ⟨1, o.a, o.b⟩
def xF (l : List Opt) : List ao := l.flatMap fun o => o.sl.map fun x => ⟨2, x.a, x.b⟩
def gZ (l : List Opt) : List ao := io l ++ xF l
def mN (l : List Opt) : Bool := l.any fun o => !ce o.a o.b || decide (6 < o.sl.length)
def CJ (l : List Opt) : Bool := l.any fun o => o.sl.any fun x => !ce x.a x.b
def ws (l : List Opt) : Bool := decide (8 < l.length) || mN l || CJ l
def aq (l : List Opt) : List ao := if ws l then [] else jU (gZ l)
theorem gd {a b : Int} : ce a b = true ↔ 0 ≤ a ∧ a < b ∧ b ≤ 1000000 := by
 constructor
 ·exact lU
 ·rintro ⟨h1, h2, h3⟩
  unfold ce inS
  rw [show w64 (b - 1) = b - 1 from am (by omega) (by omega)]
  simp; omega
structure c6 (l : List Opt) : Prop where
 n : l.length ≤ 8
 shot : ∀ o ∈ l, 0 ≤ o.a ∧ o.a < o.b ∧ o.b ≤ 1000000 ∧ o.sl.length ≤ 6
 slot : ∀ o ∈ l, ∀ x ∈ o.sl, 0 ≤ x.a ∧ x.a < x.b ∧ x.b ≤ 1000000
theorem vR {l : List Opt} : ws l = false ↔ c6 l := by
 constructor
 ·intro h
  simp only [ws, mN, CJ, Bool.or_eq_false_iff, decide_eq_false_iff_not, List.any_eq_false, Bool.or_eq_true, Bool.not_eq_true', decide_eq_true_eq, not_or, Bool.not_eq_true, Bool.not_eq_false] at h
  obtain ⟨⟨h1, h2⟩, h3⟩ := h
  refine ⟨by omega, fun o ho => ?_, fun o ho x hx => ?_⟩
  ·obtain ⟨g1, g2⟩ := h2 o ho
   have := lU g1
   omega
  ·have := h3 o ho x hx
   exact lU (by simpa using this)
 ·rintro ⟨h1, h2, h3⟩
  simp only [ws, mN, CJ, Bool.or_eq_false_iff, decide_eq_false_iff_not, List.any_eq_false, Bool.or_eq_true, Bool.not_eq_true', decide_eq_true_eq, not_or, Bool.not_eq_true, Bool.not_eq_false]
  refine ⟨⟨by omega, fun o ho => ?_⟩, fun o ho x hx => ?_⟩
  ·have := h2 o ho
   exact ⟨gd.2 (by omega), by omega⟩
  ·have := h3 o ho x hx
   simpa using gd.2 this
theorem lV {l : List Opt} {x : ao} : x ∈ gZ l ↔ (∃ o ∈ l, x = ⟨1, o.a, o.b⟩) ∨ ∃ o ∈ l, ∃ y ∈ o.sl, x = ⟨2, y.a, y.b⟩ := by
 simp only [gZ, io, xF, List.mem_append, List.mem_map, List.mem_flatMap]
 constructor
 ·rintro (⟨o, ho, rfl⟩ | ⟨o, ho, y, hy, rfl⟩)
  ·exact .inl ⟨o, ho, rfl⟩
  ·exact .inr ⟨o, ho, y, hy, rfl⟩
 ·rintro (⟨o, ho, rfl⟩ | ⟨o, ho, y, hy, rfl⟩)
  ·exact .inl ⟨o, ho, rfl⟩
  ·exact .inr ⟨o, ho, y, hy, rfl⟩
theorem c6.raw {l : List Opt} (h : c6 l) : ∀ x ∈ gZ l, (x.k = 1 ∨ x.k = 2) ∧ 0 ≤ x.a ∧ x.a < x.b ∧ x.b ≤ 1000000 := fun x hx => by
 rcases lV.1 hx with ⟨o, ho, rfl⟩ | ⟨o, ho, y, hy, rfl⟩
 ·have := h.shot o ho; exact ⟨.inl rfl, this.1, this.2.1, this.2.2.1⟩
 ·exact ⟨.inr rfl, h.slot o ho y hy⟩
theorem Ag (out : List ao) (x : ao) : (eB out x).length ≤ out.length + 1 := by
 rcases bR out with rfl | ⟨o, y, rfl⟩
 ·simp [eB]
 ·rw [iY]
  split <;> simp
theorem ld : ∀ (l out : List ao), (l.foldl eB out).length ≤ out.length + l.length
 | [], out => by simp
 | x :: l, out => by
  have h1 := ld l (eB out x)
  have h2 := Ag out x
  simp only [List.foldl_cons, List.length_cons]
  omega
theorem ry (l : List ao) : (jU l).length ≤ l.length := by
 have := ld (l.mergeSort sr) []
 have h2 := (List.mergeSort_perm l sr).length_eq
 simp only [List.length_nil, Nat.zero_add, h2] at this
 exact this
theorem vZ (n : Nat) : ∀ l : List Opt, (∀ o ∈ l, o.sl.length ≤ n) → (xF l).length ≤ n * l.length
 | [], _ => by simp [xF]
 | o :: r, h => by
  have h1 := vZ n r fun x hx => h x (List.mem_cons_of_mem _ hx)
  have h2 := h o List.mem_cons_self
  simp only [xF, List.flatMap_cons, List.length_append, List.length_map, List.length_cons, Nat.mul_add, Nat.mul_one] at h1 ⊢
  omega
theorem c6.len {l : List Opt} (h : c6 l) : (gZ l).length ≤ 56 := by
 have h1 := vZ 6 l fun o ho => (h.shot o ho).2.2.2
 have h2 := h.n
 simp only [gZ, io, List.length_append, List.length_map]
 omega
theorem yY : ∀ (rest pre : List ao), dJ (pre ++ rest) → (∀ x ∈ rest, (x.k = 1 ∨ x.k = 2) ∧ 0 ≤ x.a ∧ x.b ≤ 1000000) → okL pre rest = true
 | [], _, _, _ => rfl
 | x :: r, pre, h, hb => by
  have hx := hb x List.mem_cons_self
  have hok := h.ok x (by simp)
  have hsep := (List.pairwise_append.1 h.sep).2.2
  have ih := yY r (pre ++ [x]) (by simpa using h) fun y hy => hb y (List.mem_cons_of_mem _ hy)
  rw [okL, ih, Bool.and_true, fH, gd.2 (by omega), show inS x.k 1 2 = true from by unfold inS; simp; omega]
  simp only [Bool.true_and, Bool.not_eq_true', List.any_eq_false, vt, Bool.and_eq_true, decide_eq_true_eq, not_and]
  intro y hy g1 g2
  have := hsep y hy x List.mem_cons_self
  unfold ly at this
  omega
theorem rz {l m : List ao} (h : dJ m) (hc : ∀ k t, dx m k t ↔ dx l k t) (hl : ∀ x ∈ l, (x.k = 1 ∨ x.k = 2) ∧ 0 ≤ x.a ∧ x.a < x.b ∧ x.b ≤ 1000000) : ∀ x ∈ m, (x.k = 1 ∨ x.k = 2) ∧ 0 ≤ x.a ∧ x.b ≤ 1000000 := fun x hx => by
 have hok := h.ok x hx
 obtain ⟨y, hy, h1, h2, h3⟩ := (hc x.k x.a).1 ⟨x, hx, rfl, Int.le_refl _, hok⟩
 obtain ⟨z, hz, g1, g2, g3⟩ := (hc x.k (x.b - 1)).1 ⟨x, hx, rfl, by omega, by omega⟩
 have b1 := hl y hy
 have b2 := hl z hz
 rw [h1] at b1
 exact ⟨b1.1, by omega, by omega⟩
theorem c6.loads {l : List Opt} (h : c6 l) : aq l = jU (gZ l) := by unfold aq; rw [vR.2 h]; rfl
theorem c6.can {l : List Opt} (h : c6 l) : dJ (aq l) ∧ ∀ k t, dx (aq l) k t ↔ dx (gZ l) k t := by
 rw [h.loads]; exact tq fun x hx => (h.raw x hx).2.2.1
theorem c6.proper {l : List Opt} (h : c6 l) : dG (aq l) = true := by
 obtain ⟨h1, h2⟩ := h.can
 have hlen : (aq l).length ≤ 56 := by rw [h.loads]; exact Nat.le_trans (ry _) h.len
 unfold dG
 rw [decide_eq_true (by omega), Bool.true_and]
 exact yY _ [] h1 (rz h1 h2 h.raw)
end Go.Proofs
namespace Go.Proofs
open Go Go.AI
def mkK (k : Int) (x : Int × Int) : ao := ⟨k, x.1, x.2⟩
def bM (l : List Opt) : List (Int × Int) := l.flatMap fun o => o.sl.map fun x => (x.a, x.b)
theorem yS (l : List Opt) : xF l = (bM l).map (mkK 2) := by
 unfold xF bM
 rw [List.map_flatMap]
 congr 1
 funext o
 simp [mkK]
end Go.Proofs
namespace Go.Proofs
open Go Go.AI
theorem vP {α : Type} (p : α → Bool) : ∀ (l : List α) (k : Nat), (bj p l k = -1 ∧ ∀ x ∈ l, p x = false) ∨ (k ≤ bj p l k ∧ bj p l k < k + l.length ∧ ∃ x ∈ l, p x = true)
 | [], k => .inl ⟨rfl, by simp⟩
 | x :: r, k => by
  simp only [bj]
  by_cases h : p x = true
  ·rw [if_pos h]; right; simp only [List.length_cons]; exact ⟨by omega, by omega, x, List.mem_cons_self, h⟩
  ·rw [if_neg h]
   rcases vP p r (k + 1) with ⟨h1, h2⟩ | ⟨h1, h2, y, h3, h4⟩
   ·left; refine ⟨h1, fun y hy => ?_⟩
    rcases List.mem_cons.1 hy with rfl | hy
    ·simpa using h
    ·exact h2 y hy
   ·right; simp only [List.length_cons]; exact ⟨by omega, by omega, y, List.mem_cons_of_mem _ h3, h4⟩
end Go.Proofs
namespace Go.Proofs
open Go Go.AI
def qG : Opt := ⟨0, 0, 0, 0, 0, 0, 0, 0, []⟩
def EN : aZ := ⟨0, 0, 0⟩
def aD (l : List Opt) (i : Nat) : Opt := l.getD i qG
def eY (o : Opt) (i : Nat) : aZ := o.sl.getD i EN
def dY (o : Opt) : Int := (eY o (o.sl.length - 1)).b
def bP (l : List Opt) : List dD := l.map fun o => ⟨o.a, o.b, o.look⟩
def ba (l : List Opt) : List Img := l.map fun o => ⟨o.id, o.size, o.a, dY o⟩
structure Flt where
 k : Int
 a : Int
 b : Int
 t : Int
deriving DecidableEq
def fI (x : Flt) : List AV := [.int .i64 x.k, .int .i64 x.a, .int .i64 x.b, .int .i64 x.t]
def zf (l : List Flt) : AV := .sl .no 4 (l.map fI)
def mo (f : Int) (x y : Int × Int) : Int := if max x.1 y.1 < min x.2 y.2 ∧ (f < 0 ∨ max x.1 y.1 < f) then max x.1 y.1 else f
def FJ (xs ys : List (Int × Int)) : Int := xs.foldl (fun f x => ys.foldl (fun f y => mo f x y) f) (-1)
def slP (o : Opt) : List (Int × Int) := o.sl.map fun x => (x.a, x.b)
def sZ (a b : Opt) : Int := FJ (slP a) (slP b)
def yL (l : List Opt) (k i : Nat) : Option (Nat × Nat × Int) := if sZ (aD l i) (aD l k) ≥ 0 then some (i, k, sZ (aD l i) (aD l k)) else none
def BS (l : List Opt) (k : Nat) : Option (Nat × Nat × Int) := (List.range k).findSome? (yL l k)
def vf (l : List Opt) : Option (Nat × Nat × Int) := (List.range l.length).findSome? (BS l)
def ub (k sat t : Int) : Option Flt := if t = -1 then none else some ⟨k, sat, 0, t⟩
def lN (s : Nat → Int) (l : List Opt) : Option Flt := match qx s (bP l) with
 | none => none
 | some (i, k) => some ⟨2, (aD l i).id, (aD l k).id, (aD l k).a⟩
def vQ (s : Nat → Int) (l : List Opt) (a b : Int) : Option Flt := ub 3 (s 0) (Cl s (bP l) a b)
def xw (s : Nat → Int) (l : List Opt) : Int := gM (s 10) (bf (ba l))
def iL (s : Nat → Int) (l : List Opt) : Option Flt := ub 4 (s 0) (xw s l)
def fR (s : Nat → Int) (l : List Opt) (a b : Int) : Option Flt := ub 5 (s 0) (oQ s (aq l) a b)
def lQ (l : List Opt) : Option Flt := match vf l with
 | none => none
 | some (i, k, t) => some ⟨6, (aD l i).id, (aD l k).id, t⟩
def pj (s : Nat → Int) (l : List Opt) (a b : Int) : List (Option Flt) := [lN s l, vQ s l a b, iL s l, fR s l a b, lQ l]
def fi (s : Nat → Int) (l : List Opt) (a b : Int) : List Flt := (pj s l a b).filterMap id
def xZ (l : List Flt) (k : Int) : Bool := l.any fun x => decide (x.k = k)
theorem Av (s : Nat → Int) (l : List Opt) (a b : Int) : fi s l a b = (lN s l).toList ++ ((vQ s l a b).toList ++ ((iL s l).toList ++ ((fR s l a b).toList ++ (lQ l).toList))) := by
 unfold fi pj
 cases lN s l <;> cases vQ s l a b <;> cases iL s l <;> cases fR s l a b <;> cases lQ l <;> rfl
theorem D3 {s : Nat → Int} {l : List Opt} {x : Flt} (h : lN s l = some x) : x.k = 2 := by
 unfold lN at h
 split at h <;> cases h; rfl
theorem xP {k sat t : Int} {x : Flt} (h : ub k sat t = some x) : x.k = k := by
 unfold ub at h
 split at h <;> cases h; rfl
theorem D5 {l : List Opt} {x : Flt} (h : lQ l = some x) : x.k = 6 := by
 unfold lQ at h
 split at h <;> cases h; rfl
theorem gC {o : Option Flt} {k k' : Int} (h : ∀ x, o = some x → x.k = k) : o.toList.any (fun x => decide (x.k = k')) = (decide (k = k') && o.isSome) := by
 cases o with
 | none => simp
 | some x => simp [h x rfl]
theorem zd (s : Nat → Int) (l : List Opt) (a b k : Int) : xZ (fi s l a b) k = ((decide (2 = k) && (lN s l).isSome) || ((decide (3 = k) && (vQ s l a b).isSome) || ((decide (4 = k) && (iL s l).isSome) || ((decide (5 = k) && (fR s l a b).isSome) || (decide (6 = k) && (lQ l).isSome))))) := by
 unfold xZ
 rw [Av]
 simp only [List.any_append]
 rw [gC (o := lN s l) (k := 2) fun x h => D3 h, gC (o := vQ s l a b) (k := 3) fun x h => xP h, gC (o := iL s l) (k := 4) fun x h => xP h, gC (o := fR s l a b) (k := 5) fun x h => xP h, gC (o := lQ l) (k := 6) fun x h => D5 h]
theorem F7 (s : Nat → Int) (l : List Opt) (a b : Int) : xZ (fi s l a b) 4 = (iL s l).isSome := by rw [zd]; simp
theorem F6 (s : Nat → Int) (l : List Opt) (a b : Int) : xZ (fi s l a b) 5 = (fR s l a b).isSome := by rw [zd]; simp
theorem bT {l : List Opt} {i : Nat} (h : i < l.length) : aD l i = l[i] := by simp [aD, List.getD_eq_getElem?_getD, List.getElem?_eq_getElem h]
theorem sX {k sat t : Int} : (ub k sat t).isSome = false ↔ t = -1 := by
 unfold ub
 split <;> simp_all
end Go.Proofs
namespace Go.Proofs
open Go Go.AI
theorem Cf {l : List Opt} (h : ∀ o ∈ l, 0 ≤ o.a ∧ o.a < dY o) : ∀ x ∈ ba l, 0 ≤ x.a ∧ x.a < x.b := fun x hx => by
 obtain ⟨o, ho, rfl⟩ := List.mem_map.1 hx
 exact h o ho
theorem uA {s : Nat → Int} {t : Int} : ∀ {l : List ao}, dJ l → (∀ x ∈ l, x.k = 1 ∨ x.k = 2) → ∃ p q : Bool, (p = true ↔ dx l 1 t) ∧ (q = true ↔ dx l 2 t) ∧ je s t l = (if p then s 14 else 0) + (if q then s 15 else 0)
 | [], _, _ => ⟨false, false, ⟨fun h => (nomatch h), fun ⟨_, h, _⟩ => (nomatch h)⟩, ⟨fun h => (nomatch h), fun ⟨_, h, _⟩ => (nomatch h)⟩, rfl⟩
 | x :: l, hc, hk => by
  obtain ⟨p, q, hp, hq, h⟩ := uA (s := s) (t := t) hc.tail fun y hy => hk y (List.mem_cons_of_mem _ hy)
  have hx := hk x List.mem_cons_self
  rw [show je s t (x :: l) = qH s t x + je s t l from rfl, h]
  by_cases hh : x.a ≤ t ∧ t < x.b
  ·rw [show qH s t x = ru s x from if_pos (by simp [s9, hh])]
   have hn : ¬ dx l x.k t := fun g => ((hc.cov_tail x.k t).1 g).2 ⟨rfl, hh.1, hh.2⟩
   rcases hx with hx | hx
   ·refine ⟨true, q, ⟨fun _ => ⟨x, List.mem_cons_self, hx, hh⟩, fun _ => rfl⟩, ?_, ?_⟩
    ·rw [hq]
     constructor
     ·rintro ⟨y, hy, g⟩; exact ⟨y, List.mem_cons_of_mem _ hy, g⟩
     ·rintro ⟨y, hy, g⟩
      rcases List.mem_cons.1 hy with rfl | hy
      ·omega
      ·exact ⟨y, hy, g⟩
    ·have : p = false := by
      cases p with
      | false => rfl
      | true => rw [hx] at hn; exact absurd (hp.1 rfl) hn
     rw [this, show ru s x = s 14 from if_pos hx]; simp
   ·refine ⟨p, true, ?_, ⟨fun _ => ⟨x, List.mem_cons_self, hx, hh⟩, fun _ => rfl⟩, ?_⟩
    ·rw [hp]
     constructor
     ·rintro ⟨y, hy, g⟩; exact ⟨y, List.mem_cons_of_mem _ hy, g⟩
     ·rintro ⟨y, hy, g⟩
      rcases List.mem_cons.1 hy with rfl | hy
      ·omega
      ·exact ⟨y, hy, g⟩
    ·have : q = false := by
      cases q with
      | false => rfl
      | true => rw [hx] at hn; exact absurd (hq.1 rfl) hn
     rw [this, show ru s x = s 15 from if_neg (by omega)]; simp; omega
  ·rw [show qH s t x = 0 from if_neg (by simpa [s9] using hh)]
   refine ⟨p, q, ?_, ?_, by omega⟩
   ·rw [hp]
    constructor
    ·rintro ⟨y, hy, g⟩; exact ⟨y, List.mem_cons_of_mem _ hy, g⟩
    ·rintro ⟨y, hy, g⟩
     rcases List.mem_cons.1 hy with rfl | hy
     ·exact absurd g.2 hh
     ·exact ⟨y, hy, g⟩
   ·rw [hq]
    constructor
    ·rintro ⟨y, hy, g⟩; exact ⟨y, List.mem_cons_of_mem _ hy, g⟩
    ·rintro ⟨y, hy, g⟩
     rcases List.mem_cons.1 hy with rfl | hy
     ·exact absurd g.2 hh
     ·exact ⟨y, hy, g⟩
theorem Fx {s : Nat → Int} (hf : Fed s) {t : Int} {l l' : List ao} (h : dJ l) (hk : ∀ x ∈ l, x.k = 1 ∨ x.k = 2) (h' : dJ l') (hk' : ∀ x ∈ l', x.k = 1 ∨ x.k = 2) (hc : ∀ k, dx l' k t → dx l k t) : je s t l' ≤ je s t l := by
 obtain ⟨p, q, hp, hq, e⟩ := uA (s := s) (t := t) h hk
 obtain ⟨p', q', hp', hq', e'⟩ := uA (s := s) (t := t) h' hk'
 have h1 := hf.h
 have h2 := hf.d
 have g1 : p' = true → p = true := fun g => hp.2 (hc 1 (hp'.1 g))
 have g2 : q' = true → q = true := fun g => hq.2 (hc 2 (hq'.1 g))
 rw [e, e']
 cases p' <;> cases q' <;> cases p <;> cases q <;> simp at g1 g2 ⊢ <;> omega
theorem c6.kinds {l : List Opt} (h : c6 l) : ∀ x ∈ aq l, x.k = 1 ∨ x.k = 2 := fun x hx => by
 obtain ⟨h1, h2⟩ := h.can
 exact (rz h1 h2 h.raw x hx).1
theorem Aw {s : Nat → Int} (hf : Fed s) {l : List ao} (hl : l.length ≤ 80) {a b : Int} (ha : 0 ≤ a ∧ a ≤ 1000000) (hab : b - a ≤ 3000) :
  (oQ s l a b = -1 ∧ ∀ i, i < (b - a).toNat → 0 ≤ hU (s 11) (fun i => jL s l (a + (i : Int))) (i + 1)) ∨ (0 ≤ oQ s l a b ∧ ∃ i, i < (b - a).toNat ∧ hU (s 11) (fun i => jL s l (a + (i : Int))) (i + 1) < 0) := by
 have hnb : ∀ i : Nat, -1000000 ≤ jL s l (a + (i : Int)) ∧ jL s l (a + (i : Int)) ≤ 1000000 := fun i => by
  obtain ⟨e, h1, h2⟩ := qK hf (a + (i : Int)) l (sq (gn s) (a + (i : Int))) hl
  unfold jL
  omega
 have hc := hf.c
 have hlev : (cU (s 11) (d9 s l a b)).2 = (List.range (b - a).toNat).map fun i => hU (s 11) (fun i => jL s l (a + (i : Int))) (i + 1) := by
  rw [show d9 s l a b = fG a (fun i : Nat => jL s l (a + (i : Int))) (b - a).toNat from rfl, xT (by omega) hnb a _ (by omega)]
 unfold oQ
 rw [hlev]
 rcases vP (fun n : Int => decide (n < 0)) ((List.range (b - a).toNat).map fun i => hU (s 11) (fun i => jL s l (a + (i : Int))) (i + 1)) 0 with ⟨h1, h2⟩ | ⟨h1, h2, y, h3, h4⟩
 ·left
  simp only [h1]
  refine ⟨rfl, fun i hi => ?_⟩
  have := of_decide_eq_false (h2 _ (List.mem_map.2 ⟨i, List.mem_range.2 hi, rfl⟩))
  omega
 ·right
  simp only
  simp only [List.length_map, List.length_range] at h2
  rw [if_pos (by omega), am (by omega) (by omega)]
  refine ⟨by omega, ?_⟩
  obtain ⟨i, hi, rfl⟩ := List.mem_map.1 h3
  exact ⟨i, List.mem_range.1 hi, of_decide_eq_true h4⟩
theorem iU {l : List Opt} (h : c6 l) : (aq l).length ≤ 56 := by rw [h.loads]; exact Nat.le_trans (ry _) h.len
theorem Fg {s s' : Nat → Int} (hf : Fed s) (hf' : Fed s') (h12 : s' 12 = s 12) (h13 : s' 13 = s 13) (ho : ∀ t, sq (gn s') t = sq (gn s) t) {l l' : List ao} (hl : l.length ≤ 80) (hl' : l'.length ≤ 80) {t : Int} (ha : je s' t l' ≤ je s t l) : jL s' l' t ≤ jL s l t := by
 unfold jL
 rw [(qK hf t l _ hl).1, (qK hf' t l' _ hl').1, ho]
 unfold zW
 rw [h12, h13]
 omega
end Go.Proofs
namespace Go.Proofs
open Go Go.AI
set_option maxRecDepth 10000
theorem rV (o : Opt) (k : Nat) (hl : o.sl.length ≤ 1000000) (hc : lu o = true) (hk : k < o.sl.length) : ae Tryz.prog 36 [.agg (aG o), .int .i64 k] (.tup [.agg (gw ⟨o.id, o.size, o.a, (o.sl.getD k ⟨0, 0, 0⟩).b⟩), .int .i64 0]) := by
 have k100 := AN o hl
 rw [hc] at k100
 have hx := fL hk
 have hw : IntKind.i64.wrap (((o.sl.map aC).length : Int) - 1) = (o.sl.length : Int) - 1 := by rw [List.length_map]; exact am (by omega) (by omega)
 have k101 := tA (k : Int) 0 (IntKind.i64.wrap (((o.sl.map aC).length : Int) - 1))
 rw [eQ (show 0 ≤ (k : Int) ∧ (k : Int) ≤ IntKind.i64.wrap (((o.sl.map aC).length : Int) - 1) by rw [hw]; omega)] at k101
 refine ag aa Tryz.func36 rfl (by kernel_rfl) af (Nat.le_of_ble_eq_true rfl) ?_
 intro F n' w0 m0 hG hro h1
 repeat' first|refine Q1 ?_|refine Q2 ?_|refine Q3 hG aa p8 ?_|refine Q4 hG aa p8 ?_|refine Q5 hG aa ?_|refine Q6 hG aa ?_|refine Q7 hG aa ?_|refine Q8 hG aa ?_|refine Q9 rfl ?_|refine QF rfl ?_|refine QC rfl ⟨fun h => ?_,fun h => ?_⟩|((conv => whnf); first|refine anF ?_|refine anT ?_|refine anK ?_|refine Exists.intro _ (And.intro (k100) ?_)|refine Exists.intro _ (And.intro (k101) ?_)|refine And.intro (Int.natCast_nonneg k) (Exists.intro _ (And.intro hx ?_))|refine And.intro (fun h => ?_) (fun h => ?_)|refine Or.inl ?_)
 all_goals exact Ends.mk (Or.inl rfl) (ac rfl)
theorem Ey {o : Opt} (h : lu o = true) : 1 ≤ o.sl.length ∧ o.sl.length ≤ 6 := by
 simp only [lu, inS, Bool.and_eq_true, decide_eq_true_eq] at h
 omega
theorem rH (o : Opt) (hl : o.sl.length ≤ 1000000) (hc : lu o = true) : ae Tryz.prog 35 [.agg (aG o)] (.tup [.agg (gw ⟨o.id, o.size, o.a, dY o⟩), .int .i64 0]) := by
 have hn := Ey hc
 have k48 := rV o (o.sl.length - 1) hl hc (by omega)
 rw [show ((o.sl.length - 1 : Nat) : Int) = IntKind.i64.wrap (((o.sl.map aC).length : Int) - 1) by rw [List.length_map]; exact ((am (by omega) (by omega)).trans (by omega)).symm] at k48
 refine ag aa Tryz.func35 rfl (by kernel_rfl) af (Nat.le_of_ble_eq_true rfl) ?_
 intro F n' w0 m0 hG hro h1
 repeat' first|refine Q1 ?_|refine Q2 ?_|refine Q3 hG aa p9 ?_|refine Q4 hG aa p9 ?_|refine Q5 hG aa ?_|refine Q6 hG aa ?_|refine Q7 hG aa ?_|refine Q8 hG aa ?_|refine Q9 rfl ?_|refine QF rfl ?_|refine QC rfl ⟨fun h => ?_,fun h => ?_⟩|((conv => whnf); first|refine anF ?_|refine anT ?_|refine anK ?_|refine Exists.intro _ (And.intro (k48) ?_)|refine And.intro (fun h => ?_) (fun h => ?_)|refine Or.inl ?_)
 all_goals exact Ends.mk (Or.inl rfl) (ac rfl)
structure aj where
 sat : Int
 st : Int
 sa : Int
 sb : Int
 ca : Int
 cb : Int
deriving DecidableEq
def aM (p : aj) : List AV := [.int .i64 p.sat, .int .i64 p.st, .int .i64 p.sa, .int .i64 p.sb, .int .i64 p.ca, .int .i64 p.cb]
def au (l : List aj) : AV := .sl .no 6 (l.map aM)
def jJ : aj := ⟨0, 0, 0, 0, 0, 0⟩
def aF (l : List aj) (i : Nat) : aj := l.getD i jJ
def ck (p : aj) : Bool := (inS p.sat 0 23 && (inS p.st 0 11 && true)) && ((decide (0 ≤ p.ca) && decide (p.ca < p.cb) && decide (p.cb ≤ 1000001)) && ((p.sa == 0 && (p.sb == 0 && true)) || (decide (p.ca ≤ p.sa) && decide (p.sa < p.sb) && decide (p.sb ≤ p.cb))))
set_option maxHeartbeats 4000000 in
theorem wJ (p : aj) : ae Tryz.prog 158 [.agg (aM p)] (.bool (ck p)) := by
 have k114 := (oi [⟨p.sat, 0, 23⟩, ⟨p.st, 0, 11⟩] (Nat.le_of_ble_eq_true rfl)).sl0 (o := .full)
 refine ag aa Tryz.func158 rfl (by kernel_rfl) af (Nat.le_of_ble_eq_true rfl) ?_
 intro F n' w0 m0 hG hro h1
 repeat' first|refine Q1 ?_|refine Q2 ?_|refine Q3 hG aa nJ ?_|refine Q4 hG aa nJ ?_|refine Q5 hG aa ?_|refine Q6 hG aa ?_|refine Q7 hG aa ?_|refine Q8 hG aa ?_|refine Q9 rfl ?_|refine QF rfl ?_|refine QC rfl ⟨fun h => ?_,fun h => ?_⟩|((conv => whnf); first|refine anF ?_|refine anT ?_|refine anK ?_|refine Exists.intro _ (And.intro (k114) ?_)|refine And.intro (fun h => ?_) (fun h => ?_)|refine Or.inl ?_)
 all_goals refine Ends.mk (Or.inl rfl) (ac (congrArg AV.bool ?_))
 all_goals (unfold ck; (try simp only [List.all_cons, List.all_nil, Bool.and_true] at *); simp only [*, Bool.true_and, Bool.and_true, Bool.false_and, Bool.and_false, Bool.true_or, Bool.false_or])
theorem uG (p : aj) : ae Tryz.prog 157 [.agg (aM p)] (.bool (!ck p)) := by
 refine ag aa Tryz.func157 rfl (by kernel_rfl) af (Nat.le_of_ble_eq_true rfl) ?_
 intro F n' w0 m0 hG hro h1
 repeat' first|refine Q1 ?_|refine Q2 ?_|refine Q3 hG aa nK ?_|refine Q4 hG aa nK ?_|refine Q5 hG aa ?_|refine Q6 hG aa ?_|refine Q7 hG aa ?_|refine Q8 hG aa ?_|refine Q9 rfl ?_|refine QF rfl ?_|refine QC rfl ⟨fun h => ?_,fun h => ?_⟩|((conv => whnf); first|refine anF ?_|refine anT ?_|refine anK ?_|refine Exists.intro _ (And.intro (wJ p) ?_)|refine And.intro (fun h => ?_) (fun h => ?_)|refine Or.inl ?_)
 all_goals exact Ends.mk (Or.inl rfl) (ac rfl)
def qf (p q : aj) : Int := orS [d7 p.ca q.ca, d7 p.sat q.sat, d7 p.st q.st, d7 p.sa q.sa, d7 p.cb q.cb]
theorem oX (p q : aj) : ae Tryz.prog 160 [.agg (aM p), .agg (aM q)] (.int .i64 (qf p q)) := by
 refine ag aa Tryz.func160 rfl (by kernel_rfl) af (Nat.le_of_ble_eq_true rfl) ?_
 intro F n' w0 m0 hG hro h1
 repeat' first|refine Q1 ?_|refine Q2 ?_|refine Q3 hG aa nI ?_|refine Q4 hG aa nI ?_|refine Q5 hG aa ?_|refine Q6 hG aa ?_|refine Q7 hG aa ?_|refine Q8 hG aa ?_|refine Q9 rfl ?_|refine QF rfl ?_|refine QC rfl ⟨fun h => ?_,fun h => ?_⟩|((conv => whnf); first|refine anF ?_|refine anT ?_|refine anK ?_|refine Exists.intro _ (And.intro (jZ _ _) ?_)|refine Exists.intro _ (And.intro (rZ [d7 p.ca q.ca, d7 p.sat q.sat, d7 p.st q.st, d7 p.sa q.sa, d7 p.cb q.cb] (Nat.le_of_ble_eq_true rfl)) ?_)|refine And.intro (fun h => ?_) (fun h => ?_)|refine Or.inl ?_)
 all_goals exact Ends.mk (Or.inl rfl) (ac rfl)
theorem jX (l : List aj) (p : aj → Bool) (g : FuncId) (fv : AV) (cap : List AV) (hf : fv = .clo g cap ∨ (fv = .fn g ∧ cap = [])) (hl : l.length ≤ 1000000)
  (hp : ∀ x ∈ l, ae Tryz.prog g ((.agg (aM x)) :: cap) (.bool (p x))) : ae Tryz.prog 226 [.sl .no 6 (l.map aM), fv] (.int .i64 (bj p l 0)) := by
 rcases hf with rfl | ⟨rfl, rfl⟩
 ·refine ag aa Tryz.func226 rfl (by kernel_rfl) af (Nat.le_of_ble_eq_true rfl) ?_
  intro F n' w0 m0 hG hro h1
  repeat' first|refine Q1 ?_|refine Q2 ?_|refine Q3 hG aa cw ?_|refine Q4 hG aa cw ?_|refine Q5 hG aa ?_|refine Q6 hG aa ?_|refine Q7 hG aa ?_|refine Q8 hG aa ?_|refine Q9 rfl ?_|refine QF rfl ?_|refine QC rfl ⟨fun h => ?_,fun h => ?_⟩|((conv => whnf); first|refine anF ?_|refine anT ?_|refine anK ?_|refine And.intro (fun h => ?_) (fun h => ?_)|refine Or.inl ?_)
  refine aw (X := Nat) (fun j => ⟨[(8, .int .i64 j), (7, .int .i64 (l.map aM).length), (0, .sl .no 6 (l.map aM)), (1, .clo g cap)], []⟩) (fun j => j ≤ l.length ∧ bj p (l.drop j) j = bj p l 0) (fun j => l.length - j) 0
   ⟨Nat.zero_le _, by simp⟩ (ah ?_ trivial) (fun j hj => ?_)
  ·repeat' (first | exact trivial | refine And.intro rfl ?_)
  ·obtain ⟨hj, hi⟩ := hj
   have hj2 : decide ((j : Int) < ((l.map aM).length : Int)) = true → j < l.length := fun h => by have := of_decide_eq_true h; simp at this; omega
   have hx : decide ((j : Int) < ((l.map aM).length : Int)) = true → (l.map aM)[(j : Int).toNat]? = some (aM (l.getD j jJ)) := fun h => by have := hj2 h; simp [List.getElem?_eq_getElem this]
   have hc : decide ((j : Int) < ((l.map aM).length : Int)) = true → ae Tryz.prog g ((.agg (aM (l.getD j jJ))) :: cap) (.bool (p (l.getD j jJ))) := fun h => hp _ (by have := hj2 h; rw [List.getD_eq_getElem?_getD, List.getElem?_eq_getElem this]; exact List.getElem_mem this)
   repeat' first|refine Q1 ?_|refine Q2 ?_|refine Q3 hG aa cw ?_|refine Q4 hG aa cw ?_|refine Q5 hG aa ?_|refine Q6 hG aa ?_|refine Q7 hG aa ?_|refine Q8 hG aa ?_|refine Q9 rfl ?_|refine QF rfl ?_|refine QC rfl ⟨fun h => ?_,fun h => ?_⟩|((conv => whnf); first|refine anF ?_|refine anT ?_|refine anK ?_|refine And.intro (Int.natCast_nonneg j) (Exists.intro _ (And.intro (hx (by assumption)) ?_))|refine Exists.intro _ (And.intro (hc (by assumption)) ?_)|refine And.intro (fun h => ?_) (fun h => ?_)|refine Or.inl ?_)
   ·rw [aL (d := jJ) (hj2 (by assumption)), if_pos (by assumption)] at hi
    exact Ends.mk (Or.inl rfl) (ac (congrArg (AV.int .i64) hi))
   ·have hj2 := hj2 (by assumption)
    rw [aL (d := jJ) hj2, if_neg (fun h => tf h (by assumption))] at hi
    refine Exists.intro (j + 1) (And.intro ⟨hj2, hi⟩ (And.intro (by omega) (ah ?_ trivial)))
    refine And.intro (congrArg (fun z => some (AV.int .i64 z)) ((am (by omega) (by omega)).trans (by omega))) ?_
    repeat' (first | exact trivial | refine And.intro rfl ?_)
   ·have hj2 : l.length ≤ j := by have := of_decide_eq_false (by assumption : decide ((j : Int) < ((l.map aM).length : Int)) = false); simp at this; omega
    rw [List.drop_of_length_le hj2] at hi
    exact Ends.mk (Or.inl rfl) (ac (congrArg (AV.int .i64) hi))
 ·refine ag aa Tryz.func226 rfl (by kernel_rfl) af (Nat.le_of_ble_eq_true rfl) ?_
  intro F n' w0 m0 hG hro h1
  repeat' first|refine Q1 ?_|refine Q2 ?_|refine Q3 hG aa cw ?_|refine Q4 hG aa cw ?_|refine Q5 hG aa ?_|refine Q6 hG aa ?_|refine Q7 hG aa ?_|refine Q8 hG aa ?_|refine Q9 rfl ?_|refine QF rfl ?_|refine QC rfl ⟨fun h => ?_,fun h => ?_⟩|((conv => whnf); first|refine anF ?_|refine anT ?_|refine anK ?_|refine And.intro (fun h => ?_) (fun h => ?_)|refine Or.inl ?_)
  refine aw (X := Nat) (fun j => ⟨[(8, .int .i64 j), (7, .int .i64 (l.map aM).length), (0, .sl .no 6 (l.map aM)), (1, .fn g)], []⟩) (fun j => j ≤ l.length ∧ bj p (l.drop j) j = bj p l 0) (fun j => l.length - j) 0
   ⟨Nat.zero_le _, by simp⟩ (ah ?_ trivial) (fun j hj => ?_)
  ·repeat' (first | exact trivial | refine And.intro rfl ?_)
  ·obtain ⟨hj, hi⟩ := hj
   have hj2 : decide ((j : Int) < ((l.map aM).length : Int)) = true → j < l.length := fun h => by have := of_decide_eq_true h; simp at this; omega
   have hx : decide ((j : Int) < ((l.map aM).length : Int)) = true → (l.map aM)[(j : Int).toNat]? = some (aM (l.getD j jJ)) := fun h => by have := hj2 h; simp [List.getElem?_eq_getElem this]
   have hc : decide ((j : Int) < ((l.map aM).length : Int)) = true → ae Tryz.prog g ((.agg (aM (l.getD j jJ))) :: []) (.bool (p (l.getD j jJ))) := fun h => hp _ (by have := hj2 h; rw [List.getD_eq_getElem?_getD, List.getElem?_eq_getElem this]; exact List.getElem_mem this)
   repeat' first|refine Q1 ?_|refine Q2 ?_|refine Q3 hG aa cw ?_|refine Q4 hG aa cw ?_|refine Q5 hG aa ?_|refine Q6 hG aa ?_|refine Q7 hG aa ?_|refine Q8 hG aa ?_|refine Q9 rfl ?_|refine QF rfl ?_|refine QC rfl ⟨fun h => ?_,fun h => ?_⟩|((conv => whnf); first|refine anF ?_|refine anT ?_|refine anK ?_|refine And.intro (Int.natCast_nonneg j) (Exists.intro _ (And.intro (hx (by assumption)) ?_))|refine Exists.intro _ (And.intro (hc (by assumption)) ?_)|refine And.intro (fun h => ?_) (fun h => ?_)|refine Or.inl ?_)
   ·rw [aL (d := jJ) (hj2 (by assumption)), if_pos (by assumption)] at hi
    exact Ends.mk (Or.inl rfl) (ac (congrArg (AV.int .i64) hi))
   ·have hj2 := hj2 (by assumption)
    rw [aL (d := jJ) hj2, if_neg (fun h => tf h (by assumption))] at hi
    refine Exists.intro (j + 1) (And.intro ⟨hj2, hi⟩ (And.intro (by omega) (ah ?_ trivial)))
    refine And.intro (congrArg (fun z => some (AV.int .i64 z)) ((am (by omega) (by omega)).trans (by omega))) ?_
    repeat' (first | exact trivial | refine And.intro rfl ?_)
   ·have hj2 : l.length ≤ j := by have := of_decide_eq_false (by assumption : decide ((j : Int) < ((l.map aM).length : Int)) = false); simp at this; omega
    rw [List.drop_of_length_le hj2] at hi
    exact Ends.mk (Or.inl rfl) (ac (congrArg (AV.int .i64) hi))
theorem oe (l : List aj) (p : aj → Bool) (g : FuncId) (fv : AV) (cap : List AV) (hf : fv = .clo g cap ∨ (fv = .fn g ∧ cap = [])) (hl : l.length ≤ 1000000)
  (hp : ∀ x ∈ l, ae Tryz.prog g ((.agg (aM x)) :: cap) (.bool (p x))) : ae Tryz.prog 156 [.sl .no 6 (l.map aM), fv] (.bool (l.any p)) := by
 rcases hf with rfl | ⟨rfl, rfl⟩
 ·refine ag aa Tryz.func156 rfl (by kernel_rfl) af (Nat.le_of_ble_eq_true rfl) ?_
  intro F n' w0 m0 hG hro h1
  repeat' first|refine Q1 ?_|refine Q2 ?_|refine Q3 hG aa fZ ?_|refine Q4 hG aa fZ ?_|refine Q5 hG aa ?_|refine Q6 hG aa ?_|refine Q7 hG aa ?_|refine Q8 hG aa ?_|refine Q9 rfl ?_|refine QF rfl ?_|refine QC rfl ⟨fun h => ?_,fun h => ?_⟩|((conv => whnf); first|refine anF ?_|refine anT ?_|refine anK ?_|refine Exists.intro _ (And.intro (jX l p g _ _ (Or.inl rfl) hl hp) ?_)|refine And.intro (fun h => ?_) (fun h => ?_)|refine Or.inl ?_)
  all_goals exact Ends.mk (Or.inl rfl) (ac (congrArg AV.bool (dw p l 0)))
 ·refine ag aa Tryz.func156 rfl (by kernel_rfl) af (Nat.le_of_ble_eq_true rfl) ?_
  intro F n' w0 m0 hG hro h1
  repeat' first|refine Q1 ?_|refine Q2 ?_|refine Q3 hG aa fZ ?_|refine Q4 hG aa fZ ?_|refine Q5 hG aa ?_|refine Q6 hG aa ?_|refine Q7 hG aa ?_|refine Q8 hG aa ?_|refine Q9 rfl ?_|refine QF rfl ?_|refine QC rfl ⟨fun h => ?_,fun h => ?_⟩|((conv => whnf); first|refine anF ?_|refine anT ?_|refine anK ?_|refine Exists.intro _ (And.intro (jX l p g _ _ (Or.inr ⟨rfl, rfl⟩) hl hp) ?_)|refine And.intro (fun h => ?_) (fun h => ?_)|refine Or.inl ?_)
  all_goals exact Ends.mk (Or.inl rfl) (ac (congrArg AV.bool (dw p l 0)))
theorem kL (l : List Opt) (p : Opt → Bool) (g : FuncId) (fv : AV) (cap : List AV) (hf : fv = .clo g cap ∨ (fv = .fn g ∧ cap = [])) (hl : l.length ≤ 1000000)
  (hp : ∀ x ∈ l, ae Tryz.prog g ((.agg (aG x)) :: cap) (.bool (p x))) : ae Tryz.prog 162 [.sl .no 9 (l.map aG), fv] (.int .i64 (bj p l 0)) := by
 rcases hf with rfl | ⟨rfl, rfl⟩
 ·refine ag aa Tryz.func162 rfl (by kernel_rfl) af (Nat.le_of_ble_eq_true rfl) ?_
  intro F n' w0 m0 hG hro h1
  repeat' first|refine Q1 ?_|refine Q2 ?_|refine Q3 hG aa cK ?_|refine Q4 hG aa cK ?_|refine Q5 hG aa ?_|refine Q6 hG aa ?_|refine Q7 hG aa ?_|refine Q8 hG aa ?_|refine Q9 rfl ?_|refine QF rfl ?_|refine QC rfl ⟨fun h => ?_,fun h => ?_⟩|((conv => whnf); first|refine anF ?_|refine anT ?_|refine anK ?_|refine And.intro (fun h => ?_) (fun h => ?_)|refine Or.inl ?_)
  refine aw (X := Nat) (fun j => ⟨[(8, .int .i64 j), (7, .int .i64 (l.map aG).length), (0, .sl .no 9 (l.map aG)), (1, .clo g cap)], []⟩) (fun j => j ≤ l.length ∧ bj p (l.drop j) j = bj p l 0) (fun j => l.length - j) 0
   ⟨Nat.zero_le _, by simp⟩ (ah ?_ trivial) (fun j hj => ?_)
  ·repeat' (first | exact trivial | refine And.intro rfl ?_)
  ·obtain ⟨hj, hi⟩ := hj
   have hj2 : decide ((j : Int) < ((l.map aG).length : Int)) = true → j < l.length := fun h => by have := of_decide_eq_true h; simp at this; omega
   have hx : decide ((j : Int) < ((l.map aG).length : Int)) = true → (l.map aG)[(j : Int).toNat]? = some (aG (l.getD j qG)) := fun h => by have := hj2 h; simp [List.getElem?_eq_getElem this]
   have hc : decide ((j : Int) < ((l.map aG).length : Int)) = true → ae Tryz.prog g ((.agg (aG (l.getD j qG))) :: cap) (.bool (p (l.getD j qG))) := fun h => hp _ (by have := hj2 h; rw [List.getD_eq_getElem?_getD, List.getElem?_eq_getElem this]; exact List.getElem_mem this)
   repeat' first|refine Q1 ?_|refine Q2 ?_|refine Q3 hG aa cK ?_|refine Q4 hG aa cK ?_|refine Q5 hG aa ?_|refine Q6 hG aa ?_|refine Q7 hG aa ?_|refine Q8 hG aa ?_|refine Q9 rfl ?_|refine QF rfl ?_|refine QC rfl ⟨fun h => ?_,fun h => ?_⟩|((conv => whnf); first|refine anF ?_|refine anT ?_|refine anK ?_|refine And.intro (Int.natCast_nonneg j) (Exists.intro _ (And.intro (hx (by assumption)) ?_))|refine Exists.intro _ (And.intro (hc (by assumption)) ?_)|refine And.intro (fun h => ?_) (fun h => ?_)|refine Or.inl ?_)
   ·rw [aL (d := qG) (hj2 (by assumption)), if_pos (by assumption)] at hi
    exact Ends.mk (Or.inl rfl) (ac (congrArg (AV.int .i64) hi))
   ·have hj2 := hj2 (by assumption)
    rw [aL (d := qG) hj2, if_neg (fun h => tf h (by assumption))] at hi
    refine Exists.intro (j + 1) (And.intro ⟨hj2, hi⟩ (And.intro (by omega) (ah ?_ trivial)))
    refine And.intro (congrArg (fun z => some (AV.int .i64 z)) ((am (by omega) (by omega)).trans (by omega))) ?_
    repeat' (first | exact trivial | refine And.intro rfl ?_)
   ·have hj2 : l.length ≤ j := by have := of_decide_eq_false (by assumption : decide ((j : Int) < ((l.map aG).length : Int)) = false); simp at this; omega
    rw [List.drop_of_length_le hj2] at hi
    exact Ends.mk (Or.inl rfl) (ac (congrArg (AV.int .i64) hi))
 ·refine ag aa Tryz.func162 rfl (by kernel_rfl) af (Nat.le_of_ble_eq_true rfl) ?_
  intro F n' w0 m0 hG hro h1
  repeat' first|refine Q1 ?_|refine Q2 ?_|refine Q3 hG aa cK ?_|refine Q4 hG aa cK ?_|refine Q5 hG aa ?_|refine Q6 hG aa ?_|refine Q7 hG aa ?_|refine Q8 hG aa ?_|refine Q9 rfl ?_|refine QF rfl ?_|refine QC rfl ⟨fun h => ?_,fun h => ?_⟩|((conv => whnf); first|refine anF ?_|refine anT ?_|refine anK ?_|refine And.intro (fun h => ?_) (fun h => ?_)|refine Or.inl ?_)
  refine aw (X := Nat) (fun j => ⟨[(8, .int .i64 j), (7, .int .i64 (l.map aG).length), (0, .sl .no 9 (l.map aG)), (1, .fn g)], []⟩) (fun j => j ≤ l.length ∧ bj p (l.drop j) j = bj p l 0) (fun j => l.length - j) 0
   ⟨Nat.zero_le _, by simp⟩ (ah ?_ trivial) (fun j hj => ?_)
  ·repeat' (first | exact trivial | refine And.intro rfl ?_)
  ·obtain ⟨hj, hi⟩ := hj
   have hj2 : decide ((j : Int) < ((l.map aG).length : Int)) = true → j < l.length := fun h => by have := of_decide_eq_true h; simp at this; omega
   have hx : decide ((j : Int) < ((l.map aG).length : Int)) = true → (l.map aG)[(j : Int).toNat]? = some (aG (l.getD j qG)) := fun h => by have := hj2 h; simp [List.getElem?_eq_getElem this]
   have hc : decide ((j : Int) < ((l.map aG).length : Int)) = true → ae Tryz.prog g ((.agg (aG (l.getD j qG))) :: []) (.bool (p (l.getD j qG))) := fun h => hp _ (by have := hj2 h; rw [List.getD_eq_getElem?_getD, List.getElem?_eq_getElem this]; exact List.getElem_mem this)
   repeat' first|refine Q1 ?_|refine Q2 ?_|refine Q3 hG aa cK ?_|refine Q4 hG aa cK ?_|refine Q5 hG aa ?_|refine Q6 hG aa ?_|refine Q7 hG aa ?_|refine Q8 hG aa ?_|refine Q9 rfl ?_|refine QF rfl ?_|refine QC rfl ⟨fun h => ?_,fun h => ?_⟩|((conv => whnf); first|refine anF ?_|refine anT ?_|refine anK ?_|refine And.intro (Int.natCast_nonneg j) (Exists.intro _ (And.intro (hx (by assumption)) ?_))|refine Exists.intro _ (And.intro (hc (by assumption)) ?_)|refine And.intro (fun h => ?_) (fun h => ?_)|refine Or.inl ?_)
   ·rw [aL (d := qG) (hj2 (by assumption)), if_pos (by assumption)] at hi
    exact Ends.mk (Or.inl rfl) (ac (congrArg (AV.int .i64) hi))
   ·have hj2 := hj2 (by assumption)
    rw [aL (d := qG) hj2, if_neg (fun h => tf h (by assumption))] at hi
    refine Exists.intro (j + 1) (And.intro ⟨hj2, hi⟩ (And.intro (by omega) (ah ?_ trivial)))
    refine And.intro (congrArg (fun z => some (AV.int .i64 z)) ((am (by omega) (by omega)).trans (by omega))) ?_
    repeat' (first | exact trivial | refine And.intro rfl ?_)
   ·have hj2 : l.length ≤ j := by have := of_decide_eq_false (by assumption : decide ((j : Int) < ((l.map aG).length : Int)) = false); simp at this; omega
    rw [List.drop_of_length_le hj2] at hi
    exact Ends.mk (Or.inl rfl) (ac (congrArg (AV.int .i64) hi))
theorem iB (l : List Opt) (p : Opt → Bool) (g : FuncId) (fv : AV) (cap : List AV) (hf : fv = .clo g cap ∨ (fv = .fn g ∧ cap = [])) (hl : l.length ≤ 1000000)
  (hp : ∀ x ∈ l, ae Tryz.prog g ((.agg (aG x)) :: cap) (.bool (p x))) : ae Tryz.prog 88 [.sl .no 9 (l.map aG), fv] (.bool (l.any p)) := by
 rcases hf with rfl | ⟨rfl, rfl⟩
 ·refine ag aa Tryz.func88 rfl (by kernel_rfl) af (Nat.le_of_ble_eq_true rfl) ?_
  intro F n' w0 m0 hG hro h1
  repeat' first|refine Q1 ?_|refine Q2 ?_|refine Q3 hG aa gV ?_|refine Q4 hG aa gV ?_|refine Q5 hG aa ?_|refine Q6 hG aa ?_|refine Q7 hG aa ?_|refine Q8 hG aa ?_|refine Q9 rfl ?_|refine QF rfl ?_|refine QC rfl ⟨fun h => ?_,fun h => ?_⟩|((conv => whnf); first|refine anF ?_|refine anT ?_|refine anK ?_|refine Exists.intro _ (And.intro (kL l p g _ _ (Or.inl rfl) hl hp) ?_)|refine And.intro (fun h => ?_) (fun h => ?_)|refine Or.inl ?_)
  all_goals exact Ends.mk (Or.inl rfl) (ac (congrArg AV.bool (dw p l 0)))
 ·refine ag aa Tryz.func88 rfl (by kernel_rfl) af (Nat.le_of_ble_eq_true rfl) ?_
  intro F n' w0 m0 hG hro h1
  repeat' first|refine Q1 ?_|refine Q2 ?_|refine Q3 hG aa gV ?_|refine Q4 hG aa gV ?_|refine Q5 hG aa ?_|refine Q6 hG aa ?_|refine Q7 hG aa ?_|refine Q8 hG aa ?_|refine Q9 rfl ?_|refine QF rfl ?_|refine QC rfl ⟨fun h => ?_,fun h => ?_⟩|((conv => whnf); first|refine anF ?_|refine anT ?_|refine anK ?_|refine Exists.intro _ (And.intro (kL l p g _ _ (Or.inr ⟨rfl, rfl⟩) hl hp) ?_)|refine And.intro (fun h => ?_) (fun h => ?_)|refine Or.inl ?_)
  all_goals exact Ends.mk (Or.inl rfl) (ac (congrArg AV.bool (dw p l 0)))
def BK (l : List aj) : Bool := (List.range (l.length - 1)).all fun i => !decide (qf (aF l (i + 1)) (aF l i) < 0)
theorem ek {l : List aj} {i : Nat} (h : i < l.length) : (l.map aM)[i]? = some (aM (aF l i)) := by simp [aF, List.getElem?_eq_getElem h]
set_option maxHeartbeats 4000000 in
theorem sA (l : List aj) (hl : l.length ≤ 1000000) : ae Tryz.prog 159 [au l, .fn 160] (.bool (BK l)) := by
 refine ag aa Tryz.func159 rfl (by kernel_rfl) af (Nat.le_of_ble_eq_true rfl) ?_
 intro F n' w0 m0 hG hro h1
 repeat' first|refine Q1 ?_|refine Q2 ?_|refine Q3 hG aa dV ?_|refine Q4 hG aa dV ?_|refine Q5 hG aa ?_|refine Q6 hG aa ?_|refine Q7 hG aa ?_|refine Q8 hG aa ?_|refine Q9 rfl ?_|refine QF rfl ?_|refine QC rfl ⟨fun h => ?_,fun h => ?_⟩|((conv => whnf); first|refine anF ?_|refine anT ?_|refine anK ?_|refine And.intro (fun h => ?_) (fun h => ?_)|refine Or.inl ?_)
 refine aw (X := Int) (fun i => ⟨[(5, .int .i64 i), (0, au l), (1, .fn 160)], []⟩)
  (fun i => -1 ≤ i ∧ i ≤ (l.length : Int) - 1 ∧ ∀ j : Nat, i ≤ (j : Int) → (j : Int) < (l.length : Int) - 1 → decide (qf (aF l (j + 1)) (aF l j) < 0) = false) (fun i => (i + 1).toNat) (IntKind.i64.wrap (((l.map aM).length : Int) - 1)) ?_ (ah ?_ ?_) (fun i hi => ?_)
 ·rw [show IntKind.i64.wrap (((l.map aM).length : Int) - 1) = (l.length : Int) - 1 by rw [List.length_map]; exact am (by omega) (by omega)]
  exact ⟨by omega, by omega, fun j h1 h2 => by omega⟩
 ·repeat' (first | exact trivial | refine And.intro rfl ?_)
 ·repeat' (first | exact trivial | refine And.intro rfl ?_)
 ·obtain ⟨h1, h2, h3⟩ := hi
  by_cases hp : i > 0
  ·obtain ⟨j, rfl⟩ : ∃ j : Nat, i = ((j + 1 : Nat) : Int) := ⟨(i - 1).toNat, by omega⟩
   have hw : IntKind.i64.wrap (((j + 1 : Nat) : Int) - 1) = (j : Int) := (am (by omega) (by omega)).trans (by omega)
   have hx := ek (l := l) (i := j + 1) (by omega)
   have hy := ek (l := l) (i := j) (by omega)
   have hy' : (l.map aM)[(IntKind.i64.wrap (((j + 1 : Nat) : Int) - 1)).toNat]? = some (aM (aF l j)) := by rw [hw]; exact hy
   have h0 : 0 ≤ IntKind.i64.wrap (((j + 1 : Nat) : Int) - 1) := by rw [hw]; exact Int.natCast_nonneg j
   have bb : decide (((j + 1 : Nat) : Int) > 0) = false → False := fun h => by have := of_decide_eq_false h; omega
   repeat' first|exact (bb (by assumption)).elim|refine Q1 ?_|refine Q2 ?_|refine Q3 hG aa dV ?_|refine Q4 hG aa dV ?_|refine Q5 hG aa ?_|refine Q6 hG aa ?_|refine Q7 hG aa ?_|refine Q8 hG aa ?_|refine Q9 rfl ?_|refine QF rfl ?_|refine QC rfl ⟨fun h => ?_,fun h => ?_⟩|((conv => whnf); first|refine anF ?_|refine anT ?_|refine anK ?_|refine And.intro (Int.natCast_nonneg (j + 1)) (Exists.intro _ (And.intro hx ?_))|refine And.intro h0 (Exists.intro _ (And.intro hy' ?_))|refine Exists.intro _ (And.intro (oX _ _) ?_)|refine And.intro (fun h => ?_) (fun h => ?_)|refine Or.inl ?_)
   ·refine Ends.mk (Or.inl rfl) (ac (congrArg AV.bool ?_))
    symm
    unfold BK
    rw [List.all_eq_false]
    exact ⟨j, List.mem_range.2 (by omega), by
     have hb := (by assumption : decide (qf (aF l (j + 1)) (aF l j) < 0) = true)
     rw [hb]; simp⟩
   ·refine Exists.intro (IntKind.i64.wrap (((j + 1 : Nat) : Int) - 1)) (And.intro ?_ (And.intro ?_ (ah ?_ ?_)))
    ·rw [hw]
     refine ⟨by omega, by omega, fun k g1 g2 => ?_⟩
     by_cases hk : k = j
     ·rw [hk]; assumption
     ·exact h3 k (by omega) g2
    ·rw [hw]; omega
    ·repeat' (first | exact trivial | refine And.intro rfl ?_)
    ·repeat' (first | exact trivial | refine And.intro rfl ?_)
  ·have bb : decide (i > 0) = true → False := fun h => hp (of_decide_eq_true h)
   repeat' first|exact (bb (by assumption)).elim|refine Q1 ?_|refine Q2 ?_|refine Q3 hG aa dV ?_|refine Q4 hG aa dV ?_|refine Q5 hG aa ?_|refine Q6 hG aa ?_|refine Q7 hG aa ?_|refine Q8 hG aa ?_|refine Q9 rfl ?_|refine QF rfl ?_|refine QC rfl ⟨fun h => ?_,fun h => ?_⟩|((conv => whnf); first|refine anF ?_|refine anT ?_|refine anK ?_|refine And.intro (fun h => ?_) (fun h => ?_)|refine Or.inl ?_)
   refine Ends.mk (Or.inl rfl) (ac (congrArg AV.bool ?_))
   symm
   unfold BK
   rw [List.all_eq_true]
   intro j hj
   have := List.mem_range.1 hj
   rw [h3 j (by omega) (by omega)]; rfl
def cc (l : List aj) : Bool := decide (l.length ≤ 64) && !(l.any fun p => !ck p) && BK l
theorem eh (l : List aj) (hl : l.length ≤ 1000000) : ae Tryz.prog 85 [au l] (.bool (cc l)) := by
 have hlm : decide (((l.map aM).length : Int) ≤ 64) = decide (l.length ≤ 64) := by rw [List.length_map]; exact decide_eq_decide.2 (by omega)
 refine ag aa Tryz.func85 rfl (by kernel_rfl) af (Nat.le_of_ble_eq_true rfl) ?_
 intro F n' w0 m0 hG hro h1
 repeat' first|refine Q1 ?_|refine Q2 ?_|refine Q3 hG aa pM ?_|refine Q4 hG aa pM ?_|refine Q5 hG aa ?_|refine Q6 hG aa ?_|refine Q7 hG aa ?_|refine Q8 hG aa ?_|refine Q9 rfl ?_|refine QF rfl ?_|refine QC rfl ⟨fun h => ?_,fun h => ?_⟩|((conv => whnf); first|refine anF ?_|refine anT ?_|refine anK ?_|refine Exists.intro _ (And.intro (oe l (fun p => !ck p) 157 _ [] (Or.inr ⟨rfl, rfl⟩) hl (fun p _ => uG p)) ?_)|refine Exists.intro _ (And.intro (sA l hl) ?_)|refine And.intro (fun h => ?_) (fun h => ?_)|refine Or.inl ?_)
 all_goals refine Ends.mk (Or.inl rfl) (ac (congrArg AV.bool ?_))
 all_goals (unfold cc; rw [← hlm]; clear hlm; simp only [*, Bool.true_and, Bool.and_true, Bool.false_and, Bool.and_false])
end Go.Proofs
namespace Go.Proofs
open Go Go.AI
set_option maxRecDepth 10000
def eX (s : Nat → Int) (ps : List aj) (size t : Int) (x : aZ) : Bool :=
 inS x.p 0 (w64 ((ps.length : Int) - 1)) && ((((aF ps x.p.toNat).sat == s 0) && decide (x.a ≥ max t (aF ps x.p.toNat).sa) && decide (x.b ≤ (aF ps x.p.toNat).sb) && decide (x.a < x.b)) &&
  !decide (w64 (w64 (x.b - x.a) * s 20) < size))
def bn (s : Nat → Int) (ps : List aj) (size : Int) : Int → List aZ → Bool
 | _, [] => true
 | t, x :: r => eX s ps size t x && bn s ps size x.b r
def mv (s : Nat → Int) (o : Opt) : Bool := inS o.id 0 63 && inS o.ord 0 63 && inS o.cl 0 11 && (o.sat == s 0) && inS o.size 1 (s 10)
def o8 (s : Nat → Int) (o : Opt) : Bool := oo (gn s) o.a o.b o.look && inS o.look (w64 (0 - s 9)) (s 9) && decide (o.b ≤ 1000000)
def db (s : Nat → Int) (o : Opt) (ps : List aj) : Bool := mv s o && o8 s o && inS (o.sl.length : Int) 1 6 && bn s ps o.size o.b o.sl
theorem lJ {s : Nat → Int} {ps : List aj} {z t : Int} {l : List aZ} {i : Nat} (h : i < l.length) : bn s ps z t (l.drop i) = (eX s ps z t (l.getD i ⟨0, 0, 0⟩) && bn s ps z (l.getD i ⟨0, 0, 0⟩).b (l.drop (i + 1))) := by
 rw [List.drop_eq_getElem_cons h, List.getD_eq_getElem?_getD, List.getElem?_eq_getElem h]; rfl
set_option maxHeartbeats 16000000 in
theorem Bv (s : Nat → Int) (o : Opt) (ps : List aj) (hl : o.sl.length ≤ 1000000) (hps : ps.length ≤ 1000000) : ae Tryz.prog 87 [.agg (aX s), .agg (aG o), au ps] (.bool (db s o ps)) := by
 have hlm : ((o.sl.map aC).length : Int) = (o.sl.length : Int) := by rw [List.length_map]
 have hpm : ((ps.map aM).length : Int) = (ps.length : Int) := by rw [List.length_map]
 refine ag aa Tryz.func87 rfl (by kernel_rfl) af (Nat.le_of_ble_eq_true rfl) ?_
 intro F n' w0 m0 hG hro h1
 refine Q1 ?_
 refine Q4 hG aa bh ?_
 conv => whnf
 refine Q1 ?_
 refine SPB.cut (X := Unit) (fun _ => ⟨[(7, .bool (mv s o)), (6, .bool false), (4, .loc 4 0), (3, .loc 3 0), (2, au ps)], [(4, aG o), (3, aX s)]⟩) (fun _ => True) ?_ (fun _ _ => ?_)
 ·refine Q4 hG aa bh ?_
  repeat' first|refine Q1 ?_|refine Q2 ?_|refine Q3 hG aa bh ?_|refine Q4 hG aa bh ?_|refine Q5 hG aa ?_|refine Q6 hG aa ?_|refine Q7 hG aa ?_|refine Q8 hG aa ?_|refine Q9 rfl ?_|refine QF rfl ?_|refine QC rfl ⟨fun h => ?_,fun h => ?_⟩|((conv => whnf); first|refine anF ?_|refine anT ?_|refine anK ?_|refine Exists.intro _ (And.intro (iy _ _ _) ?_)|refine And.intro (fun h => ?_) (fun h => ?_)|refine Or.inl ?_)
  all_goals refine Exists.intro () (And.intro trivial (ah (And.intro (congrArg (fun z => some (AV.bool z)) ?_) ?_) ?_))
  all_goals first
   |(simp only [mv, *, Bool.true_and, Bool.and_true, Bool.false_and, Bool.and_false, Bool.true_or, Bool.or_true, Bool.false_or, Bool.or_false, Bool.not_true, Bool.not_false]; done)
   |(repeat' (first | exact trivial | refine And.intro rfl ?_))
 conv => whnf
 refine Q1 ?_
 refine SPB.cut (X := Unit) (fun _ => ⟨[(8, .bool (o8 s o)), (7, .bool (mv s o)), (6, .bool false), (4, .loc 4 0), (3, .loc 3 0), (2, au ps)], [(4, aG o), (3, aX s)]⟩) (fun _ => True) ?_ (fun _ _ => ?_)
 ·refine Q4 hG aa bh ?_
  repeat' first|refine Q1 ?_|refine Q2 ?_|refine Q3 hG aa bh ?_|refine Q4 hG aa bh ?_|refine Q5 hG aa ?_|refine Q6 hG aa ?_|refine Q7 hG aa ?_|refine Q8 hG aa ?_|refine Q9 rfl ?_|refine QF rfl ?_|refine QC rfl ⟨fun h => ?_,fun h => ?_⟩|((conv => whnf); first|refine anF ?_|refine anT ?_|refine anK ?_|refine Exists.intro _ (And.intro (iy _ _ _) ?_)|refine Exists.intro _ (And.intro (AM (gn s) _ _ _) ?_)|refine And.intro (fun h => ?_) (fun h => ?_)|refine Or.inl ?_)
  all_goals refine Exists.intro () (And.intro trivial (ah (And.intro (congrArg (fun z => some (AV.bool z)) ?_) ?_) ?_))
  all_goals first
   |(simp only [o8, w64, *, Bool.true_and, Bool.and_true, Bool.false_and, Bool.and_false, Bool.true_or, Bool.or_true, Bool.false_or, Bool.or_false, Bool.not_true, Bool.not_false]; done)
   |(repeat' (first | exact trivial | refine And.intro rfl ?_))
 conv => whnf
 repeat' first|refine Q1 ?_|refine Q2 ?_|refine Q3 hG aa bh ?_|refine Q4 hG aa bh ?_|refine Q5 hG aa ?_|refine Q6 hG aa ?_|refine Q7 hG aa ?_|refine Q8 hG aa ?_|refine Q9 rfl ?_|refine QF rfl ?_|refine QC rfl ⟨fun h => ?_,fun h => ?_⟩|((conv => whnf); first|refine anF ?_|refine anT ?_|refine anK ?_|refine Exists.intro _ (And.intro (iy _ _ _) ?_)|refine And.intro (fun h => ?_) (fun h => ?_)|refine Or.inl ?_)
 ·refine Ends.mk (Or.inl rfl) (ac (congrArg AV.bool ?_))
  simp only [db, tY (by assumption : (!mv s o) = true), Bool.false_and]
 ·refine Ends.mk (Or.inl rfl) (ac (congrArg AV.bool ?_))
  simp only [db, tY (by assumption : (!o8 s o) = true), Bool.false_and, Bool.and_false]
 ·refine Ends.mk (Or.inl rfl) (ac (congrArg AV.bool ?_))
  have h := tY (by assumption : (!inS (((o.sl.map aC).length : Nat) : Int) 1 6) = true)
  rw [hlm] at h
  simp only [db, h, Bool.false_and, Bool.and_false]
 ·have q1 := ml (by assumption : (!mv s o) = false)
  have q2 := ml (by assumption : (!o8 s o) = false)
  have q3 := ml (by assumption : (!inS (((o.sl.map aC).length : Nat) : Int) 1 6) = false)
  rw [hlm] at q3
  have hfit : db s o ps = bn s ps o.size o.b o.sl := by simp only [db, q1, q2, q3, Bool.true_and]
  rw [hfit]
  refine aw (X := Nat × Int) (fun q => ⟨[(83, .int .i64 q.1), (82, .int .i64 (o.sl.map aC).length), (81, .sl .no 3 (o.sl.map aC)), (9, .int .i64 q.2), (6, .bool false), (4, .loc 4 0), (3, .loc 3 0), (2, au ps)], [(4, aG o), (3, aX s)]⟩)
   (fun q => q.1 ≤ o.sl.length ∧ bn s ps o.size q.2 (o.sl.drop q.1) = bn s ps o.size o.b o.sl) (fun q => o.sl.length - q.1) (0, o.b) ⟨Nat.zero_le _, rfl⟩ (ah ?_ ?_) (fun q hq => ?_)
  ·repeat' (first | exact trivial | refine And.intro rfl ?_)
  ·repeat' (first | exact trivial | refine And.intro rfl ?_)
  ·obtain ⟨i, t⟩ := q
   obtain ⟨hi, hf⟩ := hq
   have hi : i ≤ o.sl.length := hi
   have hf : bn s ps o.size t (o.sl.drop i) = bn s ps o.size o.b o.sl := hf
   by_cases hlt : i < o.sl.length
   ·have bbk : decide ((i : Int) < ((o.sl.map aC).length : Int)) = false → False := fun h => by have := of_decide_eq_false h; omega
    have hx := fL hlt
    rw [lJ hlt] at hf
    generalize o.sl.getD i ⟨0, 0, 0⟩ = x at hx hf
    have bad : eX s ps o.size t x = false → false = bn s ps o.size o.b o.sl := fun h => by rw [← hf, h, Bool.false_and]
    have hin : (!inS x.p 0 (IntKind.i64.wrap (((ps.map aM).length : Int) - 1))) = false → 0 ≤ x.p ∧ (ps.map aM)[x.p.toNat]? = some (aM (aF ps x.p.toNat)) := fun h => by
     have h := ml h
     rw [hpm, show IntKind.i64.wrap ((ps.length : Int) - 1) = (ps.length : Int) - 1 from am (by omega) (by omega)] at h
     simp only [inS, Bool.and_eq_true, decide_eq_true_eq] at h
     exact ⟨h.1, ek (by omega)⟩
    have hpm' : w64 ((ps.length : Int) - 1) = IntKind.i64.wrap (((ps.map aM).length : Int) - 1) := by rw [hpm]; rfl
    repeat' first|exact (bbk (by assumption)).elim|refine Q1 ?_|refine Q2 ?_|refine Q3 hG aa bh ?_|refine Q4 hG aa bh ?_|refine Q5 hG aa ?_|refine Q6 hG aa ?_|refine Q7 hG aa ?_|refine Q8 hG aa ?_|refine Q9 rfl ?_|refine QF rfl ?_|refine QC rfl ⟨fun h => ?_,fun h => ?_⟩|((conv => whnf); first|refine anF ?_|refine anT ?_|refine anK ?_|refine And.intro (Int.natCast_nonneg i) (Exists.intro _ (And.intro hx ?_))|refine Exists.intro _ (And.intro (iy _ _ _) ?_)|refine And.intro (hin (by assumption)).1 (Exists.intro _ (And.intro (hin (by assumption)).2 ?_))|refine And.intro (fun h => ?_) (fun h => ?_)|refine Or.inl ?_)
    rotate_left 3
    ·have hok : eX s ps o.size t x = true := by
      (try simp only [Bool.not_eq_true', Bool.not_eq_false', cond_true] at *)
      unfold eX w64
      unfold w64 at hpm'
      rw [hpm']
      simp only [*, Bool.true_and, Bool.and_true, Bool.false_and, Bool.and_false, Bool.true_or, Bool.or_true, Bool.false_or, Bool.or_false, Bool.not_true, Bool.not_false]
     refine Exists.intro (i + 1, x.b) (And.intro ⟨hlt, ?_⟩ (And.intro (by show o.sl.length - (i + 1) < o.sl.length - i; omega) (ah ?_ ?_)))
     ·show bn s ps o.size x.b (o.sl.drop (i + 1)) = _
      rw [← hf, hok, Bool.true_and]
     ·refine And.intro (congrArg some (ap (by omega))) ?_
      repeat' (first | exact trivial | refine And.intro rfl ?_)
     ·repeat' (first | exact trivial | refine And.intro rfl ?_)
    all_goals refine Ends.mk (Or.inl rfl) (ac (congrArg AV.bool (bad ?_)))
    all_goals (try simp only [Bool.not_eq_true', Bool.not_eq_false', cond_true] at *)
    all_goals (unfold eX w64; unfold w64 at hpm'; rw [hpm']; simp only [*, Bool.true_and, Bool.and_true, Bool.false_and, Bool.and_false, Bool.true_or, Bool.or_true, Bool.false_or, Bool.or_false, Bool.not_true, Bool.not_false])
   ·have hge : i = o.sl.length := by omega
    have bbk : decide ((i : Int) < ((o.sl.map aC).length : Int)) = true → False := fun h => by have := of_decide_eq_true h; omega
    rw [List.drop_of_length_le (by omega)] at hf
    repeat' first|exact (bbk (by assumption)).elim|refine Q1 ?_|refine Q2 ?_|refine Q3 hG aa bh ?_|refine Q4 hG aa bh ?_|refine Q5 hG aa ?_|refine Q6 hG aa ?_|refine Q7 hG aa ?_|refine Q8 hG aa ?_|refine Q9 rfl ?_|refine QF rfl ?_|refine QC rfl ⟨fun h => ?_,fun h => ?_⟩|((conv => whnf); first|refine anF ?_|refine anT ?_|refine anK ?_|refine And.intro (fun h => ?_) (fun h => ?_)|refine Or.inl ?_)
    exact Ends.mk (Or.inl rfl) (ac (congrArg AV.bool hf))
def mf (s : Nat → Int) (ps : List aj) (a b : Int) (pre : List Opt) (o : Opt) : Bool := db s o ps && !decide (o.a < a) && !decide (dY o > b) && !(pre.any fun p => p.id == o.id)
def d4 (s : Nat → Int) (ps : List aj) (a b : Int) : List Opt → List Opt → Bool
 | _, [] => true
 | pre, o :: r => mf s ps a b pre o && d4 s ps a b (pre ++ [o]) r
theorem vx {s : Nat → Int} {ps : List aj} {a b : Int} {l : List Opt} {i : Nat} (h : i < l.length) : d4 s ps a b (l.take i) (l.drop i) = (mf s ps a b (l.take i) (aD l i) && d4 s ps a b (l.take (i + 1)) (l.drop (i + 1))) := by
 rw [List.drop_eq_getElem_cons h, d4, bT h, List.take_add_one, List.getElem?_eq_getElem h]; rfl
def aT (s : Nat → Int) (l : List Opt) (ps : List aj) (a b : Int) : Bool := decide (l.length ≤ 8) && ce a b && !decide (w64 (b - a) > 3000) && fF s && cc ps && d4 s ps a b [] l
theorem AO (o p : Opt) : ae Tryz.prog 86 [.agg (aG p), .ref (aG o)] (.bool (p.id == o.id)) := by
 refine ag aa Tryz.func86 rfl (by kernel_rfl) af (Nat.le_of_ble_eq_true rfl) ?_
 intro F n' w0 m0 hG hro h1
 repeat' first|refine Q1 ?_|refine Q2 ?_|refine Q3 hG aa pL ?_|refine Q4 hG aa pL ?_|refine Q5 hG aa ?_|refine Q6 hG aa ?_|refine Q7 hG aa ?_|refine Q8 hG aa ?_|refine Q9 rfl ?_|refine QF rfl ?_|refine QC rfl ⟨fun h => ?_,fun h => ?_⟩|((conv => whnf); first|refine anF ?_|refine anT ?_|refine anK ?_|refine And.intro (fun h => ?_) (fun h => ?_)|refine Or.inl ?_)
 all_goals exact Ends.mk (Or.inl rfl) (ac rfl)
theorem gp {l : List Opt} {i : Nat} (h : i < l.length) : (l.map aG)[(i : Int).toNat]? = some (aG (aD l i)) := by simp [aD, List.getElem?_eq_getElem h]
theorem wd {s : Nat → Int} {o : Opt} {ps : List aj} (h : db s o ps = true) : 1 ≤ o.sl.length ∧ o.sl.length ≤ 6 := by
 simp only [db, inS, Bool.and_eq_true, decide_eq_true_eq] at h
 omega
end Go.Proofs
namespace Go.Proofs
open Go Go.AI
set_option maxRecDepth 10000
def ij (l : List Opt) : Prop := ∀ o ∈ l, o.sl.length ≤ 1000000
set_option maxHeartbeats 16000000 in
theorem rI (s : Nat → Int) (l : List Opt) (ps : List aj) (a b : Int) (hl : l.length ≤ 1000000) (hs : ij l) (hps : ps.length ≤ 1000000) : ae Tryz.prog 23 [.agg (aX s), aP l, au ps, .agg (aQ a b)] (.bool (aT s l ps a b)) := by
 have hlm : ((l.map aG).length : Int) = (l.length : Int) := by rw [List.length_map]
 have hn8 : decide (l.length ≤ 8) = !decide (((l.map aG).length : Int) > 8) := by rw [hlm]; by_cases h : l.length ≤ 8 <;> simp [h] <;> omega
 refine ag aa Tryz.func23 rfl (by kernel_rfl) af (Nat.le_of_ble_eq_true rfl) ?_
 intro F n' w0 m0 hG hro h1
 repeat' first|refine Q1 ?_|refine Q2 ?_|refine Q3 hG aa eI ?_|refine Q4 hG aa eI ?_|refine Q5 hG aa ?_|refine Q6 hG aa ?_|refine Q7 hG aa ?_|refine Q8 hG aa ?_|refine Q9 rfl ?_|refine QF rfl ?_|refine QC rfl ⟨fun h => ?_,fun h => ?_⟩|((conv => whnf); first|refine anF ?_|refine anT ?_|refine anK ?_|refine Exists.intro _ (And.intro (rG _ _) ?_)|refine Exists.intro _ (And.intro (rY s) ?_)|refine Exists.intro _ (And.intro (eh ps hps) ?_)|refine And.intro (fun h => ?_) (fun h => ?_)|refine Or.inl ?_)
 rotate_left 5
 ·have c1 : l.length ≤ 8 := by
   have h := (by assumption : decide (((l.map aG).length : Int) > 8) = false)
   have h2 := hn8; rw [h] at h2; simpa using h2
  have hv : aT s l ps a b = d4 s ps a b [] l := by
   have c2 := ml (by assumption : (!ce a b) = false)
   have c3 := ml (by assumption : (!fF s) = false)
   have c4 := ml (by assumption : (!cc ps) = false)
   have c5 : decide (w64 (b - a) > 3000) = false := (by assumption : decide (IntKind.i64.wrap (b - a) > 3000) = false)
   simp only [aT, decide_eq_true c1, c2, c3, c4, c5, Bool.true_and, Bool.not_false, Bool.and_true]
  rw [hv]
  refine aw (X := Nat) (fun i => ⟨[(40, .int .i64 i), (39, .int .i64 (l.map aG).length), (38, aP l), (8, .bool false), (7, .loc 7 0), (4, .loc 4 0), (2, au ps), (1, aP l)], [(7, aQ a b), (4, aX s)]⟩)
   (fun i => i ≤ l.length ∧ d4 s ps a b (l.take i) (l.drop i) = d4 s ps a b [] l) (fun i => l.length - i) 0 ⟨Nat.zero_le _, rfl⟩ (ah ?_ ?_) (fun i hi => ?_)
  ·repeat' (first | exact trivial | refine And.intro rfl ?_)
  ·repeat' (first | exact trivial | refine And.intro rfl ?_)
  ·obtain ⟨hi, hok⟩ := hi
   by_cases hlt : i < l.length
   ·have bbk : decide ((i : Int) < ((l.map aG).length : Int)) = false → False := fun h => by have := of_decide_eq_false h; omega
    have hx := gp hlt
    rw [vx hlt] at hok
    have hsx : (aD l i).sl.length ≤ 1000000 := hs _ (by rw [bT hlt]; exact List.getElem_mem hlt)
    generalize aD l i = x at hx hok hsx
    have hle : (i : Int).toNat ≤ (l.map aG).length := by simp; exact hi
    have he : ((l.map aG).take (i : Int).toNat).drop 0 = (l.take i).map aG := by simp [List.map_take]
    have h88 := iB (l.take i) (fun p => p.id == x.id) 86 _ [.ref (aG x)] (Or.inl rfl) (by simp; omega) (fun y _ => AO x y)
    rw [← he] at h88
    have hlast : (!db s x ps) = false → 0 ≤ IntKind.i64.wrap (((x.sl.map aC).length : Int) - 1) ∧ (x.sl.map aC)[(IntKind.i64.wrap (((x.sl.map aC).length : Int) - 1)).toNat]? = some [.int .i64 (eY x (x.sl.length - 1)).p, .int .i64 (eY x (x.sl.length - 1)).a, .int .i64 (dY x)] := fun h => by
     have hn := wd (ml h)
     rw [List.length_map, show IntKind.i64.wrap ((x.sl.length : Int) - 1) = ((x.sl.length - 1 : Nat) : Int) from (am (by omega) (by omega)).trans (by omega)]
     exact ⟨Int.natCast_nonneg _, fL (by omega)⟩
    repeat' first|exact (bbk (by assumption)).elim|refine Q1 ?_|refine Q2 ?_|refine Q3 hG aa eI ?_|refine Q4 hG aa eI ?_|refine Q5 hG aa ?_|refine Q6 hG aa ?_|refine Q7 hG aa ?_|refine Q8 hG aa ?_|refine Q9 rfl ?_|refine QF rfl ?_|refine QC rfl ⟨fun h => ?_,fun h => ?_⟩|((conv => whnf); first|refine anF ?_|refine anT ?_|refine anK ?_|refine And.intro (Int.natCast_nonneg i) (Exists.intro _ (And.intro hx ?_))|refine Exists.intro _ (And.intro (Bv s _ ps hsx hps) ?_)|refine Exists.intro _ (And.intro (h88) ?_)|refine And.intro (hlast (by assumption)).1 (Exists.intro _ (And.intro (hlast (by assumption)).2 ?_))|refine And.intro (Int.natCast_nonneg i) (And.intro (Nat.zero_le _) (And.intro hle ?_))|refine And.intro (fun h => ?_) (fun h => ?_)|refine Or.inl ?_)
    all_goals first
     |(refine Ends.mk (Or.inl rfl) (ac (congrArg AV.bool ?_))
       have hb : mf s ps a b (l.take i) x = false := by
        (try simp only [Bool.not_eq_true', Bool.not_eq_false'] at *)
        unfold mf
        simp only [*, Bool.true_and, Bool.and_true, Bool.false_and, Bool.and_false, Bool.true_or, Bool.or_true, Bool.false_or, Bool.or_false, Bool.not_true, Bool.not_false]
       rw [← hok, hb, Bool.false_and])
     | skip
    have hb : mf s ps a b (l.take i) x = true := by
     (try simp only [Bool.not_eq_true', Bool.not_eq_false'] at *)
     unfold mf
     simp only [*, Bool.true_and, Bool.and_true, Bool.false_and, Bool.and_false, Bool.true_or, Bool.or_true, Bool.false_or, Bool.or_false, Bool.not_true, Bool.not_false]
    rw [hb, Bool.true_and] at hok
    refine Exists.intro (i + 1) (And.intro ⟨hlt, hok⟩ (And.intro (by omega) (ah ?_ ?_)))
    ·refine And.intro (congrArg some (ap (by omega))) ?_
     repeat' (first | exact trivial | refine And.intro rfl ?_)
    ·repeat' (first | exact trivial | refine And.intro rfl ?_)
   ·have bbk : decide ((i : Int) < ((l.map aG).length : Int)) = true → False := fun h => by have := of_decide_eq_true h; omega
    rw [List.drop_of_length_le (by omega)] at hok
    repeat' first|exact (bbk (by assumption)).elim|refine Q1 ?_|refine Q2 ?_|refine Q3 hG aa eI ?_|refine Q4 hG aa eI ?_|refine Q5 hG aa ?_|refine Q6 hG aa ?_|refine Q7 hG aa ?_|refine Q8 hG aa ?_|refine Q9 rfl ?_|refine QF rfl ?_|refine QC rfl ⟨fun h => ?_,fun h => ?_⟩|((conv => whnf); first|refine anF ?_|refine anT ?_|refine anK ?_|refine And.intro (fun h => ?_) (fun h => ?_)|refine Or.inl ?_)
    exact Ends.mk (Or.inl rfl) (ac (congrArg AV.bool hok))
 all_goals refine Ends.mk (Or.inl rfl) (ac (congrArg AV.bool ?_))
 all_goals ((try simp only [Bool.not_eq_true', Bool.not_eq_false'] at *); unfold aT w64; rw [hn8]; clear hlm; simp only [*, Bool.true_and, Bool.and_true, Bool.false_and, Bool.and_false, Bool.true_or, Bool.or_true, Bool.false_or, Bool.or_false, Bool.not_true, Bool.not_false])
theorem AH {l : List Opt} {i : Nat} (h : i < l.length) : bP (l.take (i + 1)) = bP (l.take i) ++ [⟨(aD l i).a, (aD l i).b, (aD l i).look⟩] := by
 rw [List.take_add_one, List.getElem?_eq_getElem h, bT h]; exact List.map_append
set_option maxHeartbeats 4000000 in
theorem oZ (l : List Opt) (hl : l.length ≤ 1000000) : ae Tryz.prog 29 [aP l] (gD (bP l)) := by
 refine ag aa Tryz.func29 rfl (by kernel_rfl) af (Nat.le_of_ble_eq_true rfl) ?_
 intro F n' w0 m0 hG hro h1
 repeat' first|refine Q1 ?_|refine Q2 ?_|refine Q3 hG aa eH ?_|refine Q4 hG aa eH ?_|refine Q5 hG aa ?_|refine Q6 hG aa ?_|refine Q7 hG aa ?_|refine Q8 hG aa ?_|refine Q9 rfl ?_|refine QF rfl ?_|refine QC rfl ⟨fun h => ?_,fun h => ?_⟩|((conv => whnf); first|refine anF ?_|refine anT ?_|refine anK ?_|refine And.intro (fun h => ?_) (fun h => ?_)|refine Or.inl ?_)
 refine aw (X := Nat) (fun i => ⟨[(8, .int .i64 i), (3, .sl (.id 3) 3 ((bP (l.take i)).map fz)), (7, .int .i64 (l.map aG).length), (6, aP l)], []⟩) (fun i => i ≤ l.length) (fun i => l.length - i) 0 (Nat.zero_le _) (ah ?_ ?_) (fun i hi => ?_)
 ·repeat' (first | exact trivial | refine And.intro rfl ?_)
 ·repeat' (first | exact trivial | refine And.intro rfl ?_)
 ·by_cases hlt : i < l.length
  ·have bbk : decide ((i : Int) < ((l.map aG).length : Int)) = false → False := fun h => by have := of_decide_eq_false h; simp at this; omega
   have hx := gp hlt
   have hsn := AH hlt
   have hln : ((bP (l.take i)).map fz).length = i := by simp [bP]; omega
   generalize aD l i = x at hx hsn
   repeat' first|exact (bbk (by assumption)).elim|refine Q1 ?_|refine Q2 ?_|refine Q3 hG aa eH ?_|refine Q4 hG aa eH ?_|refine Q5 hG aa ?_|refine Q6 hG aa ?_|refine Q7 hG aa ?_|refine Q8 hG aa ?_|refine Q9 rfl ?_|refine QF rfl ?_|refine QC rfl ⟨fun h => ?_,fun h => ?_⟩|((conv => whnf); first|refine anF ?_|refine anT ?_|refine anK ?_|refine And.intro (Int.natCast_nonneg i) (Exists.intro _ (And.intro hx ?_))|refine And.intro (show (((bP (l.take i)).map fz).length + 1) * 24 ≤ 70368744177664 by rw [hln]; omega) (And.intro (show ((bP (l.take i)).map fz).length + 1 ≤ 4611686018427387904 by rw [hln]; omega) ?_)|refine And.intro (fun h => ?_) (fun h => ?_)|refine Or.inl ?_)
   refine Exists.intro (i + 1) (And.intro hlt (And.intro (by omega) (ah ?_ ?_)))
   ·refine And.intro (congrArg some (ap (by omega))) (And.intro (congrArg (fun z => some (AV.sl (.id 3) 3 z)) ?_) ?_)
    ·rw [hsn, List.map_append]; rfl
    ·repeat' (first | exact trivial | refine And.intro rfl ?_)
   ·repeat' (first | exact trivial | refine And.intro rfl ?_)
  ·have bbk : decide ((i : Int) < ((l.map aG).length : Int)) = true → False := fun h => by have := of_decide_eq_true h; simp at this; omega
   have he : l.take i = l := List.take_of_length_le (by omega)
   rw [he]
   repeat' first|exact (bbk (by assumption)).elim|refine Q1 ?_|refine Q2 ?_|refine Q3 hG aa eH ?_|refine Q4 hG aa eH ?_|refine Q5 hG aa ?_|refine Q6 hG aa ?_|refine Q7 hG aa ?_|refine Q8 hG aa ?_|refine Q9 rfl ?_|refine QF rfl ?_|refine QC rfl ⟨fun h => ?_,fun h => ?_⟩|((conv => whnf); first|refine anF ?_|refine anT ?_|refine anK ?_|refine And.intro (fun h => ?_) (fun h => ?_)|refine Or.inl ?_)
   exact Ends.mk (Or.inl rfl) (ac rfl)
end Go.Proofs
namespace Go.Proofs
open Go Go.AI
set_option maxRecDepth 10000
theorem oW (l : List Opt) : ae Tryz.prog 92 [aP l] (.clo 166 [.ref [aP l]]) := by
 refine ag aa Tryz.func92 rfl (by kernel_rfl) af (Nat.le_of_ble_eq_true rfl) ?_
 intro F n' w0 m0 hG hro h1
 repeat' first|refine Q1 ?_|refine Q2 ?_|refine Q3 hG aa pJ ?_|refine Q4 hG aa pJ ?_|refine Q5 hG aa ?_|refine Q6 hG aa ?_|refine Q7 hG aa ?_|refine Q8 hG aa ?_|refine Q9 rfl ?_|refine QF rfl ?_|refine QC rfl ⟨fun h => ?_,fun h => ?_⟩|((conv => whnf); first|refine anF ?_|refine anT ?_|refine anK ?_|refine And.intro (fun h => ?_) (fun h => ?_)|refine Or.inl ?_)
 all_goals exact Ends.mk (Or.inl rfl) (ac rfl)
def spA (x : Int × Int) : List AV := [.agg (aQ x.1 x.2)]
theorem sM {l : List Opt} {i : Nat} (h : i < l.length) : bM (l.take (i + 1)) = bM (l.take i) ++ slP (aD l i) := by
 rw [List.take_add_one, List.getElem?_eq_getElem h, bT h]
 simp only [bM, List.flatMap_append, Option.toList_some, List.flatMap_cons, List.flatMap_nil, List.append_nil, slP]
theorem BR {l : List Opt} {i j : Nat} (h : i < l.length) (hj : j < (aD l i).sl.length) : (bM l)[(bM (l.take i)).length + j]? = some ((eY (aD l i) j).a, (eY (aD l i) j).b) := by
 have e : bM l = bM (l.take (i + 1)) ++ bM (l.drop (i + 1)) := by
  conv => lhs; rw [← List.take_append_drop (i + 1) l]
  simp only [bM, List.flatMap_append]
 have h1 : j < (slP (aD l i)).length := by simpa [slP] using hj
 rw [e, sM h, List.append_assoc, List.getElem?_append_right (by omega), Nat.add_sub_cancel_left, List.getElem?_append_left h1]
 simp [slP, eY, List.getElem?_eq_getElem hj]
set_option maxHeartbeats 8000000 in
theorem jg (l : List Opt) (hl : l.length ≤ 1000000) (hs : ij l) : jv Tryz.prog spA 166 [.ref [aP l]] (bM l) := by
 refine jv.of Tryz.func166 rfl (by kernel_rfl) af (Nat.le_of_ble_eq_true rfl) rfl ?_
 intro F n m y J Jx hY
 repeat' first|refine MPB.seq ?_|refine MPB.block ?_|refine MPB.reg hY aa dq (by kernel_rfl) ?_|refine MPB.skip ?_|refine MPB.label ?_|refine MPB.ret ?_|refine MPB.exit ?_|refine MPB.condT rfl ?_|refine MPB.condF rfl ?_|refine MPB.cond rfl (And.intro (fun h => ?_) (fun h => ?_))|((conv => whnf); first|refine anF ?_|refine anT ?_|refine anK ?_|refine And.intro (fun h => ?_) (fun h => ?_)|refine Or.inl ?_)
 refine MPB.loop (X := Nat) (fun i => ((false, (bM (l.take i)).length), ⟨[(9, .int .i64 i), (8, .int .i64 (l.map aG).length), (7, aP l), (0, .lit (.func (.yield y) #[] #[]))], []⟩)) (fun i => i ≤ l.length) (fun i => l.length - i) 0 (Nat.zero_le _) rfl (ah ?_ ?_) (fun i hi => ?_)
 ·repeat' (first | exact trivial | refine And.intro rfl ?_)
 ·repeat' (first | exact trivial | refine And.intro rfl ?_)
 ·by_cases hlt : i < l.length
  ·have bbk : decide ((i : Int) < ((l.map aG).length : Int)) = false → False := fun h => by have := of_decide_eq_false h; simp at this; omega
   have hx := gp hlt
   have hsx : (aD l i).sl.length ≤ 1000000 := hs _ (by rw [bT hlt]; exact List.getElem_mem hlt)
   have hget := fun (j : Nat) (hj : j < (aD l i).sl.length) => BR hlt hj
   have htk : (bM (l.take (i + 1))).length = (bM (l.take i)).length + (aD l i).sl.length := by rw [sM hlt]; simp [slP]
   generalize aD l i = x at hx hsx hget htk
   have hlm : ((x.sl.map aC).length : Int) = (x.sl.length : Int) := by rw [List.length_map]
   repeat' first|exact (bbk (by assumption)).elim|refine MPB.seq ?_|refine MPB.block ?_|refine MPB.reg hY aa dq (by kernel_rfl) ?_|refine MPB.skip ?_|refine MPB.label ?_|refine MPB.ret ?_|refine MPB.exit ?_|refine MPB.condT rfl ?_|refine MPB.condF rfl ?_|refine MPB.cond rfl (And.intro (fun h => ?_) (fun h => ?_))|((conv => whnf); first|refine anF ?_|refine anT ?_|refine anK ?_|refine And.intro (Int.natCast_nonneg i) (Exists.intro _ (And.intro hx ?_))|refine And.intro (fun h => ?_) (fun h => ?_)|refine Or.inl ?_)
   refine MPB.loop (X := Nat) (fun j => ((false, (bM (l.take i)).length + j), ⟨[(16, .int .i64 j), (15, .int .i64 (x.sl.map aC).length), (14, .sl .no 3 (x.sl.map aC)), (9, .int .i64 i), (8, .int .i64 (l.map aG).length), (7, aP l), (0, .lit (.func (.yield y) #[] #[]))], []⟩)) (fun j => j ≤ x.sl.length) (fun j => x.sl.length - j) 0 (Nat.zero_le _) rfl (ah ?_ ?_) (fun j hj => ?_)
   ·repeat' (first | exact trivial | refine And.intro rfl ?_)
   ·repeat' (first | exact trivial | refine And.intro rfl ?_)
   ·by_cases hjl : j < x.sl.length
    ·have bbj : decide ((j : Int) < ((x.sl.map aC).length : Int)) = false → False := fun h => by have := of_decide_eq_false h; omega
     have hy := fL hjl
     have hg := hget j hjl
     have hsl : x.sl.getD j ⟨0, 0, 0⟩ = eY x j := rfl
     rw [hsl] at hy
     generalize eY x j = z at hy hg
     repeat' first|exact (bbj (by assumption)).elim|refine MPB.seq ?_|refine MPB.block ?_|refine MPB.reg hY aa dq (by kernel_rfl) ?_|refine MPB.skip ?_|refine MPB.label ?_|refine MPB.ret ?_|refine MPB.exit ?_|refine MPB.condT rfl ?_|refine MPB.condF rfl ?_|refine MPB.cond rfl (And.intro (fun h => ?_) (fun h => ?_))|((conv => whnf); first|refine anF ?_|refine anT ?_|refine anK ?_|refine And.intro (Int.natCast_nonneg j) (Exists.intro _ (And.intro hy ?_))|refine And.intro (fun h => ?_) (fun h => ?_)|refine Or.inl ?_)
     refine Exists.intro (z.a, z.b) (And.intro hg (And.intro rfl (fun t ht => ?_)))
     subst ht
     refine And.intro ?_ ?_
     ·repeat' first|refine MPB.seq ?_|refine MPB.block ?_|refine MPB.reg hY aa dq (by kernel_rfl) ?_|refine MPB.skip ?_|refine MPB.label ?_|refine MPB.ret ?_|refine MPB.exit ?_|refine MPB.condT rfl ?_|refine MPB.condF rfl ?_|refine MPB.cond rfl (And.intro (fun h => ?_) (fun h => ?_))|((conv => whnf); first|refine anF ?_|refine anT ?_|refine anK ?_|refine And.intro (fun h => ?_) (fun h => ?_)|refine Or.inl ?_)
      refine Exists.intro (j + 1) (And.intro hjl (And.intro (by omega) (And.intro rfl (ah ?_ ?_))))
      ·refine And.intro (congrArg some (ap (by omega))) ?_
       repeat' (first | exact trivial | refine And.intro rfl ?_)
      ·repeat' (first | exact trivial | refine And.intro rfl ?_)
     ·repeat' first|refine MPB.seq ?_|refine MPB.block ?_|refine MPB.reg hY aa dq (by kernel_rfl) ?_|refine MPB.skip ?_|refine MPB.label ?_|refine MPB.ret ?_|refine MPB.exit ?_|refine MPB.condT rfl ?_|refine MPB.condF rfl ?_|refine MPB.cond rfl (And.intro (fun h => ?_) (fun h => ?_))|((conv => whnf); first|refine anF ?_|refine anT ?_|refine anK ?_|refine And.intro (fun h => ?_) (fun h => ?_)|refine Or.inl ?_)
      exact fD.mk (Or.inl rfl) (Or.inr rfl)
    ·have hge : j = x.sl.length := by omega
     have bbj : decide ((j : Int) < ((x.sl.map aC).length : Int)) = true → False := fun h => by have := of_decide_eq_true h; omega
     repeat' first|exact (bbj (by assumption)).elim|refine MPB.seq ?_|refine MPB.block ?_|refine MPB.reg hY aa dq (by kernel_rfl) ?_|refine MPB.skip ?_|refine MPB.label ?_|refine MPB.ret ?_|refine MPB.exit ?_|refine MPB.condT rfl ?_|refine MPB.condF rfl ?_|refine MPB.cond rfl (And.intro (fun h => ?_) (fun h => ?_))|((conv => whnf); first|refine anF ?_|refine anT ?_|refine anK ?_|refine And.intro (fun h => ?_) (fun h => ?_)|refine Or.inl ?_)
     refine Exists.intro (i + 1) (And.intro hlt (And.intro (by omega) (And.intro (congrArg (Prod.mk false) (by rw [htk, hge])) (ah ?_ ?_))))
     ·refine And.intro (congrArg some (ap (by omega))) ?_
      repeat' (first | exact trivial | refine And.intro rfl ?_)
     ·repeat' (first | exact trivial | refine And.intro rfl ?_)
  ·have bbk : decide ((i : Int) < ((l.map aG).length : Int)) = true → False := fun h => by have := of_decide_eq_true h; simp at this; omega
   have he : l.take i = l := List.take_of_length_le (by omega)
   repeat' first|exact (bbk (by assumption)).elim|refine MPB.seq ?_|refine MPB.block ?_|refine MPB.reg hY aa dq (by kernel_rfl) ?_|refine MPB.skip ?_|refine MPB.label ?_|refine MPB.ret ?_|refine MPB.exit ?_|refine MPB.condT rfl ?_|refine MPB.condF rfl ?_|refine MPB.cond rfl (And.intro (fun h => ?_) (fun h => ?_))|((conv => whnf); first|refine anF ?_|refine anT ?_|refine anK ?_|refine And.intro (fun h => ?_) (fun h => ?_)|refine Or.inl ?_)
   exact fD.mk (Or.inr rfl) (Or.inl (congrArg (Prod.mk false) (by rw [he])))
end Go.Proofs
namespace Go.Proofs
open Go Go.Shelf
def rN : Go.Shelf.Ren := ⟨fun | 6 => 168 | 15 => 190 | 14 => 230 | 28 => 250 | 29 => 251 | 20 => 272 | 21 => 273 | 22 => 274 | 23 => 275 | 24 => 276 | 25 => 277 | 26 => 278 | 27 => 279 | 46 => 306 | 47 => 292 | 48 => 293 | 49 => 307 | 50 => 308 | 57 => 322 | n => n, fun | 22 => 57 | 24 => 74 | 25 => 155 | 3 => 3 | 39 => 254 | 0 => 0 | 53 => 299 | 55 => 301 | 4 => 4 | 46 => 293 | 45 => 292 | 50 => 118 | 5 => 5 | 9 => 9 | 66 => 325 | 70 => 329 | 76 => 346 | 77 => 347 | n => n, fun | n => n⟩
theorem rO : Go.Proofs.SlLaysF0.n6 Tryz.prog rN where
 mixed := by kernel_rfl
 f6 := ⟨Tryz.f168.name, by kernel_rfl, Tryz.func168.trans (congrArg some (by kernel_rfl))⟩
 f14 := ⟨Tryz.f230.name, by kernel_rfl, Tryz.func230.trans (congrArg some (by kernel_rfl))⟩
 f15 := Tryz.func190.trans (congrArg some (by kernel_rfl))
 f20 := ⟨Tryz.f272.name, by kernel_rfl, Tryz.func272.trans (congrArg some (by kernel_rfl))⟩
 f21 := ⟨Tryz.f273.name, by kernel_rfl, Tryz.func273.trans (congrArg some (by kernel_rfl))⟩
 f22 := ⟨Tryz.f274.name, by kernel_rfl, Tryz.func274.trans (congrArg some (by kernel_rfl))⟩
 f23 := ⟨Tryz.f275.name, by kernel_rfl, Tryz.func275.trans (congrArg some (by kernel_rfl))⟩
 f24 := ⟨Tryz.f276.name, by kernel_rfl, Tryz.func276.trans (congrArg some (by kernel_rfl))⟩
 f25 := ⟨Tryz.f277.name, by kernel_rfl, Tryz.func277.trans (congrArg some (by kernel_rfl))⟩
 f26 := ⟨Tryz.f278.name, by kernel_rfl, Tryz.func278.trans (congrArg some (by kernel_rfl))⟩
 f27 := ⟨Tryz.f279.name, by kernel_rfl, Tryz.func279.trans (congrArg some (by kernel_rfl))⟩
 f28 := Tryz.func250.trans (congrArg some (by kernel_rfl))
 f29 := Tryz.func251.trans (congrArg some (by kernel_rfl))
 f46 := ⟨Tryz.f306.name, by kernel_rfl, Tryz.func306.trans (congrArg some (by kernel_rfl))⟩
 f47 := Tryz.func292.trans (congrArg some (by kernel_rfl))
 f48 := Tryz.func293.trans (congrArg some (by kernel_rfl))
 f49 := ⟨Tryz.f307.name, by kernel_rfl, Tryz.func307.trans (congrArg some (by kernel_rfl))⟩
 f50 := ⟨Tryz.f308.name, by kernel_rfl, Tryz.func308.trans (congrArg some (by kernel_rfl))⟩
 f57 := ⟨Tryz.f322.name, by kernel_rfl, Tryz.func322.trans (congrArg some (by kernel_rfl))⟩
 t0 := Tryz.underlying0
 a0 := Tryz.isAgg0
 z0 := Tryz.sizeOf0
 v0 := Tryz.zeroValue0
 t3 := Tryz.underlying3
 a3 := Tryz.isAgg3
 z3 := Tryz.sizeOf3
 v3 := Tryz.zeroValue3
 t4 := Tryz.underlying4
 a4 := Tryz.isAgg4
 z4 := Tryz.sizeOf4
 v4 := Tryz.zeroValue4
 t5 := Tryz.underlying5
 a5 := Tryz.isAgg5
 z5 := Tryz.sizeOf5
 v5 := Tryz.zeroValue5
 t9 := Tryz.underlying9
 a9 := Tryz.isAgg9
 z9 := Tryz.sizeOf9
 v9 := Tryz.zeroValue9
 t22 := Tryz.underlying57
 a22 := Tryz.isAgg57
 z22 := Tryz.sizeOf57
 v22 := Tryz.zeroValue57
 t25 := Tryz.underlying155
 a25 := Tryz.isAgg155
 z25 := Tryz.sizeOf155
 v25 := Tryz.zeroValue155
 t39 := Tryz.underlying254
 a39 := Tryz.isAgg254
 z39 := Tryz.sizeOf254
 v39 := Tryz.zeroValue254
 t45 := Tryz.underlying292
 a45 := Tryz.isAgg292
 z45 := Tryz.sizeOf292
 v45 := Tryz.zeroValue292
 t46 := Tryz.underlying293
 a46 := Tryz.isAgg293
 z46 := Tryz.sizeOf293
 v46 := Tryz.zeroValue293
 t50 := Tryz.underlying118
 a50 := Tryz.isAgg118
 z50 := Tryz.sizeOf118
 v50 := Tryz.zeroValue118
 t53 := Tryz.underlying299
 a53 := Tryz.isAgg299
 z53 := Tryz.sizeOf299
 v53 := Tryz.zeroValue299
 t55 := Tryz.underlying301
 a55 := Tryz.isAgg301
 z55 := Tryz.sizeOf301
 v55 := Tryz.zeroValue301
 t66 := Tryz.underlying325
 a66 := Tryz.isAgg325
 z66 := Tryz.sizeOf325
 v66 := Tryz.zeroValue325
 t70 := Tryz.underlying329
 a70 := Tryz.isAgg329
 z70 := Tryz.sizeOf329
 v70 := Tryz.zeroValue329
 t76 := Tryz.underlying346
 a76 := Tryz.isAgg346
 z76 := Tryz.sizeOf346
 v76 := Tryz.zeroValue346
 t77 := Tryz.underlying347
 a77 := Tryz.isAgg347
 z77 := Tryz.sizeOf347
 v77 := Tryz.zeroValue347
end Go.Proofs
namespace Go.Proofs
open Go Go.Shelf
def rK : Go.Shelf.Ren := ⟨fun | 6 => 172 | 15 => 190 | 14 => 235 | 28 => 250 | 29 => 251 | 20 => 280 | 21 => 281 | 22 => 282 | 23 => 283 | 24 => 284 | 25 => 285 | 26 => 286 | 27 => 287 | 46 => 309 | 47 => 292 | 48 => 293 | 49 => 310 | 50 => 311 | 57 => 323 | n => n, fun | 22 => 239 | 24 => 241 | 25 => 243 | 3 => 3 | 39 => 254 | 0 => 0 | 53 => 299 | 55 => 301 | 4 => 4 | 46 => 293 | 45 => 292 | 50 => 118 | 5 => 5 | 9 => 9 | 66 => 325 | 70 => 329 | 76 => 346 | 77 => 347 | n => n, fun | n => n⟩
theorem rL : Go.Proofs.SlLaysF0.n6 Tryz.prog rK where
 mixed := by kernel_rfl
 f6 := ⟨Tryz.f172.name, by kernel_rfl, Tryz.func172.trans (congrArg some (by kernel_rfl))⟩
 f14 := ⟨Tryz.f235.name, by kernel_rfl, Tryz.func235.trans (congrArg some (by kernel_rfl))⟩
 f15 := Tryz.func190.trans (congrArg some (by kernel_rfl))
 f20 := ⟨Tryz.f280.name, by kernel_rfl, Tryz.func280.trans (congrArg some (by kernel_rfl))⟩
 f21 := ⟨Tryz.f281.name, by kernel_rfl, Tryz.func281.trans (congrArg some (by kernel_rfl))⟩
 f22 := ⟨Tryz.f282.name, by kernel_rfl, Tryz.func282.trans (congrArg some (by kernel_rfl))⟩
 f23 := ⟨Tryz.f283.name, by kernel_rfl, Tryz.func283.trans (congrArg some (by kernel_rfl))⟩
 f24 := ⟨Tryz.f284.name, by kernel_rfl, Tryz.func284.trans (congrArg some (by kernel_rfl))⟩
 f25 := ⟨Tryz.f285.name, by kernel_rfl, Tryz.func285.trans (congrArg some (by kernel_rfl))⟩
 f26 := ⟨Tryz.f286.name, by kernel_rfl, Tryz.func286.trans (congrArg some (by kernel_rfl))⟩
 f27 := ⟨Tryz.f287.name, by kernel_rfl, Tryz.func287.trans (congrArg some (by kernel_rfl))⟩
 f28 := Tryz.func250.trans (congrArg some (by kernel_rfl))
 f29 := Tryz.func251.trans (congrArg some (by kernel_rfl))
 f46 := ⟨Tryz.f309.name, by kernel_rfl, Tryz.func309.trans (congrArg some (by kernel_rfl))⟩
 f47 := Tryz.func292.trans (congrArg some (by kernel_rfl))
 f48 := Tryz.func293.trans (congrArg some (by kernel_rfl))
 f49 := ⟨Tryz.f310.name, by kernel_rfl, Tryz.func310.trans (congrArg some (by kernel_rfl))⟩
 f50 := ⟨Tryz.f311.name, by kernel_rfl, Tryz.func311.trans (congrArg some (by kernel_rfl))⟩
 f57 := ⟨Tryz.f323.name, by kernel_rfl, Tryz.func323.trans (congrArg some (by kernel_rfl))⟩
 t0 := Tryz.underlying0
 a0 := Tryz.isAgg0
 z0 := Tryz.sizeOf0
 v0 := Tryz.zeroValue0
 t3 := Tryz.underlying3
 a3 := Tryz.isAgg3
 z3 := Tryz.sizeOf3
 v3 := Tryz.zeroValue3
 t4 := Tryz.underlying4
 a4 := Tryz.isAgg4
 z4 := Tryz.sizeOf4
 v4 := Tryz.zeroValue4
 t5 := Tryz.underlying5
 a5 := Tryz.isAgg5
 z5 := Tryz.sizeOf5
 v5 := Tryz.zeroValue5
 t9 := Tryz.underlying9
 a9 := Tryz.isAgg9
 z9 := Tryz.sizeOf9
 v9 := Tryz.zeroValue9
 t22 := Tryz.underlying239
 a22 := Tryz.isAgg239
 z22 := Tryz.sizeOf239
 v22 := Tryz.zeroValue239
 t25 := Tryz.underlying243
 a25 := Tryz.isAgg243
 z25 := Tryz.sizeOf243
 v25 := Tryz.zeroValue243
 t39 := Tryz.underlying254
 a39 := Tryz.isAgg254
 z39 := Tryz.sizeOf254
 v39 := Tryz.zeroValue254
 t45 := Tryz.underlying292
 a45 := Tryz.isAgg292
 z45 := Tryz.sizeOf292
 v45 := Tryz.zeroValue292
 t46 := Tryz.underlying293
 a46 := Tryz.isAgg293
 z46 := Tryz.sizeOf293
 v46 := Tryz.zeroValue293
 t50 := Tryz.underlying118
 a50 := Tryz.isAgg118
 z50 := Tryz.sizeOf118
 v50 := Tryz.zeroValue118
 t53 := Tryz.underlying299
 a53 := Tryz.isAgg299
 z53 := Tryz.sizeOf299
 v53 := Tryz.zeroValue299
 t55 := Tryz.underlying301
 a55 := Tryz.isAgg301
 z55 := Tryz.sizeOf301
 v55 := Tryz.zeroValue301
 t66 := Tryz.underlying325
 a66 := Tryz.isAgg325
 z66 := Tryz.sizeOf325
 v66 := Tryz.zeroValue325
 t70 := Tryz.underlying329
 a70 := Tryz.isAgg329
 z70 := Tryz.sizeOf329
 v70 := Tryz.zeroValue329
 t76 := Tryz.underlying346
 a76 := Tryz.isAgg346
 z76 := Tryz.sizeOf346
 v76 := Tryz.zeroValue346
 t77 := Tryz.underlying347
 a77 := Tryz.isAgg347
 z77 := Tryz.sizeOf347
 v77 := Tryz.zeroValue347
end Go.Proofs
namespace Go.Proofs
open Go Go.AI
set_option maxRecDepth 10000
def l3 (x : ao) : List Int := [x.k, x.a, x.b]
instance : Inhabited ao := ⟨⟨0, 0, 0⟩⟩
def wn (x y : ao) : Int := orS [d7 x.k y.k, d7 x.a y.a]
theorem pD (x y : ao) : ae Tryz.prog 93 [.agg (aA x), .agg (aA y)] (.int .i64 (wn x y)) := by
 refine ag aa Tryz.func93 rfl (by kernel_rfl) af (Nat.le_of_ble_eq_true rfl) ?_
 intro F n' w0 m0 hG hro h1
 repeat' first|refine Q1 ?_|refine Q2 ?_|refine Q3 hG aa pI ?_|refine Q4 hG aa pI ?_|refine Q5 hG aa ?_|refine Q6 hG aa ?_|refine Q7 hG aa ?_|refine Q8 hG aa ?_|refine Q9 rfl ?_|refine QF rfl ?_|refine QC rfl ⟨fun h => ?_,fun h => ?_⟩|((conv => whnf); first|refine anF ?_|refine anT ?_|refine anK ?_|refine Exists.intro _ (And.intro (jZ _ _) ?_)|refine Exists.intro _ (And.intro (rZ [d7 x.k y.k, d7 x.a y.a] (Nat.le_of_ble_eq_true rfl)) ?_)|refine And.intro (fun h => ?_) (fun h => ?_)|refine Or.inl ?_)
 all_goals exact Ends.mk (Or.inl rfl) (ac rfl)
def kQ (x y : ao) : Bool := (x.k == y.k) && decide (y.a ≤ x.b)
theorem yq (x y : ao) : ae Tryz.prog 97 [.agg (aA x), .agg (aA y)] (.tup [.agg (aA ⟨x.k, x.a, max x.b y.b⟩), .bool (kQ x y)]) := by
 refine ag aa Tryz.func97 rfl (by kernel_rfl) af (Nat.le_of_ble_eq_true rfl) ?_
 intro F n' w0 m0 hG hro h1
 repeat' first|refine Q1 ?_|refine Q2 ?_|refine Q3 hG aa pG ?_|refine Q4 hG aa pG ?_|refine Q5 hG aa ?_|refine Q6 hG aa ?_|refine Q7 hG aa ?_|refine Q8 hG aa ?_|refine Q9 rfl ?_|refine QF rfl ?_|refine QC rfl ⟨fun h => ?_,fun h => ?_⟩|((conv => whnf); first|refine anF ?_|refine anT ?_|refine anK ?_|refine And.intro (fun h => ?_) (fun h => ?_)|refine Or.inl ?_)
 all_goals refine Ends.mk (Or.inl rfl) (ac (congrArg (fun z => AV.tup [.agg (aA ⟨x.k, x.a, max x.b y.b⟩), .bool z]) ?_))
 all_goals simp only [kQ, *, Bool.true_and, Bool.and_true, Bool.false_and, Bool.and_false, Bool.true_or, Bool.or_true, Bool.false_or, Bool.or_false, Bool.not_true, Bool.not_false]
theorem zl (x y : ao) : ltOf wn x y = true ↔ x.k < y.k ∨ (x.k = y.k ∧ x.a < y.a) := by
 unfold ltOf wn
 simp only [orS, d7, decide_eq_true_eq]
 by_cases h1 : x.k < y.k <;> by_cases h2 : y.k < x.k <;> by_cases h3 : x.a < y.a <;> by_cases h4 : y.a < x.a <;> simp [h1, h2, h3, h4] <;> omega
theorem up (x y : ao) : ltOf wn x y = false ↔ leL y x := by
 have h := zl x y
 unfold leL
 cases hb : ltOf wn x y with
 | true => have := h.1 hb; simp; omega
 | false =>
  have : ¬ (x.k < y.k ∨ (x.k = y.k ∧ x.a < y.a)) := fun g => by rw [h.2 g] at hb; cases hb
  simp; omega
theorem CC : Sort.SWO (ltOf wn) where
 irrefl x := by rw [up]; unfold leL; omega
 trans x y z h1 h2 := by rw [zl] at *; omega
 ntrans x y z h1 h2 := by rw [up] at *; unfold leL at *; omega
theorem rM (l : List ao) (hl : l.length ≤ 1000000) : du Tryz.prog 168 3 (l.map l3) [.fn 93] (fun r rows => r = .tup [] ∧ ∃ l' : List ao, l'.Perm l ∧ l'.Pairwise (fun x y => ltOf wn y x = false) ∧ rows = l'.map l3) :=
 du.sort l3 3 wn rO (fun _ => rfl) Tryz.isAgg74 Tryz.sizeOf74 CC (fun x y => pD x y) (pD ⟨0, 0, 0⟩ ⟨0, 0, 0⟩).enters (enters_of Tryz.func168 (by kernel_rfl) rfl) l (by omega)
theorem za (l : List ao) : bq (l.map l3) = l.map aA := by simp [bq, l3, aA]
def yQ : List ao → List (Nat × AV)
 | [] => [(7, .sl .full 0 [])]
 | x :: r => [(7, .me .sl 46 (x :: r).length []), (xk 46, .me .arr 46 3 ((x :: r).map aA))]
theorem iQ (o : List ao) (z : ao) : yQ (o ++ [z]) = [(7, .me .sl 46 (o.length + 1) []), (xk 46, .me .arr 46 3 ((o ++ [z]).map aA))] := by
 cases o with
 | nil => rfl
 | cons x r => simp [yQ]
theorem vj (o : List ao) (z x : ao) : yQ (o ++ [z] ++ [x]) = [(7, .me .sl 46 (o.length + 1 + 1) []), (xk 46, .me .arr 46 3 ((o ++ [z]).map aA ++ [aA x]))] := by
 rw [iQ, List.map_append, List.length_append]; rfl
theorem qz {α : Type} (a b : α) : ∀ l : List α, de (l ++ [a]) l.length b = l ++ [b]
 | [] => rfl
 | x :: l => by simp only [List.cons_append, List.length_cons, de, qz a b l]
theorem zY {l : List ao} (h : l ≠ []) : ∃ o z, dB l = o ++ [z] := by
 rcases bR l with rfl | ⟨m, x, rfl⟩
 ·exact absurd rfl h
 ·rw [dB, List.foldl_append]
  show ∃ o z, eB (dB m) x = o ++ [z]
  rcases bR (dB m) with e | ⟨o, y, e⟩
  ·rw [e]; exact ⟨[], x, rfl⟩
  ·rw [e, iY]
   split
   ·exact ⟨o, _, rfl⟩
   ·exact ⟨o ++ [y], x, rfl⟩
set_option maxHeartbeats 8000000 in
theorem yo (l : List ao) (hl : l.length ≤ 1000000) (hne : l ≠ []) : du Tryz.prog 96 3 (l.map l3) [.fn 93, .fn 97] (fun r _ => ∃ l' : List ao, l'.Perm l ∧ l'.Pairwise leL ∧ r = d5 (dB l')) := by
 refine du.ofRebase aa Tryz.func96 rfl (by kernel_rfl) af (Nat.le_of_ble_eq_true rfl) (by kernel_rfl) (by kernel_rfl) (by kernel_rfl) 2 (by kernel_rfl) ?_
 intro F n' b cap hro h1 w0 m0 hG
 refine SPB.out ?_
 refine Q4 hG aa bg ?_
 conv => whnf
 refine And.intro rfl ?_
 conv => whnf
 refine And.intro rfl (And.intro rfl (And.intro rfl (Exists.intro _ (And.intro (rM l hl) ?_))))
 rintro r rows ⟨rfl, l', hp, hs, rfl⟩ _ _
 conv => whnf
 intro _ _ w2 m2 hG2
 rw [za l']
 have hle : l'.Pairwise leL := hs.imp fun h => (up _ _).1 h
 have hn' : l'.length = l.length := hp.length_eq
 have hpos : 0 < l'.length := by rw [hn']; exact List.length_pos_iff.2 hne
 clear hG
 have hG := hG2
 refine SPB.out ?_
 refine Q1 ?_
 refine SPB.regN hG aa bg [7] (by kernel_rfl) ?_
 conv => whnf
 repeat' first|refine Q1 ?_|refine Q2 ?_|refine Q3 hG aa bg ?_|refine Q4 hG aa bg ?_|refine Q5 hG aa ?_|refine Q6 hG aa ?_|refine Q7 hG aa ?_|refine Q8 hG aa ?_|refine Q9 rfl ?_|refine QF rfl ?_|refine QC rfl ⟨fun h => ?_,fun h => ?_⟩|((conv => whnf); first|refine anF ?_|refine anT ?_|refine anK ?_|refine And.intro (fun h => ?_) (fun h => ?_)|refine Or.inl ?_)
 refine aw (X := Nat) (fun i => ⟨(18, .int .i64 i) :: (17, .int .i64 (l'.map aA).length) :: (16, d5 l') :: (2, .fn 97) :: yQ (dB (l'.take i)), []⟩) (fun i => i ≤ l'.length) (fun i => l'.length - i) 0 (Nat.zero_le _) (ah ?_ ?_) (fun i hi => ?_)
 ·repeat' (first | exact trivial | refine And.intro rfl ?_)
 ·repeat' (first | exact trivial | refine And.intro rfl ?_)
 ·by_cases hlt : i < l'.length
  ·have bbk : decide ((i : Int) < ((l'.map aA).length : Int)) = false → False := fun h => by have := of_decide_eq_false h; simp at this; omega
   have hx : (l'.map aA)[(i : Int).toNat]? = some (aA l'[i]) := by simp [List.getElem?_eq_getElem hlt]
   have hsn : dB (l'.take (i + 1)) = eB (dB (l'.take i)) l'[i] := by
    rw [dB, List.take_add_one, List.getElem?_eq_getElem hlt, List.foldl_append]; rfl
   have hbd : (dB (l'.take i)).length ≤ i := by
    have := ld (l'.take i) []
    simp only [List.length_nil, Nat.zero_add, List.length_take] at this
    unfold dB; omega
   generalize l'[i] = x at hx hsn
   generalize dB (l'.take i) = out at hsn hbd
   rcases bR out with rfl | ⟨o, z, rfl⟩
   ·have bb0 : decide ((([] : List (List AV)).length : Int) > 0) = true → False := fun h => by simp at h
    have bb1 : decide ((0 : Int) > 0) = true → False := fun h => by simp at h
    repeat' first|exact (bbk (by assumption)).elim|exact (bb0 (by assumption)).elim|exact (bb1 (by assumption)).elim|refine Q1 ?_|refine Q2 ?_|refine Q3 hG aa bg ?_|refine Q4 hG aa bg ?_|refine Q5 hG aa ?_|refine Q6 hG aa ?_|refine Q7 hG aa ?_|refine Q8 hG aa ?_|refine Q9 rfl ?_|refine QF rfl ?_|refine QC rfl ⟨fun h => ?_,fun h => ?_⟩|((conv => whnf); first|refine anF ?_|refine anT ?_|refine anK ?_|refine And.intro (Int.natCast_nonneg i) (Exists.intro _ (And.intro hx ?_))|refine Or.inr (And.intro rfl (And.intro (Nat.le_of_ble_eq_true rfl) (And.intro (Nat.le_of_ble_eq_true rfl) (And.intro (Nat.le_of_ble_eq_true rfl) ?_))))|refine And.intro (fun h => ?_) (fun h => ?_)|refine Or.inl ?_)
    refine Exists.intro (i + 1) (And.intro hlt (And.intro (by omega) ?_))
    dsimp only
    rw [hsn, show eB [] x = [x] from rfl]
    refine ah (And.intro (congrArg some (ap (by omega))) ?_) ?_
    ·repeat' (first | exact trivial | refine And.intro rfl ?_)
    ·repeat' (first | exact trivial | refine And.intro rfl ?_)
   ·rw [iQ]
    have hgt : decide (((o.length + 1 : Nat) : Int) > 0) = false → False := fun h => by have := of_decide_eq_false h; omega
    have hbo : o.length + 1 ≤ i := by simpa using hbd
    have hln : ((o ++ [z]).map aA).length = o.length + 1 := by simp
    have hw : IntKind.i64.wrap (((o.length + 1 : Nat) : Int) - 1) = (o.length : Int) := (am (by omega) (by omega)).trans (by omega)
    have h0 : 0 ≤ IntKind.i64.wrap (((o.length + 1 : Nat) : Int) - 1) := by rw [hw]; exact Int.natCast_nonneg _
    have hl1 : IntKind.i64.wrap (((o.length + 1 : Nat) : Int) - 1) < ((o.length + 1 : Nat) : Int) := by rw [hw]; omega
    have hz : ((o ++ [z]).map aA)[(IntKind.i64.wrap (((o.length + 1 : Nat) : Int) - 1)).toNat]? = some (aA z) := by rw [hw]; simp
    rw [iY] at hsn
    repeat' first|exact (bbk (by assumption)).elim|exact (hgt (by assumption)).elim|refine Q1 ?_|refine Q2 ?_|refine Q3 hG aa bg ?_|refine Q4 hG aa bg ?_|refine Q5 hG aa ?_|refine Q6 hG aa ?_|refine Q7 hG aa ?_|refine Q8 hG aa ?_|refine Q9 rfl ?_|refine QF rfl ?_|refine QC rfl ⟨fun h => ?_,fun h => ?_⟩|((conv => whnf); first|refine anF ?_|refine anT ?_|refine anK ?_|refine And.intro (Int.natCast_nonneg i) (Exists.intro _ (And.intro hx ?_))|refine And.intro h0 (And.intro hl1 ?_)|refine Exists.intro _ (And.intro hz ?_)|refine Exists.intro _ (And.intro (yq _ _) ?_)|refine And.intro (Nat.le_of_ble_eq_true rfl) (And.intro (show (((o ++ [z]).map aA).length + 1) * 24 ≤ 70368744177664 by rw [hln]; omega) (And.intro (show ((o ++ [z]).map aA).length + 1 ≤ 4611686018427387904 by rw [hln]; omega) ?_))|refine And.intro (fun h => ?_) (fun h => ?_)|refine Or.inl ?_)
    ·have ht := (by assumption : kQ z x = true)
     simp only [kQ, Bool.and_eq_true, beq_iff_eq, decide_eq_true_eq] at ht
     rw [if_pos ht] at hsn
     refine Exists.intro (i + 1) (And.intro hlt (And.intro (by omega) ?_))
     dsimp only
     rw [hsn, iQ]
     refine ah (And.intro (congrArg some (ap (by omega))) (And.intro rfl (And.intro rfl (And.intro rfl (And.intro rfl (And.intro (congrArg (fun q => some (AV.me .arr 46 3 q)) ?_) trivial)))))) ?_
     ·rw [hw, Int.toNat_natCast]
      have e := qz (aA z) (aA ⟨z.k, z.a, max z.b x.b⟩) (o.map aA)
      rw [List.length_map] at e
      rw [List.map_append, List.map_append]
      exact e
     ·repeat' (first | exact trivial | refine And.intro rfl ?_)
    ·have ht := (by assumption : kQ z x = false)
     have ht : ¬ (z.k = x.k ∧ x.a ≤ z.b) := fun h => by
      have : kQ z x = true := by simp only [kQ, Bool.and_eq_true, beq_iff_eq, decide_eq_true_eq]; exact h
      rw [this] at ht; cases ht
     rw [if_neg ht] at hsn
     refine Exists.intro (i + 1) (And.intro hlt (And.intro (by omega) ?_))
     dsimp only
     rw [hsn, vj]
     refine ah (And.intro (congrArg some (ap (by omega))) ?_) ?_
     ·repeat' (first | exact trivial | refine And.intro rfl ?_)
     ·repeat' (first | exact trivial | refine And.intro rfl ?_)
  ·have he : l'.take i = l' := List.take_of_length_le (by omega)
   have bbk : decide ((i : Int) < ((l'.map aA).length : Int)) = true → False := fun h => by have := of_decide_eq_true h; simp at this; omega
   rw [he]
   obtain ⟨o, z, hoz⟩ := zY (l := l') (by intro h; rw [h] at hpos; simp at hpos)
   rw [hoz, iQ]
   refine SPB.frz [.tmp 7] ?_
   conv => whnf
   repeat' first|exact (bbk (by assumption)).elim|refine Q1 ?_|refine Q2 ?_|refine Q3 hG aa bg ?_|refine Q4 hG aa bg ?_|refine Q5 hG aa ?_|refine Q6 hG aa ?_|refine Q7 hG aa ?_|refine Q8 hG aa ?_|refine Q9 rfl ?_|refine QF rfl ?_|refine QC rfl ⟨fun h => ?_,fun h => ?_⟩|((conv => whnf); first|refine anF ?_|refine anT ?_|refine anK ?_|refine And.intro (fun h => ?_) (fun h => ?_)|refine Or.inl ?_)
   refine Exists.intro (d5 (dB l')) (And.intro ⟨l', hp, hle, rfl⟩ (Ends.mk (Or.inl rfl) (ac ?_)))
   rw [hoz]; rfl
end Go.Proofs
namespace Go.Proofs
open Go Go.AI
set_option maxRecDepth 10000
theorem sx : ae Tryz.prog 96 [.sl .no 3 [], .fn 93, .fn 97] (d5 []) := by
 have ks := ae.sortNil rO (enters_of Tryz.func168 (by kernel_rfl) rfl) 3 93 (o := .no)
 refine ag aa Tryz.func96 rfl (by kernel_rfl) af (Nat.le_of_ble_eq_true rfl) ?_
 intro F n' w0 m0 hG hro h1
 repeat' first|refine Q1 ?_|refine Q2 ?_|refine Q3 hG aa bg ?_|refine Q4 hG aa bg ?_|refine Q5 hG aa ?_|refine Q6 hG aa ?_|refine Q7 hG aa ?_|refine Q8 hG aa ?_|refine Q9 rfl ?_|refine QF rfl ?_|refine QC rfl ⟨fun h => ?_,fun h => ?_⟩|((conv => whnf); first|refine anF ?_|refine anT ?_|refine anK ?_|refine Exists.intro _ (And.intro (ks) ?_)|refine And.intro (fun h => ?_) (fun h => ?_)|refine Or.inl ?_)
 refine aw (X := Unit) (fun _ => ⟨[(18, .int .i64 0), (17, .int .i64 0), (7, .sl (.id 7) 3 [])], []⟩) (fun _ => True) (fun _ => 0) () trivial (ah ?_ ?_) (fun i hi => ?_)
 ·repeat' (first | exact trivial | refine And.intro rfl ?_)
 ·repeat' (first | exact trivial | refine And.intro rfl ?_)
 ·have bb : decide ((0 : Int) < 0) = true → False := fun h => by simp at h
  repeat' first|exact (bb (by assumption)).elim|refine Q1 ?_|refine Q2 ?_|refine Q3 hG aa bg ?_|refine Q4 hG aa bg ?_|refine Q5 hG aa ?_|refine Q6 hG aa ?_|refine Q7 hG aa ?_|refine Q8 hG aa ?_|refine Q9 rfl ?_|refine QF rfl ?_|refine QC rfl ⟨fun h => ?_,fun h => ?_⟩|((conv => whnf); first|refine anF ?_|refine anT ?_|refine anK ?_|refine And.intro (fun h => ?_) (fun h => ?_)|refine Or.inl ?_)
  exact Ends.mk (Or.inl rfl) (ac rfl)
def vz (l : List Opt) : Bool := decide (8 < l.length)
theorem AE (l : List Opt) : CJ l = (bM l).any fun x => !ce x.1 x.2 := by
 unfold CJ bM
 rw [List.any_flatMap]
 congr 1
 funext o
 rw [List.any_map]; rfl
theorem rD (l : List Opt) : ws l = (vz l || mN l || (bM l).any fun x => !ce x.1 x.2) := by
 unfold ws; rw [AE]; rfl
theorem x8 : jU [] = [] := by simp [jU, dB]
theorem vk (l : List Opt) : (gZ l).length = l.length + (bM l).length := by rw [gZ, yS]; simp [io]
set_option maxHeartbeats 16000000 in
theorem rR (l : List Opt) (hl : l.length ≤ 1000000) (hs : ij l) (hsp : (bM l).length ≤ 900000) : ae Tryz.prog 27 [aP l] (d5 (aq l)) := by
 refine ae.ofBm aa Tryz.func27 rfl (by kernel_rfl) af (Nat.le_of_ble_eq_true rfl) ?_
 intro F n' w0 m0 hG hro h9 hm0
 repeat' first|refine Q1 ?_|refine Q2 ?_|refine Q3 hG aa aW ?_|refine Q4 hG aa aW ?_|refine Q5 hG aa ?_|refine Q6 hG aa ?_|refine Q7 hG aa ?_|refine Q8 hG aa ?_|refine Q9 rfl ?_|refine QF rfl ?_|refine QC rfl ⟨fun h => ?_,fun h => ?_⟩|((conv => whnf); first|refine anF ?_|refine anT ?_|refine anK ?_|refine And.intro (fun h => ?_) (fun h => ?_)|refine Or.inl ?_)
 have hn8 : decide (((l.map aG).length : Int) > 8) = vz l := by rw [List.length_map]; exact decide_eq_decide.2 (by omega)
 rw [hn8]
 refine SPB.resize 3 0 1003000 3 rfl rfl ?_
 refine aw (X := Nat) (fun i => ⟨[(14, .int .i64 i), (13, .int .i64 (l.map aG).length), (12, aP l), (4, .loc 4 0), (3, .loc 3 0), (0, aP l)], [(4, [.bool (vz l || mN (l.take i))]), (3, [.sl (.id 1003000) 3 ((io (l.take i)).map aA)])]⟩) (fun i => i ≤ l.length) (fun i => l.length - i) 0 (Nat.zero_le _) (ah ?_ ?_) (fun i hi => ?_)
 ·repeat' (first | exact trivial | refine And.intro rfl ?_)
 ·refine And.intro (congrArg (fun z => some [AV.bool z]) (by simp [mN])) ?_
  repeat' (first | exact trivial | refine And.intro rfl ?_)
 ·by_cases hlt : i < l.length
  ·have bbk : decide ((i : Int) < ((l.map aG).length : Int)) = false → False := fun h => by have := of_decide_eq_false h; simp at this; omega
   have hx := gp hlt
   have hsA : io (l.take (i + 1)) = io (l.take i) ++ [⟨1, (aD l i).a, (aD l i).b⟩] := by
    rw [List.take_add_one, List.getElem?_eq_getElem hlt, bT hlt]; exact List.map_append
   have hbA : mN (l.take (i + 1)) = (mN (l.take i) || (!ce (aD l i).a (aD l i).b || decide (6 < (aD l i).sl.length))) := by
    rw [List.take_add_one, List.getElem?_eq_getElem hlt, bT hlt]
    unfold mN
    rw [List.any_append]; simp
   have hln : ((io (l.take i)).map aA).length = i := by simp [io]; omega
   generalize aD l i = x at hx hsA hbA
   have h6 : decide (((x.sl.map aC).length : Int) > 6) = decide (6 < x.sl.length) := by rw [List.length_map]; exact decide_eq_decide.2 (by omega)
   have hrow : (io (l.take (i + 1))).map aA = (io (l.take i)).map aA ++ [[.int .i64 1, .int .i64 x.a, .int .i64 x.b]] := by rw [hsA, List.map_append]; rfl
   generalize (io (l.take i)).map aA = row at hln hrow
   obtain ⟨wb, hwb⟩ : ∃ wb, wb = (vz l || mN (l.take i)) := ⟨_, rfl⟩
   rw [← hwb]
   have hw2 : (vz l || mN (l.take (i + 1))) = (wb || (!ce x.a x.b || decide (6 < x.sl.length))) := by rw [hbA, hwb, Bool.or_assoc]
   repeat' first|exact (bbk (by assumption)).elim|refine Q1 ?_|refine Q2 ?_|refine Q3 hG aa aW ?_|refine Q4 hG aa aW ?_|refine Q5 hG aa ?_|refine Q6 hG aa ?_|refine Q7 hG aa ?_|refine Q8 hG aa ?_|refine Q9 rfl ?_|refine QF rfl ?_|refine QC rfl ⟨fun h => ?_,fun h => ?_⟩|((conv => whnf); first|refine anF ?_|refine anT ?_|refine anK ?_|refine And.intro (Int.natCast_nonneg i) (Exists.intro _ (And.intro hx ?_))|refine Exists.intro _ (And.intro (rG _ _) ?_)|refine And.intro (show (row.length + 1) * 24 ≤ 70368744177664 by omega) (And.intro (show row.length + 1 ≤ 4611686018427387904 by omega) ?_)|refine And.intro (fun h => ?_) (fun h => ?_)|refine Or.inl ?_)
   all_goals refine Exists.intro (i + 1) (And.intro hlt (And.intro (by omega) ?_))
   all_goals dsimp only
   all_goals rw [hw2, hrow]
   all_goals refine ah (And.intro (congrArg some (ap (by omega))) ?_) (And.intro (congrArg (fun z => some [AV.bool z]) ?_) ?_)
   all_goals first
    |(clear hwb hw2; simp only [h6, *, Bool.true_and, Bool.and_true, Bool.false_and, Bool.and_false, Bool.true_or, Bool.or_true, Bool.false_or, Bool.or_false, Bool.not_true, Bool.not_false]; done)
    |(repeat' (first | exact trivial | refine And.intro rfl ?_))
  ·have bbk : decide ((i : Int) < ((l.map aG).length : Int)) = true → False := fun h => by have := of_decide_eq_true h; simp at this; omega
   have he : l.take i = l := List.take_of_length_le (by omega)
   rw [he]
   repeat' first|exact (bbk (by assumption)).elim|refine Q1 ?_|refine Q2 ?_|refine Q3 hG aa aW ?_|refine Q4 hG aa aW ?_|refine Q5 hG aa ?_|refine Q6 hG aa ?_|refine Q7 hG aa ?_|refine Q8 hG aa ?_|refine Q9 rfl ?_|refine QF rfl ?_|refine QC rfl ⟨fun h => ?_,fun h => ?_⟩|((conv => whnf); first|refine anF ?_|refine anT ?_|refine anK ?_|refine Exists.intro _ (And.intro (oW l) ?_)|refine And.intro (fun h => ?_) (fun h => ?_)|refine Or.inl ?_)
   have hAB : gZ l = io l ++ (bM l).map (mkK 2) := by rw [gZ, yS]
   refine ⟨SP.rangeM hG hro (Nat.le_trans (by decide) h9) (α := Int × Int) spA (f := 166) (cap := [.ref [aP l]]) (items := bM l) rfl (jg l hl hs) (fun _ => rfl) (fun _ => [(4, .loc 4 0), (3, .loc 3 0)]) [4, 3] (fun _ => rfl)
    (fun pre => [(4, [.bool (vz l || mN l || pre.any fun x => !ce x.1 x.2)]), (3, [.sl (.id 1003000) 3 ((io l ++ pre.map (mkK 2)).map aA)])]) (ah ?_ ?_) (by kernel_rfl) (by decide) ?_ ?_⟩
   ·repeat' (first | exact trivial | refine And.intro rfl ?_)
   ·refine And.intro (congrArg (fun z => some [AV.bool z]) (by simp)) (And.intro (congrArg (fun z => some [AV.sl (.id 1003000) 3 z]) (by simp)) trivial)
   ·intro F' n'' m' hG' pre x rest hx
    clear hG
    have hG := hG'
    have hpl : pre.length < 1000000 := by
     have := congrArg List.length hx
     simp at this; omega
    have hrl : (io l).length ≤ 1000000 := by simp [io]; omega
    have hrow : (io l ++ (pre ++ [x]).map (mkK 2)).map aA = (io l ++ pre.map (mkK 2)).map aA ++ [[.int .i64 2, .int .i64 x.1, .int .i64 x.2]] := by simp [aA, mkK]
    have hln : ((io l ++ pre.map (mkK 2)).map aA).length ≤ 3000000 := by simp; omega
    generalize (io l ++ pre.map (mkK 2)).map aA = row at hln hrow
    obtain ⟨wb, hwb⟩ : ∃ wb, wb = (vz l || mN l || pre.any fun x => !ce x.1 x.2) := ⟨_, rfl⟩
    rw [← hwb]
    have hw2 : (vz l || mN l || (pre ++ [x]).any fun x => !ce x.1 x.2) = (wb || !ce x.1 x.2) := by rw [List.any_append, hwb]; simp [Bool.or_assoc]
    refine SPB.out (Q4 hG aa aW ?_)
    conv => whnf
    refine And.intro rfl (And.intro (ah ?_ ?_) ?_)
    ·repeat' (first | exact trivial | refine And.intro rfl ?_)
    ·repeat' (first | exact trivial | refine And.intro rfl ?_)
    refine SPB.out ?_
    repeat' first|refine Q1 ?_|refine Q2 ?_|refine Q3 hG aa aW ?_|refine Q4 hG aa aW ?_|refine Q5 hG aa ?_|refine Q6 hG aa ?_|refine Q7 hG aa ?_|refine Q8 hG aa ?_|refine Q9 rfl ?_|refine QF rfl ?_|refine QC rfl ⟨fun h => ?_,fun h => ?_⟩|((conv => whnf); first|refine anF ?_|refine anT ?_|refine anK ?_|refine Exists.intro _ (And.intro (rG _ _) ?_)|refine And.intro (show (row.length + 1) * 24 ≤ 70368744177664 by omega) (And.intro (show row.length + 1 ≤ 4611686018427387904 by omega) ?_)|refine And.intro (fun h => ?_) (fun h => ?_)|refine Or.inl ?_)
    all_goals (refine ah ?_ ?_)
    all_goals first
     |(dsimp only; rw [hw2, hrow]; clear hwb hw2; refine And.intro (congrArg (fun z => some [AV.bool z]) ?_) (And.intro rfl trivial); simp only [*, Bool.true_and, Bool.and_true, Bool.false_and, Bool.and_false, Bool.true_or, Bool.or_true, Bool.false_or, Bool.or_false, Bool.not_true, Bool.not_false]; done)
     |(repeat' (first | exact trivial | refine And.intro rfl ?_))
   ·conv => whnf
    by_cases hne : gZ l = []
    ·rw [← hAB, hne]
     repeat' first|refine Q1 ?_|refine Q2 ?_|refine Q3 hG aa aW ?_|refine Q4 hG aa aW ?_|refine Q5 hG aa ?_|refine Q6 hG aa ?_|refine Q7 hG aa ?_|refine Q8 hG aa ?_|refine Q9 rfl ?_|refine QF rfl ?_|refine QC rfl ⟨fun h => ?_,fun h => ?_⟩|((conv => whnf); first|refine anF ?_|refine anT ?_|refine anK ?_|refine Exists.intro _ (And.intro (sx) ?_)|refine And.intro (fun h => ?_) (fun h => ?_)|refine Or.inl ?_)
     ·refine Ends.mk (Or.inl rfl) (ac ?_)
      rw [aq, rD, if_pos ‹_›]; rfl
     ·refine Ends.mk (Or.inl rfl) (ac ?_)
      rw [aq, hne, x8]; split <;> rfl
    ·rw [← hAB]
     repeat' first|refine SPB.oreg (id := 16) hG aa hm0 aW 2 (by kernel_rfl) ?_|refine Q1 ?_|refine Q2 ?_|refine Q3 hG aa aW ?_|refine Q4 hG aa aW ?_|refine Q5 hG aa ?_|refine Q6 hG aa ?_|refine Q7 hG aa ?_|refine Q8 hG aa ?_|refine Q9 rfl ?_|refine QF rfl ?_|refine QC rfl ⟨fun h => ?_,fun h => ?_⟩|((conv => whnf); first|refine anF ?_|refine anT ?_|refine anK ?_|refine And.intro (fun h => ?_) (fun h => ?_)|refine Or.inl ?_)
     ·refine Ends.mk (Or.inl rfl) (ac ?_)
      rw [aq, rD, if_pos ‹_›]; rfl
     ·have hb : ws l = false := by rw [rD]; assumption
      have h8 : l.length ≤ 8 := by
       have := hb; unfold ws at this; simp at this; omega
      conv => whnf
      refine Exists.intro ((gZ l).map l3) (Exists.intro _ (And.intro (yo (gZ l) ?_ hne) (And.intro (za _).symm (And.intro ?_ (And.intro (by decide) (And.intro ?_ (And.intro rfl ?_)))))))
      ·rw [vk]; omega
      ·simpa using hne
      ·intro x hx; obtain ⟨y, _, rfl⟩ := List.mem_map.1 hx; rfl
      ·rintro r rows ⟨l', hp, hle, rfl⟩ _ _
       repeat' first|refine Q1 ?_|refine Q2 ?_|refine Q3 hG aa aW ?_|refine Q4 hG aa aW ?_|refine Q5 hG aa ?_|refine Q6 hG aa ?_|refine Q7 hG aa ?_|refine Q8 hG aa ?_|refine Q9 rfl ?_|refine QF rfl ?_|refine QC rfl ⟨fun h => ?_,fun h => ?_⟩|((conv => whnf); first|refine anF ?_|refine anT ?_|refine anK ?_|refine And.intro (fun h => ?_) (fun h => ?_)|refine Or.inl ?_)
       have hg := vR.1 hb
       refine Ends.mk (Or.inl rfl) (ac ?_)
       rw [vE (fun x h => (hg.raw x h).2.2.1) hp hle, ← hg.loads]; rfl
end Go.Proofs
namespace Go.Proofs
open Go Go.AI
set_option maxRecDepth 10000
def p2 (x : Int × Int) : List Int := [x.1, x.2]
def pA (x : Int × Int) : List AV := [.int .i64 x.1, .int .i64 x.2]
def wm (x y : Int × Int) : Int := d7 x.1 y.1
theorem ql (x y : Int × Int) : ltOf wm y x = false ↔ x.1 ≤ y.1 := by
 unfold ltOf wm
 simp only [d7]
 by_cases h1 : y.1 < x.1 <;> by_cases h2 : x.1 < y.1 <;> simp [h1, h2] <;> omega
theorem Ew (x y : Int × Int) : ltOf wm x y = true ↔ x.1 < y.1 := by
 have := ql y x
 cases h : ltOf wm x y
 ·simp; exact this.1 h
 ·simp
  rw [h] at this
  simp at this; exact this
theorem CB : Sort.SWO (ltOf wm) where
 irrefl x := by rw [ql]; omega
 trans x y z h1 h2 := by rw [Ew] at *; omega
 ntrans x y z h1 h2 := by rw [ql] at *; omega
theorem og (x y : Int × Int) : ae Tryz.prog 173 [.agg (pA x), .agg (pA y)] (.int .i64 (wm x y)) := by
 refine ag aa Tryz.func173 rfl (by kernel_rfl) af (Nat.le_of_ble_eq_true rfl) ?_
 intro F n' w0 m0 hG hro h1
 repeat' first|refine Q1 ?_|refine Q2 ?_|refine Q3 hG aa nC ?_|refine Q4 hG aa nC ?_|refine Q5 hG aa ?_|refine Q6 hG aa ?_|refine Q7 hG aa ?_|refine Q8 hG aa ?_|refine Q9 rfl ?_|refine QF rfl ?_|refine QC rfl ⟨fun h => ?_,fun h => ?_⟩|((conv => whnf); first|refine anF ?_|refine anT ?_|refine anK ?_|refine Exists.intro _ (And.intro (jZ _ _) ?_)|refine And.intro (fun h => ?_) (fun h => ?_)|refine Or.inl ?_)
 all_goals exact Ends.mk (Or.inl rfl) (ac rfl)
theorem rJ (l : List (Int × Int)) (hl : l.length ≤ 4000000) : du Tryz.prog 172 2 (l.map p2) [.fn 173] (fun r rows => r = .tup [] ∧ ∃ l' : List (Int × Int), l'.Perm l ∧ l'.Pairwise (fun x y => ltOf wm y x = false) ∧ rows = l'.map p2) :=
 du.sort p2 2 wm rL (fun _ => rfl) Tryz.isAgg241 Tryz.sizeOf241 CB (fun x y => og x y) (og (0, 0) (0, 0)).enters (enters_of Tryz.func172 (by kernel_rfl) rfl) l (by omega)
theorem y9 (l : List (Int × Int)) : bq (l.map p2) = l.map pA := by simp [bq, p2, pA]
def B0 : List (Int × Int) → List (Nat × AV)
 | [] => [(3, .sl .full 0 [])]
 | x :: r => [(3, .me .sl 30 (x :: r).length []), (xk 30, .me .arr 30 2 ((x :: r).map pA))]
theorem xE (z : Int × Int) (o : List (Int × Int)) (a b : Int × Int) : B0 (z :: o ++ [a, b]) = [(3, .me .sl 30 ((z :: o).length + 2) []), (xk 30, .me .arr 30 2 ((z :: o).map pA ++ [pA a, pA b]))] := by
 simp [B0]
def rh : Img := ⟨0, 0, 0, 0⟩
theorem xx {l : List Img} {i : Nat} (h : i < l.length) : bk (l.take (i + 1)) = bk (l.take i) ++ [((l.getD i rh).a, (l.getD i rh).u), ((l.getD i rh).b, 0 - (l.getD i rh).u)] := by
 induction l generalizing i with
 | nil => simp at h
 | cons x r ih =>
  cases i with
  | zero => rfl
  | succ i => 
   have := ih (i := i) (by simpa using h)
   simp only [List.take_succ_cons, bk, this, List.getD_cons_succ, List.cons_append]
theorem Cj {l : List Img} {i : Nat} (h : i < l.length) : (l.map gw)[(i : Int).toNat]? = some (gw (l.getD i rh)) := by simp [List.getElem?_eq_getElem h]
theorem ot : ∀ l : List Img, (bk l).length = 2 * l.length
 | [] => rfl
 | x :: r => by simp only [bk, List.length_cons, ot r]; omega
theorem we (f : Int) (x y : Int × Int) (r : List (Int × Int)) : bO f (x :: y :: r) = if y.1 = x.1 then bO (f + x.2) (y :: r) else (x.1, f + x.2) :: bO (f + x.2) (y :: r) := rfl
theorem u9 : ∀ (l : List Img), (∀ x ∈ l, 0 ≤ x.u ∧ x.u ≤ 1000000) → ∀ p ∈ bk l, -1000000 ≤ p.2 ∧ p.2 ≤ 1000000
 | [], _, p, hp => nomatch hp
 | x :: r, h, p, hp => by
  have h1 := h x (.head _)
  simp only [bk, List.mem_cons] at hp
  rcases hp with rfl | rfl | hp
  ·dsimp only; omega
  ·dsimp only; omega
  ·exact u9 r (fun y hy => h y (.tail _ hy)) p hp
theorem wl {α : Type} {l : List α} {k : Nat} {a : α} {t : List α} (h : a :: t = l.drop k) : l[k]? = some a ∧ t = l.drop (k + 1) ∧ k < l.length := by
 have h1 : (l.drop k)[0]? = some a := by rw [← h]; rfl
 rw [List.getElem?_drop] at h1
 refine ⟨by simpa using h1, ?_, (List.getElem?_eq_some_iff.1 (by simpa using h1)).1⟩
 have := congrArg List.tail h
 rw [List.tail_drop] at this
 exact this
theorem rW (l : List Img) : ae Tryz.prog 106 [gP l] (.clo 171 [.ref [gP l]]) := by
 refine ag aa Tryz.func106 rfl (by kernel_rfl) af (Nat.le_of_ble_eq_true rfl) ?_
 intro F n' w0 m0 hG hro h1
 repeat' first|refine Q1 ?_|refine Q2 ?_|refine Q3 hG aa ob ?_|refine Q4 hG aa ob ?_|refine Q5 hG aa ?_|refine Q6 hG aa ?_|refine Q7 hG aa ?_|refine Q8 hG aa ?_|refine Q9 rfl ?_|refine QF rfl ?_|refine QC rfl ⟨fun h => ?_,fun h => ?_⟩|((conv => whnf); first|refine anF ?_|refine anT ?_|refine anK ?_|refine And.intro (fun h => ?_) (fun h => ?_)|refine Or.inl ?_)
 all_goals exact Ends.mk (Or.inl rfl) (ac rfl)
set_option maxHeartbeats 8000000 in
theorem kN (l : List Img) (hl : l.length ≤ 1000000) (hu : ∀ x ∈ l, 0 ≤ x.u ∧ x.u ≤ 1000000) : jv Tryz.prog pA 171 [.ref [gP l]] (bf l) := by
 refine jv.of Tryz.func171 rfl (by kernel_rfl) af (Nat.le_of_ble_eq_true rfl) rfl ?_
 intro F n m y J Jx hY
 have ks := ae.sortNil rL (enters_of Tryz.func172 (by kernel_rfl) rfl) 0 173 (o := .full)
 have hbd := u9 l hu
 refine MPB.seq ?_
 refine MPB.sp (by kernel_rfl) (fun W0 m0 hG hms => ?_) hY
 refine SPB.regN hG aa ay [3] (by kernel_rfl) ?_
 conv => whnf
 refine MPB.seq ?_
 refine MPB.sp (by kernel_rfl) (fun W0 m0 hG hms => ?_) hY
 repeat' first|refine Q1 ?_|refine Q2 ?_|refine Q3 hG aa ay ?_|refine Q4 hG aa ay ?_|refine Q5 hG aa ?_|refine Q6 hG aa ?_|refine Q7 hG aa ?_|refine Q8 hG aa ?_|refine Q9 rfl ?_|refine QF rfl ?_|refine QC rfl ⟨fun h => ?_,fun h => ?_⟩|((conv => whnf); first|refine anF ?_|refine anT ?_|refine anK ?_|refine And.intro (fun h => ?_) (fun h => ?_)|refine Or.inl ?_)
 refine aw (X := Nat) (fun i => ⟨(11, .int .i64 i) :: (10, .int .i64 (l.map gw).length) :: (9, gP l) :: (0, .lit (.func (.yield y) #[] #[])) :: B0 (bk (l.take i)), []⟩) (fun i => i ≤ l.length) (fun i => l.length - i) 0 (Nat.zero_le _) (ah ?_ ?_) (fun i hi => ?_)
 ·repeat' (first | exact trivial | refine And.intro rfl ?_)
 ·repeat' (first | exact trivial | refine And.intro rfl ?_)
 ·by_cases hlt : i < l.length
  ·have bbk : decide ((i : Int) < ((l.map gw).length : Int)) = false → False := fun h => by have := of_decide_eq_false h; simp at this; omega
   have hx := Cj hlt
   have hux : 0 ≤ (l.getD i rh).u ∧ (l.getD i rh).u ≤ 1000000 := hu _ (by rw [List.getD_eq_getElem?_getD, List.getElem?_eq_getElem hlt]; exact List.getElem_mem hlt)
   have hst := xx hlt
   have hln : (bk (l.take i)).length = 2 * i := by rw [ot, List.length_take]; omega
   generalize l.getD i rh = x at hx hux hst
   have hng : IntKind.i64.wrap (0 - x.u) = 0 - x.u := (am (by omega) (by omega)).trans (by omega)
   generalize bk (l.take i) = st at hst hln
   rcases st with _ | ⟨z, o⟩
   ·skip
    repeat' first|exact (bbk (by assumption)).elim|refine Q1 ?_|refine Q2 ?_|refine Q3 hG aa ay ?_|refine Q4 hG aa ay ?_|refine Q5 hG aa ?_|refine Q6 hG aa ?_|refine Q7 hG aa ?_|refine Q8 hG aa ?_|refine Q9 rfl ?_|refine QF rfl ?_|refine QC rfl ⟨fun h => ?_,fun h => ?_⟩|((conv => whnf); first|refine anF ?_|refine anT ?_|refine anK ?_|refine And.intro (Int.natCast_nonneg i) (Exists.intro _ (And.intro hx ?_))|refine Or.inr (And.intro rfl (And.intro (Nat.le_of_ble_eq_true rfl) (And.intro (Nat.le_of_ble_eq_true rfl) (And.intro (Nat.le_of_ble_eq_true rfl) ?_))))|refine And.intro (fun h => ?_) (fun h => ?_)|refine Or.inl ?_)
    conv => whnf
    refine Exists.intro (i + 1) (And.intro hlt (And.intro (by omega) ?_))
    rw [hst, hng]
    refine ah (And.intro (congrArg some (ap (by omega))) ?_) ?_
    ·repeat' (first | exact trivial | refine And.intro rfl ?_)
    ·repeat' (first | exact trivial | refine And.intro rfl ?_)
   ·have hml : ((z :: o).map pA).length = 2 * i := by rw [List.length_map]; exact hln
    repeat' first|exact (bbk (by assumption)).elim|refine Q1 ?_|refine Q2 ?_|refine Q3 hG aa ay ?_|refine Q4 hG aa ay ?_|refine Q5 hG aa ?_|refine Q6 hG aa ?_|refine Q7 hG aa ?_|refine Q8 hG aa ?_|refine Q9 rfl ?_|refine QF rfl ?_|refine QC rfl ⟨fun h => ?_,fun h => ?_⟩|((conv => whnf); first|refine anF ?_|refine anT ?_|refine anK ?_|refine And.intro (Int.natCast_nonneg i) (Exists.intro _ (And.intro hx ?_))|refine And.intro (Nat.le_of_ble_eq_true rfl) (And.intro (show (((z :: o).map pA).length + 2) * 16 ≤ 70368744177664 by rw [hml]; omega) (And.intro (show ((z :: o).map pA).length + 2 ≤ 4611686018427387904 by rw [hml]; omega) ?_))|refine And.intro (fun h => ?_) (fun h => ?_)|refine Or.inl ?_)
    conv => whnf
    refine Exists.intro (i + 1) (And.intro hlt (And.intro (by omega) ?_))
    rw [hst, xE, hng]
    refine ah (And.intro (congrArg some (ap (by omega))) ?_) ?_
    ·repeat' (first | exact trivial | refine And.intro rfl ?_)
    ·repeat' (first | exact trivial | refine And.intro rfl ?_)
  ·have he : l.take i = l := List.take_of_length_le (by omega)
   have bbk : decide ((i : Int) < ((l.map gw).length : Int)) = true → False := fun h => by have := of_decide_eq_true h; simp at this; omega
   rw [he]
   have hln := ot l
   have hbd := hbd
   have hfl := fun (s : List (Int × Int)) (hp : s.Perm (bk l)) (hs : s.Pairwise fun x y => x.1 ≤ y.1) => rn hp hs
   generalize bk l = st at hln hfl hbd
   rcases st with _ | ⟨z, o⟩
   ·have hf0 := hfl [] (.refl _) .nil
    repeat' first|exact (bbk (by assumption)).elim|refine Q1 ?_|refine Q2 ?_|refine Q3 hG aa ay ?_|refine Q4 hG aa ay ?_|refine Q5 hG aa ?_|refine Q6 hG aa ?_|refine Q7 hG aa ?_|refine Q8 hG aa ?_|refine Q9 rfl ?_|refine QF rfl ?_|refine QC rfl ⟨fun h => ?_,fun h => ?_⟩|((conv => whnf); first|refine anF ?_|refine anT ?_|refine anK ?_|refine And.intro (fun h => ?_) (fun h => ?_)|refine Or.inl ?_)
    refine MPB.seq ?_
    refine MPB.sp (by kernel_rfl) (fun W0 m0 hG hms => ?_) hY
    refine Q4 hG aa ay ?_
    repeat' first|refine MPB.sp (c := .region _ _ true) (by kernel_rfl) (fun W0 m0 hG hms => ?_) hY|refine Q3 hG aa ay ?_|refine MPB.seq ?_|refine MPB.block ?_|refine MPB.reg hY aa ay (by kernel_rfl) ?_|refine MPB.skip ?_|refine MPB.label ?_|refine MPB.ret ?_|refine MPB.exit ?_|refine MPB.condT rfl ?_|refine MPB.condF rfl ?_|refine MPB.cond rfl (And.intro (fun h => ?_) (fun h => ?_))|((conv => whnf); first|refine anF ?_|refine anT ?_|refine anK ?_|refine Exists.intro _ (And.intro (ks) ?_)|refine And.intro (fun h => ?_) (fun h => ?_)|refine Or.inl ?_)
    refine MPB.loop (X := Unit) (fun _ => ((false, 0), ⟨[(36, .int .i64 0), (35, .int .i64 0), (0, .lit (.func (.yield y) #[] #[]))], []⟩)) (fun _ => True) (fun _ => 0) () trivial rfl (ah ?_ ?_) (fun _ _ => ?_)
    ·repeat' (first | exact trivial | refine And.intro rfl ?_)
    ·repeat' (first | exact trivial | refine And.intro rfl ?_)
    ·have bb0 : decide ((0 : Int) < 0) = true → False := fun h => by simp at h
     repeat' first|exact (bb0 (by assumption)).elim|refine MPB.seq ?_|refine MPB.block ?_|refine MPB.reg hY aa ay (by kernel_rfl) ?_|refine MPB.skip ?_|refine MPB.label ?_|refine MPB.ret ?_|refine MPB.exit ?_|refine MPB.condT rfl ?_|refine MPB.condF rfl ?_|refine MPB.cond rfl (And.intro (fun h => ?_) (fun h => ?_))|((conv => whnf); first|refine anF ?_|refine anT ?_|refine anK ?_|refine And.intro (fun h => ?_) (fun h => ?_)|refine Or.inl ?_)
     exact fD.mk (Or.inr rfl) (Or.inl (congrArg (Prod.mk false) (by rw [← hf0]; rfl)))
   ·skip
    repeat' first|exact (bbk (by assumption)).elim|refine Q1 ?_|refine Q2 ?_|refine Q3 hG aa ay ?_|refine Q4 hG aa ay ?_|refine Q5 hG aa ?_|refine Q6 hG aa ?_|refine Q7 hG aa ?_|refine Q8 hG aa ?_|refine Q9 rfl ?_|refine QF rfl ?_|refine QC rfl ⟨fun h => ?_,fun h => ?_⟩|((conv => whnf); first|refine anF ?_|refine anT ?_|refine anK ?_|refine And.intro (fun h => ?_) (fun h => ?_)|refine Or.inl ?_)
    refine MPB.seq ?_
    refine MPB.sp (by kernel_rfl) (fun W0 m0 hG hms => ?_) hY
    refine SPB.oregX hG aa ay 1 (by kernel_rfl) ?_
    conv => whnf
    refine Exists.intro ((z :: o).map p2) (Exists.intro _ (And.intro (rJ (z :: o) ?_) (And.intro (y9 _).symm (And.intro ?_ ?_))))
    ·omega
    ·intro x hx; obtain ⟨y, _, rfl⟩ := List.mem_map.1 hx; rfl
    ·rintro r rows ⟨rfl, s, hp, hs, rfl⟩ _ _
     conv => whnf
     rw [y9]
     have hs' : s.Pairwise fun x y => x.1 ≤ y.1 := hs.imp fun h => (ql _ _).1 h
     have hf := hfl s hp hs'
     have hbs : ∀ p ∈ s, -1000000 ≤ p.2 ∧ p.2 ≤ 1000000 := fun p h => hbd p (hp.mem_iff.1 h)
     have hsl : s.length ≤ 2000000 := by have := hp.length_eq; omega
     repeat' first|refine MPB.seq ?_|refine MPB.block ?_|refine MPB.reg hY aa ay (by kernel_rfl) ?_|refine MPB.skip ?_|refine MPB.label ?_|refine MPB.ret ?_|refine MPB.exit ?_|refine MPB.condT rfl ?_|refine MPB.condF rfl ?_|refine MPB.cond rfl (And.intro (fun h => ?_) (fun h => ?_))|((conv => whnf); first|refine anF ?_|refine anT ?_|refine anK ?_|refine And.intro (fun h => ?_) (fun h => ?_)|refine Or.inl ?_)
     refine MPB.loop (X := Nat × Int × Nat) (fun x => ((false, x.2.2), ⟨[(36, .int .i64 x.1), (35, .int .i64 (s.map pA).length), (34, .sl .no 2 (s.map pA)), (3, .sl .no 2 (s.map pA)), (6, .int .i64 x.2.1), (0, .lit (.func (.yield y) #[] #[]))], []⟩)) (fun x => x.1 ≤ s.length ∧ bO x.2.1 (s.drop x.1) = (bf l).drop x.2.2 ∧ x.2.2 ≤ (bf l).length ∧ -1000000 * (x.1 : Int) ≤ x.2.1 ∧ x.2.1 ≤ 1000000 * (x.1 : Int)) (fun x => s.length - x.1) (0, 0, 0) ⟨Nat.zero_le _, hf, Nat.zero_le _, by decide, by decide⟩ rfl (ah ?_ ?_) (fun x hI => ?_)
     ·repeat' (first | exact trivial | refine And.intro rfl ?_)
     ·repeat' (first | exact trivial | refine And.intro rfl ?_)
     ·obtain ⟨j, f, k⟩ := x
      obtain ⟨hj, hfr, hk, hf1, hf2⟩ := hI
      simp only at hj hfr hk hf1 hf2 ⊢
      by_cases hjl : j < s.length
      ·have bbj : decide ((j : Int) < ((s.map pA).length : Int)) = false → False := fun h => by have := of_decide_eq_false h; simp at this; omega
       have hx : (s.map pA)[(j : Int).toNat]? = some (pA s[j]) := by simp [List.getElem?_eq_getElem hjl]
       have hxb := hbs s[j] (List.getElem_mem hjl)
       rw [List.drop_eq_getElem_cons hjl] at hfr
       have hw1 : IntKind.i64.wrap ((j : Int) + 1) = ((j + 1 : Nat) : Int) := (am (by omega) (by omega)).trans (by omega)
       generalize s[j] = x at hx hxb hfr
       have hwf : IntKind.i64.wrap (f + x.2) = f + x.2 := am (by omega) (by omega)
       by_cases hj1 : j + 1 < s.length
       ·have bb1 : decide (IntKind.i64.wrap ((j : Int) + 1) < ((s.map pA).length : Int)) = false → False := fun h => by rw [hw1] at h; have := of_decide_eq_false h; simp at this; omega
        have hy : (s.map pA)[(IntKind.i64.wrap ((j : Int) + 1)).toNat]? = some (pA s[j + 1]) := by rw [hw1, Int.toNat_natCast]; simp [List.getElem?_eq_getElem hj1]
        have h0 : 0 ≤ IntKind.i64.wrap ((j : Int) + 1) := by rw [hw1]; exact Int.natCast_nonneg _
        rw [List.drop_eq_getElem_cons hj1, we, ← List.drop_eq_getElem_cons hj1] at hfr
        generalize s[j + 1] = z at hy hfr
        repeat' first|exact (bbj (by assumption)).elim|exact (bb1 (by assumption)).elim|refine MPB.sp (c := .region _ _ true) (by kernel_rfl) (fun W0 m0 hG hms => ?_) hY|refine Q3 hG aa ay ?_|refine MPB.seq ?_|refine MPB.block ?_|refine MPB.reg hY aa ay (by kernel_rfl) ?_|refine MPB.skip ?_|refine MPB.label ?_|refine MPB.ret ?_|refine MPB.exit ?_|refine MPB.condT rfl ?_|refine MPB.condF rfl ?_|refine MPB.cond rfl (And.intro (fun h => ?_) (fun h => ?_))|((conv => whnf); first|refine anF ?_|refine anT ?_|refine anK ?_|refine And.intro (Int.natCast_nonneg j) (Exists.intro _ (And.intro hx ?_))|refine And.intro h0 (Exists.intro _ (And.intro hy ?_))|refine And.intro (fun h => ?_) (fun h => ?_)|refine Or.inl ?_)
        ·have hzx := beq_iff_eq.1 (by assumption : (z.1 == x.1) = true)
         rw [if_pos hzx] at hfr
         refine Exists.intro (j + 1, f + x.2, k) (And.intro ⟨hjl, hfr, hk, show -1000000 * ((j + 1 : Nat) : Int) ≤ f + x.2 by omega, show f + x.2 ≤ 1000000 * ((j + 1 : Nat) : Int) by omega⟩ (And.intro (show s.length - (j + 1) < s.length - j by omega) (And.intro rfl (ah ?_ ?_))))
         ·exact And.intro (congrArg some (ap (by omega))) (And.intro rfl (And.intro rfl (And.intro rfl (And.intro (congrArg (fun z => some (AV.int .i64 z)) hwf) (And.intro rfl trivial)))))
         ·repeat' (first | exact trivial | refine And.intro rfl ?_)
        ·have hzx : ¬ z.1 = x.1 := fun h => by have := (by assumption : (z.1 == x.1) = false); rw [h] at this; simp at this
         rw [if_neg hzx] at hfr
         obtain ⟨hg1, hg2, hg3⟩ := wl hfr
         refine Exists.intro (x.1, f + x.2) (And.intro hg1 (And.intro (congrArg (fun z => [AV.int .i64 x.1, AV.int .i64 z]) hwf) (fun t ht => ?_)))
         subst ht
         refine And.intro ?_ ?_
         ·skip
          repeat' first|refine MPB.seq ?_|refine MPB.block ?_|refine MPB.reg hY aa ay (by kernel_rfl) ?_|refine MPB.skip ?_|refine MPB.label ?_|refine MPB.ret ?_|refine MPB.exit ?_|refine MPB.condT rfl ?_|refine MPB.condF rfl ?_|refine MPB.cond rfl (And.intro (fun h => ?_) (fun h => ?_))|((conv => whnf); first|refine anF ?_|refine anT ?_|refine anK ?_|refine And.intro (fun h => ?_) (fun h => ?_)|refine Or.inl ?_)
          refine Exists.intro (j + 1, f + x.2, k + 1) (And.intro ⟨hjl, hg2, hg3, show -1000000 * ((j + 1 : Nat) : Int) ≤ f + x.2 by omega, show f + x.2 ≤ 1000000 * ((j + 1 : Nat) : Int) by omega⟩ (And.intro (show s.length - (j + 1) < s.length - j by omega) (And.intro rfl (ah ?_ ?_))))
          ·exact And.intro (congrArg some (ap (by omega))) (And.intro rfl (And.intro rfl (And.intro rfl (And.intro (congrArg (fun z => some (AV.int .i64 z)) hwf) (And.intro rfl trivial)))))
          ·repeat' (first | exact trivial | refine And.intro rfl ?_)
         ·skip
          repeat' first|refine MPB.seq ?_|refine MPB.block ?_|refine MPB.reg hY aa ay (by kernel_rfl) ?_|refine MPB.skip ?_|refine MPB.label ?_|refine MPB.ret ?_|refine MPB.exit ?_|refine MPB.condT rfl ?_|refine MPB.condF rfl ?_|refine MPB.cond rfl (And.intro (fun h => ?_) (fun h => ?_))|((conv => whnf); first|refine anF ?_|refine anT ?_|refine anK ?_|refine And.intro (fun h => ?_) (fun h => ?_)|refine Or.inl ?_)
          exact fD.mk (Or.inl rfl) (Or.inr rfl)
       ·have bb1 : decide (IntKind.i64.wrap ((j : Int) + 1) < ((s.map pA).length : Int)) = true → False := fun h => by rw [hw1] at h; have := of_decide_eq_true h; simp at this; omega
        repeat' first|exact (bbj (by assumption)).elim|exact (bb1 (by assumption)).elim|refine MPB.sp (c := .region _ _ true) (by kernel_rfl) (fun W0 m0 hG hms => ?_) hY|refine Q3 hG aa ay ?_|refine MPB.seq ?_|refine MPB.block ?_|refine MPB.reg hY aa ay (by kernel_rfl) ?_|refine MPB.skip ?_|refine MPB.label ?_|refine MPB.ret ?_|refine MPB.exit ?_|refine MPB.condT rfl ?_|refine MPB.condF rfl ?_|refine MPB.cond rfl (And.intro (fun h => ?_) (fun h => ?_))|((conv => whnf); first|refine anF ?_|refine anT ?_|refine anK ?_|refine And.intro (Int.natCast_nonneg j) (Exists.intro _ (And.intro hx ?_))|refine And.intro (fun h => ?_) (fun h => ?_)|refine Or.inl ?_)
        have hde : s.drop (j + 1) = [] := List.drop_of_length_le (by omega)
        rw [hde] at hfr
        obtain ⟨hg1, hg2, hg3⟩ := wl (show (x.1, f + x.2) :: [] = (bf l).drop k from hfr)
        rw [← show bO (f + x.2) (s.drop (j + 1)) = [] by rw [hde]; rfl] at hg2
        refine Exists.intro (x.1, f + x.2) (And.intro hg1 (And.intro (congrArg (fun z => [AV.int .i64 x.1, AV.int .i64 z]) hwf) (fun t ht => ?_)))
        subst ht
        refine And.intro ?_ ?_
        ·skip
         repeat' first|refine MPB.seq ?_|refine MPB.block ?_|refine MPB.reg hY aa ay (by kernel_rfl) ?_|refine MPB.skip ?_|refine MPB.label ?_|refine MPB.ret ?_|refine MPB.exit ?_|refine MPB.condT rfl ?_|refine MPB.condF rfl ?_|refine MPB.cond rfl (And.intro (fun h => ?_) (fun h => ?_))|((conv => whnf); first|refine anF ?_|refine anT ?_|refine anK ?_|refine And.intro (fun h => ?_) (fun h => ?_)|refine Or.inl ?_)
         refine Exists.intro (j + 1, f + x.2, k + 1) (And.intro ⟨hjl, hg2, hg3, show -1000000 * ((j + 1 : Nat) : Int) ≤ f + x.2 by omega, show f + x.2 ≤ 1000000 * ((j + 1 : Nat) : Int) by omega⟩ (And.intro (show s.length - (j + 1) < s.length - j by omega) (And.intro rfl (ah ?_ ?_))))
         ·exact And.intro (congrArg some (ap (by omega))) (And.intro rfl (And.intro rfl (And.intro rfl (And.intro (congrArg (fun z => some (AV.int .i64 z)) hwf) (And.intro rfl trivial)))))
         ·repeat' (first | exact trivial | refine And.intro rfl ?_)
        ·skip
         repeat' first|refine MPB.seq ?_|refine MPB.block ?_|refine MPB.reg hY aa ay (by kernel_rfl) ?_|refine MPB.skip ?_|refine MPB.label ?_|refine MPB.ret ?_|refine MPB.exit ?_|refine MPB.condT rfl ?_|refine MPB.condF rfl ?_|refine MPB.cond rfl (And.intro (fun h => ?_) (fun h => ?_))|((conv => whnf); first|refine anF ?_|refine anT ?_|refine anK ?_|refine And.intro (fun h => ?_) (fun h => ?_)|refine Or.inl ?_)
         exact fD.mk (Or.inl rfl) (Or.inr rfl)
      ·have bbj : decide ((j : Int) < ((s.map pA).length : Int)) = true → False := fun h => by have := of_decide_eq_true h; simp at this; omega
       repeat' first|exact (bbj (by assumption)).elim|refine MPB.sp (c := .region _ _ true) (by kernel_rfl) (fun W0 m0 hG hms => ?_) hY|refine Q3 hG aa ay ?_|refine MPB.seq ?_|refine MPB.block ?_|refine MPB.reg hY aa ay (by kernel_rfl) ?_|refine MPB.skip ?_|refine MPB.label ?_|refine MPB.ret ?_|refine MPB.exit ?_|refine MPB.condT rfl ?_|refine MPB.condF rfl ?_|refine MPB.cond rfl (And.intro (fun h => ?_) (fun h => ?_))|((conv => whnf); first|refine anF ?_|refine anT ?_|refine anK ?_|refine And.intro (fun h => ?_) (fun h => ?_)|refine Or.inl ?_)
       have hke : k = (bf l).length := by
        rw [List.drop_of_length_le (by omega)] at hfr
        have := congrArg List.length hfr
        simp [bO] at this; omega
       exact fD.mk (Or.inr rfl) (Or.inl (congrArg (Prod.mk false) hke))
end Go.Proofs
