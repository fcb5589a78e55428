/- Contracts of the functions and plain facts about what they reckon, part 3: called with arguments that read so, each hands back what is typed. The conditions are those typed. -/
import Derived.Test.YtehdegggapeihaaGreatMConB
set_option linter.unusedSectionVars false
set_option linter.unusedVariables false
set_option linter.unusedSimpArgs false
namespace Go.Proofs
open Go Go.AI
set_option maxRecDepth 10000
def iA (a b : Int) : Bool := decide (0 ≤ a) && decide (a < b) && decide (b ≤ 1000000) && decide (w64 (b - a) ≤ 3000)
theorem zU (a b : Int) : ae Tryz.prog 213 [.agg [.int .i64 a, .int .i64 b]] (.bool (iA a b)) := by
 refine ae.of aa uh Tryz.func213 rfl (by kernel_rfl) af (by kernel_rfl) (Nat.le_of_ble_eq_true rfl) ?_
 intro F n w0 m0 hG hro h1
 repeat' first|refine anF ?_|refine anT ?_|refine And.intro (fun h => ?_) (fun h => ?_)
 all_goals refine Ends.mk (Or.inl rfl) (ac (congrArg AV.bool ?_))
 all_goals (simp_all [iA, w64] <;> first | rfl | (intros; omega))
theorem zO (n a b : Int) : ae Tryz.prog 234 [.int .i64 n, .int .i64 a, .int .i64 b] (.bool (decide (a ≤ n) && decide (n ≤ b))) := by
 refine ae.of aa ua Tryz.func234 rfl (by kernel_rfl) af (by kernel_rfl) (Nat.le_of_ble_eq_true rfl) ?_
 intro F n w0 m0 hG hro h1
 repeat' first|refine anF ?_|refine anT ?_|refine And.intro (fun h => ?_) (fun h => ?_)
 all_goals refine Ends.mk (Or.inl rfl) (ac (congrArg AV.bool ?_))
 all_goals simp_all <;> omega
structure a8 where
 a : Int
 b : Int
 k : Int
def bP (x : a8) : List AV := [.int .i64 x.a, .int .i64 x.b, .int .i64 x.k]
def da (l : List a8) : AV := .sl .no 3 (l.map bP)
def kd (s : Nat → Int) (l : List a8) (a b : Int) : List AV := [.ref (ar a b), .ref (aJ s), .ref [da l]]
theorem zP (s : Nat → Int) (l : List a8) (a b : Int) : ae Tryz.prog 269 [.agg (aJ s), da l, .agg (ar a b)] (.clo 305 (kd s l a b)) := by
 refine ae.of aa t8 Tryz.func269 rfl (by kernel_rfl) af (by kernel_rfl) (Nat.le_of_ble_eq_true rfl) ?_
 intro F n w0 m0 hG hro h1
 refine Ends.mk (Or.inl rfl) (ac rfl)
def hit (t : Int) (x : a8) : Bool := decide (x.a ≤ t) && decide (t < x.b)
def jG (warm cool : Int) (t : Int) (l : List a8) : Int := l.foldl (fun g x => if hit t x then w64 (g + warm) else g) (w64 (0 - cool))
def iv (s : Nat → Int) (l : List a8) (a b : Int) : List (Int × Int) := (List.range (b - a).toNat).map fun (i : Nat) => (a + i, jG (s 16) (s 17) (a + (i : Int)) l)
theorem jo (w c t : Int) (l : List a8) (x : a8) : jG w c t (l ++ [x]) = if hit t x then w64 (jG w c t l + w) else jG w c t l := by simp [jG, List.foldl_append]
theorem zJ (s : Nat → Int) (l : List a8) (a b : Int) (ha : 0 ≤ a) (hb : b ≤ 1000000) (hl : l.length ≤ 1000000) : un Tryz.prog uL 305 (kd s l a b) (iv s l a b) := by
  refine un.of aa ju Tryz.func305 rfl (by kernel_rfl) af (by kernel_rfl) (Nat.le_of_ble_eq_true rfl) rfl (fun l => by kernel_rfl) ?_
  intro F n m y J Jx hY
  refine YP.loop (X := Nat) (fun i => ((false, i), ⟨(5, .int .i64 (a + i)) :: params 0 (.lit (.func (.yield y) #[] #[]) :: kd s l a b), []⟩)) (fun i => i ≤ (b - a).toNat) (fun i => (b - a).toNat - i) 0 (Nat.zero_le _) rfl
    (ag ?_ ?_) (fun i hi => ?_)
  · refine And.intro (congrArg (fun z => some (AV.int .i64 z)) (show a = a + ((0 : Nat) : Int) by omega)) ?_
    repeat' (first | exact trivial | refine And.intro rfl ?_)
  · exact trivial
  · refine bO (keep := ju) hY aa _ _ _ _ (by kernel_rfl) (by kernel_rfl) ?_
    refine And.intro (fun h => ?_) (fun h => ?_)
    · refine YP.of_SP hY.round (by kernel_rfl) (fun W0 => SP.loop (X := Nat) (fun j => ⟨(22, .int .i64 j) :: (6, .int .i64 (jG (s 16) (s 17) (a + i) (l.take j))) :: (20, da l) :: (21, .int .i64 (l.map bP).length) :: (5, .int .i64 (a + i)) :: params 0 (.lit (.func (.yield y) #[] #[]) :: kd s l a b), []⟩)
        (fun j => j ≤ l.length) (fun j => l.length - j) 0 (Nat.zero_le _) (ag ?_ ?_) (fun j hj => ?_))
      · repeat' (first | exact trivial | refine And.intro rfl ?_)
      · exact trivial
      · refine bw (keep := ju) (hY.base W0) aa _ _ _ (by kernel_rfl) ?_
        refine And.intro (fun h => ?_) (fun h => ?_)
        · have hj2 : j < l.length := by have := of_decide_eq_true h; simp at this; omega
          have hx : (l.map bP)[(j : Int).toNat]? = some (bP l[j]) := by simp [List.getElem?_eq_getElem hj2]
          have htk : l.take (j + 1) = l.take j ++ [l[j]] := by rw [List.take_add_one, List.getElem?_eq_getElem hj2]; rfl
          refine And.intro (by omega) (Exists.intro (bP l[j]) (And.intro hx ?_))
          repeat' (conv => whnf
                   first
                   | refine anF ?_
                   | refine anT ?_
                   | refine And.intro (fun h => ?_) (fun h => ?_))
          all_goals refine Exists.intro (j + 1) (And.intro hj2 (And.intro (by omega) (ag ?_ trivial)))
          all_goals refine And.intro (congrArg (fun z => some (AV.int .i64 z)) ((ai (by omega) (by omega)).trans (by omega))) ?_
          · refine And.intro (congrArg (fun z => some (AV.int .i64 z)) ?_) ?_
            · rw [htk, jo]
              simp only [hit, *]
              rfl
            · repeat' (first | exact trivial | refine And.intro rfl ?_)
          · refine And.intro (congrArg (fun z => some (AV.int .i64 z)) ?_) ?_
            · rw [htk, jo]
              simp only [hit, *]
              rfl
            · repeat' (first | exact trivial | refine And.intro rfl ?_)
          · refine And.intro (congrArg (fun z => some (AV.int .i64 z)) ?_) ?_
            · rw [htk, jo]
              simp only [hit, *]
              rfl
            · repeat' (first | exact trivial | refine And.intro rfl ?_)
        · have e : l.take j = l := List.take_of_length_le (by have := of_decide_eq_false h; simp at this; omega)
          have hib : i < (b - a).toNat := by have := of_decide_eq_true (by assumption : decide (a + (i : Int) < b) = true); omega
          refine And.intro rfl (Exists.intro (a + (i : Int), jG (s 16) (s 17) (a + i) (l.take j)) (And.intro ?_ (And.intro rfl (And.intro ?_ ?_))))
          · rw [e]; simp [iv, List.getElem?_map, List.getElem?_range hib]
          · refine anF ?_
            refine Exists.intro (i + 1) (And.intro hib (And.intro (by omega) (And.intro rfl (ag ?_ trivial))))
            refine And.intro (congrArg (fun z => some (AV.int .i64 z)) ((ai (by omega) (by omega)).trans (by omega))) ?_
            repeat' (first | exact trivial | refine And.intro rfl ?_)
          · refine anT ?_
            exact gO.mk (Or.inl rfl) (Or.inr rfl)
    · refine gO.mk (Or.inr rfl) (Or.inl ?_)
      simp [iv]
      have := of_decide_eq_false h
      omega
def dV (pre : List (Int × Int)) : Int × List Int := pre.foldl (fun r p => (max 0 (w64 (r.1 + p.2)), r.2 ++ [max 0 (w64 (r.1 + p.2))])) (0, [])
theorem ph (pre : List (Int × Int)) : (dV pre).2.length = pre.length := by
 suffices h : ∀ (r : Int × List Int), (pre.foldl (fun r p => (max 0 (w64 (r.1 + p.2)), r.2 ++ [max 0 (w64 (r.1 + p.2))])) r).2.length = r.2.length + pre.length by simpa [dV] using h (0, [])
 induction pre with
 | nil => intro r; simp
 | cons p t ih => intro r; simp [ih]; omega
theorem jn (pre : List (Int × Int)) (x : Int × Int) : dV (pre ++ [x]) = (max 0 (w64 ((dV pre).1 + x.2)), (dV pre).2 ++ [max 0 (w64 ((dV pre).1 + x.2))]) := by simp [dV, List.foldl_append]
def Ex (pre : List (Int × Int)) : List (Nat × List AV) := [(8, [.int .i64 (dV pre).1]), (7, [.sl (.id 16) 1 ((dV pre).2.map fun h => [.int .i64 h])])]
theorem zT (s : Nat → Int) (l : List a8) (a b : Int) (ha : 0 ≤ a) (hab : a ≤ b) (hb : b ≤ 1000000) (hl : l.length ≤ 1000000) :
  ae Tryz.prog 215 [.agg (aJ s), da l, .agg (ar a b)] (kX (dV (iv s l a b)).2) := by
 refine ae.of aa jv Tryz.func215 rfl (by kernel_rfl) af (by kernel_rfl) (Nat.le_of_ble_eq_true rfl) ?_
 intro F n w0 m0 hG hro h1
 have hba : w64 (b - a) = b - a := ai (by omega) (by omega)
 have hba : IntKind.i64.wrap (b - a) = b - a := hba
 refine And.intro (by omega) ?_
 conv => whnf
 rw [hba]
 refine And.intro (by omega) (And.intro (show (b - a).toNat * 8 ≤ 70368744177664 by omega) (And.intro (by omega) ?_))
 refine Exists.intro _ (And.intro (zP s l a b) ?_)
 refine SP.range hG hro h1 (α := Int × Int) (fun p => [.int .i64 p.1, .int .i64 p.2]) uL (f := 305) (cap := kd s l a b) (items := iv s l a b) rfl (zJ s l a b ha hb hl) (fun _ => rfl) (fun _ => rfl) ?_
  [(7, .loc 7 0), (8, .loc 8 0)] Ex (ag ?_ ?_) (by kernel_rfl) (by decide) ?_ ?_
 ·intro m x i c v h1 h2
  match i, h1, h2 with
  | 0, h1, h2 => cases h1; cases h2; exact .int _ _
  | 1, h1, h2 => cases h1; cases h2; exact .int _ _
 ·repeat' (first | exact trivial | refine And.intro rfl ?_)
 ·repeat' (first | exact trivial | refine And.intro rfl ?_)
 ·intro F' n' m' hG' pre x rest hit
  refine bw (keep := jv) hG' aa _ _ _ (by kernel_rfl) ?_
  have hlen : (iv s l a b).length ≤ 1000000 := by simp [iv]; omega
  have hpre : pre.length < 1000000 := by rw [hit] at hlen; simp at hlen; omega
  have hr : ((dV pre).2.map fun h => [AV.int .i64 h]).length = pre.length := by rw [List.length_map, ph]
  refine And.intro rfl (And.intro (ag ?_ ?_) (bw (keep := jv) hG' aa _ _ _ (by kernel_rfl) ?_))
  ·repeat' (first | exact trivial | refine And.intro rfl ?_)
  ·repeat' (first | exact trivial | refine And.intro rfl ?_)
  ·refine And.intro (show (_ + 1) * 8 ≤ 70368744177664 by rw [hr]; omega) (And.intro (show _ + 1 ≤ 4611686018427387904 by rw [hr]; omega) ?_)
   refine ag ?_ ?_
   ·repeat' (first | exact trivial | refine And.intro rfl ?_)
   ·refine And.intro ?_ (And.intro ?_ trivial)
    ·rw [jn]; rfl
    ·rw [jn, List.map_append]; rfl
 ·exact Ends.mk (Or.inl rfl) (ac rfl)
theorem zN (n a b : Int) : ae Tryz.prog 270 [.int .i64 n, .int .i64 a, .int .i64 b] (.bool (decide (a ≤ n) && decide (n ≤ b))) := by
  refine ae.of aa t7 Tryz.func270 rfl (by kernel_rfl) af (by kernel_rfl) (Nat.le_of_ble_eq_true rfl) ?_
  intro F n' w0 m0 hG hro h1
  repeat' (conv => whnf
           first
           | refine anF ?_
           | refine anT ?_
           | refine And.intro (fun h => ?_) (fun h => ?_))
  all_goals refine Ends.mk (Or.inl rfl) (ac (congrArg AV.bool ?_))
  all_goals (simp_all <;> first | rfl | (intros; omega))
theorem zS (a b : Int) : ae Tryz.prog 220 [.agg [.int .i64 a, .int .i64 b]] (.bool (iA a b)) := by
  refine ae.of aa ue Tryz.func220 rfl (by kernel_rfl) af (by kernel_rfl) (Nat.le_of_ble_eq_true rfl) ?_
  intro F n' w0 m0 hG hro h1
  repeat' (conv => whnf
           first
           | refine anF ?_
           | refine anT ?_
           | refine And.intro (fun h => ?_) (fun h => ?_))
  all_goals refine Ends.mk (Or.inl rfl) (ac (congrArg AV.bool ?_))
  all_goals (simp_all [iA, w64] <;> first | rfl | (intros; omega))
theorem zM (x : a8) : ae Tryz.prog 231 [.agg (bP x)] (.bool (decide (0 ≤ x.a) && decide (x.a < x.b) && decide (x.b ≤ 1000000))) := by
  refine ae.of aa ud Tryz.func231 rfl (by kernel_rfl) af (by kernel_rfl) (Nat.le_of_ble_eq_true rfl) ?_
  intro F n' w0 m0 hG hro h1
  repeat' (conv => whnf
           first
           | refine anF ?_
           | refine anT ?_
           | refine And.intro (fun h => ?_) (fun h => ?_))
  all_goals refine Ends.mk (Or.inl rfl) (ac (congrArg AV.bool ?_))
  all_goals (simp_all <;> first | rfl | (intros; omega) | (intros; simp_all; done) | (intros; simp_all; omega))
theorem zL (x : a8) : ae Tryz.prog 232 [.agg (bP x)] (.bool (decide (w64 (x.b - x.a) ≤ 60))) := by
  refine ae.of aa uc Tryz.func232 rfl (by kernel_rfl) af (by kernel_rfl) (Nat.le_of_ble_eq_true rfl) ?_
  intro F n' w0 m0 hG hro h1
  repeat' (conv => whnf
           first
           | refine anF ?_
           | refine anT ?_
           | refine And.intro (fun h => ?_) (fun h => ?_))
  all_goals refine Ends.mk (Or.inl rfl) (ac (congrArg AV.bool ?_))
  all_goals rfl
theorem zK (s : Nat → Int) (x : a8) : ae Tryz.prog 233 [.agg (bP x), .ref (aJ s)] (.bool (inS x.k (w64 (0 - s 9)) (s 9))) := by
  refine ae.of aa ub Tryz.func233 rfl (by kernel_rfl) af (by kernel_rfl) (Nat.le_of_ble_eq_true rfl) ?_
  intro F n' w0 m0 hG hro h1
  repeat' (conv => whnf
           first
           | refine anF ?_
           | refine anT ?_
           | refine Exists.intro _ (And.intro (zO _ _ _) ?_)
           | refine And.intro (fun h => ?_) (fun h => ?_))
  all_goals refine Ends.mk (Or.inl rfl) (ac (congrArg AV.bool ?_))
  all_goals rfl
end Go.Proofs
namespace Go.Proofs
open Go Go.AI
set_option maxRecDepth 10000
def pV (s : Nat → Int) (x : a8) : Bool := decide (0 ≤ x.a) && decide (x.a < x.b) && decide (x.b ≤ 1000000) && decide (w64 (x.b - x.a) ≤ 60) && inS x.k (w64 (0 - s 9)) (s 9)
theorem zI (n a b : Int) : ae Tryz.prog 270 [.int .i64 n, .int .i64 a, .int .i64 b] (.bool (inS n a b)) := zN n a b
theorem zY (s : Nat → Int) (x : a8) : ae Tryz.prog 218 [.agg (aJ s), .agg (bP x)] (.bool (pV s x)) := by
  refine ae.of aa uf Tryz.func218 rfl (by kernel_rfl) af (by kernel_rfl) (Nat.le_of_ble_eq_true rfl) ?_
  intro F n' w0 m0 hG hro h1
  repeat' (conv => whnf
           first
           | refine anF ?_
           | refine anT ?_
           | refine Exists.intro _ (And.intro (zI _ _ _) ?_)
           | refine And.intro (fun h => ?_) (fun h => ?_))
  all_goals refine Ends.mk (Or.inl rfl) (ac (congrArg AV.bool ?_))
  all_goals dsimp only [pV]
  all_goals (try simp only [ge_iff_le] at *)
  all_goals (rw [Bool.eq_iff_iff]; (try simp only [Bool.and_eq_true, decide_eq_true_eq, decide_eq_false_iff_not, Bool.false_eq_true] at *); dsimp only [w64] at *; simp only [*, true_and, false_and, and_false])
def tst (s : Nat → Int) (x : a8) (j : Nat) : Bool := match j with
 | 0 => decide (0 ≤ x.a) && decide (x.a < x.b) && decide (x.b ≤ 1000000)
 | 1 => decide (w64 (x.b - x.a) ≤ 60)
 | _ => inS x.k (w64 (0 - s 9)) (s 9)
theorem xL (s : Nat → Int) (x : a8) : pV s x = (tst s x 0 && tst s x 1 && tst s x 2) := rfl
def oQ (s : Nat → Int) (l : List a8) : Bool := l.all (pV s) && decide (l.length ≤ 64)
theorem vC {α : Type} {p : α → Bool} {l : List α} {i : Nat} (hi : i < l.length) (h : (l.take i).all p = true) (hx : p l[i] = true) : (l.take (i + 1)).all p = true := by
 rw [List.take_add_one, List.getElem?_eq_getElem hi, List.all_append, h]; simp [hx]
theorem yy {α : Type} {p : α → Bool} {l : List α} {i : Nat} (hi : i < l.length) (hx : p l[i] = false) : l.all p = false := by
 rw [List.all_eq_false]; exact ⟨l[i], List.getElem_mem hi, by simp [hx]⟩
theorem zZ (s : Nat → Int) (l : List a8) (hl : l.length ≤ 1000000) : ae Tryz.prog 169 [.agg (aJ s), da l] (.bool (oQ s l)) := by
 refine ae.of aa jw Tryz.func169 rfl (by kernel_rfl) af (by kernel_rfl) (Nat.le_of_ble_eq_true rfl) ?_
 intro F n' w0 m0 hG hro h1
 refine SP.loop (X := Nat) (fun i => ⟨[(14, .int .i64 i), (13, .int .i64 (l.map bP).length), (12, da l), (1, da l), (5, .loc 5 0)], [(5, [.fn 231, .fn 232, .clo 233 [.ref (aJ s)]])]⟩)
  (fun i => i ≤ l.length ∧ (l.take i).all (pV s) = true) (fun i => l.length - i) 0 ⟨Nat.zero_le _, rfl⟩ (ag ?_ ?_) (fun i hi => ?_)
 ·repeat' (first | exact trivial | refine And.intro rfl ?_)
 ·repeat' (first | exact trivial | refine And.intro rfl ?_)
 ·obtain ⟨hi, hall⟩ := hi
  refine bw (keep := jw) hG aa _ _ _ (by kernel_rfl) ?_
  refine And.intro (fun h => ?_) (fun h => ?_)
  ·have hi2 : i < l.length := by have := of_decide_eq_true h; simp at this; omega
   have hx : (l.map bP)[(i : Int).toNat]? = some (bP l[i]) := by simp [List.getElem?_eq_getElem hi2]
   have bad : ∀ j, j < 3 → tst s l[i] j = false → false = oQ s l := fun j hj hf => by
    have : pV s l[i] = false := by
     rw [xL]
     obtain rfl | rfl | rfl : j = 0 ∨ j = 1 ∨ j = 2 := by omega
     ·rw [hf]; rfl
     ·rw [hf, Bool.and_false]; rfl
     ·rw [hf, Bool.and_false]
    rw [oQ, yy hi2 this]; rfl
   refine And.intro (by omega) (Exists.intro (bP l[i]) (And.intro hx ?_))
   refine SP.loop (X := Nat) (fun j => ⟨[(19, .int .i64 j), (18, .agg [.fn 231, .fn 232, .clo 233 [.ref (aJ s)]]), (7, .loc 7 0), (14, .int .i64 i), (13, .int .i64 (l.map bP).length), (12, da l), (1, da l), (5, .loc 5 0)],
     [(7, bP l[i]), (5, [.fn 231, .fn 232, .clo 233 [.ref (aJ s)]])]⟩)
    (fun j => j ≤ 3 ∧ ∀ k, k < j → tst s l[i] k = true) (fun j => 3 - j) 0 ⟨Nat.zero_le _, fun k hk => absurd hk (Nat.not_lt_zero _)⟩ (ag ?_ ?_) (fun j hj => ?_)
   ·repeat' (first | exact trivial | refine And.intro rfl ?_)
   ·repeat' (first | exact trivial | refine And.intro rfl ?_)
   ·obtain ⟨hj, hts⟩ := hj
    refine bw (keep := jw) hG aa _ _ _ (by kernel_rfl) ?_
    refine And.intro (fun h => ?_) (fun h => ?_)
    ·have hj2 : j < 3 := by have := of_decide_eq_true h; omega
     have step : ∀ {k : Nat}, k < 3 → (∀ q, q < k → tst s l[i] q = true) → tst s l[i] k = true → ∀ q, q < k + 1 → tst s l[i] q = true := fun hk hp hq q hqk => by
      rcases Nat.lt_succ_iff_lt_or_eq.1 hqk with h | rfl
      ·exact hp q h
      ·exact hq
     obtain rfl | rfl | rfl : j = 0 ∨ j = 1 ∨ j = 2 := by omega
     ·refine And.intro (Int.le_of_sub_nonneg (by simp)) (And.intro (by simp) (And.intro (Nat.le_of_ble_eq_true rfl) ?_))
      refine Exists.intro _ (And.intro (zM l[i]) ?_)
      refine And.intro (fun h2 => ?_) (fun h2 => ?_)
      ·exact Ends.mk (Or.inl rfl) (ac (congrArg AV.bool (bad 0 (by omega) (mm h2))))
      ·refine Exists.intro 1 (And.intro ⟨by omega, step (by omega) hts (fR h2)⟩ (And.intro (by omega) (ag ?_ ?_)))
       ·refine And.intro (congrArg some (am (by omega))) ?_
        repeat' (first | exact trivial | refine And.intro rfl ?_)
       ·repeat' (first | exact trivial | refine And.intro rfl ?_)
     ·refine And.intro (Int.le_of_sub_nonneg (by simp)) (And.intro (by simp) (And.intro (Nat.le_of_ble_eq_true rfl) ?_))
      refine Exists.intro _ (And.intro (zL l[i]) ?_)
      refine And.intro (fun h2 => ?_) (fun h2 => ?_)
      ·exact Ends.mk (Or.inl rfl) (ac (congrArg AV.bool (bad 1 (by omega) (mm h2))))
      ·refine Exists.intro 2 (And.intro ⟨by omega, step (by omega) hts (fR h2)⟩ (And.intro (by omega) (ag ?_ ?_)))
       ·refine And.intro (congrArg some (am (by omega))) ?_
        repeat' (first | exact trivial | refine And.intro rfl ?_)
       ·repeat' (first | exact trivial | refine And.intro rfl ?_)
     ·refine And.intro (Int.le_of_sub_nonneg (by simp)) (And.intro (by simp) (And.intro (Nat.le_of_ble_eq_true rfl) ?_))
      refine Exists.intro _ (And.intro (zK s l[i]) ?_)
      refine And.intro (fun h2 => ?_) (fun h2 => ?_)
      ·exact Ends.mk (Or.inl rfl) (ac (congrArg AV.bool (bad 2 (by omega) (mm h2))))
      ·refine Exists.intro 3 (And.intro ⟨by omega, step (by omega) hts (fR h2)⟩ (And.intro (by omega) (ag ?_ ?_)))
       ·refine And.intro (congrArg some (am (by omega))) ?_
        repeat' (first | exact trivial | refine And.intro rfl ?_)
       ·repeat' (first | exact trivial | refine And.intro rfl ?_)
    ·have e : j = 3 := by have := of_decide_eq_false h; omega
     subst e
     have hp : pV s l[i] = true := by rw [xL, hts 0 (by omega), hts 1 (by omega), hts 2 (by omega)]; rfl
     refine Exists.intro (i + 1) (And.intro ⟨hi2, vC hi2 hall hp⟩ (And.intro (by omega) (ag ?_ ?_)))
     ·refine And.intro (congrArg some (am (by omega))) ?_
      repeat' (first | exact trivial | refine And.intro rfl ?_)
     ·repeat' (first | exact trivial | refine And.intro rfl ?_)
  ·have e : l.take i = l := List.take_of_length_le (by have := of_decide_eq_false h; simp at this; omega)
   rw [e] at hall
   refine Ends.mk (Or.inl rfl) (ac (congrArg AV.bool ?_))
   simp only [oQ, hall, Bool.true_and, List.length_map]
   rw [Bool.eq_iff_iff]; simp only [decide_eq_true_eq]; omega
theorem sV (s : Nat → Int) (l : List a8) (hl : l.length ≤ 1000000) : ae Tryz.prog 101 [.agg (aJ s), da l] (.bool (oQ s l && dR s)) := by
  refine ae.of aa uk Tryz.func101 rfl (by kernel_rfl) af (by kernel_rfl) (Nat.le_of_ble_eq_true rfl) ?_
  intro F n' w0 m0 hG hro h1
  repeat' (conv => whnf
           first
           | refine anF ?_
           | refine anT ?_
           | refine Exists.intro _ (And.intro (zZ s l hl) ?_)
           | refine Exists.intro _ (And.intro (oj s) ?_)
           | refine And.intro (fun h => ?_) (fun h => ?_))
  all_goals refine Ends.mk (Or.inl rfl) (ac (congrArg AV.bool ?_))
  all_goals simp only [*, Bool.true_and, Bool.false_and]
theorem Af (s : Nat → Int) (l : List a8) (hl : l.length ≤ 1000000) : ae Tryz.prog 147 [.agg (aJ s), da l] (.bool (oQ s l && dR s)) := by
 refine ae.of aa nU Tryz.func147 rfl (by kernel_rfl) af (by kernel_rfl) (Nat.le_of_ble_eq_true rfl) ?_
 intro F n' w0 m0 hG hro h1
 refine Exists.intro _ (And.intro (mM s) ?_)
 refine And.intro (fun hs => ?_) (fun hs => ?_)
 ·refine anT ?_
  refine Ends.mk (Or.inl rfl) (ac (congrArg AV.bool ?_))
  rw [mm hs, Bool.and_false]
 ·have hs := fR hs
  refine And.intro (fun h64 => ?_) (fun h64 => ?_)
  ·refine Ends.mk (Or.inl rfl) (ac (congrArg AV.bool ?_))
   have := of_decide_eq_true h64
   have : ¬ l.length ≤ 64 := by simp at this; omega
   simp [oQ, this]
  ·have h64 : l.length ≤ 64 := by have := of_decide_eq_false h64; simp at this; omega
   refine SP.loop (X := Nat) (fun i => ⟨[(5, .int .i64 i), (1, da l), (2, .loc 2 0)], [(2, aJ s)]⟩)
    (fun i => i ≤ l.length ∧ (l.take i).all (pV s) = true) (fun i => l.length - i) 0 ⟨Nat.zero_le _, rfl⟩ (ag ?_ ?_) (fun i hi => ?_)
   ·repeat' (first | exact trivial | refine And.intro rfl ?_)
   ·repeat' (first | exact trivial | refine And.intro rfl ?_)
   ·obtain ⟨hi, hall⟩ := hi
    refine bw (keep := nU) hG aa _ _ _ (by kernel_rfl) ?_
    refine And.intro (fun h => ?_) (fun h => ?_)
    ·have hi2 : i < l.length := by have := of_decide_eq_true h; simp at this; omega
     have hx : (l.map bP)[(i : Int).toNat]? = some (bP l[i]) := by simp [List.getElem?_eq_getElem hi2]
     refine And.intro (by omega) (Exists.intro (bP l[i]) (And.intro hx ?_))
     refine Exists.intro _ (And.intro (zY s l[i]) ?_)
     refine And.intro (by kernel_rfl) ?_
     refine And.intro (fun h2 => ?_) (fun h2 => ?_)
     ·refine Ends.mk (Or.inl rfl) (ac (congrArg AV.bool ?_))
      rw [oQ, yy hi2 (mm h2)]; rfl
     ·refine Exists.intro (i + 1) (And.intro ⟨hi2, vC hi2 hall (fR h2)⟩ (And.intro (by omega) (ag ?_ ?_)))
      ·refine And.intro (congrArg some (am (by omega))) ?_
       repeat' (first | exact trivial | refine And.intro rfl ?_)
      ·repeat' (first | exact trivial | refine And.intro rfl ?_)
    ·have e : l.take i = l := List.take_of_length_le (by have := of_decide_eq_false h; simp at this; omega)
     rw [e] at hall
     refine Ends.mk (Or.inl rfl) (ac (congrArg AV.bool ?_))
     simp [oQ, hall, h64, hs]
def uz (s : Nat → Int) (j k : Int) : Int := w64 (s 19 * max (w64 (j - k)) (w64 (k - j)))
def EA (s : Nat → Int) (x y : a8) : Bool := decide (y.a ≥ w64 (x.b + uz s x.k y.k))
def tz (s : Nat → Int) (x y : a8) : Bool := if y.a < x.a then EA s y x else EA s x y
def jR (s : Nat → Int) (l : List a8) : Bool := oQ s l && dR s
theorem zX (s : Nat → Int) (x y : a8) : ae Tryz.prog 102 [.agg (aJ s), .agg (bP x), .agg (bP y)] (.bool (tz s x y)) := by
  refine ae.of aa uj Tryz.func102 rfl (by kernel_rfl) af (by kernel_rfl) (Nat.le_of_ble_eq_true rfl) ?_
  intro F n' w0 m0 hG hro h1
  repeat' (conv => whnf
           first
           | refine anF ?_
           | refine anT ?_
           | refine And.intro (fun h => ?_) (fun h => ?_))
  all_goals refine Ends.mk (Or.inl rfl) (ac (congrArg AV.bool ?_))
  · rw [tz, if_pos (of_decide_eq_true (by assumption))]; rfl
  · rw [tz, if_neg (of_decide_eq_false (by assumption))]; rfl
theorem kG {α : Type} {f : Nat → Option α} {N n : Nat} {v : α} (hn : n < N) (h : ∀ j, j < n → f j = none) (hv : f n = some v) : (List.range N).findSome? f = some v := by
 obtain ⟨d, rfl⟩ : ∃ d, N = n + (d + 1) := ⟨N - n - 1, by omega⟩
 rw [List.range_add, List.findSome?_append, List.findSome?_eq_none_iff.2 (fun x hx => h x (List.mem_range.1 hx)), List.range_succ_eq_map]
 simp [hv]
theorem kH {α : Type} {f : Nat → Option α} {N : Nat} (h : ∀ j, j < N → f j = none) : (List.range N).findSome? f = none := List.findSome?_eq_none_iff.2 (fun x hx => h x (List.mem_range.1 hx))
def fu (l : List a8) (i : Nat) : a8 := l.getD i ⟨0, 0, 0⟩
theorem ko {l : List a8} {i : Nat} (h : i < l.length) : fu l i = l[i] := by simp [fu, List.getD_eq_getElem?_getD, List.getElem?_eq_getElem h]
def lX (s : Nat → Int) (l : List a8) (k i : Nat) : Option (Nat × Nat) := if tz s (fu l i) (fu l k) then none else some (i, k)
def xP (s : Nat → Int) (l : List a8) (k : Nat) : Option (Nat × Nat) := (List.range k).findSome? (lX s l k)
def gn (s : Nat → Int) (l : List a8) : Option (Nat × Nat) := (List.range l.length).findSome? (xP s l)
def A6 : Option (Nat × Nat) → List AV
 | none => [.int .i64 0, .int .i64 0, .bool false, .int .i64 0]
 | some (i, k) => [.int .i64 i, .int .i64 k, .bool true, .int .i64 0]
theorem Ae (s : Nat → Int) (l : List a8) (hl : l.length ≤ 1000000) (hv : jR s l = true) : ae Tryz.prog 32 [.agg (aJ s), da l] (.tup (A6 (gn s l))) := by
 refine ae.of aa ip Tryz.func32 rfl (by kernel_rfl) af (by kernel_rfl) (Nat.le_of_ble_eq_true rfl) ?_
 intro F n' w0 m0 hG hro h1
 refine SP.scopeEnds (bw (keep := ip) hG aa _ _ _ (by kernel_rfl) ?_)
 refine Exists.intro _ (And.intro (sV s l hl) ?_)
 refine And.intro (fun hs => ?_) (fun hs => ?_)
 ·have := mm hs; simp [jR] at hv; simp [hv] at this
 ·refine SP.loop (X := Nat) (fun k => ⟨[(16, .int .i64 k), (15, .int .i64 (l.map bP).length), (1, da l), (2, .loc 2 0), (4, .int .i64 0), (5, .int .i64 0), (6, .bool false)], [(2, aJ s)]⟩)
   (fun k => k ≤ l.length ∧ ∀ j, j < k → xP s l j = none) (fun k => l.length - k) 0 ⟨Nat.zero_le _, fun k hk => absurd hk (Nat.not_lt_zero _)⟩ (ag ?_ ?_) (fun k hk => ?_)
  ·repeat' (first | exact trivial | refine And.intro rfl ?_)
  ·repeat' (first | exact trivial | refine And.intro rfl ?_)
  ·obtain ⟨hk, hall⟩ := hk
   refine bw (keep := ip) hG aa _ _ _ (by kernel_rfl) ?_
   refine And.intro (fun h => ?_) (fun h => ?_)
   ·have hk2 : k < l.length := by have := of_decide_eq_true h; simp at this; omega
    have hxk : (l.map bP)[(k : Int).toNat]? = some (bP (fu l k)) := by simp [ko hk2, List.getElem?_eq_getElem hk2]
    refine SP.loop (X := Nat) (fun i => ⟨[(20, .int .i64 i), (19, .int .i64 k), (8, .int .i64 k), (16, .int .i64 k), (15, .int .i64 (l.map bP).length), (1, da l), (2, .loc 2 0), (4, .int .i64 0), (5, .int .i64 0), (6, .bool false)], [(2, aJ s)]⟩)
     (fun i => i ≤ k ∧ ∀ j, j < i → lX s l k j = none) (fun i => k - i) 0 ⟨Nat.zero_le _, fun k hk => absurd hk (Nat.not_lt_zero _)⟩ (ag ?_ ?_) (fun i hi => ?_)
    ·repeat' (first | exact trivial | refine And.intro rfl ?_)
    ·repeat' (first | exact trivial | refine And.intro rfl ?_)
    ·obtain ⟨hi, hall2⟩ := hi
     refine bw (keep := ip) hG aa _ _ _ (by kernel_rfl) ?_
     refine And.intro (fun h => ?_) (fun h => ?_)
     ·have hi2 : i < k := by have := of_decide_eq_true h; simp at this; omega
      have hxi : (l.map bP)[(i : Int).toNat]? = some (bP (fu l i)) := by simp [ko (Nat.lt_trans hi2 hk2), List.getElem?_eq_getElem (Nat.lt_trans hi2 hk2)]
      refine And.intro (by omega) (Exists.intro _ (And.intro hxi ?_))
      refine And.intro (by omega) (Exists.intro _ (And.intro hxk ?_))
      refine Exists.intro _ (And.intro (zX s (fu l i) (fu l k)) ?_)
      refine And.intro (by kernel_rfl) ?_
      refine And.intro (fun h2 => ?_) (fun h2 => ?_)
      ·have e : gn s l = some (i, k) := kG hk2 hall (kG hi2 hall2 (by rw [lX, mm h2]; rfl))
       refine Ends.mk (Or.inl rfl) (ac ?_)
       rw [e]; rfl
      ·refine Exists.intro (i + 1) (And.intro ⟨hi2, fun j hj => ?_⟩ (And.intro (by omega) (ag ?_ ?_)))
       ·rcases Nat.lt_succ_iff_lt_or_eq.1 hj with h | rfl
        ·exact hall2 j h
        ·rw [lX, fR h2]; rfl
       ·refine And.intro (congrArg some (am (by omega))) ?_
        repeat' (first | exact trivial | refine And.intro rfl ?_)
       ·repeat' (first | exact trivial | refine And.intro rfl ?_)
     ·have e : i = k := by have := of_decide_eq_false h; simp at this; omega
      subst e
      refine Exists.intro (i + 1) (And.intro ⟨hk2, fun j hj => ?_⟩ (And.intro (by omega) (ag ?_ ?_)))
      ·rcases Nat.lt_succ_iff_lt_or_eq.1 hj with h | rfl
       ·exact hall j h
       ·exact kH hall2
      ·refine And.intro (congrArg some (am (by omega))) ?_
       repeat' (first | exact trivial | refine And.intro rfl ?_)
      ·repeat' (first | exact trivial | refine And.intro rfl ?_)
   ·have e : k = l.length := by have := of_decide_eq_false h; simp at this; omega
    refine Ends.mk (Or.inl rfl) (ac ?_)
    rw [show gn s l = none from kH (e ▸ hall)]; rfl
theorem wA {a b : Int} (h : iA a b = true) : 0 ≤ a ∧ a < b ∧ b ≤ 1000000 := by simp only [iA, Bool.and_eq_true, decide_eq_true_eq] at h; omega
theorem E6 {p : Prop} {b : Bool} (h : (!b) = true) (g : b = true) : p := by rw [g] at h; cases h
def jm (s : Nat → Int) (l : List a8) (a b : Int) : List Int := (dV (iv s l a b)).2
theorem zQ (s : Nat → Int) (h : Int) : ae Tryz.prog 216 [.int .i64 h, .ref (aJ s)] (.bool (decide (h > s 18))) := by
  refine ae.of aa ug Tryz.func216 rfl (by kernel_rfl) af (by kernel_rfl) (Nat.le_of_ble_eq_true rfl) ?_
  intro F n' w0 m0 hG hro h1
  repeat' (conv => whnf
           first
           | refine anF ?_
           | refine anT ?_
           | refine And.intro (fun h => ?_) (fun h => ?_))
  all_goals exact Ends.mk (Or.inl rfl) (ac rfl)
theorem qT (s : Nat → Int) (l : List a8) (a b : Int) : (jm s l a b).length = (b - a).toNat := by rw [jm, ph, iv]; simp
def rT (s : Nat → Int) (l : List a8) (a b : Int) : Int := let i := cq (fun h => decide (h > s 18)) (jm s l a b) 0; if i ≥ 0 then w64 (a + i) else -1
theorem Ab (s : Nat → Int) (l : List a8) (a b : Int) (hl : l.length ≤ 1000000) (hs : iA a b = true) (hv : jR s l = true) : ae Tryz.prog 144 [.agg (aJ s), da l, .agg (ar a b)] (.tup [.int .i64 (rT s l a b), .int .i64 0]) := by
 obtain ⟨ha, hab, hb⟩ := wA hs
 refine ae.of aa ui Tryz.func144 rfl (by kernel_rfl) af (by kernel_rfl) (Nat.le_of_ble_eq_true rfl) ?_
 intro F n' w0 m0 hG hro h1
 refine Exists.intro _ (And.intro (zU a b) (And.intro (fun h => E6 h hs) (fun h => ?_)))
 refine Exists.intro _ (And.intro (sV s l hl) (And.intro (fun h => E6 h hv) (fun h => ?_)))
 refine Exists.intro _ (And.intro (zT s l a b ha (Int.le_of_lt hab) hb hl) ?_)
 refine Exists.intro _ (And.intro (vZ (jm s l a b) (fun h => decide (h > s 18)) 216 _ [.ref (aJ s)] (Or.inl rfl) (by rw [qT]; omega) (fun h _ => zQ s h)) ?_)
 refine And.intro (fun h => ?_) (fun h => ?_)
 ·refine Ends.mk (Or.inl rfl) (ac ?_)
  rw [rT, if_pos (of_decide_eq_true h)]; rfl
 ·refine Ends.mk (Or.inl rfl) (ac ?_)
  rw [rT, if_neg (of_decide_eq_false h)]; rfl
end Go.Proofs
namespace Go.Proofs
open Go Go.AI
set_option maxRecDepth 10000
theorem qS {α : Type} {p : α → Bool} {l : List α} {j : Nat} (hj : j < l.length) : cq p (l.drop j) j = if p l[j] then (j : Int) else cq p (l.drop (j + 1)) (j + 1) := by rw [List.drop_eq_getElem_cons hj]; rfl
theorem sc {α : Type} {l : List α} {i : Nat} (hi : i < l.length) : l.take (i + 1) = l.take i ++ [l[i]] := by rw [List.take_add_one, List.getElem?_eq_getElem hi]; rfl
theorem zu {l : List a8} {i : Nat} (h : i < l.length) : fu l i ∈ l := by rw [ko h]; exact List.getElem_mem h
theorem BC {l : List a8} {i : Nat} (h : i < l.length) {z : Int} (hz : z = i) : 0 ≤ z ∧ (l.map bP)[z.toNat]? = some (bP (fu l i)) := by
 subst hz
 exact ⟨by omega, by simp [ko h, List.getElem?_eq_getElem h]⟩
structure pR (s : Nat → Int) (l : List a8) : Prop where
 w0 : 0 ≤ s 16
 w1 : s 16 ≤ 10000
 c0 : 0 ≤ s 17
 c1 : s 17 ≤ 10000
 ln : l.length ≤ 64
theorem qa {n a b : Int} (h : inS n a b = true) : a ≤ n ∧ n ≤ b := by simpa [inS] using h
theorem pR.of {s : Nat → Int} {l : List a8} (h : jR s l = true) : pR s l := by
 simp only [jR, oQ, dR, Bool.and_eq_true, decide_eq_true_eq] at h
 obtain ⟨⟨_, hl⟩, ⟨⟨⟨_, _⟩, hw, hc, _⟩, _⟩⟩ := h
 have := qa hw; have := qa hc
 constructor <;> omega
def cnt (t : Int) (l : List a8) : Nat := (l.filter (hit t)).length
theorem lG (t : Int) (l : List a8) : cnt t l ≤ l.length := List.length_filter_le _ _
def gS (s : Nat → Int) (l : List a8) (t : Int) : Int := jG (s 16) (s 17) t l
theorem qx {w : Int} {n : Nat} (h0 : 0 ≤ w) (h1 : w ≤ 10000) (hn : n ≤ 64) : 0 ≤ w * n ∧ w * n ≤ 640000 :=
 ⟨Int.mul_nonneg h0 (by omega), Int.le_trans (Int.mul_le_mul h1 (show (n : Int) ≤ 64 by omega) (by omega) (by omega)) (by omega)⟩
theorem D7 {s : Nat → Int} {l : List a8} (h : pR s l) (t : Int) : gS s l t = s 16 * cnt t l - s 17 := by
 obtain ⟨w0, w1, c0, c1, ln⟩ := h
 have key : ∀ i : Nat, i ≤ l.length → jG (s 16) (s 17) t (l.take i) = s 16 * cnt t (l.take i) - s 17 := by
  intro i
  induction i with
  | zero => intro _; simp [jG, cnt]; exact (ai (by omega) (by omega)).trans (by omega)
  | succ i ih =>
   intro hi
   have hi2 : i < l.length := hi
   rw [sc hi2, jo, ih (by omega)]
   have hc := lG t (l.take i)
   rw [List.length_take] at hc
   have hm := qx w0 w1 (n := cnt t (l.take i)) (by omega)
   have e : cnt t (l.take i ++ [l[i]]) = cnt t (l.take i) + if hit t l[i] then 1 else 0 := by
    unfold cnt; rw [List.filter_append, List.length_append]; congr 1
    simp only [List.filter_cons, List.filter_nil]; split <;> rfl
   rw [e]
   split
   ·rw [ai (by omega) (by omega)]; rw [Int.natCast_add, Int.mul_add]; simp; omega
   ·simp
 have := key l.length (Nat.le_refl _)
 rwa [List.take_length] at this
theorem w9 {s : Nat → Int} {l : List a8} (h : pR s l) (t : Int) : -10000 ≤ gS s l t ∧ gS s l t ≤ 640000 := by
 rw [D7 h]
 obtain ⟨w0, w1, c0, c1, ln⟩ := h
 have := qx w0 w1 (n := cnt t l) (by have := lG t l; omega)
 omega
def hv (g : Int → Int) (a : Int) : Nat → Int
 | 0 => 0
 | n + 1 => max 0 (hv g a n + g (a + n))
theorem wX {g : Int → Int} (hg : ∀ t, -10000 ≤ g t ∧ g t ≤ 640000) (a : Int) : ∀ n : Nat, 0 ≤ hv g a n ∧ hv g a n ≤ 640000 * (n : Int)
 | 0 => by simp [hv]
 | n + 1 => by
  have h1 := wX hg a n
  have h2 := hg (a + n)
  simp only [hv]
  omega
theorem u9 {s : Nat → Int} {l : List a8} (h : pR s l) (a : Int) : ∀ n : Nat, n ≤ 3000 →
  dV ((List.range n).map fun (i : Nat) => (a + i, jG (s 16) (s 17) (a + (i : Int)) l)) = (hv (gS s l) a n, (List.range n).map fun i => hv (gS s l) a (i + 1))
 | 0, _ => rfl
 | n + 1, hn => by
  have ih := u9 h a n (by omega)
  have h1 := wX (w9 h) a n
  have h2 := w9 h (a + n)
  rw [List.range_succ, List.map_append, List.map_cons, List.map_nil, jn, ih]
  have e : max 0 (w64 (hv (gS s l) a n + jG (s 16) (s 17) (a + (n : Int)) l)) = hv (gS s l) a (n + 1) := by
   rw [ai (by unfold gS at h2; omega) (by unfold gS at h2; omega)]; rfl
  simp [e]
theorem BD {s : Nat → Int} {l : List a8} (h : pR s l) {a b : Int} (hab : b - a ≤ 3000) : jm s l a b = (List.range (b - a).toNat).map fun i => hv (gS s l) a (i + 1) := by
 unfold jm iv
 rw [u9 h a _ (by omega)]
theorem E3 {l : List Int} {i : Nat} {z : Int} (h : i < l.length) (hz : z = i) : 0 ≤ z ∧ (l.map fun h => [AV.int .i64 h])[z.toNat]? = some [AV.int .i64 (l.getD i 0)] := by
 subst hz
 exact ⟨by omega, by simp [List.getElem?_eq_getElem h]⟩
def slM (s : Nat → Int) (x y : a8) : Int := s 19 * max (x.k - y.k) (y.k - x.k)
structure C3 (s : Nat → Int) : Prop where
 w0 : 0 ≤ s 9
 w1 : s 9 ≤ 4
 r0 : 0 ≤ s 19
 r1 : s 19 ≤ 60
structure r7 (x : a8) : Prop where
 a0 : 0 ≤ x.a
 ab : x.a < x.b
 b1 : x.b ≤ 1000000
 k0 : -4 ≤ x.k
 k1 : x.k ≤ 4
theorem slB {s : Nat → Int} (hs : C3 s) {x y : a8} (hx : r7 x) (hy : r7 y) : 0 ≤ slM s x y ∧ slM s x y ≤ 480 ∧ uz s x.k y.k = slM s x y := by
 obtain ⟨_, _, r0, r1⟩ := hs
 obtain ⟨_, _, _, x0, x1⟩ := hx
 obtain ⟨_, _, _, y0, y1⟩ := hy
 have m1 : 0 ≤ max (x.k - y.k) (y.k - x.k) := by omega
 have m2 : max (x.k - y.k) (y.k - x.k) ≤ 8 := by omega
 have p1 : 0 ≤ slM s x y := Int.mul_nonneg r0 m1
 have p2 : slM s x y ≤ 60 * 8 := Int.mul_le_mul r1 m2 m1 (by omega)
 refine ⟨p1, by omega, ?_⟩
 unfold uz
 rw [ai (n := x.k - y.k) (by omega) (by omega), ai (n := y.k - x.k) (by omega) (by omega)]
 exact ai (by show _ ≤ slM s x y; omega) (by show slM s x y ≤ _; omega)
theorem xQ (s : Nat → Int) (x y : a8) : slM s x y = slM s y x := by unfold slM; rw [Int.max_comm]
theorem Ff {s : Nat → Int} (hs : C3 s) {x y : a8} (hx : r7 x) (hy : r7 y) : tz s x y = true ↔ if y.a < x.a then x.a ≥ y.b + slM s x y else y.a ≥ x.b + slM s x y := by
 obtain ⟨p1, p2, p3⟩ := slB hs hx hy
 obtain ⟨q1, q2, q3⟩ := slB hs hy hx
 have := hx.a0; have := hx.ab; have := hx.b1; have := hy.a0; have := hy.ab; have := hy.b1
 unfold tz EA
 rw [xQ s x y]
 rw [xQ s x y] at p1 p2 p3
 split
 ·rw [q3, ai (n := y.b + _) (by omega) (by omega)]; simp
 ·rw [p3, ai (n := x.b + _) (by omega) (by omega)]; simp
theorem Dm {s : Nat → Int} (h : dR s = true) : C3 s := by
 simp only [dR, Bool.and_eq_true] at h
 have h9 := qa h.1.1.1.2.2.1
 have h19 := qa h.1.1.1.2.2.2.2.1
 exact ⟨h9.1, h9.2, h19.1, h19.2⟩
theorem DR {s : Nat → Int} (hs : C3 s) {x : a8} (h : pV s x = true) : r7 x := by
 have := hs.w0; have := hs.w1
 simp only [pV, inS, Bool.and_eq_true, decide_eq_true_eq] at h
 rw [ai (n := 0 - s 9) (by omega) (by omega)] at h
 constructor <;> omega
theorem AQ {s : Nat → Int} {l : List a8} (h : jR s l = true) : dR s = true := by unfold jR at h; rw [Bool.and_eq_true] at h; exact h.2
theorem AR {s : Nat → Int} {l : List a8} (h : jR s l = true) {x : a8} (hx : x ∈ l) : pV s x = true := by
 simp only [jR, oQ, Bool.and_eq_true, List.all_eq_true] at h; exact h.1.1 x hx
def AW (s : Nat → Int) (x y : a8) : Int := w64 (max (w64 (x.k - y.k)) (w64 (0 - w64 (x.k - y.k))) * s 19)
def DK (s : Nat → Int) (x y : a8) : Bool := (decide (x.b ≤ y.a) && decide (w64 (y.a - x.b) ≥ AW s x y)) || (decide (y.b ≤ x.a) && decide (w64 (x.a - y.b) ≥ AW s x y))
theorem Df {s : Nat → Int} {x y : a8} (hx : r7 x) (hy : r7 y) : AW s x y = uz s x.k y.k := by
 obtain ⟨_, _, _, x0, x1⟩ := hx
 obtain ⟨_, _, _, y0, y1⟩ := hy
 unfold AW uz
 rw [ai (n := x.k - y.k) (by omega) (by omega), ai (n := 0 - (x.k - y.k)) (by omega) (by omega), ai (n := y.k - x.k) (by omega) (by omega), Int.mul_comm, show 0 - (x.k - y.k) = y.k - x.k by omega]
theorem DJ {s : Nat → Int} (hs : C3 s) {x y : a8} (hx : r7 x) (hy : r7 y) : DK s x y = tz s x y := by
 rw [Bool.eq_iff_iff, Ff hs hx hy]
 unfold DK
 rw [Df hx hy, (slB hs hx hy).2.2]
 have := (slB hs hx hy).1
 have := hx.a0; have := hx.ab; have := hx.b1; have := hy.a0; have := hy.ab; have := hy.b1
 simp only [Bool.or_eq_true, Bool.and_eq_true, decide_eq_true_eq]
 rw [ai (n := y.a - x.b) (by omega) (by omega), ai (n := x.a - y.b) (by omega) (by omega)]
 split <;> omega
theorem BO (t : Int) (l : List a8) (x : a8) : cnt t (l ++ [x]) = cnt t l + if hit t x then 1 else 0 := by
 unfold cnt; rw [List.filter_append, List.length_append]; congr 1
 simp only [List.filter_cons, List.filter_nil]; split <;> rfl
theorem zV (s : Nat → Int) (x y : a8) : ae Tryz.prog 219 [.agg (aJ s), .agg (bP x), .agg (bP y)] (.int .i64 (AW s x y)) := by
 refine ah aa Tryz.func219 rfl (by kernel_rfl) af (Nat.le_of_ble_eq_true rfl) ?_
 intro F n' w0 m0 hG hro h1
 repeat' first|refine Q1 ?_|refine Q2 ?_|refine Q3 hG aa nm ?_|refine Q4 hG aa nm ?_|refine Q5 hG aa ?_|refine Q6 hG aa ?_|refine Q7 hG aa ?_|refine Q8 hG aa ?_|refine Q9 rfl ?_|refine QF rfl ?_|refine QC rfl ⟨fun h => ?_,fun h => ?_⟩|((conv => whnf); first|refine anF ?_|refine anT ?_|refine anK ?_|refine And.intro (fun h => ?_) (fun h => ?_)|refine Or.inl ?_)
 exact Ends.mk (Or.inl rfl) (ac rfl)
theorem zW (s : Nat → Int) (x y : a8) : ae Tryz.prog 148 [.agg (aJ s), .agg (bP x), .agg (bP y)] (.bool (DK s x y)) := by
 refine ah aa Tryz.func148 rfl (by kernel_rfl) af (Nat.le_of_ble_eq_true rfl) ?_
 intro F n' w0 m0 hG hro h1
 repeat' first|refine Q1 ?_|refine Q2 ?_|refine Q3 hG aa nT ?_|refine Q4 hG aa nT ?_|refine Q5 hG aa ?_|refine Q6 hG aa ?_|refine Q7 hG aa ?_|refine Q8 hG aa ?_|refine Q9 rfl ?_|refine QF rfl ?_|refine QC rfl ⟨fun h => ?_,fun h => ?_⟩|((conv => whnf); first|refine anF ?_|refine anT ?_|refine anK ?_|refine Exists.intro _ (And.intro (zV s x y) ?_)|refine And.intro (fun h => ?_) (fun h => ?_)|refine Or.inl ?_)
 all_goals refine Ends.mk (Or.inl rfl) (ac (congrArg AV.bool ?_))
 all_goals (clear hG; simp_all [DK, w64])
 all_goals (try (intros; omega))
theorem zR (l : List a8) (t : Int) (hl : l.length ≤ 1000000) : ae Tryz.prog 221 [da l, .int .i64 t] (.int .i64 (cnt t l)) := by
 have hml : ((l.map bP).length : Int) = l.length := by rw [List.length_map]
 refine ah aa Tryz.func221 rfl (by kernel_rfl) af (Nat.le_of_ble_eq_true rfl) ?_
 intro F n' w0 m0 hG hro h1
 repeat' first|refine Q1 ?_|refine Q2 ?_|refine Q3 hG aa f9 ?_|refine Q4 hG aa f9 ?_|refine Q5 hG aa ?_|refine Q6 hG aa ?_|refine Q7 hG aa ?_|refine Q8 hG aa ?_|refine Q9 rfl ?_|refine QF rfl ?_|refine QC rfl ⟨fun h => ?_,fun h => ?_⟩|((conv => whnf); first|refine anF ?_|refine anT ?_|refine anK ?_|refine And.intro (fun h => ?_) (fun h => ?_)|refine Or.inl ?_)
 refine ap (X := Nat) (fun i => ⟨[(6, .int .i64 i), (5, .int .i64 (cnt t (l.take i))), (0, da l), (1, .int .i64 t)], []⟩) (fun i => i ≤ l.length) (fun i => l.length - i) 0 (Nat.zero_le _) (ag ?_ ?_) (fun i hi => ?_)
 ·repeat' (first | exact trivial | refine And.intro rfl ?_)
 ·repeat' (first | exact trivial | refine And.intro rfl ?_)
 ·have hlt : decide ((i : Int) < ((l.map bP).length : Int)) = true → i < l.length := fun h => by have := of_decide_eq_true h; omega
  have ci := fun h => BC (l := l) (i := i) (hlt h) rfl
  have nx : decide ((i : Int) < ((l.map bP).length : Int)) = true → ∀ b, hit t (fu l i) = b → cnt t (l.take (i + 1)) = cnt t (l.take i) + if b then 1 else 0 := fun h b hb => by
   rw [sc (hlt h), BO, ← ko (hlt h), hb]
  have hc := lG t (l.take i)
  rw [List.length_take] at hc
  repeat' first|refine Q1 ?_|refine Q2 ?_|refine Q3 hG aa f9 ?_|refine Q4 hG aa f9 ?_|refine Q5 hG aa ?_|refine Q6 hG aa ?_|refine Q7 hG aa ?_|refine Q8 hG aa ?_|refine Q9 rfl ?_|refine QF rfl ?_|refine QC rfl ⟨fun h => ?_,fun h => ?_⟩|((conv => whnf); first|refine anF ?_|refine anT ?_|refine anK ?_|refine And.intro (ci (by assumption)).1 (Exists.intro _ (And.intro (ci (by assumption)).2 ?_))|refine And.intro (fun h => ?_) (fun h => ?_)|refine Or.inl ?_)
  ·refine Exists.intro (i + 1) (And.intro (hlt (by assumption)) (And.intro (by have := hlt (by assumption); omega) (ag ?_ ?_)))
   ·refine And.intro (congrArg some (am (by have := hlt (by assumption); omega))) (And.intro (congrArg (fun z => some (AV.int .i64 z)) ?_) ?_)
    ·rw [nx (by assumption) true (by simp only [hit, *, Bool.and_self])]
     exact (ai (by omega) (by omega)).trans (by simp)
    ·repeat' (first | exact trivial | refine And.intro rfl ?_)
   ·repeat' (first | exact trivial | refine And.intro rfl ?_)
  ·refine Exists.intro (i + 1) (And.intro (hlt (by assumption)) (And.intro (by have := hlt (by assumption); omega) (ag ?_ ?_)))
   ·refine And.intro (congrArg some (am (by have := hlt (by assumption); omega))) (And.intro (congrArg (fun z => some (AV.int .i64 z)) ?_) ?_)
    ·rw [nx (by assumption) false (by simp only [hit, *, Bool.and_false])]
     simp
    ·repeat' (first | exact trivial | refine And.intro rfl ?_)
   ·repeat' (first | exact trivial | refine And.intro rfl ?_)
  ·refine Exists.intro (i + 1) (And.intro (hlt (by assumption)) (And.intro (by have := hlt (by assumption); omega) (ag ?_ ?_)))
   ·refine And.intro (congrArg some (am (by have := hlt (by assumption); omega))) (And.intro (congrArg (fun z => some (AV.int .i64 z)) ?_) ?_)
    ·rw [nx (by assumption) false (by simp only [hit, *, Bool.false_and])]
     simp
    ·repeat' (first | exact trivial | refine And.intro rfl ?_)
   ·repeat' (first | exact trivial | refine And.intro rfl ?_)
  ·have e : l.take i = l := List.take_of_length_le (by have := of_decide_eq_false (by assumption : decide ((i : Int) < ((l.map bP).length : Int)) = false); omega)
   refine Ends.mk (Or.inl rfl) (ac (congrArg (AV.int .i64) ?_))
   rw [e]
theorem sU (s : Nat → Int) (l : List a8) (hl : l.length ≤ 1000000) : ae Tryz.prog 147 [.agg (aJ s), da l] (.bool (jR s l)) := Af s l hl
theorem Ad (s : Nat → Int) (l : List a8) (hl : l.length ≤ 1000000) (hv : jR s l = true) : ae Tryz.prog 77 [.agg (aJ s), da l] (.tup (A6 (gn s l))) := by
 have hml : ((l.map bP).length : Int) = l.length := by rw [List.length_map]
 have hsB := Dm (AQ hv)
 have hxB : ∀ i, i < l.length → r7 (fu l i) := fun i h => DR hsB (AR hv (zu h))
 have kv := sU s l hl
 rw [hv] at kv
 refine ah aa Tryz.func77 rfl (by kernel_rfl) af (Nat.le_of_ble_eq_true rfl) ?_
 intro F n' w0 m0 hG hro h1
 repeat' first|refine Q1 ?_|refine Q2 ?_|refine Q3 hG aa eV ?_|refine Q4 hG aa eV ?_|refine Q5 hG aa ?_|refine Q6 hG aa ?_|refine Q7 hG aa ?_|refine Q8 hG aa ?_|refine Q9 rfl ?_|refine QF rfl ?_|refine QC rfl ⟨fun h => ?_,fun h => ?_⟩|((conv => whnf); first|refine anF ?_|refine anT ?_|refine anK ?_|refine Exists.intro _ (And.intro (kv) ?_)|refine And.intro (fun h => ?_) (fun h => ?_)|refine Or.inl ?_)
 refine ap (X := Nat) (fun k => ⟨[(8, .int .i64 k), (1, da l), (2, .loc 2 0)], [(2, aJ s)]⟩) (fun k => k ≤ l.length ∧ ∀ j, j < k → xP s l j = none) (fun k => l.length - k) 0 ⟨Nat.zero_le _, fun k hk => absurd hk (Nat.not_lt_zero _)⟩ (ag ?_ ?_) (fun k hk => ?_)
 ·repeat' (first | exact trivial | refine And.intro rfl ?_)
 ·repeat' (first | exact trivial | refine And.intro rfl ?_)
 ·obtain ⟨hk, hall⟩ := hk
  have hlt : decide ((k : Int) < ((l.map bP).length : Int)) = true → k < l.length := fun h => by have := of_decide_eq_true h; omega
  have ck := fun h => BC (l := l) (i := k) (hlt h) rfl
  repeat' first|refine Q1 ?_|refine Q2 ?_|refine Q3 hG aa eV ?_|refine Q4 hG aa eV ?_|refine Q5 hG aa ?_|refine Q6 hG aa ?_|refine Q7 hG aa ?_|refine Q8 hG aa ?_|refine Q9 rfl ?_|refine QF rfl ?_|refine QC rfl ⟨fun h => ?_,fun h => ?_⟩|((conv => whnf); first|refine anF ?_|refine anT ?_|refine anK ?_|refine And.intro (fun h => ?_) (fun h => ?_)|refine Or.inl ?_)
  ·have hk2 := hlt (by assumption)
   refine ap (X := Nat) (fun i => ⟨[(9, .int .i64 i), (8, .int .i64 k), (1, da l), (2, .loc 2 0)], [(2, aJ s)]⟩) (fun i => i ≤ k ∧ ∀ j, j < i → lX s l k j = none) (fun i => k - i) 0 ⟨Nat.zero_le _, fun k hk => absurd hk (Nat.not_lt_zero _)⟩ (ag ?_ ?_) (fun i hi => ?_)
   ·repeat' (first | exact trivial | refine And.intro rfl ?_)
   ·repeat' (first | exact trivial | refine And.intro rfl ?_)
   ·obtain ⟨hi, hal2⟩ := hi
    have hlt2 : decide ((i : Int) < (k : Int)) = true → i < k := fun h => by have := of_decide_eq_true h; omega
    have ci := fun h => BC (l := l) (i := i) (z := i) (by have := hlt2 h; omega) rfl
    have hfit := fun (h : decide ((i : Int) < (k : Int)) = true) => DJ hsB (hxB i (by have := hlt2 h; omega)) (hxB k hk2)
    have c39 := zW s (fu l i) (fu l k)
    have ck := ck (by assumption)
    repeat' first|refine Q1 ?_|refine Q2 ?_|refine Q3 hG aa eV ?_|refine Q4 hG aa eV ?_|refine Q5 hG aa ?_|refine Q6 hG aa ?_|refine Q7 hG aa ?_|refine Q8 hG aa ?_|refine Q9 rfl ?_|refine QF rfl ?_|refine QC rfl ⟨fun h => ?_,fun h => ?_⟩|((conv => whnf); first|refine anF ?_|refine anT ?_|refine anK ?_|refine And.intro (ci (by assumption)).1 (Exists.intro _ (And.intro (ci (by assumption)).2 ?_))|refine And.intro ck.1 (Exists.intro _ (And.intro ck.2 ?_))|refine Exists.intro _ (And.intro (c39) ?_)|refine And.intro (fun h => ?_) (fun h => ?_)|refine Or.inl ?_)
    ·refine Ends.mk (Or.inl rfl) (ac ?_)
     have hf : tz s (fu l i) (fu l k) = false := by rw [← hfit (by assumption)]; exact mm (by assumption)
     have hJ : xP s l k = some (i, k) := kG (hlt2 (by assumption)) hal2 (by unfold lX; rw [if_neg (by rw [hf]; exact Bool.false_ne_true)])
     have hO : gn s l = some (i, k) := kG hk2 hall hJ
     rw [hO]; rfl
    ·have hf : tz s (fu l i) (fu l k) = true := by rw [← hfit (by assumption)]; exact fR (by assumption)
     refine Exists.intro (i + 1) (And.intro ⟨hlt2 (by assumption), fun j hj => ?_⟩ (And.intro (by have := hlt2 (by assumption); omega) (ag ?_ ?_)))
     ·rcases Nat.lt_succ_iff_lt_or_eq.1 hj with h | rfl
      ·exact hal2 j h
      ·unfold lX; rw [if_pos hf]
     ·refine And.intro (congrArg some (am (by omega))) ?_
      repeat' (first | exact trivial | refine And.intro rfl ?_)
     ·repeat' (first | exact trivial | refine And.intro rfl ?_)
    ·have hi3 : i = k := by have := of_decide_eq_false (by assumption : decide ((i : Int) < (k : Int)) = false); omega
     subst hi3
     refine Exists.intro (i + 1) (And.intro ⟨hk2, fun j hj => ?_⟩ (And.intro (by omega) (ag ?_ ?_)))
     ·rcases Nat.lt_succ_iff_lt_or_eq.1 hj with h | rfl
      ·exact hall j h
      ·exact kH hal2
     ·refine And.intro (congrArg some (am (by omega))) ?_
      repeat' (first | exact trivial | refine And.intro rfl ?_)
     ·repeat' (first | exact trivial | refine And.intro rfl ?_)
  ·have hk3 : k = l.length := by have := of_decide_eq_false (by assumption : decide ((k : Int) < ((l.map bP).length : Int)) = false); omega
   subst hk3
   have hO : gn s l = none := kH hall
   exact Ends.mk (Or.inl rfl) (ac (by rw [hO]; rfl))
theorem E2 {s : Nat → Int} {l : List a8} (h : pR s l) (a : Int) (n : Nat) (hn : n ≤ 3000) : max 0 (w64 (w64 (hv (gS s l) a n + w64 (s 16 * (cnt (a + n) l : Nat))) - s 17)) = hv (gS s l) a (n + 1) := by
 have h1 := wX (w9 h) a n
 have h2 := qx h.w0 h.w1 (n := cnt (a + n) l) (by have := lG (a + n) l; have := h.ln; omega)
 have := h.c0; have := h.c1
 rw [ai (n := s 16 * _) (by omega) (by omega), ai (n := hv _ _ _ + _) (by omega) (by omega), ai (by omega) (by omega)]
 show _ = max 0 (hv (gS s l) a n + gS s l (a + n))
 rw [D7 h]; omega
theorem Ac (s : Nat → Int) (l : List a8) (a b : Int) (hl : l.length ≤ 1000000) (hs : iA a b = true) (hv' : jR s l = true) : ae Tryz.prog 149 [.agg (aJ s), da l, .agg (ar a b)] (.tup [kX (jm s l a b), .int .i64 0]) := by
 have kv := sU s l hl
 have ks := zS a b
 rw [hv'] at kv
 rw [hs] at ks
 have hH := pR.of hv'
 obtain ⟨ha, hab, hb⟩ := wA hs
 have hba : b - a ≤ 3000 := by
  simp only [iA, Bool.and_eq_true, decide_eq_true_eq] at hs
  rw [ai (n := b - a) (by omega) (by omega)] at hs; exact hs.2
 have eH := BD hH (a := a) (b := b) hba
 refine ah aa Tryz.func149 rfl (by kernel_rfl) af (Nat.le_of_ble_eq_true rfl) ?_
 intro F n' w0 m0 hG hro h1
 repeat' first|refine Q1 ?_|refine Q2 ?_|refine Q3 hG aa gf ?_|refine Q4 hG aa gf ?_|refine Q5 hG aa ?_|refine Q6 hG aa ?_|refine Q7 hG aa ?_|refine Q8 hG aa ?_|refine Q9 rfl ?_|refine QF rfl ?_|refine QC rfl ⟨fun h => ?_,fun h => ?_⟩|((conv => whnf); first|refine anF ?_|refine anT ?_|refine anK ?_|refine Exists.intro _ (And.intro (kv) ?_)|refine Exists.intro _ (And.intro (ks) ?_)|refine And.intro (fun h => ?_) (fun h => ?_)|refine Or.inl ?_)
 refine ap (X := Nat) (fun i => ⟨[(10, .int .i64 (a + (i : Int))), (9, .int .i64 (hv (gS s l) a i)), (8, .sl (.id 8) 1 (((List.range i).map fun j => hv (gS s l) a (j + 1)).map fun h => [AV.int .i64 h])), (1, da l), (3, .loc 3 0), (5, .loc 5 0)], [(3, aJ s), (5, [.int .i64 a, .int .i64 b])]⟩) (fun i => i ≤ (b - a).toNat) (fun i => (b - a).toNat - i) 0 (Nat.zero_le _) (ag ?_ ?_) (fun i hi => ?_)
 ·refine And.intro (congrArg (fun z => some (AV.int .i64 z)) (show a = a + ((0 : Nat) : Int) by omega)) ?_
  repeat' (first | exact trivial | refine And.intro rfl ?_)
 ·repeat' (first | exact trivial | refine And.intro rfl ?_)
 ·have k44 := zR l (a + i) hl
  have hR := E2 hH a i (by omega)
  have hlen : (((List.range i).map fun j => hv (gS s l) a (j + 1)).map fun h => [AV.int .i64 h]).length ≤ 3000 := by simp; omega
  repeat' first|refine Q1 ?_|refine Q2 ?_|refine Q3 hG aa gf ?_|refine Q4 hG aa gf ?_|refine Q5 hG aa ?_|refine Q6 hG aa ?_|refine Q7 hG aa ?_|refine Q8 hG aa ?_|refine Q9 rfl ?_|refine QF rfl ?_|refine QC rfl ⟨fun h => ?_,fun h => ?_⟩|((conv => whnf); first|refine anF ?_|refine anT ?_|refine anK ?_|refine Exists.intro _ (And.intro (k44) ?_)|refine And.intro (show _ * 8 ≤ 70368744177664 by simp only [List.length_cons, List.length_nil]; omega) (And.intro (show _ + _ ≤ 4611686018427387904 by simp only [List.length_cons, List.length_nil]; omega) ?_)|refine And.intro (fun h => ?_) (fun h => ?_)|refine Or.inl ?_)
  ·have hi2 : i < (b - a).toNat := by have := of_decide_eq_true (by assumption : decide (a + (i : Int) < b) = true); omega
   refine Exists.intro (i + 1) (And.intro hi2 (And.intro (by omega) (ag ?_ ?_)))
   ·refine And.intro (congrArg (fun z => some (AV.int .i64 z)) ((ai (by omega) (by omega)).trans (by omega))) (And.intro (congrArg (fun z => some (AV.int .i64 z)) hR) (And.intro (congrArg (fun z => some (AV.sl (.id 8) 1 z)) ?_) ?_))
    ·rw [List.range_succ, List.map_append, List.map_append]
     exact congrArg (fun z => _ ++ [[AV.int .i64 z]]) hR
    ·repeat' (first | exact trivial | refine And.intro rfl ?_)
   ·repeat' (first | exact trivial | refine And.intro rfl ?_)
  ·have hi2 : i = (b - a).toNat := by have := of_decide_eq_false (by assumption : decide (a + (i : Int) < b) = false); omega
   subst hi2
   refine Ends.mk (Or.inl rfl) (ac ?_)
   rw [eH]; rfl
theorem Aa (s : Nat → Int) (l : List a8) (a b : Int) (hl : l.length ≤ 1000000) (hs : iA a b = true) (hv' : jR s l = true) : ae Tryz.prog 79 [.agg (aJ s), da l, .agg (ar a b)] (.tup [.int .i64 (rT s l a b), .int .i64 0]) := by
 have k21 := Ac s l a b hl hs hv'
 have lA := qT s l a b
 obtain ⟨ha, hab, hb⟩ := wA hs
 have hh : rT s l a b = (let i := cq (fun h => decide (h > s 18)) (jm s l a b) 0; if i ≥ 0 then w64 (a + i) else -1) := rfl
 generalize jm s l a b = A at *
 generalize rT s l a b = hot at *
 have mA : ((A.map fun h => [AV.int .i64 h]).length : Int) = A.length := by rw [List.length_map]
 refine ah aa Tryz.func79 rfl (by kernel_rfl) af (Nat.le_of_ble_eq_true rfl) ?_
 intro F n' w0 m0 hG hro h1
 repeat' first|refine Q1 ?_|refine Q2 ?_|refine Q3 hG aa il ?_|refine Q4 hG aa il ?_|refine Q5 hG aa ?_|refine Q6 hG aa ?_|refine Q7 hG aa ?_|refine Q8 hG aa ?_|refine Q9 rfl ?_|refine QF rfl ?_|refine QC rfl ⟨fun h => ?_,fun h => ?_⟩|((conv => whnf); first|refine anF ?_|refine anT ?_|refine anK ?_|refine Exists.intro _ (And.intro (k21) ?_)|refine And.intro (fun h => ?_) (fun h => ?_)|refine Or.inl ?_)
 refine ap (X := Nat) (fun i => ⟨[(10, .int .i64 i), (8, kX A), (3, .loc 3 0), (5, .loc 5 0)], [(3, aJ s), (5, [.int .i64 a, .int .i64 b])]⟩) (fun i => i ≤ A.length ∧ cq (fun h => decide (h > s 18)) (A.drop i) i = cq (fun h => decide (h > s 18)) A 0) (fun i => A.length - i) 0 ⟨Nat.zero_le _, by simp⟩ (ag ?_ ?_) (fun i hi => ?_)
 ·repeat' (first | exact trivial | refine And.intro rfl ?_)
 ·repeat' (first | exact trivial | refine And.intro rfl ?_)
 ·obtain ⟨hi, hidx⟩ := hi
  have hlt : decide ((i : Int) < ((A.map fun h => [AV.int .i64 h]).length : Int)) = true → i < A.length := fun h => by have := of_decide_eq_true h; omega
  have cA := fun h => E3 (l := A) (i := i) (z := i) (hlt h) rfl
  have hgd : ∀ h : i < A.length, A.getD i 0 = A[i] := fun h => by simp [List.getElem?_eq_getElem h]
  repeat' first|refine Q1 ?_|refine Q2 ?_|refine Q3 hG aa il ?_|refine Q4 hG aa il ?_|refine Q5 hG aa ?_|refine Q6 hG aa ?_|refine Q7 hG aa ?_|refine Q8 hG aa ?_|refine Q9 rfl ?_|refine QF rfl ?_|refine QC rfl ⟨fun h => ?_,fun h => ?_⟩|((conv => whnf); first|refine anF ?_|refine anT ?_|refine anK ?_|refine And.intro (cA (by assumption)).1 (Exists.intro _ (And.intro (cA (by assumption)).2 ?_))|refine And.intro (fun h => ?_) (fun h => ?_)|refine Or.inl ?_)
  ·have hi2 := hlt (by assumption)
   rw [qS hi2, if_pos (by rw [← hgd hi2]; exact (by assumption : decide (A.getD i 0 > s 18) = true))] at hidx
   refine Ends.mk (Or.inl rfl) (ac ?_)
   rw [hh, ← hidx]
   show _ = AV.tup [.int .i64 (if (i : Int) ≥ 0 then w64 (a + (i : Int)) else -1), .int .i64 0]
   rw [if_pos (by omega)]; rfl
  ·have hi2 := hlt (by assumption)
   rw [qS hi2, if_neg (by rw [← hgd hi2, (by assumption : decide (A.getD i 0 > s 18) = false)]; exact Bool.false_ne_true)] at hidx
   refine Exists.intro (i + 1) (And.intro ⟨hi2, hidx⟩ (And.intro (by omega) (ag ?_ ?_)))
   ·refine And.intro (congrArg some (am (by omega))) ?_
    repeat' (first | exact trivial | refine And.intro rfl ?_)
   ·repeat' (first | exact trivial | refine And.intro rfl ?_)
  ·have hi2 : i = A.length := by have := of_decide_eq_false (by assumption : decide ((i : Int) < ((A.map fun h => [AV.int .i64 h]).length : Int)) = false); omega
   subst hi2
   rw [List.drop_length] at hidx
   refine Ends.mk (Or.inl rfl) (ac ?_)
   rw [hh, ← hidx]; rfl
end Go.Proofs
namespace Go.Proofs
open Go Go.AI
set_option maxRecDepth 10000
structure bl where
 p : Int
 a : Int
 b : Int
deriving DecidableEq
def aL (x : bl) : List AV := [.int .i64 x.p, .int .i64 x.a, .int .i64 x.b]
structure Opt where
 id : Int
 ord : Int
 cl : Int
 sat : Int
 a : Int
 b : Int
 look : Int
 size : Int
 sl : List bl
def td (l : List bl) : AV := .sl .no 3 (l.map aL)
def aD (o : Opt) : List AV := [.int .i64 o.id, .int .i64 o.ord, .int .i64 o.cl, .int .i64 o.sat, .int .i64 o.a, .int .i64 o.b, .int .i64 o.look, .int .i64 o.size, td o.sl]
def ay (l : List Opt) : AV := .sl .no 9 (l.map aD)
theorem iM (n a b : Int) : ae Tryz.prog 153 [.int .i64 n, .int .i64 a, .int .i64 b] (.bool (inS n a b)) := by
 refine ah aa Tryz.func153 rfl (by kernel_rfl) af (Nat.le_of_ble_eq_true rfl) ?_
 intro F n' w0 m0 hG hro h1
 repeat' first|refine Q1 ?_|refine Q2 ?_|refine Q3 hG aa nR ?_|refine Q4 hG aa nR ?_|refine Q5 hG aa ?_|refine Q6 hG aa ?_|refine Q7 hG aa ?_|refine Q8 hG aa ?_|refine Q9 rfl ?_|refine QF rfl ?_|refine QC rfl ⟨fun h => ?_,fun h => ?_⟩|((conv => whnf); first|refine anF ?_|refine anT ?_|refine anK ?_|refine And.intro (fun h => ?_) (fun h => ?_)|refine Or.inl ?_)
 all_goals refine Ends.mk (Or.inl rfl) (ac (congrArg AV.bool ?_))
 all_goals (simp_all [inS] <;> omega)
theorem zz (n a b : Int) : ae Tryz.prog 228 [.int .i64 n, .int .i64 a, .int .i64 b] (.bool (inS n a b)) := by
 refine ah aa Tryz.func228 rfl (by kernel_rfl) af (Nat.le_of_ble_eq_true rfl) ?_
 intro F n' w0 m0 hG hro h1
 repeat' first|refine Q1 ?_|refine Q2 ?_|refine Q3 hG aa nh ?_|refine Q4 hG aa nh ?_|refine Q5 hG aa ?_|refine Q6 hG aa ?_|refine Q7 hG aa ?_|refine Q8 hG aa ?_|refine Q9 rfl ?_|refine QF rfl ?_|refine QC rfl ⟨fun h => ?_,fun h => ?_⟩|((conv => whnf); first|refine anF ?_|refine anT ?_|refine anK ?_|refine And.intro (fun h => ?_) (fun h => ?_)|refine Or.inl ?_)
 all_goals refine Ends.mk (Or.inl rfl) (ac (congrArg AV.bool ?_))
 all_goals (simp_all [inS] <;> omega)
theorem sT (n a b : Int) : ae Tryz.prog 104 [.int .i64 n, .int .i64 a, .int .i64 b] (.bool (inS n a b)) := by
 refine ah aa Tryz.func104 rfl (by kernel_rfl) af (Nat.le_of_ble_eq_true rfl) ?_
 intro F n' w0 m0 hG hro h1
 repeat' first|refine Q1 ?_|refine Q2 ?_|refine Q3 hG aa gh ?_|refine Q4 hG aa gh ?_|refine Q5 hG aa ?_|refine Q6 hG aa ?_|refine Q7 hG aa ?_|refine Q8 hG aa ?_|refine Q9 rfl ?_|refine QF rfl ?_|refine QC rfl ⟨fun h => ?_,fun h => ?_⟩|((conv => whnf); first|refine anF ?_|refine anT ?_|refine anK ?_|refine And.intro (fun h => ?_) (fun h => ?_)|refine Or.inl ?_)
 all_goals refine Ends.mk (Or.inl rfl) (ac (congrArg AV.bool ?_))
 all_goals (simp_all [inS] <;> omega)
theorem ro (a b : Int) : ae Tryz.prog 83 [.agg (ar a b)] (.bool (bi a b)) := by
 refine ah aa Tryz.func83 rfl (by kernel_rfl) af (Nat.le_of_ble_eq_true rfl) ?_
 intro F n' w0 m0 hG hro h1
 repeat' first|refine Q1 ?_|refine Q2 ?_|refine Q3 hG aa pE ?_|refine Q4 hG aa pE ?_|refine Q5 hG aa ?_|refine Q6 hG aa ?_|refine Q7 hG aa ?_|refine Q8 hG aa ?_|refine Q9 rfl ?_|refine QF rfl ?_|refine QC rfl ⟨fun h => ?_,fun h => ?_⟩|((conv => whnf); first|refine anF ?_|refine anT ?_|refine anK ?_|refine Exists.intro _ (And.intro (iM _ _ _) ?_)|refine And.intro (fun h => ?_) (fun h => ?_)|refine Or.inl ?_)
 all_goals refine Ends.mk (Or.inl rfl) (ac (congrArg AV.bool ?_))
 all_goals (simp only [bi, *, Bool.true_and, Bool.and_true, Bool.false_and, Bool.and_false]; try rfl)
def jM (a b : Int) : Bool := decide (0 ≤ a) && decide (a < b) && decide (b ≤ 1000001)
theorem sR (a b : Int) : ae Tryz.prog 170 [.agg (ar a b)] (.bool (jM a b)) := by
 refine ah aa Tryz.func170 rfl (by kernel_rfl) af (Nat.le_of_ble_eq_true rfl) ?_
 intro F n' w0 m0 hG hro h1
 repeat' first|refine Q1 ?_|refine Q2 ?_|refine Q3 hG aa gd ?_|refine Q4 hG aa gd ?_|refine Q5 hG aa ?_|refine Q6 hG aa ?_|refine Q7 hG aa ?_|refine Q8 hG aa ?_|refine Q9 rfl ?_|refine QF rfl ?_|refine QC rfl ⟨fun h => ?_,fun h => ?_⟩|((conv => whnf); first|refine anF ?_|refine anT ?_|refine anK ?_|refine And.intro (fun h => ?_) (fun h => ?_)|refine Or.inl ?_)
 all_goals refine Ends.mk (Or.inl rfl) (ac (congrArg AV.bool ?_))
 all_goals (simp_all [jM] <;> (intros; omega))
def uZ (a b m : Int) : Bool := jM a b && decide (w64 (b - a) ≤ m)
theorem zA (a b m : Int) : ae Tryz.prog 227 [.agg (ar a b), .int .i64 m] (.bool (uZ a b m)) := by
 refine ah aa Tryz.func227 rfl (by kernel_rfl) af (Nat.le_of_ble_eq_true rfl) ?_
 intro F n' w0 m0 hG hro h1
 repeat' first|refine Q1 ?_|refine Q2 ?_|refine Q3 hG aa ni ?_|refine Q4 hG aa ni ?_|refine Q5 hG aa ?_|refine Q6 hG aa ?_|refine Q7 hG aa ?_|refine Q8 hG aa ?_|refine Q9 rfl ?_|refine QF rfl ?_|refine QC rfl ⟨fun h => ?_,fun h => ?_⟩|((conv => whnf); first|refine anF ?_|refine anT ?_|refine anK ?_|refine And.intro (fun h => ?_) (fun h => ?_)|refine Or.inl ?_)
 all_goals refine Ends.mk (Or.inl rfl) (ac (congrArg AV.bool ?_))
 all_goals (simp only [uZ, jM, w64, *, Bool.true_and, Bool.and_true, Bool.false_and, Bool.and_false]; try rfl)
def oq (o : Nat → Int) (a b k : Int) : Bool := lq o && uZ a b 60 && inS k (-4) 4
theorem zC (o : Nat → Int) (a b k : Int) : ae Tryz.prog 161 [.agg (iu o), .agg (ar a b), .int .i64 k] (.bool (oq o a b k)) := by
 refine ah aa Tryz.func161 rfl (by kernel_rfl) af (Nat.le_of_ble_eq_true rfl) ?_
 intro F n' w0 m0 hG hro h1
 repeat' first|refine Q1 ?_|refine Q2 ?_|refine Q3 hG aa nL ?_|refine Q4 hG aa nL ?_|refine Q5 hG aa ?_|refine Q6 hG aa ?_|refine Q7 hG aa ?_|refine Q8 hG aa ?_|refine Q9 rfl ?_|refine QF rfl ?_|refine QC rfl ⟨fun h => ?_,fun h => ?_⟩|((conv => whnf); first|refine anF ?_|refine anT ?_|refine anK ?_|refine Exists.intro _ (And.intro (rJ o) ?_)|refine Exists.intro _ (And.intro (zA _ _ _) ?_)|refine Exists.intro _ (And.intro (zz _ _ _) ?_)|refine And.intro (fun h => ?_) (fun h => ?_)|refine Or.inl ?_)
 all_goals refine Ends.mk (Or.inl rfl) (ac (congrArg AV.bool ?_))
 all_goals simp only [oq, *, Bool.true_and, Bool.and_true, Bool.false_and, Bool.and_false]
def fh : Int → List bl → Bool
 | _, [] => true
 | t, x :: r => decide (t ≤ x.a) && jM x.a x.b && fh x.b r
def iJ (o : Opt) : Bool := fh o.b o.sl && (inS o.id 0 63 && inS o.size 1 1000000 && jM o.a o.b && inS (o.sl.length : Int) 1 6)
theorem eq {l : List bl} {i : Nat} (h : i < l.length) : (l.map aL)[(i : Int).toNat]? = some [.int .i64 (l.getD i ⟨0, 0, 0⟩).p, .int .i64 (l.getD i ⟨0, 0, 0⟩).a, .int .i64 (l.getD i ⟨0, 0, 0⟩).b] := by simp [List.getElem?_eq_getElem h]; rfl
theorem pj {t : Int} {l : List bl} {i : Nat} (h : i < l.length) : fh t (l.drop i) = (decide (t ≤ (l.getD i ⟨0, 0, 0⟩).a) && jM (l.getD i ⟨0, 0, 0⟩).a (l.getD i ⟨0, 0, 0⟩).b && fh (l.getD i ⟨0, 0, 0⟩).b (l.drop (i + 1))) := by
 rw [List.drop_eq_getElem_cons h, List.getD_eq_getElem?_getD, List.getElem?_eq_getElem h]; rfl
set_option maxHeartbeats 4000000 in
theorem zF (o : Opt) (hl : o.sl.length ≤ 1000000) : ae Tryz.prog 103 [.agg (aD o)] (.bool (iJ o)) := by
 have hlm : ((o.sl.map aL).length : Int) = (o.sl.length : Int) := by rw [List.length_map]
 refine ah aa Tryz.func103 rfl (by kernel_rfl) af (Nat.le_of_ble_eq_true rfl) ?_
 intro F n' w0 m0 hG hro h1
 repeat' first|refine Q1 ?_|refine Q2 ?_|refine Q3 hG aa ee ?_|refine Q4 hG aa ee ?_|refine Q5 hG aa ?_|refine Q6 hG aa ?_|refine Q7 hG aa ?_|refine Q8 hG aa ?_|refine Q9 rfl ?_|refine QF rfl ?_|refine QC rfl ⟨fun h => ?_,fun h => ?_⟩|((conv => whnf); first|refine anF ?_|refine anT ?_|refine anK ?_|refine And.intro (fun h => ?_) (fun h => ?_)|refine Or.inl ?_)
 refine ap (X := Nat × Int × Int) (fun q => ⟨[(11, .int .i64 q.1), (10, .int .i64 (o.sl.map aL).length), (9, td o.sl), (3, .loc 3 0), (1, .loc 1 0)], [(3, ar q.2.1 q.2.2), (1, aD o)]⟩)
  (fun q => q.1 ≤ o.sl.length ∧ fh q.2.2 (o.sl.drop q.1) = fh o.b o.sl) (fun q => o.sl.length - q.1) (0, o.a, o.b) ⟨Nat.zero_le _, rfl⟩ (ag ?_ ?_) (fun q hq => ?_)
 ·repeat' (first | exact trivial | refine And.intro rfl ?_)
 ·repeat' (first | exact trivial | refine And.intro rfl ?_)
 ·obtain ⟨i, la, lb⟩ := q
  obtain ⟨hi, hf⟩ := hq
  have hi : i ≤ o.sl.length := hi
  have hf : fh lb (o.sl.drop i) = fh o.b o.sl := hf
  by_cases hlt : i < o.sl.length
  ·have bbk : decide ((i : Int) < ((o.sl.map aL).length : Int)) = false → False := fun h => by have := of_decide_eq_false h; omega
   have hx := eq hlt
   rw [pj hlt] at hf
   generalize o.sl.getD i ⟨0, 0, 0⟩ = x at hx hf
   have bad : (decide (lb ≤ x.a) && jM x.a x.b) = false → false = iJ o := fun h => by rw [h, Bool.false_and] at hf; rw [iJ, ← hf, Bool.false_and]
   repeat' first|exact (bbk (by assumption)).elim|refine Q1 ?_|refine Q2 ?_|refine Q3 hG aa ee ?_|refine Q4 hG aa ee ?_|refine Q5 hG aa ?_|refine Q6 hG aa ?_|refine Q7 hG aa ?_|refine Q8 hG aa ?_|refine Q9 rfl ?_|refine QF rfl ?_|refine QC rfl ⟨fun h => ?_,fun h => ?_⟩|((conv => whnf); first|refine anF ?_|refine anT ?_|refine anK ?_|refine And.intro (Int.natCast_nonneg i) (Exists.intro _ (And.intro hx ?_))|refine Exists.intro _ (And.intro (sR _ _) ?_)|refine And.intro (fun h => ?_) (fun h => ?_)|refine Or.inl ?_)
   ·have h := of_decide_eq_true (by assumption : decide (x.a < lb) = true)
    exact Ends.mk (Or.inl rfl) (ac (congrArg AV.bool (bad (by rw [decide_eq_false (by omega), Bool.false_and]))))
   ·have h := mm (by assumption : (!jM x.a x.b) = true)
    exact Ends.mk (Or.inl rfl) (ac (congrArg AV.bool (bad (by rw [h, Bool.and_false]))))
   ·have h1 := of_decide_eq_false (by assumption : decide (x.a < lb) = false)
    have h2 := fR (by assumption : (!jM x.a x.b) = false)
    rw [decide_eq_true (show lb ≤ x.a by omega), h2, Bool.true_and, Bool.true_and] at hf
    refine Exists.intro (i + 1, x.a, x.b) (And.intro ⟨hlt, hf⟩ (And.intro (by show o.sl.length - (i + 1) < o.sl.length - i; omega) (ag ?_ ?_)))
    ·refine And.intro (congrArg some (am (by omega))) ?_
     repeat' (first | exact trivial | refine And.intro rfl ?_)
    ·repeat' (first | exact trivial | refine And.intro rfl ?_)
  ·have hge : i = o.sl.length := by omega
   have bbk : decide ((i : Int) < ((o.sl.map aL).length : Int)) = true → False := fun h => by have := of_decide_eq_true h; omega
   rw [List.drop_of_length_le (by omega)] at hf
   have hft : fh o.b o.sl = true := hf.symm
   clear hf
   repeat' first|exact (bbk (by assumption)).elim|refine Q1 ?_|refine Q2 ?_|refine Q3 hG aa ee ?_|refine Q4 hG aa ee ?_|refine Q5 hG aa ?_|refine Q6 hG aa ?_|refine Q7 hG aa ?_|refine Q8 hG aa ?_|refine Q9 rfl ?_|refine QF rfl ?_|refine QC rfl ⟨fun h => ?_,fun h => ?_⟩|((conv => whnf); first|refine anF ?_|refine anT ?_|refine anK ?_|refine Exists.intro _ (And.intro (sT _ _ _) ?_)|refine Exists.intro _ (And.intro (sR _ _) ?_)|refine And.intro (fun h => ?_) (fun h => ?_)|refine Or.inl ?_)
   all_goals refine Ends.mk (Or.inl rfl) (ac (congrArg AV.bool ?_))
   all_goals (rw [iJ, hft]; simp only [hlm, *, Bool.true_and, Bool.and_true, Bool.false_and, Bool.and_false])
end Go.Proofs
namespace Go.Proofs
open Go Go.AI
def eN (out : List aq) (x : aq) : List aq := match out.getLast? with
 | some y => if y.k = x.k ∧ x.a ≤ y.b then out.dropLast ++ [⟨y.k, y.a, max y.b x.b⟩] else out ++ [x]
 | none => [x]
def dL (l : List aq) : List aq := l.foldl eN []
def el (l : List aq) (k t : Int) : Prop := ∃ x ∈ l, x.k = k ∧ x.a ≤ t ∧ t < x.b
def kl (x y : aq) : Prop := x.k < y.k ∨ (x.k = y.k ∧ x.b < y.a)
structure ef (l : List aq) : Prop where
 ok : ∀ x ∈ l, x.a < x.b
 sep : l.Pairwise kl
theorem ef.tail {x : aq} {l : List aq} (h : ef (x :: l)) : ef l := ⟨fun y hy => h.ok y (List.mem_cons_of_mem _ hy), (List.pairwise_cons.1 h.sep).2⟩
theorem ef.head {x : aq} {l : List aq} (h : ef (x :: l)) : x.a < x.b ∧ ∀ y ∈ l, kl x y := ⟨h.ok x List.mem_cons_self, (List.pairwise_cons.1 h.sep).1⟩
theorem ef.cov_tail {x : aq} {l : List aq} (h : ef (x :: l)) (k t : Int) : el l k t ↔ el (x :: l) k t ∧ ¬ (k = x.k ∧ x.a ≤ t ∧ t < x.b) := by
 constructor
 ·rintro ⟨y, hy, h1, h2, h3⟩
  refine ⟨⟨y, List.mem_cons_of_mem _ hy, h1, h2, h3⟩, fun ⟨g1, g2, g3⟩ => ?_⟩
  rcases h.head.2 y hy with g | g <;> omega
 ·rintro ⟨⟨y, hy, h1, h2, h3⟩, hn⟩
  rcases List.mem_cons.1 hy with rfl | hy
  ·exact absurd ⟨h1.symm, h2, h3⟩ hn
  ·exact ⟨y, hy, h1, h2, h3⟩
theorem ef.cov_ge {x : aq} {l : List aq} (h : ef (x :: l)) {k t : Int} (hc : el (x :: l) k t) : x.k < k ∨ (x.k = k ∧ x.a ≤ t) := by
 obtain ⟨y, hy, h1, h2, h3⟩ := hc
 rcases List.mem_cons.1 hy with rfl | hy
 ·right; omega
 ·have := h.head.1
  rcases h.head.2 y hy with g | g <;> omega
theorem ef.cov_end {x : aq} {l : List aq} (h : ef (x :: l)) : ¬ el (x :: l) x.k x.b := by
 rintro ⟨y, hy, h1, h2, h3⟩
 rcases List.mem_cons.1 hy with rfl | hy
 ·omega
 ·rcases h.head.2 y hy with g | g <;> omega
theorem ef.cov_head {x : aq} {l : List aq} {t : Int} (h1 : x.a ≤ t) (h2 : t < x.b) : el (x :: l) x.k t := ⟨x, List.mem_cons_self, rfl, h1, h2⟩
theorem ef.unique : ∀ {l m : List aq}, ef l → ef m → (∀ k t, el l k t ↔ el m k t) → l = m
 | [], [], _, _, _ => rfl
 | [], y :: m, _, hm, h => by
  obtain ⟨z, hz, _⟩ := (h y.k y.a).2 (ef.cov_head (Int.le_refl _) hm.head.1)
  cases hz
 | x :: l, [], hl, _, h => by
  obtain ⟨z, hz, _⟩ := (h x.k x.a).1 (ef.cov_head (Int.le_refl _) hl.head.1)
  cases hz
 | x :: l, y :: m, hl, hm, h => by
  have a1 := hm.cov_ge ((h x.k x.a).1 (ef.cov_head (Int.le_refl _) hl.head.1))
  have a2 := hl.cov_ge ((h y.k y.a).2 (ef.cov_head (Int.le_refl _) hm.head.1))
  have hk : x.k = y.k := by omega
  have ha : x.a = y.a := by omega
  have b1 : ¬ x.b < y.b := fun hb => hl.cov_end ((h x.k x.b).2 (by rw [hk]; exact ef.cov_head (by have := hl.head.1; omega) hb))
  have b2 : ¬ y.b < x.b := fun hb => hm.cov_end ((h y.k y.b).1 (by rw [← hk]; exact ef.cov_head (by have := hm.head.1; omega) hb))
  have hxy : x = y := by
   obtain ⟨xk, xa, xb⟩ := x
   obtain ⟨yk, ya, yb⟩ := y
   (try simp only [aq.mk.injEq] at *)
   omega
  subst hxy
  rw [ef.unique hl.tail hm.tail fun k t => by rw [hl.cov_tail, hm.cov_tail, h]]
theorem eP {l m : List aq} {k t : Int} : el (l ++ m) k t ↔ el l k t ∨ el m k t := by
 constructor
 ·rintro ⟨x, hx, h⟩
  rcases List.mem_append.1 hx with hx | hx
  ·exact .inl ⟨x, hx, h⟩
  ·exact .inr ⟨x, hx, h⟩
 ·rintro (⟨x, hx, h⟩ | ⟨x, hx, h⟩)
  ·exact ⟨x, List.mem_append_left _ hx, h⟩
  ·exact ⟨x, List.mem_append_right _ hx, h⟩
theorem rh {x : aq} {k t : Int} : el [x] k t ↔ x.k = k ∧ x.a ≤ t ∧ t < x.b :=
 ⟨fun ⟨y, hy, h⟩ => by rw [List.mem_singleton] at hy; subst hy; exact h, fun h => ⟨x, List.mem_singleton.2 rfl, h⟩⟩
theorem sG {l m : List aq} (h : l.Perm m) {k t : Int} : el l k t ↔ el m k t :=
 ⟨fun ⟨x, hx, g⟩ => ⟨x, h.mem_iff.1 hx, g⟩, fun ⟨x, hx, g⟩ => ⟨x, h.mem_iff.2 hx, g⟩⟩
def leL (x y : aq) : Prop := x.k < y.k ∨ (x.k = y.k ∧ x.a ≤ y.a)
theorem oN {l : List aq} {x : aq} : ef (l ++ [x]) ↔ ef l ∧ x.a < x.b ∧ ∀ y ∈ l, kl y x := by
 constructor
 ·rintro ⟨h1, h2⟩
  obtain ⟨p1, _, p3⟩ := List.pairwise_append.1 h2
  exact ⟨⟨fun y hy => h1 y (List.mem_append_left _ hy), p1⟩, h1 x (by simp), fun y hy => p3 y hy x (by simp)⟩
 ·rintro ⟨⟨h1, h2⟩, h3, h4⟩
  refine ⟨fun y hy => ?_, List.pairwise_append.2 ⟨h2, by simp, fun y hy z hz => ?_⟩⟩
  ·rcases List.mem_append.1 hy with hy | hy
   ·exact h1 y hy
   ·rw [List.mem_singleton] at hy; subst hy; exact h3
  ·rw [List.mem_singleton] at hz; subst hz; exact h4 y hy
theorem jl (o : List aq) (y x : aq) : eN (o ++ [y]) x = if y.k = x.k ∧ x.a ≤ y.b then o ++ [⟨y.k, y.a, max y.b x.b⟩] else o ++ [y] ++ [x] := by
 unfold eN
 rw [List.getLast?_concat]
 simp only [List.dropLast_concat]
theorem gl {α : Type} (l : List α) : l = [] ∨ ∃ o y, l = o ++ [y] := by
 rcases List.eq_nil_or_concat l with h | ⟨o, y, h⟩
 ·exact .inl h
 ·exact .inr ⟨o, y, by rw [h, List.concat_eq_append]⟩
theorem Bx {out : List aq} {x : aq} (h : ef out) (hx : x.a < x.b) (hle : ∀ y ∈ out, leL y x) : ef (eN out x) ∧ (∀ k t, el (eN out x) k t ↔ el out k t ∨ el [x] k t) ∧ ∀ y ∈ eN out x, ∀ z, leL x z → leL y z := by
 rcases gl out with rfl | ⟨o, y, rfl⟩
 ·refine ⟨⟨fun y hy => ?_, by simp [eN]⟩, fun k t => ?_, fun y hy z hz => ?_⟩
  ·simp only [eN, List.getLast?_nil, List.mem_singleton] at hy; subst hy; exact hx
  ·simp only [eN, List.getLast?_nil]
   exact ⟨.inr, fun h => h.elim (fun ⟨_, h, _⟩ => nomatch h) id⟩
  ·simp only [eN, List.getLast?_nil, List.mem_singleton] at hy; subst hy; exact hz
 ·rw [jl]
  obtain ⟨c1, c2, c3⟩ := oN.1 h
  have hyx := hle y (by simp)
  by_cases ht : y.k = x.k ∧ x.a ≤ y.b
  ·rw [if_pos ht]
   have hya : y.a ≤ x.a := by rcases hyx with g | g <;> omega
   refine ⟨oN.2 ⟨c1, by show y.a < max y.b x.b; omega, fun z hz => ?_⟩, fun k t => ?_, fun z hz q hq => ?_⟩
   ·have := c3 z hz
    unfold kl at this ⊢
    exact this
   ·rw [eP, eP, rh, rh, rh]
    simp only
    constructor
    ·rintro (g0 | ⟨g1, g2, g3⟩)
     ·exact .inl (.inl g0)
     by_cases g4 : t < y.b
     ·exact .inl (.inr ⟨g1, g2, g4⟩)
     ·exact .inr ⟨by omega, by omega, by omega⟩
    ·rintro ((g0 | ⟨g1, g2, g3⟩) | ⟨g1, g2, g3⟩)
     ·exact .inl g0
     ·exact .inr ⟨g1, g2, by omega⟩
     ·exact .inr ⟨by omega, by omega, by omega⟩
   ·rcases List.mem_append.1 hz with hz | hz
    ·have h1 := hle z (by simp [hz])
     unfold leL at *
     omega
    ·rw [List.mem_singleton] at hz; subst hz
     unfold leL at *
     simp only
     omega
  ·rw [if_neg ht]
   refine ⟨oN.2 ⟨h, hx, fun z hz => ?_⟩, fun k t => eP, fun z hz q hq => ?_⟩
   ·rcases List.mem_append.1 hz with hz | hz
    ·have h1 := c3 z hz
     unfold kl leL at *
     have := c1.ok z hz
     omega
    ·rw [List.mem_singleton] at hz; subst hz
     unfold kl leL at *
     omega
   ·rcases List.mem_append.1 hz with hz | hz
    ·have h1 := hle z hz
     unfold leL at *
     omega
    ·rw [List.mem_singleton] at hz; subst hz; exact hq
theorem y8 {x y z : aq} (h1 : leL x y) (h2 : leL y z) : leL x z := by unfold leL at *; omega
theorem qz : ∀ (l out : List aq), ef out → (∀ x ∈ l, x.a < x.b) → l.Pairwise leL → (∀ y ∈ out, ∀ x ∈ l, leL y x) → ef (l.foldl eN out) ∧ ∀ k t, el (l.foldl eN out) k t ↔ el out k t ∨ el l k t
 | [], out, h, _, _, _ => ⟨h, fun k t => ⟨.inl, fun h => h.elim id fun ⟨_, h, _⟩ => nomatch h⟩⟩
 | x :: l, out, h, hx, hs, hle => by
  obtain ⟨s1, s2⟩ := List.pairwise_cons.1 hs
  obtain ⟨j1, j2, j3⟩ := Bx h (hx x List.mem_cons_self) fun y hy => hle y hy x List.mem_cons_self
  obtain ⟨r1, r2⟩ := qz l (eN out x) j1 (fun y hy => hx y (List.mem_cons_of_mem _ hy)) s2 fun y hy z hz => j3 y hy z (s1 z hz)
  refine ⟨r1, fun k t => ?_⟩
  rw [List.foldl_cons, r2, j2, or_assoc, ← eP]
  rfl
theorem sB {l : List aq} (hx : ∀ x ∈ l, x.a < x.b) (hs : l.Pairwise leL) : ef (dL l) ∧ ∀ k t, el (dL l) k t ↔ el l k t := by
 obtain ⟨h1, h2⟩ := qz l [] ⟨by simp, by simp⟩ hx hs (by simp)
 exact ⟨h1, fun k t => (h2 k t).trans ⟨fun h => h.elim (fun ⟨_, h, _⟩ => nomatch h) id, .inr⟩⟩
def rR (x y : aq) : Bool := decide (x.k < y.k) || (decide (x.k = y.k) && decide (x.a ≤ y.a))
theorem mr {x y : aq} : rR x y = true ↔ leL x y := by simp [rR, leL]
def kk (l : List aq) : List aq := dL (l.mergeSort rR)
theorem A1 (l : List aq) : (l.mergeSort rR).Pairwise leL :=
 (List.pairwise_mergeSort (le := rR) (fun a b c h1 h2 => mr.2 (y8 (mr.1 h1) (mr.1 h2))) (fun a b => by simp only [rR, Bool.or_eq_true, Bool.and_eq_true, decide_eq_true_eq]; omega) l).imp fun h => mr.1 h
theorem sI {l : List aq} (hx : ∀ x ∈ l, x.a < x.b) : ef (kk l) ∧ ∀ k t, el (kk l) k t ↔ el l k t := by
 have hp := List.mergeSort_perm l rR
 obtain ⟨h1, h2⟩ := sB (l := l.mergeSort rR) (fun x h => hx x (hp.mem_iff.1 h)) (A1 l)
 exact ⟨h1, fun k t => (h2 k t).trans (sG hp)⟩
theorem uX {l m : List aq} (hx : ∀ x ∈ l, x.a < x.b) (hp : m.Perm l) (hs : m.Pairwise leL) : dL m = kk l := by
 obtain ⟨h1, h2⟩ := sB (fun x h => hx x (hp.mem_iff.1 h)) hs
 obtain ⟨h3, h4⟩ := sI hx
 exact h1.unique h3 fun k t => by rw [h2, h4, sG hp]
end Go.Proofs
namespace Go.Proofs
open Go Go.AI
structure Img where
 i : Int
 u : Int
 a : Int
 b : Int
deriving DecidableEq
def eD (x : Img) : List AV := [.int .i64 x.i, .int .i64 x.u, .int .i64 x.a, .int .i64 x.b]
def fg (l : List Img) : AV := .sl .no 4 (l.map eD)
def bt : List Img → List (Int × Int)
 | [] => []
 | x :: r => (x.a, x.u) :: (x.b, 0 - x.u) :: bt r
def fN (t : Int) : List (Int × Int) → Int
 | [] => 0
 | x :: r => (if x.1 ≤ t then x.2 else 0) + fN t r
def bL (t : Int) : List Img → Int
 | [] => 0
 | x :: r => (if x.a ≤ t ∧ t < x.b then x.u else 0) + bL t r
def bV : Int → List (Int × Int) → List (Int × Int)
 | _, [] => []
 | f, x :: [] => [(x.1, f + x.2)]
 | f, x :: y :: r => if y.1 = x.1 then bV (f + x.2) (y :: r) else (x.1, f + x.2) :: bV (f + x.2) (y :: r)
def fH (store : Int) : List (Int × Int) → Int
 | [] => -1
 | p :: r => if p.2 > store then p.1 else fH store r
theorem fE (t : Int) : ∀ l : List Img, (∀ x ∈ l, x.a < x.b) → fN t (bt l) = bL t l
 | [], _ => rfl
 | x :: r, h => by
  have hx := h x List.mem_cons_self
  simp only [bt, fN, bL]
  rw [fE t r fun y hy => h y (List.mem_cons_of_mem _ hy)]
  split <;> split <;> split <;> omega
theorem lj {t : Int} {s s' : List (Int × Int)} (h : s.Perm s') : fN t s = fN t s' := by
 induction h with
 | nil => rfl
 | cons x _ ih => simp only [fN, ih]
 | swap x y l => simp only [fN]; omega
 | trans _ _ h1 h2 => exact h1.trans h2
theorem oX {t t' : Int} : ∀ {s : List (Int × Int)}, (∀ y ∈ s, y.1 ≤ t ↔ y.1 ≤ t') → fN t s = fN t' s
 | [], _ => rfl
 | x :: r, h => by
  have hx := h x List.mem_cons_self
  simp only [fN]
  rw [oX fun y hy => h y (List.mem_cons_of_mem _ hy)]
  by_cases h1 : x.1 ≤ t
  ·rw [if_pos h1, if_pos (hx.1 h1)]
  ·rw [if_neg h1, if_neg fun h2 => h1 (hx.2 h2)]
theorem iW {t : Int} : ∀ {s : List (Int × Int)}, (∀ y ∈ s, t < y.1) → fN t s = 0
 | [], _ => rfl
 | x :: r, h => by
  have hx := h x List.mem_cons_self
  simp only [fN]
  rw [iW fun y hy => h y (List.mem_cons_of_mem _ hy), if_neg (by omega)]; rfl
theorem gI : ∀ (s : List (Int × Int)) (f : Int), s.Pairwise (fun x y => x.1 ≤ y.1) → ∀ p : Int × Int, p ∈ bV f s ↔ (∃ x ∈ s, x.1 = p.1) ∧ p.2 = f + fN p.1 s
 | [], f, _, p => by simp [bV]
 | x :: [], f, _, p => by
  simp only [bV, List.mem_singleton, exists_eq_left, fN]
  constructor
  ·rintro rfl; exact ⟨rfl, by simp⟩
  ·rintro ⟨h1, h2⟩
   rw [if_pos (by omega)] at h2
   exact Prod.ext h1.symm (by simp; omega)
 | x :: y :: r, f, hs, p => by
  obtain ⟨s1, s2⟩ := List.pairwise_cons.1 hs
  have ih := gI (y :: r) (f + x.2) s2 p
  have hxy := s1 y List.mem_cons_self
  have hsum : fN p.1 (x :: y :: r) = (if x.1 ≤ p.1 then x.2 else 0) + fN p.1 (y :: r) := rfl
  rw [hsum]
  by_cases he : y.1 = x.1
  ·rw [show bV f (x :: y :: r) = bV (f + x.2) (y :: r) from if_pos he, ih]
   constructor
   ·rintro ⟨⟨z, hz, h1⟩, h2⟩
    have := s1 z hz
    refine ⟨⟨z, List.mem_cons_of_mem _ hz, h1⟩, ?_⟩
    rw [if_pos (by omega)]; omega
   ·rintro ⟨⟨z, hz, h1⟩, h2⟩
    have hz' : ∃ z ∈ y :: r, z.1 = p.1 := by
     rcases List.mem_cons.1 hz with rfl | hz
     ·exact ⟨y, List.mem_cons_self, by omega⟩
     ·exact ⟨z, hz, h1⟩
    obtain ⟨q, hq, h3⟩ := hz'
    have := s1 q hq
    rw [if_pos (by omega)] at h2
    exact ⟨⟨q, hq, h3⟩, by omega⟩
  ·rw [show bV f (x :: y :: r) = (x.1, f + x.2) :: bV (f + x.2) (y :: r) from if_neg he, List.mem_cons, ih]
   have hlt : ∀ z ∈ y :: r, x.1 < z.1 := fun z hz => by
    rcases List.mem_cons.1 hz with rfl | hz
    ·omega
    ·have := (List.pairwise_cons.1 s2).1 z hz
     omega
   constructor
   ·rintro (rfl | ⟨⟨z, hz, h1⟩, h2⟩)
    ·refine ⟨⟨x, List.mem_cons_self, rfl⟩, ?_⟩
     simp only [Int.le_refl, if_true]
     rw [iW fun z hz => hlt z hz]; omega
    ·have := hlt z hz
     refine ⟨⟨z, List.mem_cons_of_mem _ hz, h1⟩, ?_⟩
     rw [if_pos (by omega)]; omega
   ·rintro ⟨⟨z, hz, h1⟩, h2⟩
    rcases List.mem_cons.1 hz with rfl | hz
    ·left
     rw [if_pos (by omega), iW fun z hz => by have := hlt z hz; omega] at h2
     exact Prod.ext h1.symm (by simp; omega)
    ·right
     have := hlt z hz
     rw [if_pos (by omega)] at h2
     exact ⟨⟨z, hz, h1⟩, by omega⟩
theorem jp : ∀ (s : List (Int × Int)) (f : Int), s.Pairwise (fun x y => x.1 ≤ y.1) → (bV f s).Pairwise fun x y => x.1 < y.1
 | [], f, _ => by simp [bV]
 | x :: [], f, _ => by simp [bV]
 | x :: y :: r, f, hs => by
  obtain ⟨s1, s2⟩ := List.pairwise_cons.1 hs
  have ih := jp (y :: r) (f + x.2) s2
  have hxy := s1 y List.mem_cons_self
  by_cases he : y.1 = x.1
  ·rw [show bV f (x :: y :: r) = bV (f + x.2) (y :: r) from if_pos he]; exact ih
  ·rw [show bV f (x :: y :: r) = (x.1, f + x.2) :: bV (f + x.2) (y :: r) from if_neg he, List.pairwise_cons]
   refine ⟨fun p hp => ?_, ih⟩
   obtain ⟨⟨z, hz, h1⟩, _⟩ := (gI _ _ s2 p).1 hp
   show x.1 < p.1
   rcases List.mem_cons.1 hz with rfl | hz
   ·omega
   ·have := (List.pairwise_cons.1 s2).1 z hz
    omega
theorem rm : ∀ {l m : List (Int × Int)}, l.Pairwise (fun x y => x.1 < y.1) → m.Pairwise (fun x y => x.1 < y.1) → (∀ p, p ∈ l ↔ p ∈ m) → l = m
 | [], [], _, _, _ => rfl
 | [], y :: m, _, _, h => by have := (h y).2 List.mem_cons_self; cases this
 | x :: l, [], _, _, h => by have := (h x).1 List.mem_cons_self; cases this
 | x :: l, y :: m, h1, h2, h => by
  obtain ⟨p1, p2⟩ := List.pairwise_cons.1 h1
  obtain ⟨q1, q2⟩ := List.pairwise_cons.1 h2
  have hxy : x = y := by
   rcases List.mem_cons.1 ((h x).1 List.mem_cons_self) with e | e
   ·exact e
   ·rcases List.mem_cons.1 ((h y).2 List.mem_cons_self) with e' | e'
    ·exact e'.symm
    ·have := q1 x e; have := p1 y e'; omega
  subst hxy
  rw [rm p2 q2 fun p => ?_]
  constructor
  ·intro hp
   rcases List.mem_cons.1 ((h p).1 (List.mem_cons_of_mem _ hp)) with e | e
   ·have := p1 p hp; rw [e] at this; omega
   ·exact e
  ·intro hp
   rcases List.mem_cons.1 ((h p).2 (List.mem_cons_of_mem _ hp)) with e | e
   ·have := q1 p hp; rw [e] at this; omega
   ·exact e
def leT (x y : Int × Int) : Bool := decide (x.1 ≤ y.1)
def cr (l : List Img) : List (Int × Int) := bV 0 ((bt l).mergeSort leT)
theorem lS (s : List (Int × Int)) : (s.mergeSort leT).Pairwise fun x y => x.1 ≤ y.1 :=
 (List.pairwise_mergeSort (le := leT) (fun a b c h1 h2 => by (try simp only [leT, decide_eq_true_eq] at *); omega) (fun a b => by simp only [leT, Bool.or_eq_true, decide_eq_true_eq]; omega) s).imp fun h => by simpa [leT] using h
theorem BH {l : List Img} {s : List (Int × Int)} (hp : s.Perm (bt l)) (hs : s.Pairwise fun x y => x.1 ≤ y.1) : bV 0 s = cr l := by
 have hq := List.mergeSort_perm (bt l) leT
 refine rm (jp _ _ hs) (jp _ _ (lS _)) fun p => ?_
 rw [gI _ _ hs, cr, gI _ _ (lS _), lj hp, lj hq]
 constructor
 ·rintro ⟨⟨x, hx, h1⟩, h2⟩; exact ⟨⟨x, hq.mem_iff.2 (hp.mem_iff.1 hx), h1⟩, h2⟩
 ·rintro ⟨⟨x, hx, h1⟩, h2⟩; exact ⟨⟨x, hp.mem_iff.2 (hq.mem_iff.1 hx), h1⟩, h2⟩
theorem oK {l : List Img} (h : ∀ x ∈ l, x.a < x.b) (p : Int × Int) : p ∈ cr l ↔ (∃ x ∈ bt l, x.1 = p.1) ∧ p.2 = bL p.1 l := by
 have hq := List.mergeSort_perm (bt l) leT
 unfold cr
 rw [gI _ _ (lS _), lj hq, fE _ _ h, Int.zero_add]
 exact ⟨fun ⟨⟨x, hx, h1⟩, h2⟩ => ⟨⟨x, hq.mem_iff.1 hx, h1⟩, h2⟩, fun ⟨⟨x, hx, h1⟩, h2⟩ => ⟨⟨x, hq.mem_iff.2 hx, h1⟩, h2⟩⟩
theorem zk (l : List Img) : (cr l).Pairwise fun x y => x.1 < y.1 := jp _ _ (lS _)
def iQ (f : Int → Int) (store r : Int) : Prop := (r = -1 ∧ ∀ t, f t ≤ store) ∨ (0 ≤ r ∧ store < f r ∧ ∀ t, t < r → f t ≤ store)
theorem iQ.unique {f : Int → Int} {s r r' : Int} (h : iQ f s r) (h' : iQ f s r') : r = r' := by
 rcases h with ⟨rfl, h⟩ | ⟨h1, h2, h3⟩ <;> rcases h' with ⟨rfl, g⟩ | ⟨g1, g2, g3⟩
 ·rfl
 ·have := h r'; omega
 ·have := g r; omega
 ·have a1 : ¬ r < r' := fun hh => by have := g3 r hh; omega
  have a2 : ¬ r' < r := fun hh => by have := h3 r' hh; omega
  omega
theorem sC (t : Int) : ∀ s : List (Int × Int), (∀ x ∈ s, t < x.1) ∨ ∃ x ∈ s, x.1 ≤ t ∧ ∀ y ∈ s, y.1 ≤ t → y.1 ≤ x.1
 | [] => .inl (by simp)
 | x :: r => by
  rcases sC t r with h | ⟨z, hz, h1, h2⟩
  ·by_cases hx : x.1 ≤ t
   ·refine .inr ⟨x, List.mem_cons_self, hx, fun y hy hyt => ?_⟩
    rcases List.mem_cons.1 hy with rfl | hy
    ·exact Int.le_refl _
    ·have := h y hy; omega
   ·refine .inl fun y hy => ?_
    rcases List.mem_cons.1 hy with rfl | hy
    ·omega
    ·exact h y hy
  ·by_cases hx : x.1 ≤ t ∧ z.1 < x.1
   ·refine .inr ⟨x, List.mem_cons_self, hx.1, fun y hy hyt => ?_⟩
    rcases List.mem_cons.1 hy with rfl | hy
    ·exact Int.le_refl _
    ·have := h2 y hy hyt; omega
   ·refine .inr ⟨z, List.mem_cons_of_mem _ hz, h1, fun y hy hyt => ?_⟩
    rcases List.mem_cons.1 hy with rfl | hy
    ·omega
    ·exact h2 y hy hyt
theorem sE {l : List Img} (h : ∀ x ∈ l, x.a < x.b) (t : Int) : bL t l = 0 ∨ ∃ p ∈ cr l, p.1 ≤ t ∧ p.2 = bL t l := by
 rcases sC t (bt l) with g | ⟨z, hz, h1, h2⟩
 ·left; rw [← fE t l h]; exact iW g
 ·right
  have e : bL z.1 l = bL t l := by
   rw [← fE t l h, ← fE z.1 l h]
   exact oX fun y hy => ⟨fun g => by omega, fun g => h2 y hy g⟩
  exact ⟨(z.1, bL z.1 l), (oK h _).2 ⟨⟨z, hz, rfl⟩, rfl⟩, h1, e⟩
theorem qu (store : Int) : ∀ l : List (Int × Int), (∀ p ∈ l, 0 ≤ p.1) → l.Pairwise (fun x y => x.1 < y.1) → (fH store l = -1 ∧ ∀ p ∈ l, p.2 ≤ store) ∨ ∃ p ∈ l, fH store l = p.1 ∧ store < p.2 ∧ ∀ q ∈ l, q.1 < p.1 → q.2 ≤ store
 | [], _, _ => .inl ⟨rfl, by simp⟩
 | x :: r, h0, hs => by
  obtain ⟨s1, s2⟩ := List.pairwise_cons.1 hs
  by_cases hx : x.2 > store
  ·refine .inr ⟨x, List.mem_cons_self, if_pos hx, hx, fun q hq hlt => ?_⟩
   rcases List.mem_cons.1 hq with rfl | hq
   ·omega
   ·have := s1 q hq; omega
  ·rw [show fH store (x :: r) = fH store r from if_neg hx]
   rcases qu store r (fun p hp => h0 p (List.mem_cons_of_mem _ hp)) s2 with ⟨h1, h2⟩ | ⟨p, hp, h1, h2, h3⟩
   ·refine .inl ⟨h1, fun p hp => ?_⟩
    rcases List.mem_cons.1 hp with rfl | hp
    ·omega
    ·exact h2 p hp
   ·refine .inr ⟨p, List.mem_cons_of_mem _ hp, h1, h2, fun q hq hlt => ?_⟩
    rcases List.mem_cons.1 hq with rfl | hq
    ·omega
    ·exact h3 q hq hlt
theorem yG {l : List Img} {x : Int × Int} (h : x ∈ bt l) : ∃ y ∈ l, x.1 = y.a ∨ x.1 = y.b := by
 induction l with
 | nil => cases h
 | cons z r ih =>
  simp only [bt, List.mem_cons] at h
  rcases h with rfl | rfl | h
  ·exact ⟨z, List.mem_cons_self, .inl rfl⟩
  ·exact ⟨z, List.mem_cons_self, .inr rfl⟩
  ·obtain ⟨y, hy, h⟩ := ih h
   exact ⟨y, List.mem_cons_of_mem _ hy, h⟩
theorem wK {l : List Img} (h : ∀ x ∈ l, 0 ≤ x.a ∧ x.a < x.b) {store : Int} (h0 : 0 ≤ store) : iQ (fun t => bL t l) store (fH store (cr l)) := by
 have hab : ∀ x ∈ l, x.a < x.b := fun x hx => (h x hx).2
 have hpos : ∀ p ∈ cr l, 0 ≤ p.1 := fun p hp => by
  obtain ⟨⟨x, hx, h1⟩, _⟩ := (oK hab p).1 hp
  obtain ⟨y, hy, h2⟩ := yG hx
  have := h y hy
  rcases h2 with h2 | h2 <;> omega
 have hval : ∀ p ∈ cr l, p.2 = bL p.1 l := fun p hp => ((oK hab p).1 hp).2
 rcases qu store (cr l) hpos (zk l) with ⟨h1, h2⟩ | ⟨p, hp, h1, h2, h3⟩
 ·refine .inl ⟨h1, fun t => ?_⟩
  rcases sE hab t with g | ⟨q, hq, _, g⟩
  ·simp only [g]; exact h0
  ·have := h2 q hq
   simp only
   omega
 ·refine .inr ⟨by rw [h1]; exact hpos p hp, by rw [h1]; simp only; rw [← hval p hp]; exact h2, fun t ht => ?_⟩
  rcases sE hab t with g | ⟨q, hq, g1, g⟩
  ·simp only [g]; exact h0
  ·have := h3 q hq (by omega)
   simp only
   omega
end Go.Proofs
namespace Go.Proofs
open Go Go.AI
def gw (l : List Opt) : List aq := l.map fun o => ⟨1, o.a, o.b⟩
def wJ (l : List Opt) : List aq := l.flatMap fun o => o.sl.map fun x => ⟨2, x.a, x.b⟩
def jc (l : List Opt) : List aq := gw l ++ wJ l
def mK (l : List Opt) : Bool := l.any fun o => !bi o.a o.b || decide (6 < o.sl.length)
def BX (l : List Opt) : Bool := l.any fun o => o.sl.any fun x => !bi x.a x.b
def tL (l : List Opt) : Bool := decide (8 < l.length) || mK l || BX l
def aC (l : List Opt) : List aq := if tL l then [] else kk (jc l)
theorem dG {a b : Int} : bi a b = true ↔ 0 ≤ a ∧ a < b ∧ b ≤ 1000000 := by
 constructor
 ·exact mb
 ·rintro ⟨h1, h2, h3⟩
  unfold bi inS
  rw [show w64 (b - 1) = b - 1 from ai (by omega) (by omega)]
  simp; omega
structure ep (l : List Opt) : Prop where
 n : l.length ≤ 8
 shot : ∀ o ∈ l, 0 ≤ o.a ∧ o.a < o.b ∧ o.b ≤ 1000000 ∧ o.sl.length ≤ 6
 slot : ∀ o ∈ l, ∀ x ∈ o.sl, 0 ≤ x.a ∧ x.a < x.b ∧ x.b ≤ 1000000
theorem qU {l : List Opt} : tL l = false ↔ ep l := by
 constructor
 ·intro h
  simp only [tL, mK, BX, Bool.or_eq_false_iff, decide_eq_false_iff_not, List.any_eq_false, Bool.or_eq_true, Bool.not_eq_true', decide_eq_true_eq, not_or, Bool.not_eq_true, Bool.not_eq_false] at h
  obtain ⟨⟨h1, h2⟩, h3⟩ := h
  refine ⟨by omega, fun o ho => ?_, fun o ho x hx => ?_⟩
  ·obtain ⟨g1, g2⟩ := h2 o ho
   have := mb g1
   omega
  ·have := h3 o ho x hx
   exact mb (by simpa using this)
 ·rintro ⟨h1, h2, h3⟩
  simp only [tL, mK, BX, Bool.or_eq_false_iff, decide_eq_false_iff_not, List.any_eq_false, Bool.or_eq_true, Bool.not_eq_true', decide_eq_true_eq, not_or, Bool.not_eq_true, Bool.not_eq_false]
  refine ⟨⟨by omega, fun o ho => ?_⟩, fun o ho x hx => ?_⟩
  ·have := h2 o ho
   exact ⟨dG.2 (by omega), by omega⟩
  ·have := h3 o ho x hx
   simpa using dG.2 this
theorem jZ {l : List Opt} {x : aq} : x ∈ jc l ↔ (∃ o ∈ l, x = ⟨1, o.a, o.b⟩) ∨ ∃ o ∈ l, ∃ y ∈ o.sl, x = ⟨2, y.a, y.b⟩ := by
 simp only [jc, gw, wJ, List.mem_append, List.mem_map, List.mem_flatMap]
 constructor
 ·rintro (⟨o, ho, rfl⟩ | ⟨o, ho, y, hy, rfl⟩)
  ·exact .inl ⟨o, ho, rfl⟩
  ·exact .inr ⟨o, ho, y, hy, rfl⟩
 ·rintro (⟨o, ho, rfl⟩ | ⟨o, ho, y, hy, rfl⟩)
  ·exact .inl ⟨o, ho, rfl⟩
  ·exact .inr ⟨o, ho, y, hy, rfl⟩
theorem ep.raw {l : List Opt} (h : ep l) : ∀ x ∈ jc l, (x.k = 1 ∨ x.k = 2) ∧ 0 ≤ x.a ∧ x.a < x.b ∧ x.b ≤ 1000000 := fun x hx => by
 rcases jZ.1 hx with ⟨o, ho, rfl⟩ | ⟨o, ho, y, hy, rfl⟩
 ·have := h.shot o ho; exact ⟨.inl rfl, this.1, this.2.1, this.2.2.1⟩
 ·exact ⟨.inr rfl, h.slot o ho y hy⟩
theorem za (out : List aq) (x : aq) : (eN out x).length ≤ out.length + 1 := by
 rcases gl out with rfl | ⟨o, y, rfl⟩
 ·simp [eN]
 ·rw [jl]
  split <;> simp
theorem lx : ∀ (l out : List aq), (l.foldl eN out).length ≤ out.length + l.length
 | [], out => by simp
 | x :: l, out => by
  have h1 := lx l (eN out x)
  have h2 := za out x
  simp only [List.foldl_cons, List.length_cons]
  omega
theorem lI (l : List aq) : (kk l).length ≤ l.length := by
 have := lx (l.mergeSort rR) []
 have h2 := (List.mergeSort_perm l rR).length_eq
 simp only [List.length_nil, Nat.zero_add, h2] at this
 exact this
theorem ke (n : Nat) : ∀ l : List Opt, (∀ o ∈ l, o.sl.length ≤ n) → (wJ l).length ≤ n * l.length
 | [], _ => by simp [wJ]
 | o :: r, h => by
  have h1 := ke n r fun x hx => h x (List.mem_cons_of_mem _ hx)
  have h2 := h o List.mem_cons_self
  simp only [wJ, List.flatMap_cons, List.length_append, List.length_map, List.length_cons, Nat.mul_add, Nat.mul_one] at h1 ⊢
  omega
theorem ep.len {l : List Opt} (h : ep l) : (jc l).length ≤ 56 := by
 have h1 := ke 6 l fun o ho => (h.shot o ho).2.2.2
 have h2 := h.n
 simp only [jc, gw, List.length_append, List.length_map]
 omega
theorem x6 : ∀ (rest pre : List aq), ef (pre ++ rest) → (∀ x ∈ rest, (x.k = 1 ∨ x.k = 2) ∧ 0 ≤ x.a ∧ x.b ≤ 1000000) → okL pre rest = true
 | [], _, _, _ => rfl
 | x :: r, pre, h, hb => by
  have hx := hb x List.mem_cons_self
  have hok := h.ok x (by simp)
  have hsep := (List.pairwise_append.1 h.sep).2.2
  have ih := x6 r (pre ++ [x]) (by simpa using h) fun y hy => hb y (List.mem_cons_of_mem _ hy)
  rw [okL, ih, Bool.and_true, dz, dG.2 (by omega), show inS x.k 1 2 = true from by unfold inS; simp; omega]
  simp only [Bool.true_and, Bool.not_eq_true', List.any_eq_false, jC, Bool.and_eq_true, decide_eq_true_eq, not_and]
  intro y hy g1 g2
  have := hsep y hy x List.mem_cons_self
  unfold kl at this
  omega
theorem rj {l m : List aq} (h : ef m) (hc : ∀ k t, el m k t ↔ el l k t) (hl : ∀ x ∈ l, (x.k = 1 ∨ x.k = 2) ∧ 0 ≤ x.a ∧ x.a < x.b ∧ x.b ≤ 1000000) : ∀ x ∈ m, (x.k = 1 ∨ x.k = 2) ∧ 0 ≤ x.a ∧ x.b ≤ 1000000 := fun x hx => by
 have hok := h.ok x hx
 obtain ⟨y, hy, h1, h2, h3⟩ := (hc x.k x.a).1 ⟨x, hx, rfl, Int.le_refl _, hok⟩
 obtain ⟨z, hz, g1, g2, g3⟩ := (hc x.k (x.b - 1)).1 ⟨x, hx, rfl, by omega, by omega⟩
 have b1 := hl y hy
 have b2 := hl z hz
 rw [h1] at b1
 exact ⟨b1.1, by omega, by omega⟩
theorem ep.loads {l : List Opt} (h : ep l) : aC l = kk (jc l) := by unfold aC; rw [qU.2 h]; rfl
theorem ep.can {l : List Opt} (h : ep l) : ef (aC l) ∧ ∀ k t, el (aC l) k t ↔ el (jc l) k t := by
 rw [h.loads]; exact sI fun x hx => (h.raw x hx).2.2.1
theorem ep.proper {l : List Opt} (h : ep l) : bT (aC l) = true := by
 obtain ⟨h1, h2⟩ := h.can
 have hlen : (aC l).length ≤ 56 := by rw [h.loads]; exact Nat.le_trans (lI _) h.len
 unfold bT
 rw [decide_eq_true (by omega), Bool.true_and]
 exact x6 _ [] h1 (rj h1 h2 h.raw)
end Go.Proofs
namespace Go.Proofs
open Go Go.AI
def fO (r : List (Int × Int) × (Int × Int)) (o : Int × Int) : List (Int × Int) × (Int × Int) := if o.2 < r.2.1 ∨ o.1 > r.2.2 then (r.1 ++ [o], r.2) else (r.1, (min r.2.1 o.1, max r.2.2 o.2))
def u7 (next : List (Int × Int)) (s : Int × Int) : List (Int × Int) := next.takeWhile (fun x => decide (x.1 < s.1)) ++ s :: next.dropWhile (fun x => decide (x.1 < s.1))
def fm (out : List (Int × Int)) (s : Int × Int) : List (Int × Int) := u7 (out.foldl fO ([], s)).1 (out.foldl fO ([], s)).2
def fS (l : List (Int × Int)) : List (Int × Int) := l.foldl fm []
structure xI (l : List (Int × Int)) : Prop where
 ok : ∀ x ∈ l, x.1 < x.2
 sep : l.Pairwise fun x y => x.2 < y.1
def ki (l : List (Int × Int)) (t : Int) : Prop := ∃ x ∈ l, x.1 ≤ t ∧ t < x.2
theorem eO {l m : List (Int × Int)} {t : Int} : ki (l ++ m) t ↔ ki l t ∨ ki m t := by
 constructor
 ·rintro ⟨x, hx, h⟩
  rcases List.mem_append.1 hx with hx | hx
  ·exact .inl ⟨x, hx, h⟩
  ·exact .inr ⟨x, hx, h⟩
 ·rintro (⟨x, hx, h⟩ | ⟨x, hx, h⟩)
  ·exact ⟨x, List.mem_append_left _ hx, h⟩
  ·exact ⟨x, List.mem_append_right _ hx, h⟩
theorem mC {x : Int × Int} {t : Int} : ki [x] t ↔ x.1 ≤ t ∧ t < x.2 :=
 ⟨fun ⟨y, hy, h⟩ => by rw [List.mem_singleton] at hy; subst hy; exact h, fun h => ⟨x, List.mem_singleton.2 rfl, h⟩⟩
structure E9 (s : Int × Int) (pre : List (Int × Int)) (r : List (Int × Int) × (Int × Int)) : Prop where
 lt : r.2.1 < r.2.2
 mem : ∀ x ∈ r.1, x ∈ pre ∧ (x.2 < r.2.1 ∨ r.2.2 < x.1)
 sep : r.1.Pairwise fun x y => x.2 < y.1
 cov : ∀ t, (ki r.1 t ∨ (r.2.1 ≤ t ∧ t < r.2.2)) ↔ (ki pre t ∨ (s.1 ≤ t ∧ t < s.2))
theorem uW {s : Int × Int} : ∀ (rest pre : List (Int × Int)) (r : List (Int × Int) × (Int × Int)), xI (pre ++ rest) → E9 s pre r → E9 s (pre ++ rest) (rest.foldl fO r)
 | [], pre, r, _, h => by simpa using h
 | q :: rest, pre, r, hc, h => by
  have hsep := (List.pairwise_append.1 hc.sep).2.2
  have hq : ∀ x ∈ pre, x.2 < q.1 := fun x hx => hsep x hx q List.mem_cons_self
  have hqq := hc.ok q (by simp)
  have hpre : ∀ x ∈ pre, x.1 < x.2 := fun x hx => hc.ok x (List.mem_append_left _ hx)
  have hc' : xI ((pre ++ [q]) ++ rest) := by simpa using hc
  have := uW (s := s) rest (pre ++ [q]) (fO r q) hc' ?_
  ·simpa using this
  ·have hs := h.lt
   unfold fO
   split
   ·rename_i hn
    refine ⟨hs, fun x hx => ?_, List.pairwise_append.2 ⟨h.sep, by simp, fun x hx y hy => ?_⟩, fun t => ?_⟩
    ·rcases List.mem_append.1 hx with hx | hx
     ·exact ⟨List.mem_append_left _ (h.mem x hx).1, (h.mem x hx).2⟩
     ·rw [List.mem_singleton] at hx; subst hx
      exact ⟨by simp, by simp only; omega⟩
    ·rw [List.mem_singleton] at hy; subst hy
     exact hq x (h.mem x hx).1
    ·have := h.cov t
     simp only [eO, mC]
     constructor
     ·rintro ((g | g) | g)
      ·rcases this.1 (.inl g) with g | g
       ·exact .inl (.inl g)
       ·exact .inr g
      ·exact .inl (.inr g)
      ·rcases this.1 (.inr g) with g | g
       ·exact .inl (.inl g)
       ·exact .inr g
     ·rintro ((g | g) | g)
      ·rcases this.2 (.inl g) with g | g
       ·exact .inl (.inl g)
       ·exact .inr g
      ·exact .inl (.inr g)
      ·rcases this.2 (.inr g) with g | g
       ·exact .inl (.inl g)
       ·exact .inr g
   ·rename_i hn
    have h1 : ¬ q.2 < r.2.1 := fun g => hn (.inl g)
    have h2 : ¬ q.1 > r.2.2 := fun g => hn (.inr g)
    refine ⟨by simp only; omega, fun x hx => ?_, h.sep, fun t => ?_⟩
    ·obtain ⟨m1, m2⟩ := h.mem x hx
     refine ⟨List.mem_append_left _ m1, ?_⟩
     have g1 := hq x m1
     have g2 := hpre x m1
     simp only
     omega
    ·have := h.cov t
     simp only [eO, mC]
     have e : (min r.2.1 q.1 ≤ t ∧ t < max r.2.2 q.2) ↔ (r.2.1 ≤ t ∧ t < r.2.2) ∨ (q.1 ≤ t ∧ t < q.2) := by omega
     rw [e]
     constructor
     ·rintro (g | g | g)
      ·rcases this.1 (.inl g) with g | g
       ·exact .inl (.inl g)
       ·exact .inr g
      ·rcases this.1 (.inr g) with g | g
       ·exact .inl (.inl g)
       ·exact .inr g
      ·exact .inl (.inr g)
     ·rintro ((g | g) | g)
      ·rcases this.2 (.inl g) with g | g
       ·exact .inl g
       ·exact .inr (.inl g)
      ·exact .inr (.inr g)
      ·rcases this.2 (.inr g) with g | g
       ·exact .inl g
       ·exact .inr (.inl g)
theorem sd {α : Type} {p : α → Bool} : ∀ {l : List α} {x : α}, x ∈ l.takeWhile p → p x = true
 | [], x, h => by cases h
 | y :: r, x, h => by
  rw [List.takeWhile_cons] at h
  split at h
  ·rcases List.mem_cons.1 h with rfl | h
   ·assumption
   ·exact sd h
  ·cases h
theorem vn {s : Int} : ∀ {l : List (Int × Int)}, l.Pairwise (fun x y => x.2 < y.1) → (∀ x ∈ l, x.1 < x.2) → ∀ x ∈ l.dropWhile (fun x => decide (x.1 < s)), s ≤ x.1
 | [], _, _, x, h => by cases h
 | y :: r, hs, hok, x, h => by
  rw [List.dropWhile_cons] at h
  split at h
  ·exact vn (List.pairwise_cons.1 hs).2 (fun z hz => hok z (List.mem_cons_of_mem _ hz)) x h
  ·rename_i hn
   have hn : ¬ y.1 < s := by simpa using hn
   rcases List.mem_cons.1 h with rfl | h
   ·omega
   ·have := (List.pairwise_cons.1 hs).1 x h
    have := hok y List.mem_cons_self
    omega
theorem AY {out : List (Int × Int)} {s : Int × Int} (h : xI out) (hs : s.1 < s.2) : xI (fm out s) ∧ ∀ t, ki (fm out s) t ↔ ki out t ∨ (s.1 ≤ t ∧ t < s.2) := by
 have hn := uW (s := s) out [] ([], s) (by simpa using h) ⟨hs, by simp, by simp, fun t => by simp⟩
 simp only [List.nil_append] at hn
 unfold fm
 generalize out.foldl fO ([], s) = r at hn
 obtain ⟨next, s'⟩ := r
 have hs' : s'.1 < s'.2 := hn.lt
 have hmem := hn.mem
 have hsep := hn.sep
 have hcov := hn.cov
 simp only at hmem hsep hcov ⊢
 have hok : ∀ x ∈ next, x.1 < x.2 := fun x hx => h.ok x (hmem x hx).1
 have hta : ∀ x ∈ next.takeWhile (fun x => decide (x.1 < s'.1)), x ∈ next ∧ x.2 < s'.1 := fun x hx => by
  have h1 := sd hx
  have h2 := (List.takeWhile_sublist _).subset hx
  have h3 := (hmem x h2).2
  have h4 := hok x h2
  simp only [decide_eq_true_eq] at h1
  exact ⟨h2, by omega⟩
 have hdr : ∀ x ∈ next.dropWhile (fun x => decide (x.1 < s'.1)), x ∈ next ∧ s'.2 < x.1 := fun x hx => by
  have h1 := vn hsep hok x hx
  have h2 := (List.dropWhile_sublist _).subset hx
  have h3 := (hmem x h2).2
  have h4 := hok x h2
  exact ⟨h2, by omega⟩
 refine ⟨⟨fun x hx => ?_, ?_⟩, fun t => ?_⟩
 ·unfold u7 at hx
  rcases List.mem_append.1 hx with hx | hx
  ·exact hok x (hta x hx).1
  ·rcases List.mem_cons.1 hx with rfl | hx
   ·exact hs'
   ·exact hok x (hdr x hx).1
 ·unfold u7
  refine List.pairwise_append.2 ⟨hsep.sublist (List.takeWhile_sublist _), List.pairwise_cons.2 ⟨fun x hx => (hdr x hx).2, hsep.sublist (List.dropWhile_sublist _)⟩, fun x hx y hy => ?_⟩
  have h1 := (hta x hx).2
  rcases List.mem_cons.1 hy with rfl | hy
  ·exact h1
  ·have := (hdr y hy).2; omega
 ·rw [← hcov t]
  have e : ki next t ↔ ki (next.takeWhile (fun x => decide (x.1 < s'.1))) t ∨ ki (next.dropWhile (fun x => decide (x.1 < s'.1))) t := by
   rw [← eO, List.takeWhile_append_dropWhile]
  rw [e]
  unfold u7
  rw [eO, show s' :: next.dropWhile (fun x => decide (x.1 < s'.1)) = [s'] ++ next.dropWhile (fun x => decide (x.1 < s'.1)) from rfl, eO, mC]
  constructor
  ·rintro (g | g | g)
   ·exact .inl (.inl g)
   ·exact .inr g
   ·exact .inl (.inr g)
  ·rintro ((g | g) | g)
   ·exact .inl g
   ·exact .inr (.inr g)
   ·exact .inr (.inl g)
theorem qL : ∀ (l out : List (Int × Int)), xI out → (∀ x ∈ l, x.1 < x.2) → xI (l.foldl fm out) ∧ ∀ t, ki (l.foldl fm out) t ↔ ki out t ∨ ki l t
 | [], out, h, _ => ⟨h, fun t => ⟨.inl, fun h => h.elim id fun ⟨_, h, _⟩ => nomatch h⟩⟩
 | x :: l, out, h, hx => by
  obtain ⟨j1, j2⟩ := AY h (hx x List.mem_cons_self)
  obtain ⟨r1, r2⟩ := qL l (fm out x) j1 fun y hy => hx y (List.mem_cons_of_mem _ hy)
  refine ⟨r1, fun t => ?_⟩
  rw [List.foldl_cons, r2, j2, or_assoc, ← mC, ← eO]
  rfl
theorem qM {l : List (Int × Int)} (h : ∀ x ∈ l, x.1 < x.2) : xI (fS l) ∧ ∀ t, ki (fS l) t ↔ ki l t := by
 obtain ⟨h1, h2⟩ := qL l [] ⟨by simp, by simp⟩ h
 exact ⟨h1, fun t => (h2 t).trans ⟨fun h => h.elim (fun ⟨_, h, _⟩ => nomatch h) id, .inr⟩⟩
def mkK (k : Int) (x : Int × Int) : aq := ⟨k, x.1, x.2⟩
theorem pY {k k' t : Int} {l : List (Int × Int)} : el (l.map (mkK k)) k' t ↔ k = k' ∧ ki l t := by
 constructor
 ·rintro ⟨x, hx, h1, h2, h3⟩
  obtain ⟨y, hy, rfl⟩ := List.mem_map.1 hx
  exact ⟨h1, y, hy, h2, h3⟩
 ·rintro ⟨rfl, y, hy, h2, h3⟩
  exact ⟨mkK k y, List.mem_map.2 ⟨y, hy, rfl⟩, rfl, h2, h3⟩
def fq (l : List Opt) : List (Int × Int) := l.map fun o => (o.a, o.b)
def bf (l : List Opt) : List (Int × Int) := l.flatMap fun o => o.sl.map fun x => (x.a, x.b)
theorem Dr (l : List Opt) : gw l = (fq l).map (mkK 1) := by simp [gw, fq, mkK]
theorem mf (l : List Opt) : wJ l = (bf l).map (mkK 2) := by
 unfold wJ bf
 rw [List.map_flatMap]
 congr 1
 funext o
 simp [mkK]
theorem ep.ref {l : List Opt} (h : ep l) : (fS (fq l)).map (mkK 1) ++ (fS (bf l)).map (mkK 2) = aC l := by
 have hA : ∀ x ∈ fq l, x.1 < x.2 := fun x hx => by
  obtain ⟨o, ho, rfl⟩ := List.mem_map.1 hx
  exact (h.shot o ho).2.1
 have hB : ∀ x ∈ bf l, x.1 < x.2 := fun x hx => by
  obtain ⟨o, ho, hx⟩ := List.mem_flatMap.1 hx
  obtain ⟨y, hy, rfl⟩ := List.mem_map.1 hx
  exact (h.slot o ho y hy).2.1
 obtain ⟨a1, a2⟩ := qM hA
 obtain ⟨b1, b2⟩ := qM hB
 obtain ⟨c1, c2⟩ := h.can
 refine ef.unique ⟨fun x hx => ?_, List.pairwise_append.2 ⟨?_, ?_, fun x hx y hy => ?_⟩⟩ c1 fun k t => ?_
 ·rcases List.mem_append.1 hx with hx | hx
  ·obtain ⟨y, hy, rfl⟩ := List.mem_map.1 hx; exact a1.ok y hy
  ·obtain ⟨y, hy, rfl⟩ := List.mem_map.1 hx; exact b1.ok y hy
 ·exact List.pairwise_map.2 (a1.sep.imp fun h => .inr ⟨rfl, h⟩)
 ·exact List.pairwise_map.2 (b1.sep.imp fun h => .inr ⟨rfl, h⟩)
 ·obtain ⟨p, hp, rfl⟩ := List.mem_map.1 hx
  obtain ⟨q, hq, rfl⟩ := List.mem_map.1 hy
  exact .inl (by show (1 : Int) < 2; omega)
 ·rw [c2, eP, jc, eP, Dr, mf, pY, pY, pY, pY, a2, b2]
end Go.Proofs
namespace Go.Proofs
open Go Go.AI
def oB : Opt := ⟨0, 0, 0, 0, 0, 0, 0, 0, []⟩
def gU : bl := ⟨0, 0, 0⟩
def au (l : List Opt) (i : Nat) : Opt := l.getD i oB
def fM (o : Opt) (i : Nat) : bl := o.sl.getD i gU
def dT (o : Opt) : Int := (fM o (o.sl.length - 1)).b
def aR (l : List Opt) : List a8 := l.map fun o => ⟨o.a, o.b, o.look⟩
def aV (l : List Opt) : List Img := l.map fun o => ⟨o.id, o.size, o.a, dT o⟩
structure Flt where
 k : Int
 a : Int
 b : Int
 t : Int
deriving DecidableEq
def br (x : Flt) : List AV := [.int .i64 x.k, .int .i64 x.a, .int .i64 x.b, .int .i64 x.t]
def hU (l : List Flt) : AV := .sl .no 4 (l.map br)
def iF (f : Int) (x y : Int × Int) : Int := if max x.1 y.1 < min x.2 y.2 ∧ (f < 0 ∨ max x.1 y.1 < f) then max x.1 y.1 else f
def E0 (xs ys : List (Int × Int)) : Int := xs.foldl (fun f x => ys.foldl (fun f y => iF f x y) f) (-1)
def slP (o : Opt) : List (Int × Int) := o.sl.map fun x => (x.a, x.b)
def gZ (a b : Opt) : Int := E0 (slP a) (slP b)
def qr (l : List Opt) (k i : Nat) : Option (Nat × Nat × Int) := if gZ (au l i) (au l k) ≥ 0 then some (i, k, gZ (au l i) (au l k)) else none
def uC (l : List Opt) (k : Nat) : Option (Nat × Nat × Int) := (List.range k).findSome? (qr l k)
def qq (l : List Opt) : Option (Nat × Nat × Int) := (List.range l.length).findSome? (uC l)
def yU (k sat t : Int) : Option Flt := if t = -1 then none else some ⟨k, sat, 0, t⟩
def kT (s : Nat → Int) (l : List Opt) : Option Flt := match gn s (aR l) with
 | none => none
 | some (i, k) => some ⟨2, (au l i).id, (au l k).id, (au l k).a⟩
def va (s : Nat → Int) (l : List Opt) (a b : Int) : Option Flt := yU 3 (s 0) (rT s (aR l) a b)
def tc (s : Nat → Int) (l : List Opt) : Int := fH (s 10) (cr (aV l))
def qn (s : Nat → Int) (l : List Opt) : Option Flt := yU 4 (s 0) (tc s l)
def mJ (s : Nat → Int) (l : List Opt) (a b : Int) : Option Flt := yU 5 (s 0) (gK s (aC l) a b)
def jX (l : List Opt) : Option Flt := match qq l with
 | none => none
 | some (i, k, t) => some ⟨6, (au l i).id, (au l k).id, t⟩
def ma (s : Nat → Int) (l : List Opt) (a b : Int) : List (Option Flt) := [kT s l, va s l a b, qn s l, mJ s l a b, jX l]
def ew (s : Nat → Int) (l : List Opt) (a b : Int) : List Flt := (ma s l a b).filterMap id
theorem sF (s : Nat → Int) (l : List Opt) (a b : Int) : ew s l a b = (kT s l).toList ++ ((va s l a b).toList ++ ((qn s l).toList ++ ((mJ s l a b).toList ++ (jX l).toList))) := by
 unfold ew ma
 cases kT s l <;> cases va s l a b <;> cases qn s l <;> cases mJ s l a b <;> cases jX l <;> rfl
theorem bj {l : List Opt} {i : Nat} (h : i < l.length) : au l i = l[i] := by simp [au, List.getD_eq_getElem?_getD, List.getElem?_eq_getElem h]
end Go.Proofs
namespace Go.Proofs
open Go Go.AI
theorem By {l : List Opt} (h : ∀ o ∈ l, 0 ≤ o.a ∧ o.a < dT o) : ∀ x ∈ aV l, 0 ≤ x.a ∧ x.a < x.b := fun x hx => by
 obtain ⟨o, ho, rfl⟩ := List.mem_map.1 hx
 exact h o ho
theorem ep.kinds {l : List Opt} (h : ep l) : ∀ x ∈ aC l, x.k = 1 ∨ x.k = 2 := fun x hx => by
 obtain ⟨h1, h2⟩ := h.can
 exact (rj h1 h2 h.raw x hx).1
theorem x5 {l : List Opt} (h : ep l) : (aC l).length ≤ 56 := by rw [h.loads]; exact Nat.le_trans (lI _) h.len
end Go.Proofs
namespace Go.Proofs
open Go Go.AI
set_option maxRecDepth 10000
theorem xE (o : Opt) (k : Nat) (hl : o.sl.length ≤ 1000000) (hc : iJ o = true) (hk : k < o.sl.length) : ae Tryz.prog 36 [.agg (aD o), .int .i64 k] (.tup [.agg (eD ⟨o.id, o.size, o.a, (o.sl.getD k ⟨0, 0, 0⟩).b⟩), .int .i64 0]) := by
 have k100 := zF o hl
 rw [hc] at k100
 have hx := eq hk
 have hw : IntKind.i64.wrap (((o.sl.map aL).length : Int) - 1) = (o.sl.length : Int) - 1 := by rw [List.length_map]; exact ai (by omega) (by omega)
 have k101 := sT (k : Int) 0 (IntKind.i64.wrap (((o.sl.map aL).length : Int) - 1))
 rw [eC (show 0 ≤ (k : Int) ∧ (k : Int) ≤ IntKind.i64.wrap (((o.sl.map aL).length : Int) - 1) by rw [hw]; omega)] at k101
 refine ah aa Tryz.func36 rfl (by kernel_rfl) af (Nat.le_of_ble_eq_true rfl) ?_
 intro F n' w0 m0 hG hro h1
 repeat' first|refine Q1 ?_|refine Q2 ?_|refine Q3 hG aa pJ ?_|refine Q4 hG aa pJ ?_|refine Q5 hG aa ?_|refine Q6 hG aa ?_|refine Q7 hG aa ?_|refine Q8 hG aa ?_|refine Q9 rfl ?_|refine QF rfl ?_|refine QC rfl ⟨fun h => ?_,fun h => ?_⟩|((conv => whnf); first|refine anF ?_|refine anT ?_|refine anK ?_|refine Exists.intro _ (And.intro (k100) ?_)|refine Exists.intro _ (And.intro (k101) ?_)|refine And.intro (Int.natCast_nonneg k) (Exists.intro _ (And.intro hx ?_))|refine And.intro (fun h => ?_) (fun h => ?_)|refine Or.inl ?_)
 all_goals exact Ends.mk (Or.inl rfl) (ac rfl)
theorem yq {o : Opt} (h : iJ o = true) : 1 ≤ o.sl.length ∧ o.sl.length ≤ 6 := by
 simp only [iJ, inS, Bool.and_eq_true, decide_eq_true_eq] at h
 omega
theorem xr (o : Opt) (hl : o.sl.length ≤ 1000000) (hc : iJ o = true) : ae Tryz.prog 35 [.agg (aD o)] (.tup [.agg (eD ⟨o.id, o.size, o.a, dT o⟩), .int .i64 0]) := by
 have hn := yq hc
 have k48 := xE o (o.sl.length - 1) hl hc (by omega)
 rw [show ((o.sl.length - 1 : Nat) : Int) = IntKind.i64.wrap (((o.sl.map aL).length : Int) - 1) by rw [List.length_map]; exact ((ai (by omega) (by omega)).trans (by omega)).symm] at k48
 refine ah aa Tryz.func35 rfl (by kernel_rfl) af (Nat.le_of_ble_eq_true rfl) ?_
 intro F n' w0 m0 hG hro h1
 repeat' first|refine Q1 ?_|refine Q2 ?_|refine Q3 hG aa pK ?_|refine Q4 hG aa pK ?_|refine Q5 hG aa ?_|refine Q6 hG aa ?_|refine Q7 hG aa ?_|refine Q8 hG aa ?_|refine Q9 rfl ?_|refine QF rfl ?_|refine QC rfl ⟨fun h => ?_,fun h => ?_⟩|((conv => whnf); first|refine anF ?_|refine anT ?_|refine anK ?_|refine Exists.intro _ (And.intro (k48) ?_)|refine And.intro (fun h => ?_) (fun h => ?_)|refine Or.inl ?_)
 all_goals exact Ends.mk (Or.inl rfl) (ac rfl)
structure aG where
 sat : Int
 st : Int
 sa : Int
 sb : Int
 ca : Int
 cb : Int
deriving DecidableEq
def aI (p : aG) : List AV := [.int .i64 p.sat, .int .i64 p.st, .int .i64 p.sa, .int .i64 p.sb, .int .i64 p.ca, .int .i64 p.cb]
def aB (l : List aG) : AV := .sl .no 6 (l.map aI)
def j7 : aG := ⟨0, 0, 0, 0, 0, 0⟩
def aO (l : List aG) (i : Nat) : aG := l.getD i j7
def dA (p : aG) : Bool := (inS p.sat 0 23 && (inS p.st 0 11 && true)) && ((decide (0 ≤ p.ca) && decide (p.ca < p.cb) && decide (p.cb ≤ 1000001)) && ((p.sa == 0 && (p.sb == 0 && true)) || (decide (p.ca ≤ p.sa) && decide (p.sa < p.sb) && decide (p.sb ≤ p.cb))))
set_option maxHeartbeats 4000000 in
theorem vR (p : aG) : ae Tryz.prog 158 [.agg (aI p)] (.bool (dA p)) := by
 have k114 := (oi [⟨p.sat, 0, 23⟩, ⟨p.st, 0, 11⟩] (Nat.le_of_ble_eq_true rfl)).sl0 (o := .full)
 refine ah aa Tryz.func158 rfl (by kernel_rfl) af (Nat.le_of_ble_eq_true rfl) ?_
 intro F n' w0 m0 hG hro h1
 repeat' first|refine Q1 ?_|refine Q2 ?_|refine Q3 hG aa nN ?_|refine Q4 hG aa nN ?_|refine Q5 hG aa ?_|refine Q6 hG aa ?_|refine Q7 hG aa ?_|refine Q8 hG aa ?_|refine Q9 rfl ?_|refine QF rfl ?_|refine QC rfl ⟨fun h => ?_,fun h => ?_⟩|((conv => whnf); first|refine anF ?_|refine anT ?_|refine anK ?_|refine Exists.intro _ (And.intro (k114) ?_)|refine And.intro (fun h => ?_) (fun h => ?_)|refine Or.inl ?_)
 all_goals refine Ends.mk (Or.inl rfl) (ac (congrArg AV.bool ?_))
 all_goals (unfold dA; (try simp only [List.all_cons, List.all_nil, Bool.and_true] at *); simp only [*, Bool.true_and, Bool.and_true, Bool.false_and, Bool.and_false, Bool.true_or, Bool.false_or])
theorem tZ (p : aG) : ae Tryz.prog 157 [.agg (aI p)] (.bool (!dA p)) := by
 refine ah aa Tryz.func157 rfl (by kernel_rfl) af (Nat.le_of_ble_eq_true rfl) ?_
 intro F n' w0 m0 hG hro h1
 repeat' first|refine Q1 ?_|refine Q2 ?_|refine Q3 hG aa nO ?_|refine Q4 hG aa nO ?_|refine Q5 hG aa ?_|refine Q6 hG aa ?_|refine Q7 hG aa ?_|refine Q8 hG aa ?_|refine Q9 rfl ?_|refine QF rfl ?_|refine QC rfl ⟨fun h => ?_,fun h => ?_⟩|((conv => whnf); first|refine anF ?_|refine anT ?_|refine anK ?_|refine Exists.intro _ (And.intro (vR p) ?_)|refine And.intro (fun h => ?_) (fun h => ?_)|refine Or.inl ?_)
 all_goals exact Ends.mk (Or.inl rfl) (ac rfl)
def pU (p q : aG) : Int := orS [ei p.ca q.ca, ei p.sat q.sat, ei p.st q.st, ei p.sa q.sa, ei p.cb q.cb]
theorem oT (p q : aG) : ae Tryz.prog 160 [.agg (aI p), .agg (aI q)] (.int .i64 (pU p q)) := by
 refine ah aa Tryz.func160 rfl (by kernel_rfl) af (Nat.le_of_ble_eq_true rfl) ?_
 intro F n' w0 m0 hG hro h1
 repeat' first|refine Q1 ?_|refine Q2 ?_|refine Q3 hG aa nM ?_|refine Q4 hG aa nM ?_|refine Q5 hG aa ?_|refine Q6 hG aa ?_|refine Q7 hG aa ?_|refine Q8 hG aa ?_|refine Q9 rfl ?_|refine QF rfl ?_|refine QC rfl ⟨fun h => ?_,fun h => ?_⟩|((conv => whnf); first|refine anF ?_|refine anT ?_|refine anK ?_|refine Exists.intro _ (And.intro (ky _ _) ?_)|refine Exists.intro _ (And.intro (rH [ei p.ca q.ca, ei p.sat q.sat, ei p.st q.st, ei p.sa q.sa, ei p.cb q.cb] (Nat.le_of_ble_eq_true rfl)) ?_)|refine And.intro (fun h => ?_) (fun h => ?_)|refine Or.inl ?_)
 all_goals exact Ends.mk (Or.inl rfl) (ac rfl)
theorem kx (l : List aG) (p : aG → Bool) (g : FuncId) (fv : AV) (cap : List AV) (hf : fv = .clo g cap ∨ (fv = .fn g ∧ cap = [])) (hl : l.length ≤ 1000000)
  (hp : ∀ x ∈ l, ae Tryz.prog g ((.agg (aI x)) :: cap) (.bool (p x))) : ae Tryz.prog 226 [.sl .no 6 (l.map aI), fv] (.int .i64 (cq p l 0)) := by
 rcases hf with rfl | ⟨rfl, rfl⟩
 ·refine ah aa Tryz.func226 rfl (by kernel_rfl) af (Nat.le_of_ble_eq_true rfl) ?_
  intro F n' w0 m0 hG hro h1
  repeat' first|refine Q1 ?_|refine Q2 ?_|refine Q3 hG aa cQ ?_|refine Q4 hG aa cQ ?_|refine Q5 hG aa ?_|refine Q6 hG aa ?_|refine Q7 hG aa ?_|refine Q8 hG aa ?_|refine Q9 rfl ?_|refine QF rfl ?_|refine QC rfl ⟨fun h => ?_,fun h => ?_⟩|((conv => whnf); first|refine anF ?_|refine anT ?_|refine anK ?_|refine And.intro (fun h => ?_) (fun h => ?_)|refine Or.inl ?_)
  refine ap (X := Nat) (fun j => ⟨[(8, .int .i64 j), (7, .int .i64 (l.map aI).length), (0, .sl .no 6 (l.map aI)), (1, .clo g cap)], []⟩) (fun j => j ≤ l.length ∧ cq p (l.drop j) j = cq p l 0) (fun j => l.length - j) 0
   ⟨Nat.zero_le _, by simp⟩ (ag ?_ trivial) (fun j hj => ?_)
  ·repeat' (first | exact trivial | refine And.intro rfl ?_)
  ·obtain ⟨hj, hi⟩ := hj
   have hj2 : decide ((j : Int) < ((l.map aI).length : Int)) = true → j < l.length := fun h => by have := of_decide_eq_true h; simp at this; omega
   have hx : decide ((j : Int) < ((l.map aI).length : Int)) = true → (l.map aI)[(j : Int).toNat]? = some (aI (l.getD j j7)) := fun h => by have := hj2 h; simp [List.getElem?_eq_getElem this]
   have hc : decide ((j : Int) < ((l.map aI).length : Int)) = true → ae Tryz.prog g ((.agg (aI (l.getD j j7))) :: cap) (.bool (p (l.getD j j7))) := fun h => hp _ (by have := hj2 h; rw [List.getD_eq_getElem?_getD, List.getElem?_eq_getElem this]; exact List.getElem_mem this)
   repeat' first|refine Q1 ?_|refine Q2 ?_|refine Q3 hG aa cQ ?_|refine Q4 hG aa cQ ?_|refine Q5 hG aa ?_|refine Q6 hG aa ?_|refine Q7 hG aa ?_|refine Q8 hG aa ?_|refine Q9 rfl ?_|refine QF rfl ?_|refine QC rfl ⟨fun h => ?_,fun h => ?_⟩|((conv => whnf); first|refine anF ?_|refine anT ?_|refine anK ?_|refine And.intro (Int.natCast_nonneg j) (Exists.intro _ (And.intro (hx (by assumption)) ?_))|refine Exists.intro _ (And.intro (hc (by assumption)) ?_)|refine And.intro (fun h => ?_) (fun h => ?_)|refine Or.inl ?_)
   ·rw [aT (d := j7) (hj2 (by assumption)), if_pos (by assumption)] at hi
    exact Ends.mk (Or.inl rfl) (ac (congrArg (AV.int .i64) hi))
   ·have hj2 := hj2 (by assumption)
    rw [aT (d := j7) hj2, if_neg (fun h => tf h (by assumption))] at hi
    refine Exists.intro (j + 1) (And.intro ⟨hj2, hi⟩ (And.intro (by omega) (ag ?_ trivial)))
    refine And.intro (congrArg (fun z => some (AV.int .i64 z)) ((ai (by omega) (by omega)).trans (by omega))) ?_
    repeat' (first | exact trivial | refine And.intro rfl ?_)
   ·have hj2 : l.length ≤ j := by have := of_decide_eq_false (by assumption : decide ((j : Int) < ((l.map aI).length : Int)) = false); simp at this; omega
    rw [List.drop_of_length_le hj2] at hi
    exact Ends.mk (Or.inl rfl) (ac (congrArg (AV.int .i64) hi))
 ·refine ah aa Tryz.func226 rfl (by kernel_rfl) af (Nat.le_of_ble_eq_true rfl) ?_
  intro F n' w0 m0 hG hro h1
  repeat' first|refine Q1 ?_|refine Q2 ?_|refine Q3 hG aa cQ ?_|refine Q4 hG aa cQ ?_|refine Q5 hG aa ?_|refine Q6 hG aa ?_|refine Q7 hG aa ?_|refine Q8 hG aa ?_|refine Q9 rfl ?_|refine QF rfl ?_|refine QC rfl ⟨fun h => ?_,fun h => ?_⟩|((conv => whnf); first|refine anF ?_|refine anT ?_|refine anK ?_|refine And.intro (fun h => ?_) (fun h => ?_)|refine Or.inl ?_)
  refine ap (X := Nat) (fun j => ⟨[(8, .int .i64 j), (7, .int .i64 (l.map aI).length), (0, .sl .no 6 (l.map aI)), (1, .fn g)], []⟩) (fun j => j ≤ l.length ∧ cq p (l.drop j) j = cq p l 0) (fun j => l.length - j) 0
   ⟨Nat.zero_le _, by simp⟩ (ag ?_ trivial) (fun j hj => ?_)
  ·repeat' (first | exact trivial | refine And.intro rfl ?_)
  ·obtain ⟨hj, hi⟩ := hj
   have hj2 : decide ((j : Int) < ((l.map aI).length : Int)) = true → j < l.length := fun h => by have := of_decide_eq_true h; simp at this; omega
   have hx : decide ((j : Int) < ((l.map aI).length : Int)) = true → (l.map aI)[(j : Int).toNat]? = some (aI (l.getD j j7)) := fun h => by have := hj2 h; simp [List.getElem?_eq_getElem this]
   have hc : decide ((j : Int) < ((l.map aI).length : Int)) = true → ae Tryz.prog g ((.agg (aI (l.getD j j7))) :: []) (.bool (p (l.getD j j7))) := fun h => hp _ (by have := hj2 h; rw [List.getD_eq_getElem?_getD, List.getElem?_eq_getElem this]; exact List.getElem_mem this)
   repeat' first|refine Q1 ?_|refine Q2 ?_|refine Q3 hG aa cQ ?_|refine Q4 hG aa cQ ?_|refine Q5 hG aa ?_|refine Q6 hG aa ?_|refine Q7 hG aa ?_|refine Q8 hG aa ?_|refine Q9 rfl ?_|refine QF rfl ?_|refine QC rfl ⟨fun h => ?_,fun h => ?_⟩|((conv => whnf); first|refine anF ?_|refine anT ?_|refine anK ?_|refine And.intro (Int.natCast_nonneg j) (Exists.intro _ (And.intro (hx (by assumption)) ?_))|refine Exists.intro _ (And.intro (hc (by assumption)) ?_)|refine And.intro (fun h => ?_) (fun h => ?_)|refine Or.inl ?_)
   ·rw [aT (d := j7) (hj2 (by assumption)), if_pos (by assumption)] at hi
    exact Ends.mk (Or.inl rfl) (ac (congrArg (AV.int .i64) hi))
   ·have hj2 := hj2 (by assumption)
    rw [aT (d := j7) hj2, if_neg (fun h => tf h (by assumption))] at hi
    refine Exists.intro (j + 1) (And.intro ⟨hj2, hi⟩ (And.intro (by omega) (ag ?_ trivial)))
    refine And.intro (congrArg (fun z => some (AV.int .i64 z)) ((ai (by omega) (by omega)).trans (by omega))) ?_
    repeat' (first | exact trivial | refine And.intro rfl ?_)
   ·have hj2 : l.length ≤ j := by have := of_decide_eq_false (by assumption : decide ((j : Int) < ((l.map aI).length : Int)) = false); simp at this; omega
    rw [List.drop_of_length_le hj2] at hi
    exact Ends.mk (Or.inl rfl) (ac (congrArg (AV.int .i64) hi))
theorem oe (l : List aG) (p : aG → Bool) (g : FuncId) (fv : AV) (cap : List AV) (hf : fv = .clo g cap ∨ (fv = .fn g ∧ cap = [])) (hl : l.length ≤ 1000000)
  (hp : ∀ x ∈ l, ae Tryz.prog g ((.agg (aI x)) :: cap) (.bool (p x))) : ae Tryz.prog 156 [.sl .no 6 (l.map aI), fv] (.bool (l.any p)) := by
 rcases hf with rfl | ⟨rfl, rfl⟩
 ·refine ah aa Tryz.func156 rfl (by kernel_rfl) af (Nat.le_of_ble_eq_true rfl) ?_
  intro F n' w0 m0 hG hro h1
  repeat' first|refine Q1 ?_|refine Q2 ?_|refine Q3 hG aa ge ?_|refine Q4 hG aa ge ?_|refine Q5 hG aa ?_|refine Q6 hG aa ?_|refine Q7 hG aa ?_|refine Q8 hG aa ?_|refine Q9 rfl ?_|refine QF rfl ?_|refine QC rfl ⟨fun h => ?_,fun h => ?_⟩|((conv => whnf); first|refine anF ?_|refine anT ?_|refine anK ?_|refine Exists.intro _ (And.intro (kx l p g _ _ (Or.inl rfl) hl hp) ?_)|refine And.intro (fun h => ?_) (fun h => ?_)|refine Or.inl ?_)
  all_goals exact Ends.mk (Or.inl rfl) (ac (congrArg AV.bool (dU p l 0)))
 ·refine ah aa Tryz.func156 rfl (by kernel_rfl) af (Nat.le_of_ble_eq_true rfl) ?_
  intro F n' w0 m0 hG hro h1
  repeat' first|refine Q1 ?_|refine Q2 ?_|refine Q3 hG aa ge ?_|refine Q4 hG aa ge ?_|refine Q5 hG aa ?_|refine Q6 hG aa ?_|refine Q7 hG aa ?_|refine Q8 hG aa ?_|refine Q9 rfl ?_|refine QF rfl ?_|refine QC rfl ⟨fun h => ?_,fun h => ?_⟩|((conv => whnf); first|refine anF ?_|refine anT ?_|refine anK ?_|refine Exists.intro _ (And.intro (kx l p g _ _ (Or.inr ⟨rfl, rfl⟩) hl hp) ?_)|refine And.intro (fun h => ?_) (fun h => ?_)|refine Or.inl ?_)
  all_goals exact Ends.mk (Or.inl rfl) (ac (congrArg AV.bool (dU p l 0)))
theorem lc (l : List Opt) (p : Opt → Bool) (g : FuncId) (fv : AV) (cap : List AV) (hf : fv = .clo g cap ∨ (fv = .fn g ∧ cap = [])) (hl : l.length ≤ 1000000)
  (hp : ∀ x ∈ l, ae Tryz.prog g ((.agg (aD x)) :: cap) (.bool (p x))) : ae Tryz.prog 162 [.sl .no 9 (l.map aD), fv] (.int .i64 (cq p l 0)) := by
 rcases hf with rfl | ⟨rfl, rfl⟩
 ·refine ah aa Tryz.func162 rfl (by kernel_rfl) af (Nat.le_of_ble_eq_true rfl) ?_
  intro F n' w0 m0 hG hro h1
  repeat' first|refine Q1 ?_|refine Q2 ?_|refine Q3 hG aa cX ?_|refine Q4 hG aa cX ?_|refine Q5 hG aa ?_|refine Q6 hG aa ?_|refine Q7 hG aa ?_|refine Q8 hG aa ?_|refine Q9 rfl ?_|refine QF rfl ?_|refine QC rfl ⟨fun h => ?_,fun h => ?_⟩|((conv => whnf); first|refine anF ?_|refine anT ?_|refine anK ?_|refine And.intro (fun h => ?_) (fun h => ?_)|refine Or.inl ?_)
  refine ap (X := Nat) (fun j => ⟨[(8, .int .i64 j), (7, .int .i64 (l.map aD).length), (0, .sl .no 9 (l.map aD)), (1, .clo g cap)], []⟩) (fun j => j ≤ l.length ∧ cq p (l.drop j) j = cq p l 0) (fun j => l.length - j) 0
   ⟨Nat.zero_le _, by simp⟩ (ag ?_ trivial) (fun j hj => ?_)
  ·repeat' (first | exact trivial | refine And.intro rfl ?_)
  ·obtain ⟨hj, hi⟩ := hj
   have hj2 : decide ((j : Int) < ((l.map aD).length : Int)) = true → j < l.length := fun h => by have := of_decide_eq_true h; simp at this; omega
   have hx : decide ((j : Int) < ((l.map aD).length : Int)) = true → (l.map aD)[(j : Int).toNat]? = some (aD (l.getD j oB)) := fun h => by have := hj2 h; simp [List.getElem?_eq_getElem this]
   have hc : decide ((j : Int) < ((l.map aD).length : Int)) = true → ae Tryz.prog g ((.agg (aD (l.getD j oB))) :: cap) (.bool (p (l.getD j oB))) := fun h => hp _ (by have := hj2 h; rw [List.getD_eq_getElem?_getD, List.getElem?_eq_getElem this]; exact List.getElem_mem this)
   repeat' first|refine Q1 ?_|refine Q2 ?_|refine Q3 hG aa cX ?_|refine Q4 hG aa cX ?_|refine Q5 hG aa ?_|refine Q6 hG aa ?_|refine Q7 hG aa ?_|refine Q8 hG aa ?_|refine Q9 rfl ?_|refine QF rfl ?_|refine QC rfl ⟨fun h => ?_,fun h => ?_⟩|((conv => whnf); first|refine anF ?_|refine anT ?_|refine anK ?_|refine And.intro (Int.natCast_nonneg j) (Exists.intro _ (And.intro (hx (by assumption)) ?_))|refine Exists.intro _ (And.intro (hc (by assumption)) ?_)|refine And.intro (fun h => ?_) (fun h => ?_)|refine Or.inl ?_)
   ·rw [aT (d := oB) (hj2 (by assumption)), if_pos (by assumption)] at hi
    exact Ends.mk (Or.inl rfl) (ac (congrArg (AV.int .i64) hi))
   ·have hj2 := hj2 (by assumption)
    rw [aT (d := oB) hj2, if_neg (fun h => tf h (by assumption))] at hi
    refine Exists.intro (j + 1) (And.intro ⟨hj2, hi⟩ (And.intro (by omega) (ag ?_ trivial)))
    refine And.intro (congrArg (fun z => some (AV.int .i64 z)) ((ai (by omega) (by omega)).trans (by omega))) ?_
    repeat' (first | exact trivial | refine And.intro rfl ?_)
   ·have hj2 : l.length ≤ j := by have := of_decide_eq_false (by assumption : decide ((j : Int) < ((l.map aD).length : Int)) = false); simp at this; omega
    rw [List.drop_of_length_le hj2] at hi
    exact Ends.mk (Or.inl rfl) (ac (congrArg (AV.int .i64) hi))
 ·refine ah aa Tryz.func162 rfl (by kernel_rfl) af (Nat.le_of_ble_eq_true rfl) ?_
  intro F n' w0 m0 hG hro h1
  repeat' first|refine Q1 ?_|refine Q2 ?_|refine Q3 hG aa cX ?_|refine Q4 hG aa cX ?_|refine Q5 hG aa ?_|refine Q6 hG aa ?_|refine Q7 hG aa ?_|refine Q8 hG aa ?_|refine Q9 rfl ?_|refine QF rfl ?_|refine QC rfl ⟨fun h => ?_,fun h => ?_⟩|((conv => whnf); first|refine anF ?_|refine anT ?_|refine anK ?_|refine And.intro (fun h => ?_) (fun h => ?_)|refine Or.inl ?_)
  refine ap (X := Nat) (fun j => ⟨[(8, .int .i64 j), (7, .int .i64 (l.map aD).length), (0, .sl .no 9 (l.map aD)), (1, .fn g)], []⟩) (fun j => j ≤ l.length ∧ cq p (l.drop j) j = cq p l 0) (fun j => l.length - j) 0
   ⟨Nat.zero_le _, by simp⟩ (ag ?_ trivial) (fun j hj => ?_)
  ·repeat' (first | exact trivial | refine And.intro rfl ?_)
  ·obtain ⟨hj, hi⟩ := hj
   have hj2 : decide ((j : Int) < ((l.map aD).length : Int)) = true → j < l.length := fun h => by have := of_decide_eq_true h; simp at this; omega
   have hx : decide ((j : Int) < ((l.map aD).length : Int)) = true → (l.map aD)[(j : Int).toNat]? = some (aD (l.getD j oB)) := fun h => by have := hj2 h; simp [List.getElem?_eq_getElem this]
   have hc : decide ((j : Int) < ((l.map aD).length : Int)) = true → ae Tryz.prog g ((.agg (aD (l.getD j oB))) :: []) (.bool (p (l.getD j oB))) := fun h => hp _ (by have := hj2 h; rw [List.getD_eq_getElem?_getD, List.getElem?_eq_getElem this]; exact List.getElem_mem this)
   repeat' first|refine Q1 ?_|refine Q2 ?_|refine Q3 hG aa cX ?_|refine Q4 hG aa cX ?_|refine Q5 hG aa ?_|refine Q6 hG aa ?_|refine Q7 hG aa ?_|refine Q8 hG aa ?_|refine Q9 rfl ?_|refine QF rfl ?_|refine QC rfl ⟨fun h => ?_,fun h => ?_⟩|((conv => whnf); first|refine anF ?_|refine anT ?_|refine anK ?_|refine And.intro (Int.natCast_nonneg j) (Exists.intro _ (And.intro (hx (by assumption)) ?_))|refine Exists.intro _ (And.intro (hc (by assumption)) ?_)|refine And.intro (fun h => ?_) (fun h => ?_)|refine Or.inl ?_)
   ·rw [aT (d := oB) (hj2 (by assumption)), if_pos (by assumption)] at hi
    exact Ends.mk (Or.inl rfl) (ac (congrArg (AV.int .i64) hi))
   ·have hj2 := hj2 (by assumption)
    rw [aT (d := oB) hj2, if_neg (fun h => tf h (by assumption))] at hi
    refine Exists.intro (j + 1) (And.intro ⟨hj2, hi⟩ (And.intro (by omega) (ag ?_ trivial)))
    refine And.intro (congrArg (fun z => some (AV.int .i64 z)) ((ai (by omega) (by omega)).trans (by omega))) ?_
    repeat' (first | exact trivial | refine And.intro rfl ?_)
   ·have hj2 : l.length ≤ j := by have := of_decide_eq_false (by assumption : decide ((j : Int) < ((l.map aD).length : Int)) = false); simp at this; omega
    rw [List.drop_of_length_le hj2] at hi
    exact Ends.mk (Or.inl rfl) (ac (congrArg (AV.int .i64) hi))
theorem oS (l : List Opt) (p : Opt → Bool) (g : FuncId) (fv : AV) (cap : List AV) (hf : fv = .clo g cap ∨ (fv = .fn g ∧ cap = [])) (hl : l.length ≤ 1000000)
  (hp : ∀ x ∈ l, ae Tryz.prog g ((.agg (aD x)) :: cap) (.bool (p x))) : ae Tryz.prog 88 [.sl .no 9 (l.map aD), fv] (.bool (l.any p)) := by
 rcases hf with rfl | ⟨rfl, rfl⟩
 ·refine ah aa Tryz.func88 rfl (by kernel_rfl) af (Nat.le_of_ble_eq_true rfl) ?_
  intro F n' w0 m0 hG hro h1
  repeat' first|refine Q1 ?_|refine Q2 ?_|refine Q3 hG aa ij ?_|refine Q4 hG aa ij ?_|refine Q5 hG aa ?_|refine Q6 hG aa ?_|refine Q7 hG aa ?_|refine Q8 hG aa ?_|refine Q9 rfl ?_|refine QF rfl ?_|refine QC rfl ⟨fun h => ?_,fun h => ?_⟩|((conv => whnf); first|refine anF ?_|refine anT ?_|refine anK ?_|refine Exists.intro _ (And.intro (lc l p g _ _ (Or.inl rfl) hl hp) ?_)|refine And.intro (fun h => ?_) (fun h => ?_)|refine Or.inl ?_)
  all_goals exact Ends.mk (Or.inl rfl) (ac (congrArg AV.bool (dU p l 0)))
 ·refine ah aa Tryz.func88 rfl (by kernel_rfl) af (Nat.le_of_ble_eq_true rfl) ?_
  intro F n' w0 m0 hG hro h1
  repeat' first|refine Q1 ?_|refine Q2 ?_|refine Q3 hG aa ij ?_|refine Q4 hG aa ij ?_|refine Q5 hG aa ?_|refine Q6 hG aa ?_|refine Q7 hG aa ?_|refine Q8 hG aa ?_|refine Q9 rfl ?_|refine QF rfl ?_|refine QC rfl ⟨fun h => ?_,fun h => ?_⟩|((conv => whnf); first|refine anF ?_|refine anT ?_|refine anK ?_|refine Exists.intro _ (And.intro (lc l p g _ _ (Or.inr ⟨rfl, rfl⟩) hl hp) ?_)|refine And.intro (fun h => ?_) (fun h => ?_)|refine Or.inl ?_)
  all_goals exact Ends.mk (Or.inl rfl) (ac (congrArg AV.bool (dU p l 0)))
def AZ (l : List aG) : Bool := (List.range (l.length - 1)).all fun i => !decide (pU (aO l (i + 1)) (aO l i) < 0)
theorem gz {l : List aG} {i : Nat} (h : i < l.length) : (l.map aI)[i]? = some (aI (aO l i)) := by simp [aO, List.getElem?_eq_getElem h]
set_option maxHeartbeats 4000000 in
theorem rY (l : List aG) (hl : l.length ≤ 1000000) : ae Tryz.prog 159 [aB l, .fn 160] (.bool (AZ l)) := by
 refine ah aa Tryz.func159 rfl (by kernel_rfl) af (Nat.le_of_ble_eq_true rfl) ?_
 intro F n' w0 m0 hG hro h1
 repeat' first|refine Q1 ?_|refine Q2 ?_|refine Q3 hG aa ea ?_|refine Q4 hG aa ea ?_|refine Q5 hG aa ?_|refine Q6 hG aa ?_|refine Q7 hG aa ?_|refine Q8 hG aa ?_|refine Q9 rfl ?_|refine QF rfl ?_|refine QC rfl ⟨fun h => ?_,fun h => ?_⟩|((conv => whnf); first|refine anF ?_|refine anT ?_|refine anK ?_|refine And.intro (fun h => ?_) (fun h => ?_)|refine Or.inl ?_)
 refine ap (X := Int) (fun i => ⟨[(5, .int .i64 i), (0, aB l), (1, .fn 160)], []⟩)
  (fun i => -1 ≤ i ∧ i ≤ (l.length : Int) - 1 ∧ ∀ j : Nat, i ≤ (j : Int) → (j : Int) < (l.length : Int) - 1 → decide (pU (aO l (j + 1)) (aO l j) < 0) = false) (fun i => (i + 1).toNat) (IntKind.i64.wrap (((l.map aI).length : Int) - 1)) ?_ (ag ?_ ?_) (fun i hi => ?_)
 ·rw [show IntKind.i64.wrap (((l.map aI).length : Int) - 1) = (l.length : Int) - 1 by rw [List.length_map]; exact ai (by omega) (by omega)]
  exact ⟨by omega, by omega, fun j h1 h2 => by omega⟩
 ·repeat' (first | exact trivial | refine And.intro rfl ?_)
 ·repeat' (first | exact trivial | refine And.intro rfl ?_)
 ·obtain ⟨h1, h2, h3⟩ := hi
  by_cases hp : i > 0
  ·obtain ⟨j, rfl⟩ : ∃ j : Nat, i = ((j + 1 : Nat) : Int) := ⟨(i - 1).toNat, by omega⟩
   have hw : IntKind.i64.wrap (((j + 1 : Nat) : Int) - 1) = (j : Int) := (ai (by omega) (by omega)).trans (by omega)
   have hx := gz (l := l) (i := j + 1) (by omega)
   have hy := gz (l := l) (i := j) (by omega)
   have hy' : (l.map aI)[(IntKind.i64.wrap (((j + 1 : Nat) : Int) - 1)).toNat]? = some (aI (aO l j)) := by rw [hw]; exact hy
   have h0 : 0 ≤ IntKind.i64.wrap (((j + 1 : Nat) : Int) - 1) := by rw [hw]; exact Int.natCast_nonneg j
   have bb : decide (((j + 1 : Nat) : Int) > 0) = false → False := fun h => by have := of_decide_eq_false h; omega
   repeat' first|exact (bb (by assumption)).elim|refine Q1 ?_|refine Q2 ?_|refine Q3 hG aa ea ?_|refine Q4 hG aa ea ?_|refine Q5 hG aa ?_|refine Q6 hG aa ?_|refine Q7 hG aa ?_|refine Q8 hG aa ?_|refine Q9 rfl ?_|refine QF rfl ?_|refine QC rfl ⟨fun h => ?_,fun h => ?_⟩|((conv => whnf); first|refine anF ?_|refine anT ?_|refine anK ?_|refine And.intro (Int.natCast_nonneg (j + 1)) (Exists.intro _ (And.intro hx ?_))|refine And.intro h0 (Exists.intro _ (And.intro hy' ?_))|refine Exists.intro _ (And.intro (oT _ _) ?_)|refine And.intro (fun h => ?_) (fun h => ?_)|refine Or.inl ?_)
   ·refine Ends.mk (Or.inl rfl) (ac (congrArg AV.bool ?_))
    symm
    unfold AZ
    rw [List.all_eq_false]
    exact ⟨j, List.mem_range.2 (by omega), by
     have hb := (by assumption : decide (pU (aO l (j + 1)) (aO l j) < 0) = true)
     rw [hb]; simp⟩
   ·refine Exists.intro (IntKind.i64.wrap (((j + 1 : Nat) : Int) - 1)) (And.intro ?_ (And.intro ?_ (ag ?_ ?_)))
    ·rw [hw]
     refine ⟨by omega, by omega, fun k g1 g2 => ?_⟩
     by_cases hk : k = j
     ·rw [hk]; assumption
     ·exact h3 k (by omega) g2
    ·rw [hw]; omega
    ·repeat' (first | exact trivial | refine And.intro rfl ?_)
    ·repeat' (first | exact trivial | refine And.intro rfl ?_)
  ·have bb : decide (i > 0) = true → False := fun h => hp (of_decide_eq_true h)
   repeat' first|exact (bb (by assumption)).elim|refine Q1 ?_|refine Q2 ?_|refine Q3 hG aa ea ?_|refine Q4 hG aa ea ?_|refine Q5 hG aa ?_|refine Q6 hG aa ?_|refine Q7 hG aa ?_|refine Q8 hG aa ?_|refine Q9 rfl ?_|refine QF rfl ?_|refine QC rfl ⟨fun h => ?_,fun h => ?_⟩|((conv => whnf); first|refine anF ?_|refine anT ?_|refine anK ?_|refine And.intro (fun h => ?_) (fun h => ?_)|refine Or.inl ?_)
   refine Ends.mk (Or.inl rfl) (ac (congrArg AV.bool ?_))
   symm
   unfold AZ
   rw [List.all_eq_true]
   intro j hj
   have := List.mem_range.1 hj
   rw [h3 j (by omega) (by omega)]; rfl
def dq (l : List aG) : Bool := decide (l.length ≤ 64) && !(l.any fun p => !dA p) && AZ l
theorem jI (l : List aG) (hl : l.length ≤ 1000000) : ae Tryz.prog 85 [aB l] (.bool (dq l)) := by
 have hlm : decide (((l.map aI).length : Int) ≤ 64) = decide (l.length ≤ 64) := by rw [List.length_map]; exact decide_eq_decide.2 (by omega)
 refine ah aa Tryz.func85 rfl (by kernel_rfl) af (Nat.le_of_ble_eq_true rfl) ?_
 intro F n' w0 m0 hG hro h1
 repeat' first|refine Q1 ?_|refine Q2 ?_|refine Q3 hG aa pC ?_|refine Q4 hG aa pC ?_|refine Q5 hG aa ?_|refine Q6 hG aa ?_|refine Q7 hG aa ?_|refine Q8 hG aa ?_|refine Q9 rfl ?_|refine QF rfl ?_|refine QC rfl ⟨fun h => ?_,fun h => ?_⟩|((conv => whnf); first|refine anF ?_|refine anT ?_|refine anK ?_|refine Exists.intro _ (And.intro (oe l (fun p => !dA p) 157 _ [] (Or.inr ⟨rfl, rfl⟩) hl (fun p _ => tZ p)) ?_)|refine Exists.intro _ (And.intro (rY l hl) ?_)|refine And.intro (fun h => ?_) (fun h => ?_)|refine Or.inl ?_)
 all_goals refine Ends.mk (Or.inl rfl) (ac (congrArg AV.bool ?_))
 all_goals (unfold dq; rw [← hlm]; clear hlm; simp only [*, Bool.true_and, Bool.and_true, Bool.false_and, Bool.and_false])
end Go.Proofs
namespace Go.Proofs
open Go Go.AI
set_option maxRecDepth 10000
def gm (s : Nat → Int) (ps : List aG) (size t : Int) (x : bl) : Bool :=
 inS x.p 0 (w64 ((ps.length : Int) - 1)) && ((((aO ps x.p.toNat).sat == s 0) && decide (x.a ≥ max t (aO ps x.p.toNat).sa) && decide (x.b ≤ (aO ps x.p.toNat).sb) && decide (x.a < x.b)) &&
  !decide (w64 (w64 (x.b - x.a) * s 20) < size))
def bS (s : Nat → Int) (ps : List aG) (size : Int) : Int → List bl → Bool
 | _, [] => true
 | t, x :: r => gm s ps size t x && bS s ps size x.b r
def ms (s : Nat → Int) (o : Opt) : Bool := inS o.id 0 63 && inS o.ord 0 63 && inS o.cl 0 11 && (o.sat == s 0) && inS o.size 1 (s 10)
def o0 (s : Nat → Int) (o : Opt) : Bool := oq (dJ s) o.a o.b o.look && inS o.look (w64 (0 - s 9)) (s 9) && decide (o.b ≤ 1000000)
def cu (s : Nat → Int) (o : Opt) (ps : List aG) : Bool := ms s o && o0 s o && inS (o.sl.length : Int) 1 6 && bS s ps o.size o.b o.sl
theorem lT {s : Nat → Int} {ps : List aG} {z t : Int} {l : List bl} {i : Nat} (h : i < l.length) : bS s ps z t (l.drop i) = (gm s ps z t (l.getD i ⟨0, 0, 0⟩) && bS s ps z (l.getD i ⟨0, 0, 0⟩).b (l.drop (i + 1))) := by
 rw [List.drop_eq_getElem_cons h, List.getD_eq_getElem?_getD, List.getElem?_eq_getElem h]; rfl
set_option maxHeartbeats 16000000 in
theorem sW (s : Nat → Int) (o : Opt) (ps : List aG) (hl : o.sl.length ≤ 1000000) (hps : ps.length ≤ 1000000) : ae Tryz.prog 87 [.agg (aJ s), .agg (aD o), aB ps] (.bool (cu s o ps)) := by
 have hlm : ((o.sl.map aL).length : Int) = (o.sl.length : Int) := by rw [List.length_map]
 have hpm : ((ps.map aI).length : Int) = (ps.length : Int) := by rw [List.length_map]
 refine ah aa Tryz.func87 rfl (by kernel_rfl) af (Nat.le_of_ble_eq_true rfl) ?_
 intro F n' w0 m0 hG hro h1
 refine Q1 ?_
 refine Q4 hG aa bp ?_
 conv => whnf
 refine Q1 ?_
 refine SPB.cut (X := Unit) (fun _ => ⟨[(7, .bool (ms s o)), (6, .bool false), (4, .loc 4 0), (3, .loc 3 0), (2, aB ps)], [(4, aD o), (3, aJ s)]⟩) (fun _ => True) ?_ (fun _ _ => ?_)
 ·refine Q4 hG aa bp ?_
  repeat' first|refine Q1 ?_|refine Q2 ?_|refine Q3 hG aa bp ?_|refine Q4 hG aa bp ?_|refine Q5 hG aa ?_|refine Q6 hG aa ?_|refine Q7 hG aa ?_|refine Q8 hG aa ?_|refine Q9 rfl ?_|refine QF rfl ?_|refine QC rfl ⟨fun h => ?_,fun h => ?_⟩|((conv => whnf); first|refine anF ?_|refine anT ?_|refine anK ?_|refine Exists.intro _ (And.intro (iM _ _ _) ?_)|refine And.intro (fun h => ?_) (fun h => ?_)|refine Or.inl ?_)
  all_goals refine Exists.intro () (And.intro trivial (ag (And.intro (congrArg (fun z => some (AV.bool z)) ?_) ?_) ?_))
  all_goals first
   |(simp only [ms, *, Bool.true_and, Bool.and_true, Bool.false_and, Bool.and_false, Bool.true_or, Bool.or_true, Bool.false_or, Bool.or_false, Bool.not_true, Bool.not_false]; done)
   |(repeat' (first | exact trivial | refine And.intro rfl ?_))
 conv => whnf
 refine Q1 ?_
 refine SPB.cut (X := Unit) (fun _ => ⟨[(8, .bool (o0 s o)), (7, .bool (ms s o)), (6, .bool false), (4, .loc 4 0), (3, .loc 3 0), (2, aB ps)], [(4, aD o), (3, aJ s)]⟩) (fun _ => True) ?_ (fun _ _ => ?_)
 ·refine Q4 hG aa bp ?_
  repeat' first|refine Q1 ?_|refine Q2 ?_|refine Q3 hG aa bp ?_|refine Q4 hG aa bp ?_|refine Q5 hG aa ?_|refine Q6 hG aa ?_|refine Q7 hG aa ?_|refine Q8 hG aa ?_|refine Q9 rfl ?_|refine QF rfl ?_|refine QC rfl ⟨fun h => ?_,fun h => ?_⟩|((conv => whnf); first|refine anF ?_|refine anT ?_|refine anK ?_|refine Exists.intro _ (And.intro (iM _ _ _) ?_)|refine Exists.intro _ (And.intro (zC (dJ s) _ _ _) ?_)|refine And.intro (fun h => ?_) (fun h => ?_)|refine Or.inl ?_)
  all_goals refine Exists.intro () (And.intro trivial (ag (And.intro (congrArg (fun z => some (AV.bool z)) ?_) ?_) ?_))
  all_goals first
   |(simp only [o0, w64, *, Bool.true_and, Bool.and_true, Bool.false_and, Bool.and_false, Bool.true_or, Bool.or_true, Bool.false_or, Bool.or_false, Bool.not_true, Bool.not_false]; done)
   |(repeat' (first | exact trivial | refine And.intro rfl ?_))
 conv => whnf
 repeat' first|refine Q1 ?_|refine Q2 ?_|refine Q3 hG aa bp ?_|refine Q4 hG aa bp ?_|refine Q5 hG aa ?_|refine Q6 hG aa ?_|refine Q7 hG aa ?_|refine Q8 hG aa ?_|refine Q9 rfl ?_|refine QF rfl ?_|refine QC rfl ⟨fun h => ?_,fun h => ?_⟩|((conv => whnf); first|refine anF ?_|refine anT ?_|refine anK ?_|refine Exists.intro _ (And.intro (iM _ _ _) ?_)|refine And.intro (fun h => ?_) (fun h => ?_)|refine Or.inl ?_)
 ·refine Ends.mk (Or.inl rfl) (ac (congrArg AV.bool ?_))
  simp only [cu, mm (by assumption : (!ms s o) = true), Bool.false_and]
 ·refine Ends.mk (Or.inl rfl) (ac (congrArg AV.bool ?_))
  simp only [cu, mm (by assumption : (!o0 s o) = true), Bool.false_and, Bool.and_false]
 ·refine Ends.mk (Or.inl rfl) (ac (congrArg AV.bool ?_))
  have h := mm (by assumption : (!inS (((o.sl.map aL).length : Nat) : Int) 1 6) = true)
  rw [hlm] at h
  simp only [cu, h, Bool.false_and, Bool.and_false]
 ·have q1 := fR (by assumption : (!ms s o) = false)
  have q2 := fR (by assumption : (!o0 s o) = false)
  have q3 := fR (by assumption : (!inS (((o.sl.map aL).length : Nat) : Int) 1 6) = false)
  rw [hlm] at q3
  have hfit : cu s o ps = bS s ps o.size o.b o.sl := by simp only [cu, q1, q2, q3, Bool.true_and]
  rw [hfit]
  refine ap (X := Nat × Int) (fun q => ⟨[(83, .int .i64 q.1), (82, .int .i64 (o.sl.map aL).length), (81, .sl .no 3 (o.sl.map aL)), (9, .int .i64 q.2), (6, .bool false), (4, .loc 4 0), (3, .loc 3 0), (2, aB ps)], [(4, aD o), (3, aJ s)]⟩)
   (fun q => q.1 ≤ o.sl.length ∧ bS s ps o.size q.2 (o.sl.drop q.1) = bS s ps o.size o.b o.sl) (fun q => o.sl.length - q.1) (0, o.b) ⟨Nat.zero_le _, rfl⟩ (ag ?_ ?_) (fun q hq => ?_)
  ·repeat' (first | exact trivial | refine And.intro rfl ?_)
  ·repeat' (first | exact trivial | refine And.intro rfl ?_)
  ·obtain ⟨i, t⟩ := q
   obtain ⟨hi, hf⟩ := hq
   have hi : i ≤ o.sl.length := hi
   have hf : bS s ps o.size t (o.sl.drop i) = bS s ps o.size o.b o.sl := hf
   by_cases hlt : i < o.sl.length
   ·have bbk : decide ((i : Int) < ((o.sl.map aL).length : Int)) = false → False := fun h => by have := of_decide_eq_false h; omega
    have hx := eq hlt
    rw [lT hlt] at hf
    generalize o.sl.getD i ⟨0, 0, 0⟩ = x at hx hf
    have bad : gm s ps o.size t x = false → false = bS s ps o.size o.b o.sl := fun h => by rw [← hf, h, Bool.false_and]
    have hin : (!inS x.p 0 (IntKind.i64.wrap (((ps.map aI).length : Int) - 1))) = false → 0 ≤ x.p ∧ (ps.map aI)[x.p.toNat]? = some (aI (aO ps x.p.toNat)) := fun h => by
     have h := fR h
     rw [hpm, show IntKind.i64.wrap ((ps.length : Int) - 1) = (ps.length : Int) - 1 from ai (by omega) (by omega)] at h
     simp only [inS, Bool.and_eq_true, decide_eq_true_eq] at h
     exact ⟨h.1, gz (by omega)⟩
    have hpm' : w64 ((ps.length : Int) - 1) = IntKind.i64.wrap (((ps.map aI).length : Int) - 1) := by rw [hpm]; rfl
    repeat' first|exact (bbk (by assumption)).elim|refine Q1 ?_|refine Q2 ?_|refine Q3 hG aa bp ?_|refine Q4 hG aa bp ?_|refine Q5 hG aa ?_|refine Q6 hG aa ?_|refine Q7 hG aa ?_|refine Q8 hG aa ?_|refine Q9 rfl ?_|refine QF rfl ?_|refine QC rfl ⟨fun h => ?_,fun h => ?_⟩|((conv => whnf); first|refine anF ?_|refine anT ?_|refine anK ?_|refine And.intro (Int.natCast_nonneg i) (Exists.intro _ (And.intro hx ?_))|refine Exists.intro _ (And.intro (iM _ _ _) ?_)|refine And.intro (hin (by assumption)).1 (Exists.intro _ (And.intro (hin (by assumption)).2 ?_))|refine And.intro (fun h => ?_) (fun h => ?_)|refine Or.inl ?_)
    rotate_left 3
    ·have hok : gm s ps o.size t x = true := by
      (try simp only [Bool.not_eq_true', Bool.not_eq_false', cond_true] at *)
      unfold gm w64
      unfold w64 at hpm'
      rw [hpm']
      simp only [*, Bool.true_and, Bool.and_true, Bool.false_and, Bool.and_false, Bool.true_or, Bool.or_true, Bool.false_or, Bool.or_false, Bool.not_true, Bool.not_false]
     refine Exists.intro (i + 1, x.b) (And.intro ⟨hlt, ?_⟩ (And.intro (by show o.sl.length - (i + 1) < o.sl.length - i; omega) (ag ?_ ?_)))
     ·show bS s ps o.size x.b (o.sl.drop (i + 1)) = _
      rw [← hf, hok, Bool.true_and]
     ·refine And.intro (congrArg some (am (by omega))) ?_
      repeat' (first | exact trivial | refine And.intro rfl ?_)
     ·repeat' (first | exact trivial | refine And.intro rfl ?_)
    all_goals refine Ends.mk (Or.inl rfl) (ac (congrArg AV.bool (bad ?_)))
    all_goals (try simp only [Bool.not_eq_true', Bool.not_eq_false', cond_true] at *)
    all_goals (unfold gm w64; unfold w64 at hpm'; rw [hpm']; simp only [*, Bool.true_and, Bool.and_true, Bool.false_and, Bool.and_false, Bool.true_or, Bool.or_true, Bool.false_or, Bool.or_false, Bool.not_true, Bool.not_false])
   ·have hge : i = o.sl.length := by omega
    have bbk : decide ((i : Int) < ((o.sl.map aL).length : Int)) = true → False := fun h => by have := of_decide_eq_true h; omega
    rw [List.drop_of_length_le (by omega)] at hf
    repeat' first|exact (bbk (by assumption)).elim|refine Q1 ?_|refine Q2 ?_|refine Q3 hG aa bp ?_|refine Q4 hG aa bp ?_|refine Q5 hG aa ?_|refine Q6 hG aa ?_|refine Q7 hG aa ?_|refine Q8 hG aa ?_|refine Q9 rfl ?_|refine QF rfl ?_|refine QC rfl ⟨fun h => ?_,fun h => ?_⟩|((conv => whnf); first|refine anF ?_|refine anT ?_|refine anK ?_|refine And.intro (fun h => ?_) (fun h => ?_)|refine Or.inl ?_)
    exact Ends.mk (Or.inl rfl) (ac (congrArg AV.bool hf))
def iD (s : Nat → Int) (ps : List aG) (a b : Int) (pre : List Opt) (o : Opt) : Bool := cu s o ps && !decide (o.a < a) && !decide (dT o > b) && !(pre.any fun p => p.id == o.id)
def dh (s : Nat → Int) (ps : List aG) (a b : Int) : List Opt → List Opt → Bool
 | _, [] => true
 | pre, o :: r => iD s ps a b pre o && dh s ps a b (pre ++ [o]) r
theorem o6 {s : Nat → Int} {ps : List aG} {a b : Int} {l : List Opt} {i : Nat} (h : i < l.length) : dh s ps a b (l.take i) (l.drop i) = (iD s ps a b (l.take i) (au l i) && dh s ps a b (l.take (i + 1)) (l.drop (i + 1))) := by
 rw [List.drop_eq_getElem_cons h, dh, bj h, List.take_add_one, List.getElem?_eq_getElem h]; rfl
def bD (s : Nat → Int) (l : List Opt) (ps : List aG) (a b : Int) : Bool := decide (l.length ≤ 8) && bi a b && !decide (w64 (b - a) > 3000) && dR s && dq ps && dh s ps a b [] l
theorem ku (s : Nat → Int) (o : Opt) (ps : List aG) (hl : o.sl.length ≤ 1000000) (hps : ps.length ≤ 1000000) : ae Tryz.prog 30 [.agg (aJ s), .agg (aD o), aB ps] (.bool (dR s && dq ps && cu s o ps)) := by
 refine ah aa Tryz.func30 rfl (by kernel_rfl) af (Nat.le_of_ble_eq_true rfl) ?_
 intro F n' w0 m0 hG hro h1
 repeat' first|refine Q1 ?_|refine Q2 ?_|refine Q3 hG aa pL ?_|refine Q4 hG aa pL ?_|refine Q5 hG aa ?_|refine Q6 hG aa ?_|refine Q7 hG aa ?_|refine Q8 hG aa ?_|refine Q9 rfl ?_|refine QF rfl ?_|refine QC rfl ⟨fun h => ?_,fun h => ?_⟩|((conv => whnf); first|refine anF ?_|refine anT ?_|refine anK ?_|refine Exists.intro _ (And.intro (oj s) ?_)|refine Exists.intro _ (And.intro (jI ps hps) ?_)|refine Exists.intro _ (And.intro (sW s o ps hl hps) ?_)|refine And.intro (fun h => ?_) (fun h => ?_)|refine Or.inl ?_)
 all_goals refine Ends.mk (Or.inl rfl) (ac (congrArg AV.bool ?_))
 all_goals (simp only [*, Bool.true_and, Bool.and_true, Bool.false_and, Bool.and_false, Bool.true_or, Bool.or_true, Bool.false_or, Bool.or_false, Bool.not_true, Bool.not_false])
theorem zG (o p : Opt) : ae Tryz.prog 86 [.agg (aD p), .ref (aD o)] (.bool (p.id == o.id)) := by
 refine ah aa Tryz.func86 rfl (by kernel_rfl) af (Nat.le_of_ble_eq_true rfl) ?_
 intro F n' w0 m0 hG hro h1
 repeat' first|refine Q1 ?_|refine Q2 ?_|refine Q3 hG aa pB ?_|refine Q4 hG aa pB ?_|refine Q5 hG aa ?_|refine Q6 hG aa ?_|refine Q7 hG aa ?_|refine Q8 hG aa ?_|refine Q9 rfl ?_|refine QF rfl ?_|refine QC rfl ⟨fun h => ?_,fun h => ?_⟩|((conv => whnf); first|refine anF ?_|refine anT ?_|refine anK ?_|refine And.intro (fun h => ?_) (fun h => ?_)|refine Or.inl ?_)
 all_goals exact Ends.mk (Or.inl rfl) (ac rfl)
theorem c8 {l : List Opt} {i : Nat} (h : i < l.length) : (l.map aD)[(i : Int).toNat]? = some (aD (au l i)) := by simp [au, List.getElem?_eq_getElem h]
theorem qY {s : Nat → Int} {o : Opt} {ps : List aG} (h : cu s o ps = true) : 1 ≤ o.sl.length ∧ o.sl.length ≤ 6 := by
 simp only [cu, inS, Bool.and_eq_true, decide_eq_true_eq] at h
 omega
end Go.Proofs
namespace Go.Proofs
open Go Go.AI
set_option maxRecDepth 10000
def gV (l : List Opt) : Prop := ∀ o ∈ l, o.sl.length ≤ 1000000
set_option maxHeartbeats 16000000 in
theorem gM (s : Nat → Int) (l : List Opt) (ps : List aG) (a b : Int) (hl : l.length ≤ 1000000) (hs : gV l) (hps : ps.length ≤ 1000000) : ae Tryz.prog 23 [.agg (aJ s), ay l, aB ps, .agg (ar a b)] (.bool (bD s l ps a b)) := by
 have hlm : ((l.map aD).length : Int) = (l.length : Int) := by rw [List.length_map]
 have hn8 : decide (l.length ≤ 8) = !decide (((l.map aD).length : Int) > 8) := by rw [hlm]; by_cases h : l.length ≤ 8 <;> simp [h] <;> omega
 refine ah aa Tryz.func23 rfl (by kernel_rfl) af (Nat.le_of_ble_eq_true rfl) ?_
 intro F n' w0 m0 hG hro h1
 repeat' first|refine Q1 ?_|refine Q2 ?_|refine Q3 hG aa e9 ?_|refine Q4 hG aa e9 ?_|refine Q5 hG aa ?_|refine Q6 hG aa ?_|refine Q7 hG aa ?_|refine Q8 hG aa ?_|refine Q9 rfl ?_|refine QF rfl ?_|refine QC rfl ⟨fun h => ?_,fun h => ?_⟩|((conv => whnf); first|refine anF ?_|refine anT ?_|refine anK ?_|refine Exists.intro _ (And.intro (ro _ _) ?_)|refine Exists.intro _ (And.intro (oj s) ?_)|refine Exists.intro _ (And.intro (jI ps hps) ?_)|refine And.intro (fun h => ?_) (fun h => ?_)|refine Or.inl ?_)
 rotate_left 5
 ·have c1 : l.length ≤ 8 := by
   have h := (by assumption : decide (((l.map aD).length : Int) > 8) = false)
   have h2 := hn8; rw [h] at h2; simpa using h2
  have hv : bD s l ps a b = dh s ps a b [] l := by
   have c2 := fR (by assumption : (!bi a b) = false)
   have c3 := fR (by assumption : (!dR s) = false)
   have c4 := fR (by assumption : (!dq ps) = false)
   have c5 : decide (w64 (b - a) > 3000) = false := (by assumption : decide (IntKind.i64.wrap (b - a) > 3000) = false)
   simp only [bD, decide_eq_true c1, c2, c3, c4, c5, Bool.true_and, Bool.not_false, Bool.and_true]
  rw [hv]
  refine ap (X := Nat) (fun i => ⟨[(40, .int .i64 i), (39, .int .i64 (l.map aD).length), (38, ay l), (8, .bool false), (7, .loc 7 0), (4, .loc 4 0), (2, aB ps), (1, ay l)], [(7, ar a b), (4, aJ s)]⟩)
   (fun i => i ≤ l.length ∧ dh s ps a b (l.take i) (l.drop i) = dh s ps a b [] l) (fun i => l.length - i) 0 ⟨Nat.zero_le _, rfl⟩ (ag ?_ ?_) (fun i hi => ?_)
  ·repeat' (first | exact trivial | refine And.intro rfl ?_)
  ·repeat' (first | exact trivial | refine And.intro rfl ?_)
  ·obtain ⟨hi, hok⟩ := hi
   by_cases hlt : i < l.length
   ·have bbk : decide ((i : Int) < ((l.map aD).length : Int)) = false → False := fun h => by have := of_decide_eq_false h; omega
    have hx := c8 hlt
    rw [o6 hlt] at hok
    have hsx : (au l i).sl.length ≤ 1000000 := hs _ (by rw [bj hlt]; exact List.getElem_mem hlt)
    generalize au l i = x at hx hok hsx
    have hle : (i : Int).toNat ≤ (l.map aD).length := by simp; exact hi
    have he : ((l.map aD).take (i : Int).toNat).drop 0 = (l.take i).map aD := by simp [List.map_take]
    have h88 := oS (l.take i) (fun p => p.id == x.id) 86 _ [.ref (aD x)] (Or.inl rfl) (by simp; omega) (fun y _ => zG x y)
    rw [← he] at h88
    have hlast : (!cu s x ps) = false → 0 ≤ IntKind.i64.wrap (((x.sl.map aL).length : Int) - 1) ∧ (x.sl.map aL)[(IntKind.i64.wrap (((x.sl.map aL).length : Int) - 1)).toNat]? = some [.int .i64 (fM x (x.sl.length - 1)).p, .int .i64 (fM x (x.sl.length - 1)).a, .int .i64 (dT x)] := fun h => by
     have hn := qY (fR h)
     rw [List.length_map, show IntKind.i64.wrap ((x.sl.length : Int) - 1) = ((x.sl.length - 1 : Nat) : Int) from (ai (by omega) (by omega)).trans (by omega)]
     exact ⟨Int.natCast_nonneg _, eq (by omega)⟩
    repeat' first|exact (bbk (by assumption)).elim|refine Q1 ?_|refine Q2 ?_|refine Q3 hG aa e9 ?_|refine Q4 hG aa e9 ?_|refine Q5 hG aa ?_|refine Q6 hG aa ?_|refine Q7 hG aa ?_|refine Q8 hG aa ?_|refine Q9 rfl ?_|refine QF rfl ?_|refine QC rfl ⟨fun h => ?_,fun h => ?_⟩|((conv => whnf); first|refine anF ?_|refine anT ?_|refine anK ?_|refine And.intro (Int.natCast_nonneg i) (Exists.intro _ (And.intro hx ?_))|refine Exists.intro _ (And.intro (sW s _ ps hsx hps) ?_)|refine Exists.intro _ (And.intro (h88) ?_)|refine And.intro (hlast (by assumption)).1 (Exists.intro _ (And.intro (hlast (by assumption)).2 ?_))|refine And.intro (Int.natCast_nonneg i) (And.intro (Nat.zero_le _) (And.intro hle ?_))|refine And.intro (fun h => ?_) (fun h => ?_)|refine Or.inl ?_)
    all_goals first
     |(refine Ends.mk (Or.inl rfl) (ac (congrArg AV.bool ?_))
       have hb : iD s ps a b (l.take i) x = false := by
        (try simp only [Bool.not_eq_true', Bool.not_eq_false'] at *)
        unfold iD
        simp only [*, Bool.true_and, Bool.and_true, Bool.false_and, Bool.and_false, Bool.true_or, Bool.or_true, Bool.false_or, Bool.or_false, Bool.not_true, Bool.not_false]
       rw [← hok, hb, Bool.false_and])
     | skip
    have hb : iD s ps a b (l.take i) x = true := by
     (try simp only [Bool.not_eq_true', Bool.not_eq_false'] at *)
     unfold iD
     simp only [*, Bool.true_and, Bool.and_true, Bool.false_and, Bool.and_false, Bool.true_or, Bool.or_true, Bool.false_or, Bool.or_false, Bool.not_true, Bool.not_false]
    rw [hb, Bool.true_and] at hok
    refine Exists.intro (i + 1) (And.intro ⟨hlt, hok⟩ (And.intro (by omega) (ag ?_ ?_)))
    ·refine And.intro (congrArg some (am (by omega))) ?_
     repeat' (first | exact trivial | refine And.intro rfl ?_)
    ·repeat' (first | exact trivial | refine And.intro rfl ?_)
   ·have bbk : decide ((i : Int) < ((l.map aD).length : Int)) = true → False := fun h => by have := of_decide_eq_true h; omega
    rw [List.drop_of_length_le (by omega)] at hok
    repeat' first|exact (bbk (by assumption)).elim|refine Q1 ?_|refine Q2 ?_|refine Q3 hG aa e9 ?_|refine Q4 hG aa e9 ?_|refine Q5 hG aa ?_|refine Q6 hG aa ?_|refine Q7 hG aa ?_|refine Q8 hG aa ?_|refine Q9 rfl ?_|refine QF rfl ?_|refine QC rfl ⟨fun h => ?_,fun h => ?_⟩|((conv => whnf); first|refine anF ?_|refine anT ?_|refine anK ?_|refine And.intro (fun h => ?_) (fun h => ?_)|refine Or.inl ?_)
    exact Ends.mk (Or.inl rfl) (ac (congrArg AV.bool hok))
 all_goals refine Ends.mk (Or.inl rfl) (ac (congrArg AV.bool ?_))
 all_goals ((try simp only [Bool.not_eq_true', Bool.not_eq_false'] at *); unfold bD w64; rw [hn8]; clear hlm; simp only [*, Bool.true_and, Bool.and_true, Bool.false_and, Bool.and_false, Bool.true_or, Bool.or_true, Bool.false_or, Bool.or_false, Bool.not_true, Bool.not_false])
theorem sM {l : List Opt} {i : Nat} (h : i < l.length) : aR (l.take (i + 1)) = aR (l.take i) ++ [⟨(au l i).a, (au l i).b, (au l i).look⟩] := by
 rw [List.take_add_one, List.getElem?_eq_getElem h, bj h]; exact List.map_append
set_option maxHeartbeats 4000000 in
theorem iO (l : List Opt) (hl : l.length ≤ 1000000) : ae Tryz.prog 29 [ay l] (da (aR l)) := by
 refine ah aa Tryz.func29 rfl (by kernel_rfl) af (Nat.le_of_ble_eq_true rfl) ?_
 intro F n' w0 m0 hG hro h1
 repeat' first|refine Q1 ?_|refine Q2 ?_|refine Q3 hG aa eY ?_|refine Q4 hG aa eY ?_|refine Q5 hG aa ?_|refine Q6 hG aa ?_|refine Q7 hG aa ?_|refine Q8 hG aa ?_|refine Q9 rfl ?_|refine QF rfl ?_|refine QC rfl ⟨fun h => ?_,fun h => ?_⟩|((conv => whnf); first|refine anF ?_|refine anT ?_|refine anK ?_|refine And.intro (fun h => ?_) (fun h => ?_)|refine Or.inl ?_)
 refine ap (X := Nat) (fun i => ⟨[(8, .int .i64 i), (3, .sl (.id 3) 3 ((aR (l.take i)).map bP)), (7, .int .i64 (l.map aD).length), (6, ay l)], []⟩) (fun i => i ≤ l.length) (fun i => l.length - i) 0 (Nat.zero_le _) (ag ?_ ?_) (fun i hi => ?_)
 ·repeat' (first | exact trivial | refine And.intro rfl ?_)
 ·repeat' (first | exact trivial | refine And.intro rfl ?_)
 ·by_cases hlt : i < l.length
  ·have bbk : decide ((i : Int) < ((l.map aD).length : Int)) = false → False := fun h => by have := of_decide_eq_false h; simp at this; omega
   have hx := c8 hlt
   have hsn := sM hlt
   have hln : ((aR (l.take i)).map bP).length = i := by simp [aR]; omega
   generalize au l i = x at hx hsn
   repeat' first|exact (bbk (by assumption)).elim|refine Q1 ?_|refine Q2 ?_|refine Q3 hG aa eY ?_|refine Q4 hG aa eY ?_|refine Q5 hG aa ?_|refine Q6 hG aa ?_|refine Q7 hG aa ?_|refine Q8 hG aa ?_|refine Q9 rfl ?_|refine QF rfl ?_|refine QC rfl ⟨fun h => ?_,fun h => ?_⟩|((conv => whnf); first|refine anF ?_|refine anT ?_|refine anK ?_|refine And.intro (Int.natCast_nonneg i) (Exists.intro _ (And.intro hx ?_))|refine And.intro (show (((aR (l.take i)).map bP).length + 1) * 24 ≤ 70368744177664 by rw [hln]; omega) (And.intro (show ((aR (l.take i)).map bP).length + 1 ≤ 4611686018427387904 by rw [hln]; omega) ?_)|refine And.intro (fun h => ?_) (fun h => ?_)|refine Or.inl ?_)
   refine Exists.intro (i + 1) (And.intro hlt (And.intro (by omega) (ag ?_ ?_)))
   ·refine And.intro (congrArg some (am (by omega))) (And.intro (congrArg (fun z => some (AV.sl (.id 3) 3 z)) ?_) ?_)
    ·rw [hsn, List.map_append]; rfl
    ·repeat' (first | exact trivial | refine And.intro rfl ?_)
   ·repeat' (first | exact trivial | refine And.intro rfl ?_)
  ·have bbk : decide ((i : Int) < ((l.map aD).length : Int)) = true → False := fun h => by have := of_decide_eq_true h; simp at this; omega
   have he : l.take i = l := List.take_of_length_le (by omega)
   rw [he]
   repeat' first|exact (bbk (by assumption)).elim|refine Q1 ?_|refine Q2 ?_|refine Q3 hG aa eY ?_|refine Q4 hG aa eY ?_|refine Q5 hG aa ?_|refine Q6 hG aa ?_|refine Q7 hG aa ?_|refine Q8 hG aa ?_|refine Q9 rfl ?_|refine QF rfl ?_|refine QC rfl ⟨fun h => ?_,fun h => ?_⟩|((conv => whnf); first|refine anF ?_|refine anT ?_|refine anK ?_|refine And.intro (fun h => ?_) (fun h => ?_)|refine Or.inl ?_)
   exact Ends.mk (Or.inl rfl) (ac rfl)
end Go.Proofs
namespace Go.Proofs
open Go Go.AI
set_option maxRecDepth 10000
theorem oR (l : List Opt) : ae Tryz.prog 92 [ay l] (.clo 166 [.ref [ay l]]) := by
 refine ah aa Tryz.func92 rfl (by kernel_rfl) af (Nat.le_of_ble_eq_true rfl) ?_
 intro F n' w0 m0 hG hro h1
 repeat' first|refine Q1 ?_|refine Q2 ?_|refine Q3 hG aa px ?_|refine Q4 hG aa px ?_|refine Q5 hG aa ?_|refine Q6 hG aa ?_|refine Q7 hG aa ?_|refine Q8 hG aa ?_|refine Q9 rfl ?_|refine QF rfl ?_|refine QC rfl ⟨fun h => ?_,fun h => ?_⟩|((conv => whnf); first|refine anF ?_|refine anT ?_|refine anK ?_|refine And.intro (fun h => ?_) (fun h => ?_)|refine Or.inl ?_)
 all_goals exact Ends.mk (Or.inl rfl) (ac rfl)
def spA (x : Int × Int) : List AV := [.agg (ar x.1 x.2)]
theorem sj {l : List Opt} {i : Nat} (h : i < l.length) : bf (l.take (i + 1)) = bf (l.take i) ++ slP (au l i) := by
 rw [List.take_add_one, List.getElem?_eq_getElem h, bj h]
 simp only [bf, List.flatMap_append, Option.toList_some, List.flatMap_cons, List.flatMap_nil, List.append_nil, slP]
theorem A8 {l : List Opt} {i j : Nat} (h : i < l.length) (hj : j < (au l i).sl.length) : (bf l)[(bf (l.take i)).length + j]? = some ((fM (au l i) j).a, (fM (au l i) j).b) := by
 have e : bf l = bf (l.take (i + 1)) ++ bf (l.drop (i + 1)) := by
  conv => lhs; rw [← List.take_append_drop (i + 1) l]
  simp only [bf, List.flatMap_append]
 have h1 : j < (slP (au l i)).length := by simpa [slP] using hj
 rw [e, sj h, List.append_assoc, List.getElem?_append_right (by omega), Nat.add_sub_cancel_left, List.getElem?_append_left h1]
 simp [slP, fM, List.getElem?_eq_getElem hj]
set_option maxHeartbeats 8000000 in
theorem js (l : List Opt) (hl : l.length ≤ 1000000) (hs : gV l) : lf Tryz.prog spA 166 [.ref [ay l]] (bf l) := by
 refine lf.of Tryz.func166 rfl (by kernel_rfl) af (Nat.le_of_ble_eq_true rfl) rfl ?_
 intro F n m y J Jx hY
 repeat' first|refine MPB.seq ?_|refine MPB.block ?_|refine MPB.reg hY aa dD (by kernel_rfl) ?_|refine MPB.skip ?_|refine MPB.label ?_|refine MPB.ret ?_|refine MPB.exit ?_|refine MPB.condT rfl ?_|refine MPB.condF rfl ?_|refine MPB.cond rfl (And.intro (fun h => ?_) (fun h => ?_))|((conv => whnf); first|refine anF ?_|refine anT ?_|refine anK ?_|refine And.intro (fun h => ?_) (fun h => ?_)|refine Or.inl ?_)
 refine MPB.loop (X := Nat) (fun i => ((false, (bf (l.take i)).length), ⟨[(9, .int .i64 i), (8, .int .i64 (l.map aD).length), (7, ay l), (0, .lit (.func (.yield y) #[] #[]))], []⟩)) (fun i => i ≤ l.length) (fun i => l.length - i) 0 (Nat.zero_le _) rfl (ag ?_ ?_) (fun i hi => ?_)
 ·repeat' (first | exact trivial | refine And.intro rfl ?_)
 ·repeat' (first | exact trivial | refine And.intro rfl ?_)
 ·by_cases hlt : i < l.length
  ·have bbk : decide ((i : Int) < ((l.map aD).length : Int)) = false → False := fun h => by have := of_decide_eq_false h; simp at this; omega
   have hx := c8 hlt
   have hsx : (au l i).sl.length ≤ 1000000 := hs _ (by rw [bj hlt]; exact List.getElem_mem hlt)
   have hget := fun (j : Nat) (hj : j < (au l i).sl.length) => A8 hlt hj
   have htk : (bf (l.take (i + 1))).length = (bf (l.take i)).length + (au l i).sl.length := by rw [sj hlt]; simp [slP]
   generalize au l i = x at hx hsx hget htk
   have hlm : ((x.sl.map aL).length : Int) = (x.sl.length : Int) := by rw [List.length_map]
   repeat' first|exact (bbk (by assumption)).elim|refine MPB.seq ?_|refine MPB.block ?_|refine MPB.reg hY aa dD (by kernel_rfl) ?_|refine MPB.skip ?_|refine MPB.label ?_|refine MPB.ret ?_|refine MPB.exit ?_|refine MPB.condT rfl ?_|refine MPB.condF rfl ?_|refine MPB.cond rfl (And.intro (fun h => ?_) (fun h => ?_))|((conv => whnf); first|refine anF ?_|refine anT ?_|refine anK ?_|refine And.intro (Int.natCast_nonneg i) (Exists.intro _ (And.intro hx ?_))|refine And.intro (fun h => ?_) (fun h => ?_)|refine Or.inl ?_)
   refine MPB.loop (X := Nat) (fun j => ((false, (bf (l.take i)).length + j), ⟨[(16, .int .i64 j), (15, .int .i64 (x.sl.map aL).length), (14, .sl .no 3 (x.sl.map aL)), (9, .int .i64 i), (8, .int .i64 (l.map aD).length), (7, ay l), (0, .lit (.func (.yield y) #[] #[]))], []⟩)) (fun j => j ≤ x.sl.length) (fun j => x.sl.length - j) 0 (Nat.zero_le _) rfl (ag ?_ ?_) (fun j hj => ?_)
   ·repeat' (first | exact trivial | refine And.intro rfl ?_)
   ·repeat' (first | exact trivial | refine And.intro rfl ?_)
   ·by_cases hjl : j < x.sl.length
    ·have bbj : decide ((j : Int) < ((x.sl.map aL).length : Int)) = false → False := fun h => by have := of_decide_eq_false h; omega
     have hy := eq hjl
     have hg := hget j hjl
     have hsl : x.sl.getD j ⟨0, 0, 0⟩ = fM x j := rfl
     rw [hsl] at hy
     generalize fM x j = z at hy hg
     repeat' first|exact (bbj (by assumption)).elim|refine MPB.seq ?_|refine MPB.block ?_|refine MPB.reg hY aa dD (by kernel_rfl) ?_|refine MPB.skip ?_|refine MPB.label ?_|refine MPB.ret ?_|refine MPB.exit ?_|refine MPB.condT rfl ?_|refine MPB.condF rfl ?_|refine MPB.cond rfl (And.intro (fun h => ?_) (fun h => ?_))|((conv => whnf); first|refine anF ?_|refine anT ?_|refine anK ?_|refine And.intro (Int.natCast_nonneg j) (Exists.intro _ (And.intro hy ?_))|refine And.intro (fun h => ?_) (fun h => ?_)|refine Or.inl ?_)
     refine Exists.intro (z.a, z.b) (And.intro hg (And.intro rfl (fun t ht => ?_)))
     subst ht
     refine And.intro ?_ ?_
     ·repeat' first|refine MPB.seq ?_|refine MPB.block ?_|refine MPB.reg hY aa dD (by kernel_rfl) ?_|refine MPB.skip ?_|refine MPB.label ?_|refine MPB.ret ?_|refine MPB.exit ?_|refine MPB.condT rfl ?_|refine MPB.condF rfl ?_|refine MPB.cond rfl (And.intro (fun h => ?_) (fun h => ?_))|((conv => whnf); first|refine anF ?_|refine anT ?_|refine anK ?_|refine And.intro (fun h => ?_) (fun h => ?_)|refine Or.inl ?_)
      refine Exists.intro (j + 1) (And.intro hjl (And.intro (by omega) (And.intro rfl (ag ?_ ?_))))
      ·refine And.intro (congrArg some (am (by omega))) ?_
       repeat' (first | exact trivial | refine And.intro rfl ?_)
      ·repeat' (first | exact trivial | refine And.intro rfl ?_)
     ·repeat' first|refine MPB.seq ?_|refine MPB.block ?_|refine MPB.reg hY aa dD (by kernel_rfl) ?_|refine MPB.skip ?_|refine MPB.label ?_|refine MPB.ret ?_|refine MPB.exit ?_|refine MPB.condT rfl ?_|refine MPB.condF rfl ?_|refine MPB.cond rfl (And.intro (fun h => ?_) (fun h => ?_))|((conv => whnf); first|refine anF ?_|refine anT ?_|refine anK ?_|refine And.intro (fun h => ?_) (fun h => ?_)|refine Or.inl ?_)
      exact gO.mk (Or.inl rfl) (Or.inr rfl)
    ·have hge : j = x.sl.length := by omega
     have bbj : decide ((j : Int) < ((x.sl.map aL).length : Int)) = true → False := fun h => by have := of_decide_eq_true h; omega
     repeat' first|exact (bbj (by assumption)).elim|refine MPB.seq ?_|refine MPB.block ?_|refine MPB.reg hY aa dD (by kernel_rfl) ?_|refine MPB.skip ?_|refine MPB.label ?_|refine MPB.ret ?_|refine MPB.exit ?_|refine MPB.condT rfl ?_|refine MPB.condF rfl ?_|refine MPB.cond rfl (And.intro (fun h => ?_) (fun h => ?_))|((conv => whnf); first|refine anF ?_|refine anT ?_|refine anK ?_|refine And.intro (fun h => ?_) (fun h => ?_)|refine Or.inl ?_)
     refine Exists.intro (i + 1) (And.intro hlt (And.intro (by omega) (And.intro (congrArg (Prod.mk false) (by rw [htk, hge])) (ag ?_ ?_))))
     ·refine And.intro (congrArg some (am (by omega))) ?_
      repeat' (first | exact trivial | refine And.intro rfl ?_)
     ·repeat' (first | exact trivial | refine And.intro rfl ?_)
  ·have bbk : decide ((i : Int) < ((l.map aD).length : Int)) = true → False := fun h => by have := of_decide_eq_true h; simp at this; omega
   have he : l.take i = l := List.take_of_length_le (by omega)
   repeat' first|exact (bbk (by assumption)).elim|refine MPB.seq ?_|refine MPB.block ?_|refine MPB.reg hY aa dD (by kernel_rfl) ?_|refine MPB.skip ?_|refine MPB.label ?_|refine MPB.ret ?_|refine MPB.exit ?_|refine MPB.condT rfl ?_|refine MPB.condF rfl ?_|refine MPB.cond rfl (And.intro (fun h => ?_) (fun h => ?_))|((conv => whnf); first|refine anF ?_|refine anT ?_|refine anK ?_|refine And.intro (fun h => ?_) (fun h => ?_)|refine Or.inl ?_)
   exact gO.mk (Or.inr rfl) (Or.inl (congrArg (Prod.mk false) (by rw [he])))
end Go.Proofs
