/- Contracts of the functions and plain facts about what they reckon, part 2: called with arguments that read so, each hands back what is typed. The conditions are those typed. -/
import Derived.Test.YtehdegggapeihaaGreatBConA
import Derived.Shelf.SlLaysF0
set_option linter.unusedSectionVars false
set_option linter.unusedVariables false
set_option linter.unusedSimpArgs false
namespace Go.Proofs
open Go Go.AI
set_option maxRecDepth 10000
def Dn (a b : Int) : Bool := decide (0 ≤ a) && decide (a < b) && decide (b ≤ 1000000) && decide (w64 (b - a) ≤ 3000)
structure Ct where
  a : Int
  b : Int
  k : Int
end Go.Proofs
namespace Go.Proofs
open Go Go.AI
set_option maxRecDepth 10000
def Es (s : Nat → Int) (x : Ct) : Bool := decide (0 ≤ x.a) && decide (x.a < x.b) && decide (x.b ≤ 1000000) && decide (w64 (x.b - x.a) ≤ 60) && inS x.k (w64 (0 - s 9)) (s 9)
def Er (s : Nat → Int) (l : List Ct) : Bool := l.all (Es s) && decide (l.length ≤ 64)
def Eb (s : Nat → Int) (l : List Ct) : Bool := Er s l && gt s
end Go.Proofs
namespace Go.Proofs
open Go Go.AI
set_option maxRecDepth 10000
def hv (g : Int → Int) (a : Int) : Nat → Int
  | 0 => 0
  | n + 1 => max 0 (hv g a n + g (a + n))
end Go.Proofs
namespace Go.Proofs
open Go Go.AI
set_option maxRecDepth 10000
structure a8 where
  p : Int
  a : Int
  b : Int
deriving DecidableEq
def aG (x : a8) : List AV := [.int .i64 x.p, .int .i64 x.a, .int .i64 x.b]
structure Opt where
  id : Int
  ord : Int
  cl : Int
  sat : Int
  a : Int
  b : Int
  look : Int
  size : Int
  sl : List a8
def xh (l : List a8) : AV := .sl .no 3 (l.map aG)
def aK (o : Opt) : List AV := [.int .i64 o.id, .int .i64 o.ord, .int .i64 o.cl, .int .i64 o.sat, .int .i64 o.a, .int .i64 o.b, .int .i64 o.look, .int .i64 o.size, xh o.sl]
def aM (l : List Opt) : AV := .sl .no 9 (l.map aK)
theorem iO (n a b : Int) : ae Tryz.prog 153 [.int .i64 n, .int .i64 a, .int .i64 b] (.bool (inS n a b)) := by
  refine ag aa Tryz.func153 rfl (by kernel_rfl) af (Nat.le_of_ble_eq_true rfl) ?_
  intro F n' w0 m0 hG hro h1
  repeat' first|refine Q1 ?_|refine Q2 ?_|refine Q3 hG aa oC (by kernel_rfl) ?_|refine Q4 hG aa oC (by kernel_rfl) ?_|refine Q5 hG aa ?_|refine Q6 hG aa ?_|refine Q7 hG aa ?_|refine Q8 hG aa ?_|refine Q9 rfl ?_|refine QF rfl ?_|refine QC rfl (And.intro (fun h => ?_) (fun h => ?_))|((conv => whnf); first|refine anF ?_|refine anT ?_|refine And.intro (by kernel_rfl) ?_|refine And.intro (fun h => ?_) (fun h => ?_)|refine Or.inl ?_|fail)
  all_goals refine Ends.mk (Or.inl rfl) (ac (congrArg AV.bool ?_))
  all_goals (simp_all [inS] <;> omega)
theorem Ad (n a b : Int) : ae Tryz.prog 228 [.int .i64 n, .int .i64 a, .int .i64 b] (.bool (inS n a b)) := by
  refine ag aa Tryz.func228 rfl (by kernel_rfl) af (Nat.le_of_ble_eq_true rfl) ?_
  intro F n' w0 m0 hG hro h1
  repeat' first|refine Q1 ?_|refine Q2 ?_|refine Q3 hG aa nT (by kernel_rfl) ?_|refine Q4 hG aa nT (by kernel_rfl) ?_|refine Q5 hG aa ?_|refine Q6 hG aa ?_|refine Q7 hG aa ?_|refine Q8 hG aa ?_|refine Q9 rfl ?_|refine QF rfl ?_|refine QC rfl (And.intro (fun h => ?_) (fun h => ?_))|((conv => whnf); first|refine anF ?_|refine anT ?_|refine And.intro (by kernel_rfl) ?_|refine And.intro (fun h => ?_) (fun h => ?_)|refine Or.inl ?_|fail)
  all_goals refine Ends.mk (Or.inl rfl) (ac (congrArg AV.bool ?_))
  all_goals (simp_all [inS] <;> omega)
theorem tX (n a b : Int) : ae Tryz.prog 104 [.int .i64 n, .int .i64 a, .int .i64 b] (.bool (inS n a b)) := by
  refine ag aa Tryz.func104 rfl (by kernel_rfl) af (Nat.le_of_ble_eq_true rfl) ?_
  intro F n' w0 m0 hG hro h1
  repeat' first|refine Q1 ?_|refine Q2 ?_|refine Q3 hG aa gi (by kernel_rfl) ?_|refine Q4 hG aa gi (by kernel_rfl) ?_|refine Q5 hG aa ?_|refine Q6 hG aa ?_|refine Q7 hG aa ?_|refine Q8 hG aa ?_|refine Q9 rfl ?_|refine QF rfl ?_|refine QC rfl (And.intro (fun h => ?_) (fun h => ?_))|((conv => whnf); first|refine anF ?_|refine anT ?_|refine And.intro (by kernel_rfl) ?_|refine And.intro (fun h => ?_) (fun h => ?_)|refine Or.inl ?_|fail)
  all_goals refine Ends.mk (Or.inl rfl) (ac (congrArg AV.bool ?_))
  all_goals (simp_all [inS] <;> omega)
theorem su (a b : Int) : ae Tryz.prog 83 [.agg (aF a b)] (.bool (cg a b)) := by
  refine ag aa Tryz.func83 rfl (by kernel_rfl) af (Nat.le_of_ble_eq_true rfl) ?_
  intro F n' w0 m0 hG hro h1
  repeat' first|refine Q1 ?_|refine Q2 ?_|refine Q3 hG aa qr (by kernel_rfl) ?_|refine Q4 hG aa qr (by kernel_rfl) ?_|refine Q5 hG aa ?_|refine Q6 hG aa ?_|refine Q7 hG aa ?_|refine Q8 hG aa ?_|refine Q9 rfl ?_|refine QF rfl ?_|refine QC rfl (And.intro (fun h => ?_) (fun h => ?_))|((conv => whnf); first|refine anF ?_|refine anT ?_|refine And.intro (by kernel_rfl) ?_|refine Exists.intro _ (And.intro (iO _ _ _) ?_)|refine And.intro (fun h => ?_) (fun h => ?_)|refine Or.inl ?_|fail)
  all_goals refine Ends.mk (Or.inl rfl) (ac (congrArg AV.bool ?_))
  all_goals (simp only [cg, *, Bool.true_and, Bool.and_true, Bool.false_and, Bool.and_false]; try rfl)
def mg (a b : Int) : Bool := decide (0 ≤ a) && decide (a < b) && decide (b ≤ 1000001)
theorem tV (a b : Int) : ae Tryz.prog 170 [.agg (aF a b)] (.bool (mg a b)) := by
  refine ag aa Tryz.func170 rfl (by kernel_rfl) af (Nat.le_of_ble_eq_true rfl) ?_
  intro F n' w0 m0 hG hro h1
  repeat' first|refine Q1 ?_|refine Q2 ?_|refine Q3 hG aa gf (by kernel_rfl) ?_|refine Q4 hG aa gf (by kernel_rfl) ?_|refine Q5 hG aa ?_|refine Q6 hG aa ?_|refine Q7 hG aa ?_|refine Q8 hG aa ?_|refine Q9 rfl ?_|refine QF rfl ?_|refine QC rfl (And.intro (fun h => ?_) (fun h => ?_))|((conv => whnf); first|refine anF ?_|refine anT ?_|refine And.intro (by kernel_rfl) ?_|refine And.intro (fun h => ?_) (fun h => ?_)|refine Or.inl ?_|fail)
  all_goals refine Ends.mk (Or.inl rfl) (ac (congrArg AV.bool ?_))
  all_goals (simp_all [mg] <;> (intros; omega))
def vK (a b m : Int) : Bool := mg a b && decide (w64 (b - a) ≤ m)
theorem Ae (a b m : Int) : ae Tryz.prog 227 [.agg (aF a b), .int .i64 m] (.bool (vK a b m)) := by
  refine ag aa Tryz.func227 rfl (by kernel_rfl) af (Nat.le_of_ble_eq_true rfl) ?_
  intro F n' w0 m0 hG hro h1
  repeat' first|refine Q1 ?_|refine Q2 ?_|refine Q3 hG aa nU (by kernel_rfl) ?_|refine Q4 hG aa nU (by kernel_rfl) ?_|refine Q5 hG aa ?_|refine Q6 hG aa ?_|refine Q7 hG aa ?_|refine Q8 hG aa ?_|refine Q9 rfl ?_|refine QF rfl ?_|refine QC rfl (And.intro (fun h => ?_) (fun h => ?_))|((conv => whnf); first|refine anF ?_|refine anT ?_|refine And.intro (by kernel_rfl) ?_|refine And.intro (fun h => ?_) (fun h => ?_)|refine Or.inl ?_|fail)
  all_goals refine Ends.mk (Or.inl rfl) (ac (congrArg AV.bool ?_))
  all_goals (simp only [vK, mg, w64, *, Bool.true_and, Bool.and_true, Bool.false_and, Bool.and_false]; try rfl)
def o3 (o : Nat → Int) (a b k : Int) : Bool := lU o && vK a b 60 && inS k (-4) 4
theorem Af (o : Nat → Int) (a b k : Int) : ae Tryz.prog 161 [.agg (ls o), .agg (aF a b), .int .i64 k] (.bool (o3 o a b k)) := by
  refine ag aa Tryz.func161 rfl (by kernel_rfl) af (Nat.le_of_ble_eq_true rfl) ?_
  intro F n' w0 m0 hG hro h1
  repeat' first|refine Q1 ?_|refine Q2 ?_|refine Q3 hG aa ov (by kernel_rfl) ?_|refine Q4 hG aa ov (by kernel_rfl) ?_|refine Q5 hG aa ?_|refine Q6 hG aa ?_|refine Q7 hG aa ?_|refine Q8 hG aa ?_|refine Q9 rfl ?_|refine QF rfl ?_|refine QC rfl (And.intro (fun h => ?_) (fun h => ?_))|((conv => whnf); first|refine anF ?_|refine anT ?_|refine And.intro (by kernel_rfl) ?_|refine Exists.intro _ (And.intro (sM o) ?_)|refine Exists.intro _ (And.intro (Ae _ _ _) ?_)|refine Exists.intro _ (And.intro (Ad _ _ _) ?_)|refine And.intro (fun h => ?_) (fun h => ?_)|refine Or.inl ?_|fail)
  all_goals refine Ends.mk (Or.inl rfl) (ac (congrArg AV.bool ?_))
  all_goals simp only [o3, *, Bool.true_and, Bool.and_true, Bool.false_and, Bool.and_false]
def fj : Int → List a8 → Bool
  | _, [] => true
  | t, x :: r => decide (t ≤ x.a) && mg x.a x.b && fj x.b r
def pz (o : Opt) : Bool := fj o.b o.sl && (inS o.id 0 63 && inS o.size 1 1000000 && mg o.a o.b && inS (o.sl.length : Int) 1 6)
theorem fT {l : List a8} {i : Nat} (h : i < l.length) : (l.map aG)[(i : Int).toNat]? = some [.int .i64 (l.getD i ⟨0, 0, 0⟩).p, .int .i64 (l.getD i ⟨0, 0, 0⟩).a, .int .i64 (l.getD i ⟨0, 0, 0⟩).b] := by simp [List.getElem?_eq_getElem h]; rfl
theorem vV {t : Int} {l : List a8} {i : Nat} (h : i < l.length) : fj t (l.drop i) = (decide (t ≤ (l.getD i ⟨0, 0, 0⟩).a) && mg (l.getD i ⟨0, 0, 0⟩).a (l.getD i ⟨0, 0, 0⟩).b && fj (l.getD i ⟨0, 0, 0⟩).b (l.drop (i + 1))) := by
  rw [List.drop_eq_getElem_cons h, List.getD_eq_getElem?_getD, List.getElem?_eq_getElem h]; rfl
set_option maxHeartbeats 4000000 in
theorem Ag (o : Opt) (hl : o.sl.length ≤ 1000000) : ae Tryz.prog 103 [.agg (aK o)] (.bool (pz o)) := by
  have hlm : ((o.sl.map aG).length : Int) = (o.sl.length : Int) := by rw [List.length_map]
  refine ag aa Tryz.func103 rfl (by kernel_rfl) af (Nat.le_of_ble_eq_true rfl) ?_
  intro F n' w0 m0 hG hro h1
  repeat' first|refine Q1 ?_|refine Q2 ?_|refine Q3 hG aa ef (by kernel_rfl) ?_|refine Q4 hG aa ef (by kernel_rfl) ?_|refine Q5 hG aa ?_|refine Q6 hG aa ?_|refine Q7 hG aa ?_|refine Q8 hG aa ?_|refine Q9 rfl ?_|refine QF rfl ?_|refine QC rfl (And.intro (fun h => ?_) (fun h => ?_))|((conv => whnf); first|refine anF ?_|refine anT ?_|refine And.intro (by kernel_rfl) ?_|refine And.intro (fun h => ?_) (fun h => ?_)|refine Or.inl ?_|fail)
  refine az (X := Nat × Int × Int) (fun q => ⟨[(11, .int .i64 q.1), (10, .int .i64 (o.sl.map aG).length), (9, xh o.sl), (3, .loc 3 0), (1, .loc 1 0)], [(3, aF q.2.1 q.2.2), (1, aK o)]⟩)
    (fun q => q.1 ≤ o.sl.length ∧ fj q.2.2 (o.sl.drop q.1) = fj o.b o.sl) (fun q => o.sl.length - q.1) (0, o.a, o.b) ⟨Nat.zero_le _, rfl⟩ (ah ?_ ?_) (fun q hq => ?_)
  · repeat' (first | exact trivial | refine And.intro rfl ?_)
  · repeat' (first | exact trivial | refine And.intro rfl ?_)
  · obtain ⟨i, la, lb⟩ := q
    obtain ⟨hi, hf⟩ := hq
    have hi : i ≤ o.sl.length := hi
    have hf : fj lb (o.sl.drop i) = fj o.b o.sl := hf
    by_cases hlt : i < o.sl.length
    · have bbk : decide ((i : Int) < ((o.sl.map aG).length : Int)) = false → False := fun h => by have := of_decide_eq_false h; omega
      have hx := fT hlt
      rw [vV hlt] at hf
      generalize o.sl.getD i ⟨0, 0, 0⟩ = x at hx hf
      have bad : (decide (lb ≤ x.a) && mg x.a x.b) = false → false = pz o := fun h => by rw [h, Bool.false_and] at hf; rw [pz, ← hf, Bool.false_and]
      repeat' first|exact (bbk (by assumption)).elim|refine Q1 ?_|refine Q2 ?_|refine Q3 hG aa ef (by kernel_rfl) ?_|refine Q4 hG aa ef (by kernel_rfl) ?_|refine Q5 hG aa ?_|refine Q6 hG aa ?_|refine Q7 hG aa ?_|refine Q8 hG aa ?_|refine Q9 rfl ?_|refine QF rfl ?_|refine QC rfl (And.intro (fun h => ?_) (fun h => ?_))|((conv => whnf); first|refine anF ?_|refine anT ?_|refine And.intro (by kernel_rfl) ?_|refine And.intro (Int.natCast_nonneg i) (Exists.intro _ (And.intro hx ?_))|refine Exists.intro _ (And.intro (tV _ _) ?_)|refine And.intro (fun h => ?_) (fun h => ?_)|refine Or.inl ?_|fail)
      · have h := of_decide_eq_true (by assumption : decide (x.a < lb) = true)
        exact Ends.mk (Or.inl rfl) (ac (congrArg AV.bool (bad (by rw [decide_eq_false (by omega), Bool.false_and]))))
      · have h := CU (by assumption : (!mg x.a x.b) = true)
        exact Ends.mk (Or.inl rfl) (ac (congrArg AV.bool (bad (by rw [h, Bool.and_false]))))
      · have h1 := of_decide_eq_false (by assumption : decide (x.a < lb) = false)
        have h2 := sU (by assumption : (!mg x.a x.b) = false)
        rw [decide_eq_true (show lb ≤ x.a by omega), h2, Bool.true_and, Bool.true_and] at hf
        refine Exists.intro (i + 1, x.a, x.b) (And.intro ⟨hlt, hf⟩ (And.intro (by show o.sl.length - (i + 1) < o.sl.length - i; omega) (ah ?_ ?_)))
        · refine And.intro (congrArg some (ax (by omega))) ?_
          repeat' (first | exact trivial | refine And.intro rfl ?_)
        · repeat' (first | exact trivial | refine And.intro rfl ?_)
    · have hge : i = o.sl.length := by omega
      have bbk : decide ((i : Int) < ((o.sl.map aG).length : Int)) = true → False := fun h => by have := of_decide_eq_true h; omega
      rw [List.drop_of_length_le (by omega)] at hf
      have hft : fj o.b o.sl = true := hf.symm
      clear hf
      repeat' first|exact (bbk (by assumption)).elim|refine Q1 ?_|refine Q2 ?_|refine Q3 hG aa ef (by kernel_rfl) ?_|refine Q4 hG aa ef (by kernel_rfl) ?_|refine Q5 hG aa ?_|refine Q6 hG aa ?_|refine Q7 hG aa ?_|refine Q8 hG aa ?_|refine Q9 rfl ?_|refine QF rfl ?_|refine QC rfl (And.intro (fun h => ?_) (fun h => ?_))|((conv => whnf); first|refine anF ?_|refine anT ?_|refine And.intro (by kernel_rfl) ?_|refine Exists.intro _ (And.intro (tX _ _ _) ?_)|refine Exists.intro _ (And.intro (tV _ _) ?_)|refine And.intro (fun h => ?_) (fun h => ?_)|refine Or.inl ?_|fail)
      all_goals refine Ends.mk (Or.inl rfl) (ac (congrArg AV.bool ?_))
      all_goals (rw [pz, hft]; simp only [hlm, *, Bool.true_and, Bool.and_true, Bool.false_and, Bool.and_false])
end Go.Proofs
namespace Go.Proofs
open Go Go.AI
def eJ (out : List ar) (x : ar) : List ar := match out.getLast? with
  | some y => if y.k = x.k ∧ x.a ≤ y.b then out.dropLast ++ [⟨y.k, y.a, max y.b x.b⟩] else out ++ [x]
  | none => [x]
def dL (l : List ar) : List ar := l.foldl eJ []
def dl (l : List ar) (k t : Int) : Prop := ∃ x ∈ l, x.k = k ∧ x.a ≤ t ∧ t < x.b
def mB (x y : ar) : Prop := x.k < y.k ∨ (x.k = y.k ∧ x.b < y.a)
structure dU (l : List ar) : Prop where
  ok : ∀ x ∈ l, x.a < x.b
  sep : l.Pairwise mB
theorem dU.tail {x : ar} {l : List ar} (h : dU (x :: l)) : dU l := ⟨fun y hy => h.ok y (List.mem_cons_of_mem _ hy), (List.pairwise_cons.1 h.sep).2⟩
theorem dU.head {x : ar} {l : List ar} (h : dU (x :: l)) : x.a < x.b ∧ ∀ y ∈ l, mB x y := ⟨h.ok x List.mem_cons_self, (List.pairwise_cons.1 h.sep).1⟩
theorem dU.cov_tail {x : ar} {l : List ar} (h : dU (x :: l)) (k t : Int) : dl l k t ↔ dl (x :: l) k t ∧ ¬ (k = x.k ∧ x.a ≤ t ∧ t < x.b) := by
  constructor
  · rintro ⟨y, hy, h1, h2, h3⟩
    refine ⟨⟨y, List.mem_cons_of_mem _ hy, h1, h2, h3⟩, fun ⟨g1, g2, g3⟩ => ?_⟩
    rcases h.head.2 y hy with g | g <;> omega
  · rintro ⟨⟨y, hy, h1, h2, h3⟩, hn⟩
    rcases List.mem_cons.1 hy with rfl | hy
    · exact absurd ⟨h1.symm, h2, h3⟩ hn
    · exact ⟨y, hy, h1, h2, h3⟩
theorem dU.cov_ge {x : ar} {l : List ar} (h : dU (x :: l)) {k t : Int} (hc : dl (x :: l) k t) : x.k < k ∨ (x.k = k ∧ x.a ≤ t) := by
  obtain ⟨y, hy, h1, h2, h3⟩ := hc
  rcases List.mem_cons.1 hy with rfl | hy
  · right; omega
  · have := h.head.1
    rcases h.head.2 y hy with g | g <;> omega
theorem dU.cov_end {x : ar} {l : List ar} (h : dU (x :: l)) : ¬ dl (x :: l) x.k x.b := by
  rintro ⟨y, hy, h1, h2, h3⟩
  rcases List.mem_cons.1 hy with rfl | hy
  · omega
  · rcases h.head.2 y hy with g | g <;> omega
theorem dU.cov_head {x : ar} {l : List ar} {t : Int} (h1 : x.a ≤ t) (h2 : t < x.b) : dl (x :: l) x.k t := ⟨x, List.mem_cons_self, rfl, h1, h2⟩
theorem dU.unique : ∀ {l m : List ar}, dU l → dU m → (∀ k t, dl l k t ↔ dl m k t) → l = m
  | [], [], _, _, _ => rfl
  | [], y :: m, _, hm, h => by
    obtain ⟨z, hz, _⟩ := (h y.k y.a).2 (dU.cov_head (Int.le_refl _) hm.head.1)
    cases hz
  | x :: l, [], hl, _, h => by
    obtain ⟨z, hz, _⟩ := (h x.k x.a).1 (dU.cov_head (Int.le_refl _) hl.head.1)
    cases hz
  | x :: l, y :: m, hl, hm, h => by
    have a1 := hm.cov_ge ((h x.k x.a).1 (dU.cov_head (Int.le_refl _) hl.head.1))
    have a2 := hl.cov_ge ((h y.k y.a).2 (dU.cov_head (Int.le_refl _) hm.head.1))
    have hk : x.k = y.k := by omega
    have ha : x.a = y.a := by omega
    have b1 : ¬ x.b < y.b := fun hb => hl.cov_end ((h x.k x.b).2 (by rw [hk]; exact dU.cov_head (by have := hl.head.1; omega) hb))
    have b2 : ¬ y.b < x.b := fun hb => hm.cov_end ((h y.k y.b).1 (by rw [← hk]; exact dU.cov_head (by have := hm.head.1; omega) hb))
    have hxy : x = y := by
      obtain ⟨xk, xa, xb⟩ := x
      obtain ⟨yk, ya, yb⟩ := y
      (try simp only [ar.mk.injEq] at *)
      omega
    subst hxy
    rw [dU.unique hl.tail hm.tail fun k t => by rw [hl.cov_tail, hm.cov_tail, h]]
theorem hZ {l m : List ar} {k t : Int} : dl (l ++ m) k t ↔ dl l k t ∨ dl m k t := by
  constructor
  · rintro ⟨x, hx, h⟩
    rcases List.mem_append.1 hx with hx | hx
    · exact .inl ⟨x, hx, h⟩
    · exact .inr ⟨x, hx, h⟩
  · rintro (⟨x, hx, h⟩ | ⟨x, hx, h⟩)
    · exact ⟨x, List.mem_append_left _ hx, h⟩
    · exact ⟨x, List.mem_append_right _ hx, h⟩
theorem r8 {x : ar} {k t : Int} : dl [x] k t ↔ x.k = k ∧ x.a ≤ t ∧ t < x.b :=
  ⟨fun ⟨y, hy, h⟩ => by rw [List.mem_singleton] at hy; subst hy; exact h, fun h => ⟨x, List.mem_singleton.2 rfl, h⟩⟩
theorem tN {l m : List ar} (h : l.Perm m) {k t : Int} : dl l k t ↔ dl m k t :=
  ⟨fun ⟨x, hx, g⟩ => ⟨x, h.mem_iff.1 hx, g⟩, fun ⟨x, hx, g⟩ => ⟨x, h.mem_iff.2 hx, g⟩⟩
def leL (x y : ar) : Prop := x.k < y.k ∨ (x.k = y.k ∧ x.a ≤ y.a)
theorem pB {l : List ar} {x : ar} : dU (l ++ [x]) ↔ dU l ∧ x.a < x.b ∧ ∀ y ∈ l, mB y x := by
  constructor
  · rintro ⟨h1, h2⟩
    obtain ⟨p1, _, p3⟩ := List.pairwise_append.1 h2
    exact ⟨⟨fun y hy => h1 y (List.mem_append_left _ hy), p1⟩, h1 x (by simp), fun y hy => p3 y hy x (by simp)⟩
  · rintro ⟨⟨h1, h2⟩, h3, h4⟩
    refine ⟨fun y hy => ?_, List.pairwise_append.2 ⟨h2, by simp, fun y hy z hz => ?_⟩⟩
    · rcases List.mem_append.1 hy with hy | hy
      · exact h1 y hy
      · rw [List.mem_singleton] at hy; subst hy; exact h3
    · rw [List.mem_singleton] at hz; subst hz; exact h4 y hy
theorem jN (o : List ar) (y x : ar) : eJ (o ++ [y]) x = if y.k = x.k ∧ x.a ≤ y.b then o ++ [⟨y.k, y.a, max y.b x.b⟩] else o ++ [y] ++ [x] := by
  unfold eJ
  rw [List.getLast?_concat]
  simp only [List.dropLast_concat]
theorem bT {α : Type} (l : List α) : l = [] ∨ ∃ o y, l = o ++ [y] := by
  rcases List.eq_nil_or_concat l with h | ⟨o, y, h⟩
  · exact .inl h
  · exact .inr ⟨o, y, by rw [h, List.concat_eq_append]⟩
theorem A8 {out : List ar} {x : ar} (h : dU out) (hx : x.a < x.b) (hle : ∀ y ∈ out, leL y x) : dU (eJ out x) ∧ (∀ k t, dl (eJ out x) k t ↔ dl out k t ∨ dl [x] k t) ∧ ∀ y ∈ eJ out x, ∀ z, leL x z → leL y z := by
  rcases bT out with rfl | ⟨o, y, rfl⟩
  · refine ⟨⟨fun y hy => ?_, by simp [eJ]⟩, fun k t => ?_, fun y hy z hz => ?_⟩
    · simp only [eJ, List.getLast?_nil, List.mem_singleton] at hy; subst hy; exact hx
    · simp only [eJ, List.getLast?_nil]
      exact ⟨.inr, fun h => h.elim (fun ⟨_, h, _⟩ => nomatch h) id⟩
    · simp only [eJ, List.getLast?_nil, List.mem_singleton] at hy; subst hy; exact hz
  · rw [jN]
    obtain ⟨c1, c2, c3⟩ := pB.1 h
    have hyx := hle y (by simp)
    by_cases ht : y.k = x.k ∧ x.a ≤ y.b
    · rw [if_pos ht]
      have hya : y.a ≤ x.a := by rcases hyx with g | g <;> omega
      refine ⟨pB.2 ⟨c1, by show y.a < max y.b x.b; omega, fun z hz => ?_⟩, fun k t => ?_, fun z hz q hq => ?_⟩
      · have := c3 z hz
        unfold mB at this ⊢
        exact this
      · rw [hZ, hZ, r8, r8, r8]
        simp only
        constructor
        · rintro (g0 | ⟨g1, g2, g3⟩)
          · exact .inl (.inl g0)
          by_cases g4 : t < y.b
          · exact .inl (.inr ⟨g1, g2, g4⟩)
          · exact .inr ⟨by omega, by omega, by omega⟩
        · rintro ((g0 | ⟨g1, g2, g3⟩) | ⟨g1, g2, g3⟩)
          · exact .inl g0
          · exact .inr ⟨g1, g2, by omega⟩
          · exact .inr ⟨by omega, by omega, by omega⟩
      · rcases List.mem_append.1 hz with hz | hz
        · have h1 := hle z (by simp [hz])
          unfold leL at *
          omega
        · rw [List.mem_singleton] at hz; subst hz
          unfold leL at *
          simp only
          omega
    · rw [if_neg ht]
      refine ⟨pB.2 ⟨h, hx, fun z hz => ?_⟩, fun k t => hZ, fun z hz q hq => ?_⟩
      · rcases List.mem_append.1 hz with hz | hz
        · have h1 := c3 z hz
          unfold mB leL at *
          have := c1.ok z hz
          omega
        · rw [List.mem_singleton] at hz; subst hz
          unfold mB leL at *
          omega
      · rcases List.mem_append.1 hz with hz | hz
        · have h1 := hle z hz
          unfold leL at *
          omega
        · rw [List.mem_singleton] at hz; subst hz; exact hq
theorem zz {x y z : ar} (h1 : leL x y) (h2 : leL y z) : leL x z := by unfold leL at *; omega
theorem rA : ∀ (l out : List ar), dU out → (∀ x ∈ l, x.a < x.b) → l.Pairwise leL → (∀ y ∈ out, ∀ x ∈ l, leL y x) → dU (l.foldl eJ out) ∧ ∀ k t, dl (l.foldl eJ out) k t ↔ dl out k t ∨ dl l k t
  | [], out, h, _, _, _ => ⟨h, fun k t => ⟨.inl, fun h => h.elim id fun ⟨_, h, _⟩ => nomatch h⟩⟩
  | x :: l, out, h, hx, hs, hle => by
    obtain ⟨s1, s2⟩ := List.pairwise_cons.1 hs
    obtain ⟨j1, j2, j3⟩ := A8 h (hx x List.mem_cons_self) fun y hy => hle y hy x List.mem_cons_self
    obtain ⟨r1, r2⟩ := rA l (eJ out x) j1 (fun y hy => hx y (List.mem_cons_of_mem _ hy)) s2 fun y hy z hz => j3 y hy z (s1 z hz)
    refine ⟨r1, fun k t => ?_⟩
    rw [List.foldl_cons, r2, j2, or_assoc, ← hZ]
    rfl
theorem tC {l : List ar} (hx : ∀ x ∈ l, x.a < x.b) (hs : l.Pairwise leL) : dU (dL l) ∧ ∀ k t, dl (dL l) k t ↔ dl l k t := by
  obtain ⟨h1, h2⟩ := rA l [] ⟨by simp, by simp⟩ hx hs (by simp)
  exact ⟨h1, fun k t => (h2 k t).trans ⟨fun h => h.elim (fun ⟨_, h, _⟩ => nomatch h) id, .inr⟩⟩
def sW (x y : ar) : Bool := decide (x.k < y.k) || (decide (x.k = y.k) && decide (x.a ≤ y.a))
theorem nc {x y : ar} : sW x y = true ↔ leL x y := by simp [sW, leL]
def kx (l : List ar) : List ar := dL (l.mergeSort sW)
theorem AF (l : List ar) : (l.mergeSort sW).Pairwise leL :=
  (List.pairwise_mergeSort (le := sW) (fun a b c h1 h2 => nc.2 (zz (nc.1 h1) (nc.1 h2))) (fun a b => by simp only [sW, Bool.or_eq_true, Bool.and_eq_true, decide_eq_true_eq]; omega) l).imp fun h => nc.1 h
theorem tQ {l : List ar} (hx : ∀ x ∈ l, x.a < x.b) : dU (kx l) ∧ ∀ k t, dl (kx l) k t ↔ dl l k t := by
  have hp := List.mergeSort_perm l sW
  obtain ⟨h1, h2⟩ := tC (l := l.mergeSort sW) (fun x h => hx x (hp.mem_iff.1 h)) (AF l)
  exact ⟨h1, fun k t => (h2 k t).trans (tN hp)⟩
theorem vH {l m : List ar} (hx : ∀ x ∈ l, x.a < x.b) (hp : m.Perm l) (hs : m.Pairwise leL) : dL m = kx l := by
  obtain ⟨h1, h2⟩ := tC (fun x h => hx x (hp.mem_iff.1 h)) hs
  obtain ⟨h3, h4⟩ := tQ hx
  exact h1.unique h3 fun k t => by rw [h2, h4, tN hp]
end Go.Proofs
namespace Go.Proofs
open Go Go.AI
structure Img where
  i : Int
  u : Int
  a : Int
  b : Int
deriving DecidableEq
def gE (x : Img) : List AV := [.int .i64 x.i, .int .i64 x.u, .int .i64 x.a, .int .i64 x.b]
def bV (l : List Img) : AV := .sl .no 4 (l.map gE)
def bp : List Img → List (Int × Int)
  | [] => []
  | x :: r => (x.a, x.u) :: (x.b, 0 - x.u) :: bp r
def fN (t : Int) : List (Int × Int) → Int
  | [] => 0
  | x :: r => (if x.1 ≤ t then x.2 else 0) + fN t r
def dS (t : Int) : List Img → Int
  | [] => 0
  | x :: r => (if x.a ≤ t ∧ t < x.b then x.u else 0) + dS t r
def bv : Int → List (Int × Int) → List (Int × Int)
  | _, [] => []
  | f, x :: [] => [(x.1, f + x.2)]
  | f, x :: y :: r => if y.1 = x.1 then bv (f + x.2) (y :: r) else (x.1, f + x.2) :: bv (f + x.2) (y :: r)
theorem dW (t : Int) : ∀ l : List Img, (∀ x ∈ l, x.a < x.b) → fN t (bp l) = dS t l
  | [], _ => rfl
  | x :: r, h => by
    have hx := h x List.mem_cons_self
    simp only [bp, fN, dS]
    rw [dW t r fun y hy => h y (List.mem_cons_of_mem _ hy)]
    split <;> split <;> split <;> omega
theorem lQ {t : Int} {s s' : List (Int × Int)} (h : s.Perm s') : fN t s = fN t s' := by
  induction h with
  | nil => rfl
  | cons x _ ih => simp only [fN, ih]
  | swap x y l => simp only [fN]; omega
  | trans _ _ h1 h2 => exact h1.trans h2
theorem j9 {t t' : Int} : ∀ {s : List (Int × Int)}, (∀ y ∈ s, y.1 ≤ t ↔ y.1 ≤ t') → fN t s = fN t' s
  | [], _ => rfl
  | x :: r, h => by
    have hx := h x List.mem_cons_self
    simp only [fN]
    rw [j9 fun y hy => h y (List.mem_cons_of_mem _ hy)]
    by_cases h1 : x.1 ≤ t
    · rw [if_pos h1, if_pos (hx.1 h1)]
    · rw [if_neg h1, if_neg fun h2 => h1 (hx.2 h2)]
theorem jv {t : Int} : ∀ {s : List (Int × Int)}, (∀ y ∈ s, t < y.1) → fN t s = 0
  | [], _ => rfl
  | x :: r, h => by
    have hx := h x List.mem_cons_self
    simp only [fN]
    rw [jv fun y hy => h y (List.mem_cons_of_mem _ hy), if_neg (by omega)]; rfl
theorem gH : ∀ (s : List (Int × Int)) (f : Int), s.Pairwise (fun x y => x.1 ≤ y.1) → ∀ p : Int × Int, p ∈ bv f s ↔ (∃ x ∈ s, x.1 = p.1) ∧ p.2 = f + fN p.1 s
  | [], f, _, p => by simp [bv]
  | x :: [], f, _, p => by
    simp only [bv, List.mem_singleton, exists_eq_left, fN]
    constructor
    · rintro rfl; exact ⟨rfl, by simp⟩
    · rintro ⟨h1, h2⟩
      rw [if_pos (by omega)] at h2
      exact Prod.ext h1.symm (by simp; omega)
  | x :: y :: r, f, hs, p => by
    obtain ⟨s1, s2⟩ := List.pairwise_cons.1 hs
    have ih := gH (y :: r) (f + x.2) s2 p
    have hxy := s1 y List.mem_cons_self
    have hsum : fN p.1 (x :: y :: r) = (if x.1 ≤ p.1 then x.2 else 0) + fN p.1 (y :: r) := rfl
    rw [hsum]
    by_cases he : y.1 = x.1
    · rw [show bv f (x :: y :: r) = bv (f + x.2) (y :: r) from if_pos he, ih]
      constructor
      · rintro ⟨⟨z, hz, h1⟩, h2⟩
        have := s1 z hz
        refine ⟨⟨z, List.mem_cons_of_mem _ hz, h1⟩, ?_⟩
        rw [if_pos (by omega)]; omega
      · rintro ⟨⟨z, hz, h1⟩, h2⟩
        have hz' : ∃ z ∈ y :: r, z.1 = p.1 := by
          rcases List.mem_cons.1 hz with rfl | hz
          · exact ⟨y, List.mem_cons_self, by omega⟩
          · exact ⟨z, hz, h1⟩
        obtain ⟨q, hq, h3⟩ := hz'
        have := s1 q hq
        rw [if_pos (by omega)] at h2
        exact ⟨⟨q, hq, h3⟩, by omega⟩
    · rw [show bv f (x :: y :: r) = (x.1, f + x.2) :: bv (f + x.2) (y :: r) from if_neg he, List.mem_cons, ih]
      have hlt : ∀ z ∈ y :: r, x.1 < z.1 := fun z hz => by
        rcases List.mem_cons.1 hz with rfl | hz
        · omega
        · have := (List.pairwise_cons.1 s2).1 z hz
          omega
      constructor
      · rintro (rfl | ⟨⟨z, hz, h1⟩, h2⟩)
        · refine ⟨⟨x, List.mem_cons_self, rfl⟩, ?_⟩
          simp only [Int.le_refl, if_true]
          rw [jv fun z hz => hlt z hz]; omega
        · have := hlt z hz
          refine ⟨⟨z, List.mem_cons_of_mem _ hz, h1⟩, ?_⟩
          rw [if_pos (by omega)]; omega
      · rintro ⟨⟨z, hz, h1⟩, h2⟩
        rcases List.mem_cons.1 hz with rfl | hz
        · left
          rw [if_pos (by omega), jv fun z hz => by have := hlt z hz; omega] at h2
          exact Prod.ext h1.symm (by simp; omega)
        · right
          have := hlt z hz
          rw [if_pos (by omega)] at h2
          exact ⟨⟨z, hz, h1⟩, by omega⟩
theorem mr : ∀ (s : List (Int × Int)) (f : Int), s.Pairwise (fun x y => x.1 ≤ y.1) → (bv f s).Pairwise fun x y => x.1 < y.1
  | [], f, _ => by simp [bv]
  | x :: [], f, _ => by simp [bv]
  | x :: y :: r, f, hs => by
    obtain ⟨s1, s2⟩ := List.pairwise_cons.1 hs
    have ih := mr (y :: r) (f + x.2) s2
    have hxy := s1 y List.mem_cons_self
    by_cases he : y.1 = x.1
    · rw [show bv f (x :: y :: r) = bv (f + x.2) (y :: r) from if_pos he]; exact ih
    · rw [show bv f (x :: y :: r) = (x.1, f + x.2) :: bv (f + x.2) (y :: r) from if_neg he, List.pairwise_cons]
      refine ⟨fun p hp => ?_, ih⟩
      obtain ⟨⟨z, hz, h1⟩, _⟩ := (gH _ _ s2 p).1 hp
      show x.1 < p.1
      rcases List.mem_cons.1 hz with rfl | hz
      · omega
      · have := (List.pairwise_cons.1 s2).1 z hz
        omega
theorem sn : ∀ {l m : List (Int × Int)}, l.Pairwise (fun x y => x.1 < y.1) → m.Pairwise (fun x y => x.1 < y.1) → (∀ p, p ∈ l ↔ p ∈ m) → l = m
  | [], [], _, _, _ => rfl
  | [], y :: m, _, _, h => by have := (h y).2 List.mem_cons_self; cases this
  | x :: l, [], _, _, h => by have := (h x).1 List.mem_cons_self; cases this
  | x :: l, y :: m, h1, h2, h => by
    obtain ⟨p1, p2⟩ := List.pairwise_cons.1 h1
    obtain ⟨q1, q2⟩ := List.pairwise_cons.1 h2
    have hxy : x = y := by
      rcases List.mem_cons.1 ((h x).1 List.mem_cons_self) with e | e
      · exact e
      · rcases List.mem_cons.1 ((h y).2 List.mem_cons_self) with e' | e'
        · exact e'.symm
        · have := q1 x e; have := p1 y e'; omega
    subst hxy
    rw [sn p2 q2 fun p => ?_]
    constructor
    · intro hp
      rcases List.mem_cons.1 ((h p).1 (List.mem_cons_of_mem _ hp)) with e | e
      · have := p1 p hp; rw [e] at this; omega
      · exact e
    · intro hp
      rcases List.mem_cons.1 ((h p).2 (List.mem_cons_of_mem _ hp)) with e | e
      · have := q1 p hp; rw [e] at this; omega
      · exact e
def leT (x y : Int × Int) : Bool := decide (x.1 ≤ y.1)
def aW (l : List Img) : List (Int × Int) := bv 0 ((bp l).mergeSort leT)
theorem mL (s : List (Int × Int)) : (s.mergeSort leT).Pairwise fun x y => x.1 ≤ y.1 :=
  (List.pairwise_mergeSort (le := leT) (fun a b c h1 h2 => by (try simp only [leT, decide_eq_true_eq] at *); omega) (fun a b => by simp only [leT, Bool.or_eq_true, decide_eq_true_eq]; omega) s).imp fun h => by simpa [leT] using h
theorem rY {l : List Img} {s : List (Int × Int)} (hp : s.Perm (bp l)) (hs : s.Pairwise fun x y => x.1 ≤ y.1) : bv 0 s = aW l := by
  have hq := List.mergeSort_perm (bp l) leT
  refine sn (mr _ _ hs) (mr _ _ (mL _)) fun p => ?_
  rw [gH _ _ hs, aW, gH _ _ (mL _), lQ hp, lQ hq]
  constructor
  · rintro ⟨⟨x, hx, h1⟩, h2⟩; exact ⟨⟨x, hq.mem_iff.2 (hp.mem_iff.1 hx), h1⟩, h2⟩
  · rintro ⟨⟨x, hx, h1⟩, h2⟩; exact ⟨⟨x, hp.mem_iff.2 (hq.mem_iff.1 hx), h1⟩, h2⟩
theorem iK {l : List Img} (h : ∀ x ∈ l, x.a < x.b) (p : Int × Int) : p ∈ aW l ↔ (∃ x ∈ bp l, x.1 = p.1) ∧ p.2 = dS p.1 l := by
  have hq := List.mergeSort_perm (bp l) leT
  unfold aW
  rw [gH _ _ (mL _), lQ hq, dW _ _ h, Int.zero_add]
  exact ⟨fun ⟨⟨x, hx, h1⟩, h2⟩ => ⟨⟨x, hq.mem_iff.1 hx, h1⟩, h2⟩, fun ⟨⟨x, hx, h1⟩, h2⟩ => ⟨⟨x, hq.mem_iff.2 hx, h1⟩, h2⟩⟩
theorem tG (t : Int) : ∀ s : List (Int × Int), (∀ x ∈ s, t < x.1) ∨ ∃ x ∈ s, x.1 ≤ t ∧ ∀ y ∈ s, y.1 ≤ t → y.1 ≤ x.1
  | [] => .inl (by simp)
  | x :: r => by
    rcases tG t r with h | ⟨z, hz, h1, h2⟩
    · by_cases hx : x.1 ≤ t
      · refine .inr ⟨x, List.mem_cons_self, hx, fun y hy hyt => ?_⟩
        rcases List.mem_cons.1 hy with rfl | hy
        · exact Int.le_refl _
        · have := h y hy; omega
      · refine .inl fun y hy => ?_
        rcases List.mem_cons.1 hy with rfl | hy
        · omega
        · exact h y hy
    · by_cases hx : x.1 ≤ t ∧ z.1 < x.1
      · refine .inr ⟨x, List.mem_cons_self, hx.1, fun y hy hyt => ?_⟩
        rcases List.mem_cons.1 hy with rfl | hy
        · exact Int.le_refl _
        · have := h2 y hy hyt; omega
      · refine .inr ⟨z, List.mem_cons_of_mem _ hz, h1, fun y hy hyt => ?_⟩
        rcases List.mem_cons.1 hy with rfl | hy
        · omega
        · exact h2 y hy hyt
theorem tM {l : List Img} (h : ∀ x ∈ l, x.a < x.b) (t : Int) : dS t l = 0 ∨ ∃ p ∈ aW l, p.1 ≤ t ∧ p.2 = dS t l := by
  rcases tG t (bp l) with g | ⟨z, hz, h1, h2⟩
  · left; rw [← dW t l h]; exact jv g
  · right
    have e : dS z.1 l = dS t l := by
      rw [← dW t l h, ← dW z.1 l h]
      exact j9 fun y hy => ⟨fun g => by omega, fun g => h2 y hy g⟩
    exact ⟨(z.1, dS z.1 l), (iK h _).2 ⟨⟨z, hz, rfl⟩, rfl⟩, h1, e⟩
theorem za {l : List Img} {x : Int × Int} (h : x ∈ bp l) : ∃ y ∈ l, x.1 = y.a ∨ x.1 = y.b := by
  induction l with
  | nil => cases h
  | cons z r ih =>
    simp only [bp, List.mem_cons] at h
    rcases h with rfl | rfl | h
    · exact ⟨z, List.mem_cons_self, .inl rfl⟩
    · exact ⟨z, List.mem_cons_self, .inr rfl⟩
    · obtain ⟨y, hy, h⟩ := ih h
      exact ⟨y, List.mem_cons_of_mem _ hy, h⟩
end Go.Proofs
namespace Go.Proofs
open Go Go.AI
def iB (l : List Opt) : List ar := l.map fun o => ⟨1, o.a, o.b⟩
def xp (l : List Opt) : List ar := l.flatMap fun o => o.sl.map fun x => ⟨2, x.a, x.b⟩
def gy (l : List Opt) : List ar := iB l ++ xp l
def nB (l : List Opt) : Bool := l.any fun o => !cg o.a o.b || decide (6 < o.sl.length)
def BD (l : List Opt) : Bool := l.any fun o => o.sl.any fun x => !cg x.a x.b
def wq (l : List Opt) : Bool := decide (8 < l.length) || nB l || BD l
def au (l : List Opt) : List ar := if wq l then [] else kx (gy l)
theorem gn {a b : Int} : cg a b = true ↔ 0 ≤ a ∧ a < b ∧ b ≤ 1000000 := by
  constructor
  · exact mU
  · rintro ⟨h1, h2, h3⟩
    unfold cg inS
    rw [show w64 (b - 1) = b - 1 from ap (by omega) (by omega)]
    simp; omega
structure cY (l : List Opt) : Prop where
  n : l.length ≤ 8
  shot : ∀ o ∈ l, 0 ≤ o.a ∧ o.a < o.b ∧ o.b ≤ 1000000 ∧ o.sl.length ≤ 6
  slot : ∀ o ∈ l, ∀ x ∈ o.sl, 0 ≤ x.a ∧ x.a < x.b ∧ x.b ≤ 1000000
theorem vR {l : List Opt} : wq l = false ↔ cY l := by
  constructor
  · intro h
    simp only [wq, nB, BD, Bool.or_eq_false_iff, decide_eq_false_iff_not, List.any_eq_false, Bool.or_eq_true, Bool.not_eq_true', decide_eq_true_eq, not_or, Bool.not_eq_true, Bool.not_eq_false] at h
    obtain ⟨⟨h1, h2⟩, h3⟩ := h
    refine ⟨by omega, fun o ho => ?_, fun o ho x hx => ?_⟩
    · obtain ⟨g1, g2⟩ := h2 o ho
      have := mU g1
      omega
    · have := h3 o ho x hx
      exact mU (by simpa using this)
  · rintro ⟨h1, h2, h3⟩
    simp only [wq, nB, BD, Bool.or_eq_false_iff, decide_eq_false_iff_not, List.any_eq_false, Bool.or_eq_true, Bool.not_eq_true', decide_eq_true_eq, not_or, Bool.not_eq_true, Bool.not_eq_false]
    refine ⟨⟨by omega, fun o ho => ?_⟩, fun o ho x hx => ?_⟩
    · have := h2 o ho
      exact ⟨gn.2 (by omega), by omega⟩
    · have := h3 o ho x hx
      simpa using gn.2 this
theorem mV {l : List Opt} {x : ar} : x ∈ gy l ↔ (∃ o ∈ l, x = ⟨1, o.a, o.b⟩) ∨ ∃ o ∈ l, ∃ y ∈ o.sl, x = ⟨2, y.a, y.b⟩ := by
  simp only [gy, iB, xp, List.mem_append, List.mem_map, List.mem_flatMap]
  constructor
  · rintro (⟨o, ho, rfl⟩ | ⟨o, ho, y, hy, rfl⟩)
    · exact .inl ⟨o, ho, rfl⟩
    · exact .inr ⟨o, ho, y, hy, rfl⟩
  · rintro (⟨o, ho, rfl⟩ | ⟨o, ho, y, hy, rfl⟩)
    · exact .inl ⟨o, ho, rfl⟩
    · exact .inr ⟨o, ho, y, hy, rfl⟩
theorem cY.raw {l : List Opt} (h : cY l) : ∀ x ∈ gy l, (x.k = 1 ∨ x.k = 2) ∧ 0 ≤ x.a ∧ x.a < x.b ∧ x.b ≤ 1000000 := fun x hx => by
  rcases mV.1 hx with ⟨o, ho, rfl⟩ | ⟨o, ho, y, hy, rfl⟩
  · have := h.shot o ho; exact ⟨.inl rfl, this.1, this.2.1, this.2.2.1⟩
  · exact ⟨.inr rfl, h.slot o ho y hy⟩
theorem zB (out : List ar) (x : ar) : (eJ out x).length ≤ out.length + 1 := by
  rcases bT out with rfl | ⟨o, y, rfl⟩
  · simp [eJ]
  · rw [jN]
    split <;> simp
theorem l9 : ∀ (l out : List ar), (l.foldl eJ out).length ≤ out.length + l.length
  | [], out => by simp
  | x :: l, out => by
    have h1 := l9 l (eJ out x)
    have h2 := zB out x
    simp only [List.foldl_cons, List.length_cons]
    omega
theorem sd (l : List ar) : (kx l).length ≤ l.length := by
  have := l9 (l.mergeSort sW) []
  have h2 := (List.mergeSort_perm l sW).length_eq
  simp only [List.length_nil, Nat.zero_add, h2] at this
  exact this
theorem vW (n : Nat) : ∀ l : List Opt, (∀ o ∈ l, o.sl.length ≤ n) → (xp l).length ≤ n * l.length
  | [], _ => by simp [xp]
  | o :: r, h => by
    have h1 := vW n r fun x hx => h x (List.mem_cons_of_mem _ hx)
    have h2 := h o List.mem_cons_self
    simp only [xp, List.flatMap_cons, List.length_append, List.length_map, List.length_cons, Nat.mul_add, Nat.mul_one] at h1 ⊢
    omega
theorem cY.len {l : List Opt} (h : cY l) : (gy l).length ≤ 56 := by
  have h1 := vW 6 l fun o ho => (h.shot o ho).2.2.2
  have h2 := h.n
  simp only [gy, iB, List.length_append, List.length_map]
  omega
theorem yD : ∀ (rest pre : List ar), dU (pre ++ rest) → (∀ x ∈ rest, (x.k = 1 ∨ x.k = 2) ∧ 0 ≤ x.a ∧ x.b ≤ 1000000) → okL pre rest = true
  | [], _, _, _ => rfl
  | x :: r, pre, h, hb => by
    have hx := hb x List.mem_cons_self
    have hok := h.ok x (by simp)
    have hsep := (List.pairwise_append.1 h.sep).2.2
    have ih := yD r (pre ++ [x]) (by simpa using h) fun y hy => hb y (List.mem_cons_of_mem _ hy)
    rw [okL, ih, Bool.and_true, fL, gn.2 (by omega), show inS x.k 1 2 = true from by unfold inS; simp; omega]
    simp only [Bool.true_and, Bool.not_eq_true', List.any_eq_false, vx, Bool.and_eq_true, decide_eq_true_eq, not_and]
    intro y hy g1 g2
    have := hsep y hy x List.mem_cons_self
    unfold mB at this
    omega
theorem se {l m : List ar} (h : dU m) (hc : ∀ k t, dl m k t ↔ dl l k t) (hl : ∀ x ∈ l, (x.k = 1 ∨ x.k = 2) ∧ 0 ≤ x.a ∧ x.a < x.b ∧ x.b ≤ 1000000) : ∀ x ∈ m, (x.k = 1 ∨ x.k = 2) ∧ 0 ≤ x.a ∧ x.b ≤ 1000000 := fun x hx => by
  have hok := h.ok x hx
  obtain ⟨y, hy, h1, h2, h3⟩ := (hc x.k x.a).1 ⟨x, hx, rfl, Int.le_refl _, hok⟩
  obtain ⟨z, hz, g1, g2, g3⟩ := (hc x.k (x.b - 1)).1 ⟨x, hx, rfl, by omega, by omega⟩
  have b1 := hl y hy
  have b2 := hl z hz
  rw [h1] at b1
  exact ⟨b1.1, by omega, by omega⟩
theorem cY.loads {l : List Opt} (h : cY l) : au l = kx (gy l) := by unfold au; rw [vR.2 h]; rfl
theorem cY.can {l : List Opt} (h : cY l) : dU (au l) ∧ ∀ k t, dl (au l) k t ↔ dl (gy l) k t := by
  rw [h.loads]; exact tQ fun x hx => (h.raw x hx).2.2.1
theorem cY.proper {l : List Opt} (h : cY l) : dR (au l) = true := by
  obtain ⟨h1, h2⟩ := h.can
  have hlen : (au l).length ≤ 56 := by rw [h.loads]; exact Nat.le_trans (sd _) h.len
  unfold dR
  rw [decide_eq_true (by omega), Bool.true_and]
  exact yD _ [] h1 (se h1 h2 h.raw)
end Go.Proofs
namespace Go.Proofs
open Go Go.AI
def mkK (k : Int) (x : Int × Int) : ar := ⟨k, x.1, x.2⟩
def dp (l : List Opt) : List (Int × Int) := l.flatMap fun o => o.sl.map fun x => (x.a, x.b)
theorem yy (l : List Opt) : xp l = (dp l).map (mkK 2) := by
  unfold xp dp
  rw [List.map_flatMap]
  congr 1
  funext o
  simp [mkK]
end Go.Proofs
namespace Go.Proofs
open Go Go.AI
def rr : Opt := ⟨0, 0, 0, 0, 0, 0, 0, 0, []⟩
def Do : a8 := ⟨0, 0, 0⟩
def aU (l : List Opt) (i : Nat) : Opt := l.getD i rr
def dx (o : Opt) (i : Nat) : a8 := o.sl.getD i Do
def fc (o : Opt) : Int := (dx o (o.sl.length - 1)).b
def BI (l : List Opt) : List Ct := l.map fun o => ⟨o.a, o.b, o.look⟩
def fK (l : List Opt) : List Img := l.map fun o => ⟨o.id, o.size, o.a, fc o⟩
def slP (o : Opt) : List (Int × Int) := o.sl.map fun x => (x.a, x.b)
theorem eS {l : List Opt} {i : Nat} (h : i < l.length) : aU l i = l[i] := by simp [aU, List.getD_eq_getElem?_getD, List.getElem?_eq_getElem h]
end Go.Proofs
namespace Go.Proofs
open Go Go.AI
theorem nj (t : Int) : ∀ l : List Img, (∀ x ∈ l, 0 ≤ x.u) → 0 ≤ dS t l
  | [], _ => Int.le_refl _
  | x :: r, h => by
    have h1 := nj t r fun y hy => h y (List.mem_cons_of_mem _ hy)
    have h2 := h x List.mem_cons_self
    simp only [dS]
    split <;> omega
theorem zQ {t : Int} {l l' : List Img} (hs : l'.Sublist l) (h : ∀ x ∈ l, 0 ≤ x.u) : dS t l' ≤ dS t l := by
  induction hs with
  | slnil => exact Int.le_refl _
  | cons x _ ih =>
    have h2 := h x List.mem_cons_self
    have := ih fun y hy => h y (List.mem_cons_of_mem _ hy)
    simp only [dS]
    split <;> omega
  | cons_cons x _ ih =>
    have := ih fun y hy => h y (List.mem_cons_of_mem _ hy)
    simp only [dS]
    omega
theorem uT {s : Nat → Int} {t : Int} : ∀ {l : List ar}, dU l → (∀ x ∈ l, x.k = 1 ∨ x.k = 2) → ∃ p q : Bool, (p = true ↔ dl l 1 t) ∧ (q = true ↔ dl l 2 t) ∧ jS s t l = (if p then s 14 else 0) + (if q then s 15 else 0)
  | [], _, _ => ⟨false, false, ⟨fun h => (nomatch h), fun ⟨_, h, _⟩ => (nomatch h)⟩, ⟨fun h => (nomatch h), fun ⟨_, h, _⟩ => (nomatch h)⟩, rfl⟩
  | x :: l, hc, hk => by
    obtain ⟨p, q, hp, hq, h⟩ := uT (s := s) (t := t) hc.tail fun y hy => hk y (List.mem_cons_of_mem _ hy)
    have hx := hk x List.mem_cons_self
    rw [show jS s t (x :: l) = ru s t x + jS s t l from rfl, h]
    by_cases hh : x.a ≤ t ∧ t < x.b
    · rw [show ru s t x = r9 s x from if_pos (by simp [tI, hh])]
      have hn : ¬ dl l x.k t := fun g => ((hc.cov_tail x.k t).1 g).2 ⟨rfl, hh.1, hh.2⟩
      rcases hx with hx | hx
      · refine ⟨true, q, ⟨fun _ => ⟨x, List.mem_cons_self, hx, hh⟩, fun _ => rfl⟩, ?_, ?_⟩
        · rw [hq]
          constructor
          · rintro ⟨y, hy, g⟩; exact ⟨y, List.mem_cons_of_mem _ hy, g⟩
          · rintro ⟨y, hy, g⟩
            rcases List.mem_cons.1 hy with rfl | hy
            · omega
            · exact ⟨y, hy, g⟩
        · have : p = false := by
            cases p with
            | false => rfl
            | true => rw [hx] at hn; exact absurd (hp.1 rfl) hn
          rw [this, show r9 s x = s 14 from if_pos hx]; simp
      · refine ⟨p, true, ?_, ⟨fun _ => ⟨x, List.mem_cons_self, hx, hh⟩, fun _ => rfl⟩, ?_⟩
        · rw [hp]
          constructor
          · rintro ⟨y, hy, g⟩; exact ⟨y, List.mem_cons_of_mem _ hy, g⟩
          · rintro ⟨y, hy, g⟩
            rcases List.mem_cons.1 hy with rfl | hy
            · omega
            · exact ⟨y, hy, g⟩
        · have : q = false := by
            cases q with
            | false => rfl
            | true => rw [hx] at hn; exact absurd (hq.1 rfl) hn
          rw [this, show r9 s x = s 15 from if_neg (by omega)]; simp; omega
    · rw [show ru s t x = 0 from if_neg (by simpa [tI] using hh)]
      refine ⟨p, q, ?_, ?_, by omega⟩
      · rw [hp]
        constructor
        · rintro ⟨y, hy, g⟩; exact ⟨y, List.mem_cons_of_mem _ hy, g⟩
        · rintro ⟨y, hy, g⟩
          rcases List.mem_cons.1 hy with rfl | hy
          · exact absurd g.2 hh
          · exact ⟨y, hy, g⟩
      · rw [hq]
        constructor
        · rintro ⟨y, hy, g⟩; exact ⟨y, List.mem_cons_of_mem _ hy, g⟩
        · rintro ⟨y, hy, g⟩
          rcases List.mem_cons.1 hy with rfl | hy
          · exact absurd g.2 hh
          · exact ⟨y, hy, g⟩
theorem D7 {s : Nat → Int} (hf : Fed s) {t : Int} {l l' : List ar} (h : dU l) (hk : ∀ x ∈ l, x.k = 1 ∨ x.k = 2) (h' : dU l') (hk' : ∀ x ∈ l', x.k = 1 ∨ x.k = 2) (hc : ∀ k, dl l' k t → dl l k t) : jS s t l' ≤ jS s t l := by
  obtain ⟨p, q, hp, hq, e⟩ := uT (s := s) (t := t) h hk
  obtain ⟨p', q', hp', hq', e'⟩ := uT (s := s) (t := t) h' hk'
  have h1 := hf.h
  have h2 := hf.d
  have g1 : p' = true → p = true := fun g => hp.2 (hc 1 (hp'.1 g))
  have g2 : q' = true → q = true := fun g => hq.2 (hc 2 (hq'.1 g))
  rw [e, e']
  cases p' <;> cases q' <;> cases p <;> cases q <;> simp at g1 g2 ⊢ <;> omega
theorem cY.kinds {l : List Opt} (h : cY l) : ∀ x ∈ au l, x.k = 1 ∨ x.k = 2 := fun x hx => by
  obtain ⟨h1, h2⟩ := h.can
  exact (se h1 h2 h.raw x hx).1
theorem jH {l : List Opt} (h : cY l) : (au l).length ≤ 56 := by rw [h.loads]; exact Nat.le_trans (sd _) h.len
theorem DP {s s' : Nat → Int} (hf : Fed s) (hf' : Fed s') (h12 : s' 12 = s 12) (h13 : s' 13 = s 13) (ho : ∀ t, uB (gQ s') t = uB (gQ s) t) {l l' : List ar} (hl : l.length ≤ 80) (hl' : l'.length ≤ 80) {t : Int} (ha : jS s' t l' ≤ jS s t l) : uw s' l' t ≤ uw s l t := by
  unfold uw
  rw [(uv hf t l _ hl).1, (uv hf' t l' _ hl').1, ho]
  unfold zq
  rw [h12, h13]
  omega
theorem wj {l l' : List Opt} (hs : l'.Sublist l) (k t : Int) : dl (gy l') k t → dl (gy l) k t := by
  rintro ⟨x, hx, h⟩
  refine ⟨x, ?_, h⟩
  rcases mV.1 hx with ⟨o, ho, e⟩ | ⟨o, ho, y, hy, e⟩
  · exact mV.2 (.inl ⟨o, hs.subset ho, e⟩)
  · exact mV.2 (.inr ⟨o, hs.subset ho, y, hy, e⟩)
end Go.Proofs
namespace Go.Proofs
open Go Go.AI
set_option maxRecDepth 10000
theorem sI (o : Opt) (k : Nat) (hl : o.sl.length ≤ 1000000) (hc : pz o = true) (hk : k < o.sl.length) : ae Tryz.prog 36 [.agg (aK o), .int .i64 k] (.tup [.agg (gE ⟨o.id, o.size, o.a, (o.sl.getD k ⟨0, 0, 0⟩).b⟩), .int .i64 0]) := by
  have k100 := Ag o hl
  rw [hc] at k100
  have hx := fT hk
  have hw : IntKind.i64.wrap (((o.sl.map aG).length : Int) - 1) = (o.sl.length : Int) - 1 := by rw [List.length_map]; exact ap (by omega) (by omega)
  have k101 := tX (k : Int) 0 (IntKind.i64.wrap (((o.sl.map aG).length : Int) - 1))
  rw [eW (show 0 ≤ (k : Int) ∧ (k : Int) ≤ IntKind.i64.wrap (((o.sl.map aG).length : Int) - 1) by rw [hw]; omega)] at k101
  refine ag aa Tryz.func36 rfl (by kernel_rfl) af (Nat.le_of_ble_eq_true rfl) ?_
  intro F n' w0 m0 hG hro h1
  repeat' first|refine Q1 ?_|refine Q2 ?_|refine Q3 hG aa qC (by kernel_rfl) ?_|refine Q4 hG aa qC (by kernel_rfl) ?_|refine Q5 hG aa ?_|refine Q6 hG aa ?_|refine Q7 hG aa ?_|refine Q8 hG aa ?_|refine Q9 rfl ?_|refine QF rfl ?_|refine QC rfl (And.intro (fun h => ?_) (fun h => ?_))|((conv => whnf); first|refine anF ?_|refine anT ?_|refine And.intro (by kernel_rfl) ?_|refine Exists.intro _ (And.intro (k100) ?_)|refine Exists.intro _ (And.intro (k101) ?_)|refine And.intro (Int.natCast_nonneg k) (Exists.intro _ (And.intro hx ?_))|refine And.intro (fun h => ?_) (fun h => ?_)|refine Or.inl ?_|fail)
  all_goals exact Ends.mk (Or.inl rfl) (ac rfl)
theorem Dc {o : Opt} (h : pz o = true) : 1 ≤ o.sl.length ∧ o.sl.length ≤ 6 := by
  simp only [pz, inS, Bool.and_eq_true, decide_eq_true_eq] at h
  omega
theorem xT (o : Opt) (hl : o.sl.length ≤ 1000000) (hc : pz o = true) : ae Tryz.prog 35 [.agg (aK o)] (.tup [.agg (gE ⟨o.id, o.size, o.a, fc o⟩), .int .i64 0]) := by
  have hn := Dc hc
  have k48 := sI o (o.sl.length - 1) hl hc (by omega)
  rw [show ((o.sl.length - 1 : Nat) : Int) = IntKind.i64.wrap (((o.sl.map aG).length : Int) - 1) by rw [List.length_map]; exact ((ap (by omega) (by omega)).trans (by omega)).symm] at k48
  refine ag aa Tryz.func35 rfl (by kernel_rfl) af (Nat.le_of_ble_eq_true rfl) ?_
  intro F n' w0 m0 hG hro h1
  repeat' first|refine Q1 ?_|refine Q2 ?_|refine Q3 hG aa qD (by kernel_rfl) ?_|refine Q4 hG aa qD (by kernel_rfl) ?_|refine Q5 hG aa ?_|refine Q6 hG aa ?_|refine Q7 hG aa ?_|refine Q8 hG aa ?_|refine Q9 rfl ?_|refine QF rfl ?_|refine QC rfl (And.intro (fun h => ?_) (fun h => ?_))|((conv => whnf); first|refine anF ?_|refine anT ?_|refine And.intro (by kernel_rfl) ?_|refine Exists.intro _ (And.intro (k48) ?_)|refine And.intro (fun h => ?_) (fun h => ?_)|refine Or.inl ?_|fail)
  all_goals exact Ends.mk (Or.inl rfl) (ac rfl)
structure ak where
  sat : Int
  st : Int
  sa : Int
  sb : Int
  ca : Int
  cb : Int
deriving DecidableEq
def aP (p : ak) : List AV := [.int .i64 p.sat, .int .i64 p.st, .int .i64 p.sa, .int .i64 p.sb, .int .i64 p.ca, .int .i64 p.cb]
def am (l : List ak) : AV := .sl .no 6 (l.map aP)
def ki : ak := ⟨0, 0, 0, 0, 0, 0⟩
def aJ (l : List ak) (i : Nat) : ak := l.getD i ki
def cn (p : ak) : Bool := (inS p.sat 0 23 && (inS p.st 0 11 && true)) && ((decide (0 ≤ p.ca) && decide (p.ca < p.cb) && decide (p.cb ≤ 1000001)) && ((p.sa == 0 && (p.sb == 0 && true)) || (decide (p.ca ≤ p.sa) && decide (p.sa < p.sb) && decide (p.sb ≤ p.cb))))
set_option maxHeartbeats 4000000 in
theorem wE (p : ak) : ae Tryz.prog 158 [.agg (aP p)] (.bool (cn p)) := by
  have k114 := (oY [⟨p.sat, 0, 23⟩, ⟨p.st, 0, 11⟩] (Nat.le_of_ble_eq_true rfl)).sl0 (o := .full)
  refine ag aa Tryz.func158 rfl (by kernel_rfl) af (Nat.le_of_ble_eq_true rfl) ?_
  intro F n' w0 m0 hG hro h1
  repeat' first|refine Q1 ?_|refine Q2 ?_|refine Q3 hG aa oy (by kernel_rfl) ?_|refine Q4 hG aa oy (by kernel_rfl) ?_|refine Q5 hG aa ?_|refine Q6 hG aa ?_|refine Q7 hG aa ?_|refine Q8 hG aa ?_|refine Q9 rfl ?_|refine QF rfl ?_|refine QC rfl (And.intro (fun h => ?_) (fun h => ?_))|((conv => whnf); first|refine anF ?_|refine anT ?_|refine And.intro (by kernel_rfl) ?_|refine Exists.intro _ (And.intro (k114) ?_)|refine And.intro (fun h => ?_) (fun h => ?_)|refine Or.inl ?_|fail)
  all_goals refine Ends.mk (Or.inl rfl) (ac (congrArg AV.bool ?_))
  all_goals (unfold cn; (try simp only [List.all_cons, List.all_nil, Bool.and_true] at *); simp only [*, Bool.true_and, Bool.and_true, Bool.false_and, Bool.and_false, Bool.true_or, Bool.false_or])
theorem uZ (p : ak) : ae Tryz.prog 157 [.agg (aP p)] (.bool (!cn p)) := by
  refine ag aa Tryz.func157 rfl (by kernel_rfl) af (Nat.le_of_ble_eq_true rfl) ?_
  intro F n' w0 m0 hG hro h1
  repeat' first|refine Q1 ?_|refine Q2 ?_|refine Q3 hG aa oz (by kernel_rfl) ?_|refine Q4 hG aa oz (by kernel_rfl) ?_|refine Q5 hG aa ?_|refine Q6 hG aa ?_|refine Q7 hG aa ?_|refine Q8 hG aa ?_|refine Q9 rfl ?_|refine QF rfl ?_|refine QC rfl (And.intro (fun h => ?_) (fun h => ?_))|((conv => whnf); first|refine anF ?_|refine anT ?_|refine And.intro (by kernel_rfl) ?_|refine Exists.intro _ (And.intro (wE p) ?_)|refine And.intro (fun h => ?_) (fun h => ?_)|refine Or.inl ?_|fail)
  all_goals exact Ends.mk (Or.inl rfl) (ac rfl)
def qK (p q : ak) : Int := orS [el p.ca q.ca, el p.sat q.sat, el p.st q.st, el p.sa q.sa, el p.cb q.cb]
theorem pG (p q : ak) : ae Tryz.prog 160 [.agg (aP p), .agg (aP q)] (.int .i64 (qK p q)) := by
  refine ag aa Tryz.func160 rfl (by kernel_rfl) af (Nat.le_of_ble_eq_true rfl) ?_
  intro F n' w0 m0 hG hro h1
  repeat' first|refine Q1 ?_|refine Q2 ?_|refine Q3 hG aa ox (by kernel_rfl) ?_|refine Q4 hG aa ox (by kernel_rfl) ?_|refine Q5 hG aa ?_|refine Q6 hG aa ?_|refine Q7 hG aa ?_|refine Q8 hG aa ?_|refine Q9 rfl ?_|refine QF rfl ?_|refine QC rfl (And.intro (fun h => ?_) (fun h => ?_))|((conv => whnf); first|refine anF ?_|refine anT ?_|refine And.intro (by kernel_rfl) ?_|refine Exists.intro _ (And.intro (kW _ _) ?_)|refine Exists.intro _ (And.intro (sL [el p.ca q.ca, el p.sat q.sat, el p.st q.st, el p.sa q.sa, el p.cb q.cb] (Nat.le_of_ble_eq_true rfl)) ?_)|refine And.intro (fun h => ?_) (fun h => ?_)|refine Or.inl ?_|fail)
  all_goals exact Ends.mk (Or.inl rfl) (ac rfl)
theorem kR (l : List ak) (p : ak → Bool) (g : FuncId) (fv : AV) (cap : List AV) (hf : fv = .clo g cap ∨ (fv = .fn g ∧ cap = [])) (hl : l.length ≤ 1000000)
    (hp : ∀ x ∈ l, ae Tryz.prog g ((.agg (aP x)) :: cap) (.bool (p x))) : ae Tryz.prog 226 [.sl .no 6 (l.map aP), fv] (.int .i64 (bM p l 0)) := by
  rcases hf with rfl | ⟨rfl, rfl⟩
  · refine ag aa Tryz.func226 rfl (by kernel_rfl) af (Nat.le_of_ble_eq_true rfl) ?_
    intro F n' w0 m0 hG hro h1
    repeat' first|refine Q1 ?_|refine Q2 ?_|refine Q3 hG aa cJ (by kernel_rfl) ?_|refine Q4 hG aa cJ (by kernel_rfl) ?_|refine Q5 hG aa ?_|refine Q6 hG aa ?_|refine Q7 hG aa ?_|refine Q8 hG aa ?_|refine Q9 rfl ?_|refine QF rfl ?_|refine QC rfl (And.intro (fun h => ?_) (fun h => ?_))|((conv => whnf); first|refine anF ?_|refine anT ?_|refine And.intro (by kernel_rfl) ?_|refine And.intro (fun h => ?_) (fun h => ?_)|refine Or.inl ?_|fail)
    refine az (X := Nat) (fun j => ⟨[(8, .int .i64 j), (7, .int .i64 (l.map aP).length), (0, .sl .no 6 (l.map aP)), (1, .clo g cap)], []⟩) (fun j => j ≤ l.length ∧ bM p (l.drop j) j = bM p l 0) (fun j => l.length - j) 0
      ⟨Nat.zero_le _, by simp⟩ (ah ?_ trivial) (fun j hj => ?_)
    · repeat' (first | exact trivial | refine And.intro rfl ?_)
    · obtain ⟨hj, hi⟩ := hj
      have hj2 : decide ((j : Int) < ((l.map aP).length : Int)) = true → j < l.length := fun h => by have := of_decide_eq_true h; simp at this; omega
      have hx : decide ((j : Int) < ((l.map aP).length : Int)) = true → (l.map aP)[(j : Int).toNat]? = some (aP (l.getD j ki)) := fun h => by have := hj2 h; simp [List.getElem?_eq_getElem this]
      have hc : decide ((j : Int) < ((l.map aP).length : Int)) = true → ae Tryz.prog g ((.agg (aP (l.getD j ki))) :: cap) (.bool (p (l.getD j ki))) := fun h => hp _ (by have := hj2 h; rw [List.getD_eq_getElem?_getD, List.getElem?_eq_getElem this]; exact List.getElem_mem this)
      repeat' first|refine Q1 ?_|refine Q2 ?_|refine Q3 hG aa cJ (by kernel_rfl) ?_|refine Q4 hG aa cJ (by kernel_rfl) ?_|refine Q5 hG aa ?_|refine Q6 hG aa ?_|refine Q7 hG aa ?_|refine Q8 hG aa ?_|refine Q9 rfl ?_|refine QF rfl ?_|refine QC rfl (And.intro (fun h => ?_) (fun h => ?_))|((conv => whnf); first|refine anF ?_|refine anT ?_|refine And.intro (by kernel_rfl) ?_|refine And.intro (Int.natCast_nonneg j) (Exists.intro _ (And.intro (hx (by assumption)) ?_))|refine Exists.intro _ (And.intro (hc (by assumption)) ?_)|refine And.intro (fun h => ?_) (fun h => ?_)|refine Or.inl ?_|fail)
      · rw [aT (d := ki) (hj2 (by assumption)), if_pos (by assumption)] at hi
        exact Ends.mk (Or.inl rfl) (ac (congrArg (AV.int .i64) hi))
      · have hj2 := hj2 (by assumption)
        rw [aT (d := ki) hj2, if_neg (fun h => tf h (by assumption))] at hi
        refine Exists.intro (j + 1) (And.intro ⟨hj2, hi⟩ (And.intro (by omega) (ah ?_ trivial)))
        refine And.intro (congrArg (fun z => some (AV.int .i64 z)) ((ap (by omega) (by omega)).trans (by omega))) ?_
        repeat' (first | exact trivial | refine And.intro rfl ?_)
      · have hj2 : l.length ≤ j := by have := of_decide_eq_false (by assumption : decide ((j : Int) < ((l.map aP).length : Int)) = false); simp at this; omega
        rw [List.drop_of_length_le hj2] at hi
        exact Ends.mk (Or.inl rfl) (ac (congrArg (AV.int .i64) hi))
  · refine ag aa Tryz.func226 rfl (by kernel_rfl) af (Nat.le_of_ble_eq_true rfl) ?_
    intro F n' w0 m0 hG hro h1
    repeat' first|refine Q1 ?_|refine Q2 ?_|refine Q3 hG aa cJ (by kernel_rfl) ?_|refine Q4 hG aa cJ (by kernel_rfl) ?_|refine Q5 hG aa ?_|refine Q6 hG aa ?_|refine Q7 hG aa ?_|refine Q8 hG aa ?_|refine Q9 rfl ?_|refine QF rfl ?_|refine QC rfl (And.intro (fun h => ?_) (fun h => ?_))|((conv => whnf); first|refine anF ?_|refine anT ?_|refine And.intro (by kernel_rfl) ?_|refine And.intro (fun h => ?_) (fun h => ?_)|refine Or.inl ?_|fail)
    refine az (X := Nat) (fun j => ⟨[(8, .int .i64 j), (7, .int .i64 (l.map aP).length), (0, .sl .no 6 (l.map aP)), (1, .fn g)], []⟩) (fun j => j ≤ l.length ∧ bM p (l.drop j) j = bM p l 0) (fun j => l.length - j) 0
      ⟨Nat.zero_le _, by simp⟩ (ah ?_ trivial) (fun j hj => ?_)
    · repeat' (first | exact trivial | refine And.intro rfl ?_)
    · obtain ⟨hj, hi⟩ := hj
      have hj2 : decide ((j : Int) < ((l.map aP).length : Int)) = true → j < l.length := fun h => by have := of_decide_eq_true h; simp at this; omega
      have hx : decide ((j : Int) < ((l.map aP).length : Int)) = true → (l.map aP)[(j : Int).toNat]? = some (aP (l.getD j ki)) := fun h => by have := hj2 h; simp [List.getElem?_eq_getElem this]
      have hc : decide ((j : Int) < ((l.map aP).length : Int)) = true → ae Tryz.prog g ((.agg (aP (l.getD j ki))) :: []) (.bool (p (l.getD j ki))) := fun h => hp _ (by have := hj2 h; rw [List.getD_eq_getElem?_getD, List.getElem?_eq_getElem this]; exact List.getElem_mem this)
      repeat' first|refine Q1 ?_|refine Q2 ?_|refine Q3 hG aa cJ (by kernel_rfl) ?_|refine Q4 hG aa cJ (by kernel_rfl) ?_|refine Q5 hG aa ?_|refine Q6 hG aa ?_|refine Q7 hG aa ?_|refine Q8 hG aa ?_|refine Q9 rfl ?_|refine QF rfl ?_|refine QC rfl (And.intro (fun h => ?_) (fun h => ?_))|((conv => whnf); first|refine anF ?_|refine anT ?_|refine And.intro (by kernel_rfl) ?_|refine And.intro (Int.natCast_nonneg j) (Exists.intro _ (And.intro (hx (by assumption)) ?_))|refine Exists.intro _ (And.intro (hc (by assumption)) ?_)|refine And.intro (fun h => ?_) (fun h => ?_)|refine Or.inl ?_|fail)
      · rw [aT (d := ki) (hj2 (by assumption)), if_pos (by assumption)] at hi
        exact Ends.mk (Or.inl rfl) (ac (congrArg (AV.int .i64) hi))
      · have hj2 := hj2 (by assumption)
        rw [aT (d := ki) hj2, if_neg (fun h => tf h (by assumption))] at hi
        refine Exists.intro (j + 1) (And.intro ⟨hj2, hi⟩ (And.intro (by omega) (ah ?_ trivial)))
        refine And.intro (congrArg (fun z => some (AV.int .i64 z)) ((ap (by omega) (by omega)).trans (by omega))) ?_
        repeat' (first | exact trivial | refine And.intro rfl ?_)
      · have hj2 : l.length ≤ j := by have := of_decide_eq_false (by assumption : decide ((j : Int) < ((l.map aP).length : Int)) = false); simp at this; omega
        rw [List.drop_of_length_le hj2] at hi
        exact Ends.mk (Or.inl rfl) (ac (congrArg (AV.int .i64) hi))
theorem oV (l : List ak) (p : ak → Bool) (g : FuncId) (fv : AV) (cap : List AV) (hf : fv = .clo g cap ∨ (fv = .fn g ∧ cap = [])) (hl : l.length ≤ 1000000)
    (hp : ∀ x ∈ l, ae Tryz.prog g ((.agg (aP x)) :: cap) (.bool (p x))) : ae Tryz.prog 156 [.sl .no 6 (l.map aP), fv] (.bool (l.any p)) := by
  rcases hf with rfl | ⟨rfl, rfl⟩
  · refine ag aa Tryz.func156 rfl (by kernel_rfl) af (Nat.le_of_ble_eq_true rfl) ?_
    intro F n' w0 m0 hG hro h1
    repeat' first|refine Q1 ?_|refine Q2 ?_|refine Q3 hG aa gg (by kernel_rfl) ?_|refine Q4 hG aa gg (by kernel_rfl) ?_|refine Q5 hG aa ?_|refine Q6 hG aa ?_|refine Q7 hG aa ?_|refine Q8 hG aa ?_|refine Q9 rfl ?_|refine QF rfl ?_|refine QC rfl (And.intro (fun h => ?_) (fun h => ?_))|((conv => whnf); first|refine anF ?_|refine anT ?_|refine And.intro (by kernel_rfl) ?_|refine Exists.intro _ (And.intro (kR l p g _ _ (Or.inl rfl) hl hp) ?_)|refine And.intro (fun h => ?_) (fun h => ?_)|refine Or.inl ?_|fail)
    all_goals exact Ends.mk (Or.inl rfl) (ac (congrArg AV.bool (dG p l 0)))
  · refine ag aa Tryz.func156 rfl (by kernel_rfl) af (Nat.le_of_ble_eq_true rfl) ?_
    intro F n' w0 m0 hG hro h1
    repeat' first|refine Q1 ?_|refine Q2 ?_|refine Q3 hG aa gg (by kernel_rfl) ?_|refine Q4 hG aa gg (by kernel_rfl) ?_|refine Q5 hG aa ?_|refine Q6 hG aa ?_|refine Q7 hG aa ?_|refine Q8 hG aa ?_|refine Q9 rfl ?_|refine QF rfl ?_|refine QC rfl (And.intro (fun h => ?_) (fun h => ?_))|((conv => whnf); first|refine anF ?_|refine anT ?_|refine And.intro (by kernel_rfl) ?_|refine Exists.intro _ (And.intro (kR l p g _ _ (Or.inr ⟨rfl, rfl⟩) hl hp) ?_)|refine And.intro (fun h => ?_) (fun h => ?_)|refine Or.inl ?_|fail)
    all_goals exact Ends.mk (Or.inl rfl) (ac (congrArg AV.bool (dG p l 0)))
theorem lM (l : List Opt) (p : Opt → Bool) (g : FuncId) (fv : AV) (cap : List AV) (hf : fv = .clo g cap ∨ (fv = .fn g ∧ cap = [])) (hl : l.length ≤ 1000000)
    (hp : ∀ x ∈ l, ae Tryz.prog g ((.agg (aK x)) :: cap) (.bool (p x))) : ae Tryz.prog 162 [.sl .no 9 (l.map aK), fv] (.int .i64 (bM p l 0)) := by
  rcases hf with rfl | ⟨rfl, rfl⟩
  · refine ag aa Tryz.func162 rfl (by kernel_rfl) af (Nat.le_of_ble_eq_true rfl) ?_
    intro F n' w0 m0 hG hro h1
    repeat' first|refine Q1 ?_|refine Q2 ?_|refine Q3 hG aa cQ (by kernel_rfl) ?_|refine Q4 hG aa cQ (by kernel_rfl) ?_|refine Q5 hG aa ?_|refine Q6 hG aa ?_|refine Q7 hG aa ?_|refine Q8 hG aa ?_|refine Q9 rfl ?_|refine QF rfl ?_|refine QC rfl (And.intro (fun h => ?_) (fun h => ?_))|((conv => whnf); first|refine anF ?_|refine anT ?_|refine And.intro (by kernel_rfl) ?_|refine And.intro (fun h => ?_) (fun h => ?_)|refine Or.inl ?_|fail)
    refine az (X := Nat) (fun j => ⟨[(8, .int .i64 j), (7, .int .i64 (l.map aK).length), (0, .sl .no 9 (l.map aK)), (1, .clo g cap)], []⟩) (fun j => j ≤ l.length ∧ bM p (l.drop j) j = bM p l 0) (fun j => l.length - j) 0
      ⟨Nat.zero_le _, by simp⟩ (ah ?_ trivial) (fun j hj => ?_)
    · repeat' (first | exact trivial | refine And.intro rfl ?_)
    · obtain ⟨hj, hi⟩ := hj
      have hj2 : decide ((j : Int) < ((l.map aK).length : Int)) = true → j < l.length := fun h => by have := of_decide_eq_true h; simp at this; omega
      have hx : decide ((j : Int) < ((l.map aK).length : Int)) = true → (l.map aK)[(j : Int).toNat]? = some (aK (l.getD j rr)) := fun h => by have := hj2 h; simp [List.getElem?_eq_getElem this]
      have hc : decide ((j : Int) < ((l.map aK).length : Int)) = true → ae Tryz.prog g ((.agg (aK (l.getD j rr))) :: cap) (.bool (p (l.getD j rr))) := fun h => hp _ (by have := hj2 h; rw [List.getD_eq_getElem?_getD, List.getElem?_eq_getElem this]; exact List.getElem_mem this)
      repeat' first|refine Q1 ?_|refine Q2 ?_|refine Q3 hG aa cQ (by kernel_rfl) ?_|refine Q4 hG aa cQ (by kernel_rfl) ?_|refine Q5 hG aa ?_|refine Q6 hG aa ?_|refine Q7 hG aa ?_|refine Q8 hG aa ?_|refine Q9 rfl ?_|refine QF rfl ?_|refine QC rfl (And.intro (fun h => ?_) (fun h => ?_))|((conv => whnf); first|refine anF ?_|refine anT ?_|refine And.intro (by kernel_rfl) ?_|refine And.intro (Int.natCast_nonneg j) (Exists.intro _ (And.intro (hx (by assumption)) ?_))|refine Exists.intro _ (And.intro (hc (by assumption)) ?_)|refine And.intro (fun h => ?_) (fun h => ?_)|refine Or.inl ?_|fail)
      · rw [aT (d := rr) (hj2 (by assumption)), if_pos (by assumption)] at hi
        exact Ends.mk (Or.inl rfl) (ac (congrArg (AV.int .i64) hi))
      · have hj2 := hj2 (by assumption)
        rw [aT (d := rr) hj2, if_neg (fun h => tf h (by assumption))] at hi
        refine Exists.intro (j + 1) (And.intro ⟨hj2, hi⟩ (And.intro (by omega) (ah ?_ trivial)))
        refine And.intro (congrArg (fun z => some (AV.int .i64 z)) ((ap (by omega) (by omega)).trans (by omega))) ?_
        repeat' (first | exact trivial | refine And.intro rfl ?_)
      · have hj2 : l.length ≤ j := by have := of_decide_eq_false (by assumption : decide ((j : Int) < ((l.map aK).length : Int)) = false); simp at this; omega
        rw [List.drop_of_length_le hj2] at hi
        exact Ends.mk (Or.inl rfl) (ac (congrArg (AV.int .i64) hi))
  · refine ag aa Tryz.func162 rfl (by kernel_rfl) af (Nat.le_of_ble_eq_true rfl) ?_
    intro F n' w0 m0 hG hro h1
    repeat' first|refine Q1 ?_|refine Q2 ?_|refine Q3 hG aa cQ (by kernel_rfl) ?_|refine Q4 hG aa cQ (by kernel_rfl) ?_|refine Q5 hG aa ?_|refine Q6 hG aa ?_|refine Q7 hG aa ?_|refine Q8 hG aa ?_|refine Q9 rfl ?_|refine QF rfl ?_|refine QC rfl (And.intro (fun h => ?_) (fun h => ?_))|((conv => whnf); first|refine anF ?_|refine anT ?_|refine And.intro (by kernel_rfl) ?_|refine And.intro (fun h => ?_) (fun h => ?_)|refine Or.inl ?_|fail)
    refine az (X := Nat) (fun j => ⟨[(8, .int .i64 j), (7, .int .i64 (l.map aK).length), (0, .sl .no 9 (l.map aK)), (1, .fn g)], []⟩) (fun j => j ≤ l.length ∧ bM p (l.drop j) j = bM p l 0) (fun j => l.length - j) 0
      ⟨Nat.zero_le _, by simp⟩ (ah ?_ trivial) (fun j hj => ?_)
    · repeat' (first | exact trivial | refine And.intro rfl ?_)
    · obtain ⟨hj, hi⟩ := hj
      have hj2 : decide ((j : Int) < ((l.map aK).length : Int)) = true → j < l.length := fun h => by have := of_decide_eq_true h; simp at this; omega
      have hx : decide ((j : Int) < ((l.map aK).length : Int)) = true → (l.map aK)[(j : Int).toNat]? = some (aK (l.getD j rr)) := fun h => by have := hj2 h; simp [List.getElem?_eq_getElem this]
      have hc : decide ((j : Int) < ((l.map aK).length : Int)) = true → ae Tryz.prog g ((.agg (aK (l.getD j rr))) :: []) (.bool (p (l.getD j rr))) := fun h => hp _ (by have := hj2 h; rw [List.getD_eq_getElem?_getD, List.getElem?_eq_getElem this]; exact List.getElem_mem this)
      repeat' first|refine Q1 ?_|refine Q2 ?_|refine Q3 hG aa cQ (by kernel_rfl) ?_|refine Q4 hG aa cQ (by kernel_rfl) ?_|refine Q5 hG aa ?_|refine Q6 hG aa ?_|refine Q7 hG aa ?_|refine Q8 hG aa ?_|refine Q9 rfl ?_|refine QF rfl ?_|refine QC rfl (And.intro (fun h => ?_) (fun h => ?_))|((conv => whnf); first|refine anF ?_|refine anT ?_|refine And.intro (by kernel_rfl) ?_|refine And.intro (Int.natCast_nonneg j) (Exists.intro _ (And.intro (hx (by assumption)) ?_))|refine Exists.intro _ (And.intro (hc (by assumption)) ?_)|refine And.intro (fun h => ?_) (fun h => ?_)|refine Or.inl ?_|fail)
      · rw [aT (d := rr) (hj2 (by assumption)), if_pos (by assumption)] at hi
        exact Ends.mk (Or.inl rfl) (ac (congrArg (AV.int .i64) hi))
      · have hj2 := hj2 (by assumption)
        rw [aT (d := rr) hj2, if_neg (fun h => tf h (by assumption))] at hi
        refine Exists.intro (j + 1) (And.intro ⟨hj2, hi⟩ (And.intro (by omega) (ah ?_ trivial)))
        refine And.intro (congrArg (fun z => some (AV.int .i64 z)) ((ap (by omega) (by omega)).trans (by omega))) ?_
        repeat' (first | exact trivial | refine And.intro rfl ?_)
      · have hj2 : l.length ≤ j := by have := of_decide_eq_false (by assumption : decide ((j : Int) < ((l.map aK).length : Int)) = false); simp at this; omega
        rw [List.drop_of_length_le hj2] at hi
        exact Ends.mk (Or.inl rfl) (ac (congrArg (AV.int .i64) hi))
theorem jo (l : List Opt) (p : Opt → Bool) (g : FuncId) (fv : AV) (cap : List AV) (hf : fv = .clo g cap ∨ (fv = .fn g ∧ cap = [])) (hl : l.length ≤ 1000000)
    (hp : ∀ x ∈ l, ae Tryz.prog g ((.agg (aK x)) :: cap) (.bool (p x))) : ae Tryz.prog 88 [.sl .no 9 (l.map aK), fv] (.bool (l.any p)) := by
  rcases hf with rfl | ⟨rfl, rfl⟩
  · refine ag aa Tryz.func88 rfl (by kernel_rfl) af (Nat.le_of_ble_eq_true rfl) ?_
    intro F n' w0 m0 hG hro h1
    repeat' first|refine Q1 ?_|refine Q2 ?_|refine Q3 hG aa il (by kernel_rfl) ?_|refine Q4 hG aa il (by kernel_rfl) ?_|refine Q5 hG aa ?_|refine Q6 hG aa ?_|refine Q7 hG aa ?_|refine Q8 hG aa ?_|refine Q9 rfl ?_|refine QF rfl ?_|refine QC rfl (And.intro (fun h => ?_) (fun h => ?_))|((conv => whnf); first|refine anF ?_|refine anT ?_|refine And.intro (by kernel_rfl) ?_|refine Exists.intro _ (And.intro (lM l p g _ _ (Or.inl rfl) hl hp) ?_)|refine And.intro (fun h => ?_) (fun h => ?_)|refine Or.inl ?_|fail)
    all_goals exact Ends.mk (Or.inl rfl) (ac (congrArg AV.bool (dG p l 0)))
  · refine ag aa Tryz.func88 rfl (by kernel_rfl) af (Nat.le_of_ble_eq_true rfl) ?_
    intro F n' w0 m0 hG hro h1
    repeat' first|refine Q1 ?_|refine Q2 ?_|refine Q3 hG aa il (by kernel_rfl) ?_|refine Q4 hG aa il (by kernel_rfl) ?_|refine Q5 hG aa ?_|refine Q6 hG aa ?_|refine Q7 hG aa ?_|refine Q8 hG aa ?_|refine Q9 rfl ?_|refine QF rfl ?_|refine QC rfl (And.intro (fun h => ?_) (fun h => ?_))|((conv => whnf); first|refine anF ?_|refine anT ?_|refine And.intro (by kernel_rfl) ?_|refine Exists.intro _ (And.intro (lM l p g _ _ (Or.inr ⟨rfl, rfl⟩) hl hp) ?_)|refine And.intro (fun h => ?_) (fun h => ?_)|refine Or.inl ?_|fail)
    all_goals exact Ends.mk (Or.inl rfl) (ac (congrArg AV.bool (dG p l 0)))
def AE (l : List ak) : Bool := (List.range (l.length - 1)).all fun i => !decide (qK (aJ l (i + 1)) (aJ l i) < 0)
theorem ez {l : List ak} {i : Nat} (h : i < l.length) : (l.map aP)[i]? = some (aP (aJ l i)) := by simp [aJ, List.getElem?_eq_getElem h]
set_option maxHeartbeats 4000000 in
theorem s7 (l : List ak) (hl : l.length ≤ 1000000) : ae Tryz.prog 159 [am l, .fn 160] (.bool (AE l)) := by
  refine ag aa Tryz.func159 rfl (by kernel_rfl) af (Nat.le_of_ble_eq_true rfl) ?_
  intro F n' w0 m0 hG hro h1
  repeat' first|refine Q1 ?_|refine Q2 ?_|refine Q3 hG aa ed (by kernel_rfl) ?_|refine Q4 hG aa ed (by kernel_rfl) ?_|refine Q5 hG aa ?_|refine Q6 hG aa ?_|refine Q7 hG aa ?_|refine Q8 hG aa ?_|refine Q9 rfl ?_|refine QF rfl ?_|refine QC rfl (And.intro (fun h => ?_) (fun h => ?_))|((conv => whnf); first|refine anF ?_|refine anT ?_|refine And.intro (by kernel_rfl) ?_|refine And.intro (fun h => ?_) (fun h => ?_)|refine Or.inl ?_|fail)
  refine az (X := Int) (fun i => ⟨[(5, .int .i64 i), (0, am l), (1, .fn 160)], []⟩)
    (fun i => -1 ≤ i ∧ i ≤ (l.length : Int) - 1 ∧ ∀ j : Nat, i ≤ (j : Int) → (j : Int) < (l.length : Int) - 1 → decide (qK (aJ l (j + 1)) (aJ l j) < 0) = false) (fun i => (i + 1).toNat) (IntKind.i64.wrap (((l.map aP).length : Int) - 1)) ?_ (ah ?_ ?_) (fun i hi => ?_)
  · rw [show IntKind.i64.wrap (((l.map aP).length : Int) - 1) = (l.length : Int) - 1 by rw [List.length_map]; exact ap (by omega) (by omega)]
    exact ⟨by omega, by omega, fun j h1 h2 => by omega⟩
  · repeat' (first | exact trivial | refine And.intro rfl ?_)
  · repeat' (first | exact trivial | refine And.intro rfl ?_)
  · obtain ⟨h1, h2, h3⟩ := hi
    by_cases hp : i > 0
    · obtain ⟨j, rfl⟩ : ∃ j : Nat, i = ((j + 1 : Nat) : Int) := ⟨(i - 1).toNat, by omega⟩
      have hw : IntKind.i64.wrap (((j + 1 : Nat) : Int) - 1) = (j : Int) := (ap (by omega) (by omega)).trans (by omega)
      have hx := ez (l := l) (i := j + 1) (by omega)
      have hy := ez (l := l) (i := j) (by omega)
      have hy' : (l.map aP)[(IntKind.i64.wrap (((j + 1 : Nat) : Int) - 1)).toNat]? = some (aP (aJ l j)) := by rw [hw]; exact hy
      have h0 : 0 ≤ IntKind.i64.wrap (((j + 1 : Nat) : Int) - 1) := by rw [hw]; exact Int.natCast_nonneg j
      have bb : decide (((j + 1 : Nat) : Int) > 0) = false → False := fun h => by have := of_decide_eq_false h; omega
      repeat' first|exact (bb (by assumption)).elim|refine Q1 ?_|refine Q2 ?_|refine Q3 hG aa ed (by kernel_rfl) ?_|refine Q4 hG aa ed (by kernel_rfl) ?_|refine Q5 hG aa ?_|refine Q6 hG aa ?_|refine Q7 hG aa ?_|refine Q8 hG aa ?_|refine Q9 rfl ?_|refine QF rfl ?_|refine QC rfl (And.intro (fun h => ?_) (fun h => ?_))|((conv => whnf); first|refine anF ?_|refine anT ?_|refine And.intro (by kernel_rfl) ?_|refine And.intro (Int.natCast_nonneg (j + 1)) (Exists.intro _ (And.intro hx ?_))|refine And.intro h0 (Exists.intro _ (And.intro hy' ?_))|refine Exists.intro _ (And.intro (pG _ _) ?_)|refine And.intro (fun h => ?_) (fun h => ?_)|refine Or.inl ?_|fail)
      · refine Ends.mk (Or.inl rfl) (ac (congrArg AV.bool ?_))
        symm
        unfold AE
        rw [List.all_eq_false]
        exact ⟨j, List.mem_range.2 (by omega), by
          have hb := (by assumption : decide (qK (aJ l (j + 1)) (aJ l j) < 0) = true)
          rw [hb]; simp⟩
      · refine Exists.intro (IntKind.i64.wrap (((j + 1 : Nat) : Int) - 1)) (And.intro ?_ (And.intro ?_ (ah ?_ ?_)))
        · rw [hw]
          refine ⟨by omega, by omega, fun k g1 g2 => ?_⟩
          by_cases hk : k = j
          · rw [hk]; assumption
          · exact h3 k (by omega) g2
        · rw [hw]; omega
        · repeat' (first | exact trivial | refine And.intro rfl ?_)
        · repeat' (first | exact trivial | refine And.intro rfl ?_)
    · have bb : decide (i > 0) = true → False := fun h => hp (of_decide_eq_true h)
      repeat' first|exact (bb (by assumption)).elim|refine Q1 ?_|refine Q2 ?_|refine Q3 hG aa ed (by kernel_rfl) ?_|refine Q4 hG aa ed (by kernel_rfl) ?_|refine Q5 hG aa ?_|refine Q6 hG aa ?_|refine Q7 hG aa ?_|refine Q8 hG aa ?_|refine Q9 rfl ?_|refine QF rfl ?_|refine QC rfl (And.intro (fun h => ?_) (fun h => ?_))|((conv => whnf); first|refine anF ?_|refine anT ?_|refine And.intro (by kernel_rfl) ?_|refine And.intro (fun h => ?_) (fun h => ?_)|refine Or.inl ?_|fail)
      refine Ends.mk (Or.inl rfl) (ac (congrArg AV.bool ?_))
      symm
      unfold AE
      rw [List.all_eq_true]
      intro j hj
      have := List.mem_range.1 hj
      rw [h3 j (by omega) (by omega)]; rfl
def bP (l : List ak) : Bool := decide (l.length ≤ 64) && !(l.any fun p => !cn p) && AE l
theorem eu (l : List ak) (hl : l.length ≤ 1000000) : ae Tryz.prog 85 [am l] (.bool (bP l)) := by
  have hlm : decide (((l.map aP).length : Int) ≤ 64) = decide (l.length ≤ 64) := by rw [List.length_map]; exact decide_eq_decide.2 (by omega)
  refine ag aa Tryz.func85 rfl (by kernel_rfl) af (Nat.le_of_ble_eq_true rfl) ?_
  intro F n' w0 m0 hG hro h1
  repeat' first|refine Q1 ?_|refine Q2 ?_|refine Q3 hG aa qp (by kernel_rfl) ?_|refine Q4 hG aa qp (by kernel_rfl) ?_|refine Q5 hG aa ?_|refine Q6 hG aa ?_|refine Q7 hG aa ?_|refine Q8 hG aa ?_|refine Q9 rfl ?_|refine QF rfl ?_|refine QC rfl (And.intro (fun h => ?_) (fun h => ?_))|((conv => whnf); first|refine anF ?_|refine anT ?_|refine And.intro (by kernel_rfl) ?_|refine Exists.intro _ (And.intro (oV l (fun p => !cn p) 157 _ [] (Or.inr ⟨rfl, rfl⟩) hl (fun p _ => uZ p)) ?_)|refine Exists.intro _ (And.intro (s7 l hl) ?_)|refine And.intro (fun h => ?_) (fun h => ?_)|refine Or.inl ?_|fail)
  all_goals refine Ends.mk (Or.inl rfl) (ac (congrArg AV.bool ?_))
  all_goals (unfold bP; rw [← hlm]; clear hlm; simp only [*, Bool.true_and, Bool.and_true, Bool.false_and, Bool.and_false])
end Go.Proofs
namespace Go.Proofs
open Go Go.AI
set_option maxRecDepth 10000
def fe (s : Nat → Int) (ps : List ak) (size t : Int) (x : a8) : Bool :=
  inS x.p 0 (w64 ((ps.length : Int) - 1)) && ((((aJ ps x.p.toNat).sat == s 0) && decide (x.a ≥ max t (aJ ps x.p.toNat).sa) && decide (x.b ≤ (aJ ps x.p.toNat).sb) && decide (x.a < x.b)) &&
    !decide (w64 (w64 (x.b - x.a) * s 20) < size))
def bq (s : Nat → Int) (ps : List ak) (size : Int) : Int → List a8 → Bool
  | _, [] => true
  | t, x :: r => fe s ps size t x && bq s ps size x.b r
def ne (s : Nat → Int) (o : Opt) : Bool := inS o.id 0 63 && inS o.ord 0 63 && inS o.cl 0 11 && (o.sat == s 0) && inS o.size 1 (s 10)
def pN (s : Nat → Int) (o : Opt) : Bool := o3 (gQ s) o.a o.b o.look && inS o.look (w64 (0 - s 9)) (s 9) && decide (o.b ≤ 1000000)
def dh (s : Nat → Int) (o : Opt) (ps : List ak) : Bool := ne s o && pN s o && inS (o.sl.length : Int) 1 6 && bq s ps o.size o.b o.sl
theorem mM {s : Nat → Int} {ps : List ak} {z t : Int} {l : List a8} {i : Nat} (h : i < l.length) : bq s ps z t (l.drop i) = (fe s ps z t (l.getD i ⟨0, 0, 0⟩) && bq s ps z (l.getD i ⟨0, 0, 0⟩).b (l.drop (i + 1))) := by
  rw [List.drop_eq_getElem_cons h, List.getD_eq_getElem?_getD, List.getElem?_eq_getElem h]; rfl
set_option maxHeartbeats 16000000 in
theorem An (s : Nat → Int) (o : Opt) (ps : List ak) (hl : o.sl.length ≤ 1000000) (hps : ps.length ≤ 1000000) : ae Tryz.prog 87 [.agg (aX s), .agg (aK o), am ps] (.bool (dh s o ps)) := by
  have hlm : ((o.sl.map aG).length : Int) = (o.sl.length : Int) := by rw [List.length_map]
  have hpm : ((ps.map aP).length : Int) = (ps.length : Int) := by rw [List.length_map]
  refine ag aa Tryz.func87 rfl (by kernel_rfl) af (Nat.le_of_ble_eq_true rfl) ?_
  intro F n' w0 m0 hG hro h1
  refine Q1 ?_
  refine Q4 hG aa bj (by kernel_rfl) ?_
  conv => whnf
  refine Q1 ?_
  refine SPB.cut (X := Unit) (fun _ => ⟨[(7, .bool (ne s o)), (6, .bool false), (4, .loc 4 0), (3, .loc 3 0), (2, am ps)], [(4, aK o), (3, aX s)]⟩) (fun _ => True) ?_ (fun _ _ => ?_)
  · refine Q4 hG aa bj (by kernel_rfl) ?_
    repeat' first|refine Q1 ?_|refine Q2 ?_|refine Q3 hG aa bj (by kernel_rfl) ?_|refine Q4 hG aa bj (by kernel_rfl) ?_|refine Q5 hG aa ?_|refine Q6 hG aa ?_|refine Q7 hG aa ?_|refine Q8 hG aa ?_|refine Q9 rfl ?_|refine QF rfl ?_|refine QC rfl (And.intro (fun h => ?_) (fun h => ?_))|((conv => whnf); first|refine anF ?_|refine anT ?_|refine And.intro (by kernel_rfl) ?_|refine Exists.intro _ (And.intro (iO _ _ _) ?_)|refine And.intro (fun h => ?_) (fun h => ?_)|refine Or.inl ?_|fail)
    all_goals refine Exists.intro () (And.intro trivial (ah (And.intro (congrArg (fun z => some (AV.bool z)) ?_) ?_) ?_))
    all_goals first
      | (simp only [ne, *, Bool.true_and, Bool.and_true, Bool.false_and, Bool.and_false, Bool.true_or, Bool.or_true, Bool.false_or, Bool.or_false, Bool.not_true, Bool.not_false]; done)
      | (repeat' (first | exact trivial | refine And.intro rfl ?_))
  conv => whnf
  refine Q1 ?_
  refine SPB.cut (X := Unit) (fun _ => ⟨[(8, .bool (pN s o)), (7, .bool (ne s o)), (6, .bool false), (4, .loc 4 0), (3, .loc 3 0), (2, am ps)], [(4, aK o), (3, aX s)]⟩) (fun _ => True) ?_ (fun _ _ => ?_)
  · refine Q4 hG aa bj (by kernel_rfl) ?_
    repeat' first|refine Q1 ?_|refine Q2 ?_|refine Q3 hG aa bj (by kernel_rfl) ?_|refine Q4 hG aa bj (by kernel_rfl) ?_|refine Q5 hG aa ?_|refine Q6 hG aa ?_|refine Q7 hG aa ?_|refine Q8 hG aa ?_|refine Q9 rfl ?_|refine QF rfl ?_|refine QC rfl (And.intro (fun h => ?_) (fun h => ?_))|((conv => whnf); first|refine anF ?_|refine anT ?_|refine And.intro (by kernel_rfl) ?_|refine Exists.intro _ (And.intro (iO _ _ _) ?_)|refine Exists.intro _ (And.intro (Af (gQ s) _ _ _) ?_)|refine And.intro (fun h => ?_) (fun h => ?_)|refine Or.inl ?_|fail)
    all_goals refine Exists.intro () (And.intro trivial (ah (And.intro (congrArg (fun z => some (AV.bool z)) ?_) ?_) ?_))
    all_goals first
      | (simp only [pN, w64, *, Bool.true_and, Bool.and_true, Bool.false_and, Bool.and_false, Bool.true_or, Bool.or_true, Bool.false_or, Bool.or_false, Bool.not_true, Bool.not_false]; done)
      | (repeat' (first | exact trivial | refine And.intro rfl ?_))
  conv => whnf
  repeat' first|refine Q1 ?_|refine Q2 ?_|refine Q3 hG aa bj (by kernel_rfl) ?_|refine Q4 hG aa bj (by kernel_rfl) ?_|refine Q5 hG aa ?_|refine Q6 hG aa ?_|refine Q7 hG aa ?_|refine Q8 hG aa ?_|refine Q9 rfl ?_|refine QF rfl ?_|refine QC rfl (And.intro (fun h => ?_) (fun h => ?_))|((conv => whnf); first|refine anF ?_|refine anT ?_|refine And.intro (by kernel_rfl) ?_|refine Exists.intro _ (And.intro (iO _ _ _) ?_)|refine And.intro (fun h => ?_) (fun h => ?_)|refine Or.inl ?_|fail)
  · refine Ends.mk (Or.inl rfl) (ac (congrArg AV.bool ?_))
    simp only [dh, CU (by assumption : (!ne s o) = true), Bool.false_and]
  · refine Ends.mk (Or.inl rfl) (ac (congrArg AV.bool ?_))
    simp only [dh, CU (by assumption : (!pN s o) = true), Bool.false_and, Bool.and_false]
  · refine Ends.mk (Or.inl rfl) (ac (congrArg AV.bool ?_))
    have h := CU (by assumption : (!inS (((o.sl.map aG).length : Nat) : Int) 1 6) = true)
    rw [hlm] at h
    simp only [dh, h, Bool.false_and, Bool.and_false]
  · have q1 := sU (by assumption : (!ne s o) = false)
    have q2 := sU (by assumption : (!pN s o) = false)
    have q3 := sU (by assumption : (!inS (((o.sl.map aG).length : Nat) : Int) 1 6) = false)
    rw [hlm] at q3
    have hfit : dh s o ps = bq s ps o.size o.b o.sl := by simp only [dh, q1, q2, q3, Bool.true_and]
    rw [hfit]
    refine az (X := Nat × Int) (fun q => ⟨[(83, .int .i64 q.1), (82, .int .i64 (o.sl.map aG).length), (81, .sl .no 3 (o.sl.map aG)), (9, .int .i64 q.2), (6, .bool false), (4, .loc 4 0), (3, .loc 3 0), (2, am ps)], [(4, aK o), (3, aX s)]⟩)
      (fun q => q.1 ≤ o.sl.length ∧ bq s ps o.size q.2 (o.sl.drop q.1) = bq s ps o.size o.b o.sl) (fun q => o.sl.length - q.1) (0, o.b) ⟨Nat.zero_le _, rfl⟩ (ah ?_ ?_) (fun q hq => ?_)
    · repeat' (first | exact trivial | refine And.intro rfl ?_)
    · repeat' (first | exact trivial | refine And.intro rfl ?_)
    · obtain ⟨i, t⟩ := q
      obtain ⟨hi, hf⟩ := hq
      have hi : i ≤ o.sl.length := hi
      have hf : bq s ps o.size t (o.sl.drop i) = bq s ps o.size o.b o.sl := hf
      by_cases hlt : i < o.sl.length
      · have bbk : decide ((i : Int) < ((o.sl.map aG).length : Int)) = false → False := fun h => by have := of_decide_eq_false h; omega
        have hx := fT hlt
        rw [mM hlt] at hf
        generalize o.sl.getD i ⟨0, 0, 0⟩ = x at hx hf
        have bad : fe s ps o.size t x = false → false = bq s ps o.size o.b o.sl := fun h => by rw [← hf, h, Bool.false_and]
        have hin : (!inS x.p 0 (IntKind.i64.wrap (((ps.map aP).length : Int) - 1))) = false → 0 ≤ x.p ∧ (ps.map aP)[x.p.toNat]? = some (aP (aJ ps x.p.toNat)) := fun h => by
          have h := sU h
          rw [hpm, show IntKind.i64.wrap ((ps.length : Int) - 1) = (ps.length : Int) - 1 from ap (by omega) (by omega)] at h
          simp only [inS, Bool.and_eq_true, decide_eq_true_eq] at h
          exact ⟨h.1, ez (by omega)⟩
        have hpm' : w64 ((ps.length : Int) - 1) = IntKind.i64.wrap (((ps.map aP).length : Int) - 1) := by rw [hpm]; rfl
        repeat' first|exact (bbk (by assumption)).elim|refine Q1 ?_|refine Q2 ?_|refine Q3 hG aa bj (by kernel_rfl) ?_|refine Q4 hG aa bj (by kernel_rfl) ?_|refine Q5 hG aa ?_|refine Q6 hG aa ?_|refine Q7 hG aa ?_|refine Q8 hG aa ?_|refine Q9 rfl ?_|refine QF rfl ?_|refine QC rfl (And.intro (fun h => ?_) (fun h => ?_))|((conv => whnf); first|refine anF ?_|refine anT ?_|refine And.intro (by kernel_rfl) ?_|refine And.intro (Int.natCast_nonneg i) (Exists.intro _ (And.intro hx ?_))|refine Exists.intro _ (And.intro (iO _ _ _) ?_)|refine And.intro (hin (by assumption)).1 (Exists.intro _ (And.intro (hin (by assumption)).2 ?_))|refine And.intro (fun h => ?_) (fun h => ?_)|refine Or.inl ?_|fail)
        rotate_left 3
        · have hok : fe s ps o.size t x = true := by
            (try simp only [Bool.not_eq_true', Bool.not_eq_false', cond_true] at *)
            unfold fe w64
            unfold w64 at hpm'
            rw [hpm']
            simp only [*, Bool.true_and, Bool.and_true, Bool.false_and, Bool.and_false, Bool.true_or, Bool.or_true, Bool.false_or, Bool.or_false, Bool.not_true, Bool.not_false]
          refine Exists.intro (i + 1, x.b) (And.intro ⟨hlt, ?_⟩ (And.intro (by show o.sl.length - (i + 1) < o.sl.length - i; omega) (ah ?_ ?_)))
          · show bq s ps o.size x.b (o.sl.drop (i + 1)) = _
            rw [← hf, hok, Bool.true_and]
          · refine And.intro (congrArg some (ax (by omega))) ?_
            repeat' (first | exact trivial | refine And.intro rfl ?_)
          · repeat' (first | exact trivial | refine And.intro rfl ?_)
        all_goals refine Ends.mk (Or.inl rfl) (ac (congrArg AV.bool (bad ?_)))
        all_goals (try simp only [Bool.not_eq_true', Bool.not_eq_false', cond_true] at *)
        all_goals (unfold fe w64; unfold w64 at hpm'; rw [hpm']; simp only [*, Bool.true_and, Bool.and_true, Bool.false_and, Bool.and_false, Bool.true_or, Bool.or_true, Bool.false_or, Bool.or_false, Bool.not_true, Bool.not_false])
      · have hge : i = o.sl.length := by omega
        have bbk : decide ((i : Int) < ((o.sl.map aG).length : Int)) = true → False := fun h => by have := of_decide_eq_true h; omega
        rw [List.drop_of_length_le (by omega)] at hf
        repeat' first|exact (bbk (by assumption)).elim|refine Q1 ?_|refine Q2 ?_|refine Q3 hG aa bj (by kernel_rfl) ?_|refine Q4 hG aa bj (by kernel_rfl) ?_|refine Q5 hG aa ?_|refine Q6 hG aa ?_|refine Q7 hG aa ?_|refine Q8 hG aa ?_|refine Q9 rfl ?_|refine QF rfl ?_|refine QC rfl (And.intro (fun h => ?_) (fun h => ?_))|((conv => whnf); first|refine anF ?_|refine anT ?_|refine And.intro (by kernel_rfl) ?_|refine And.intro (fun h => ?_) (fun h => ?_)|refine Or.inl ?_|fail)
        exact Ends.mk (Or.inl rfl) (ac (congrArg AV.bool hf))
def m6 (s : Nat → Int) (ps : List ak) (a b : Int) (pre : List Opt) (o : Opt) : Bool := dh s o ps && !decide (o.a < a) && !decide (fc o > b) && !(pre.any fun p => p.id == o.id)
def ej (s : Nat → Int) (ps : List ak) (a b : Int) : List Opt → List Opt → Bool
  | _, [] => true
  | pre, o :: r => m6 s ps a b pre o && ej s ps a b (pre ++ [o]) r
theorem vA {s : Nat → Int} {ps : List ak} {a b : Int} {l : List Opt} {i : Nat} (h : i < l.length) : ej s ps a b (l.take i) (l.drop i) = (m6 s ps a b (l.take i) (aU l i) && ej s ps a b (l.take (i + 1)) (l.drop (i + 1))) := by
  rw [List.drop_eq_getElem_cons h, ej, eS h, List.take_add_one, List.getElem?_eq_getElem h]; rfl
def aO (s : Nat → Int) (l : List Opt) (ps : List ak) (a b : Int) : Bool := decide (l.length ≤ 8) && cg a b && !decide (w64 (b - a) > 3000) && gt s && bP ps && ej s ps a b [] l
theorem Ai (o p : Opt) : ae Tryz.prog 86 [.agg (aK p), .ref (aK o)] (.bool (p.id == o.id)) := by
  refine ag aa Tryz.func86 rfl (by kernel_rfl) af (Nat.le_of_ble_eq_true rfl) ?_
  intro F n' w0 m0 hG hro h1
  repeat' first|refine Q1 ?_|refine Q2 ?_|refine Q3 hG aa qo (by kernel_rfl) ?_|refine Q4 hG aa qo (by kernel_rfl) ?_|refine Q5 hG aa ?_|refine Q6 hG aa ?_|refine Q7 hG aa ?_|refine Q8 hG aa ?_|refine Q9 rfl ?_|refine QF rfl ?_|refine QC rfl (And.intro (fun h => ?_) (fun h => ?_))|((conv => whnf); first|refine anF ?_|refine anT ?_|refine And.intro (by kernel_rfl) ?_|refine And.intro (fun h => ?_) (fun h => ?_)|refine Or.inl ?_|fail)
  all_goals exact Ends.mk (Or.inl rfl) (ac rfl)
theorem pf {l : List Opt} {i : Nat} (h : i < l.length) : (l.map aK)[(i : Int).toNat]? = some (aK (aU l i)) := by simp [aU, List.getElem?_eq_getElem h]
theorem vY {s : Nat → Int} {o : Opt} {ps : List ak} (h : dh s o ps = true) : 1 ≤ o.sl.length ∧ o.sl.length ≤ 6 := by
  simp only [dh, inS, Bool.and_eq_true, decide_eq_true_eq] at h
  omega
end Go.Proofs
namespace Go.Proofs
open Go Go.AI
set_option maxRecDepth 10000
def slens (l : List Opt) : Prop := ∀ o ∈ l, o.sl.length ≤ 1000000
set_option maxHeartbeats 16000000 in
theorem xU (s : Nat → Int) (l : List Opt) (ps : List ak) (a b : Int) (hl : l.length ≤ 1000000) (hs : slens l) (hps : ps.length ≤ 1000000) : ae Tryz.prog 23 [.agg (aX s), aM l, am ps, .agg (aF a b)] (.bool (aO s l ps a b)) := by
  have hlm : ((l.map aK).length : Int) = (l.length : Int) := by rw [List.length_map]
  have hn8 : decide (l.length ≤ 8) = !decide (((l.map aK).length : Int) > 8) := by rw [hlm]; by_cases h : l.length ≤ 8 <;> simp [h] <;> omega
  refine ag aa Tryz.func23 rfl (by kernel_rfl) af (Nat.le_of_ble_eq_true rfl) ?_
  intro F n' w0 m0 hG hro h1
  repeat' first|refine Q1 ?_|refine Q2 ?_|refine Q3 hG aa eQ (by kernel_rfl) ?_|refine Q4 hG aa eQ (by kernel_rfl) ?_|refine Q5 hG aa ?_|refine Q6 hG aa ?_|refine Q7 hG aa ?_|refine Q8 hG aa ?_|refine Q9 rfl ?_|refine QF rfl ?_|refine QC rfl (And.intro (fun h => ?_) (fun h => ?_))|((conv => whnf); first|refine anF ?_|refine anT ?_|refine And.intro (by kernel_rfl) ?_|refine Exists.intro _ (And.intro (su _ _) ?_)|refine Exists.intro _ (And.intro (wM s) ?_)|refine Exists.intro _ (And.intro (eu ps hps) ?_)|refine And.intro (fun h => ?_) (fun h => ?_)|refine Or.inl ?_|fail)
  rotate_left 5
  · have c1 : l.length ≤ 8 := by
      have h := (by assumption : decide (((l.map aK).length : Int) > 8) = false)
      have h2 := hn8; rw [h] at h2; simpa using h2
    have hv : aO s l ps a b = ej s ps a b [] l := by
      have c2 := sU (by assumption : (!cg a b) = false)
      have c3 := sU (by assumption : (!gt s) = false)
      have c4 := sU (by assumption : (!bP ps) = false)
      have c5 : decide (w64 (b - a) > 3000) = false := (by assumption : decide (IntKind.i64.wrap (b - a) > 3000) = false)
      simp only [aO, decide_eq_true c1, c2, c3, c4, c5, Bool.true_and, Bool.not_false, Bool.and_true]
    rw [hv]
    refine az (X := Nat) (fun i => ⟨[(40, .int .i64 i), (39, .int .i64 (l.map aK).length), (38, aM l), (8, .bool false), (7, .loc 7 0), (4, .loc 4 0), (2, am ps), (1, aM l)], [(7, aF a b), (4, aX s)]⟩)
      (fun i => i ≤ l.length ∧ ej s ps a b (l.take i) (l.drop i) = ej s ps a b [] l) (fun i => l.length - i) 0 ⟨Nat.zero_le _, rfl⟩ (ah ?_ ?_) (fun i hi => ?_)
    · repeat' (first | exact trivial | refine And.intro rfl ?_)
    · repeat' (first | exact trivial | refine And.intro rfl ?_)
    · obtain ⟨hi, hok⟩ := hi
      by_cases hlt : i < l.length
      · have bbk : decide ((i : Int) < ((l.map aK).length : Int)) = false → False := fun h => by have := of_decide_eq_false h; omega
        have hx := pf hlt
        rw [vA hlt] at hok
        have hsx : (aU l i).sl.length ≤ 1000000 := hs _ (by rw [eS hlt]; exact List.getElem_mem hlt)
        generalize aU l i = x at hx hok hsx
        have hle : (i : Int).toNat ≤ (l.map aK).length := by simp; exact hi
        have he : ((l.map aK).take (i : Int).toNat).drop 0 = (l.take i).map aK := by simp [List.map_take]
        have h88 := jo (l.take i) (fun p => p.id == x.id) 86 _ [.ref (aK x)] (Or.inl rfl) (by simp; omega) (fun y _ => Ai x y)
        rw [← he] at h88
        have hlast : (!dh s x ps) = false → 0 ≤ IntKind.i64.wrap (((x.sl.map aG).length : Int) - 1) ∧ (x.sl.map aG)[(IntKind.i64.wrap (((x.sl.map aG).length : Int) - 1)).toNat]? = some [.int .i64 (dx x (x.sl.length - 1)).p, .int .i64 (dx x (x.sl.length - 1)).a, .int .i64 (fc x)] := fun h => by
          have hn := vY (sU h)
          rw [List.length_map, show IntKind.i64.wrap ((x.sl.length : Int) - 1) = ((x.sl.length - 1 : Nat) : Int) from (ap (by omega) (by omega)).trans (by omega)]
          exact ⟨Int.natCast_nonneg _, fT (by omega)⟩
        repeat' first|exact (bbk (by assumption)).elim|refine Q1 ?_|refine Q2 ?_|refine Q3 hG aa eQ (by kernel_rfl) ?_|refine Q4 hG aa eQ (by kernel_rfl) ?_|refine Q5 hG aa ?_|refine Q6 hG aa ?_|refine Q7 hG aa ?_|refine Q8 hG aa ?_|refine Q9 rfl ?_|refine QF rfl ?_|refine QC rfl (And.intro (fun h => ?_) (fun h => ?_))|((conv => whnf); first|refine anF ?_|refine anT ?_|refine And.intro (by kernel_rfl) ?_|refine And.intro (Int.natCast_nonneg i) (Exists.intro _ (And.intro hx ?_))|refine Exists.intro _ (And.intro (An s _ ps hsx hps) ?_)|refine Exists.intro _ (And.intro (h88) ?_)|refine And.intro (hlast (by assumption)).1 (Exists.intro _ (And.intro (hlast (by assumption)).2 ?_))|refine And.intro (Int.natCast_nonneg i) (And.intro (Nat.zero_le _) (And.intro hle ?_))|refine And.intro (fun h => ?_) (fun h => ?_)|refine Or.inl ?_|fail)
        all_goals first
          | (refine Ends.mk (Or.inl rfl) (ac (congrArg AV.bool ?_))
             have hb : m6 s ps a b (l.take i) x = false := by
               (try simp only [Bool.not_eq_true', Bool.not_eq_false'] at *)
               unfold m6
               simp only [*, Bool.true_and, Bool.and_true, Bool.false_and, Bool.and_false, Bool.true_or, Bool.or_true, Bool.false_or, Bool.or_false, Bool.not_true, Bool.not_false]
             rw [← hok, hb, Bool.false_and])
          | skip
        have hb : m6 s ps a b (l.take i) x = true := by
          (try simp only [Bool.not_eq_true', Bool.not_eq_false'] at *)
          unfold m6
          simp only [*, Bool.true_and, Bool.and_true, Bool.false_and, Bool.and_false, Bool.true_or, Bool.or_true, Bool.false_or, Bool.or_false, Bool.not_true, Bool.not_false]
        rw [hb, Bool.true_and] at hok
        refine Exists.intro (i + 1) (And.intro ⟨hlt, hok⟩ (And.intro (by omega) (ah ?_ ?_)))
        · refine And.intro (congrArg some (ax (by omega))) ?_
          repeat' (first | exact trivial | refine And.intro rfl ?_)
        · repeat' (first | exact trivial | refine And.intro rfl ?_)
      · have bbk : decide ((i : Int) < ((l.map aK).length : Int)) = true → False := fun h => by have := of_decide_eq_true h; omega
        rw [List.drop_of_length_le (by omega)] at hok
        repeat' first|exact (bbk (by assumption)).elim|refine Q1 ?_|refine Q2 ?_|refine Q3 hG aa eQ (by kernel_rfl) ?_|refine Q4 hG aa eQ (by kernel_rfl) ?_|refine Q5 hG aa ?_|refine Q6 hG aa ?_|refine Q7 hG aa ?_|refine Q8 hG aa ?_|refine Q9 rfl ?_|refine QF rfl ?_|refine QC rfl (And.intro (fun h => ?_) (fun h => ?_))|((conv => whnf); first|refine anF ?_|refine anT ?_|refine And.intro (by kernel_rfl) ?_|refine And.intro (fun h => ?_) (fun h => ?_)|refine Or.inl ?_|fail)
        exact Ends.mk (Or.inl rfl) (ac (congrArg AV.bool hok))
  all_goals refine Ends.mk (Or.inl rfl) (ac (congrArg AV.bool ?_))
  all_goals ((try simp only [Bool.not_eq_true', Bool.not_eq_false'] at *); unfold aO w64; rw [hn8]; clear hlm; simp only [*, Bool.true_and, Bool.and_true, Bool.false_and, Bool.and_false, Bool.true_or, Bool.or_true, Bool.false_or, Bool.or_false, Bool.not_true, Bool.not_false])
end Go.Proofs
namespace Go.Proofs
open Go Go.AI
set_option maxRecDepth 10000
theorem Aj (l : List Opt) : ae Tryz.prog 92 [aM l] (.clo 166 [.ref [aM l]]) := by
  refine ag aa Tryz.func92 rfl (by kernel_rfl) af (Nat.le_of_ble_eq_true rfl) ?_
  intro F n' w0 m0 hG hro h1
  repeat' first|refine Q1 ?_|refine Q2 ?_|refine Q3 hG aa qm (by kernel_rfl) ?_|refine Q4 hG aa qm (by kernel_rfl) ?_|refine Q5 hG aa ?_|refine Q6 hG aa ?_|refine Q7 hG aa ?_|refine Q8 hG aa ?_|refine Q9 rfl ?_|refine QF rfl ?_|refine QC rfl (And.intro (fun h => ?_) (fun h => ?_))|((conv => whnf); first|refine anF ?_|refine anT ?_|refine And.intro (by kernel_rfl) ?_|refine And.intro (fun h => ?_) (fun h => ?_)|refine Or.inl ?_|fail)
  all_goals exact Ends.mk (Or.inl rfl) (ac rfl)
def spA (x : Int × Int) : List AV := [.agg (aF x.1 x.2)]
theorem tk {l : List Opt} {i : Nat} (h : i < l.length) : dp (l.take (i + 1)) = dp (l.take i) ++ slP (aU l i) := by
  rw [List.take_add_one, List.getElem?_eq_getElem h, eS h]
  simp only [dp, List.flatMap_append, Option.toList_some, List.flatMap_cons, List.flatMap_nil, List.append_nil, slP]
theorem AL {l : List Opt} {i j : Nat} (h : i < l.length) (hj : j < (aU l i).sl.length) : (dp l)[(dp (l.take i)).length + j]? = some ((dx (aU l i) j).a, (dx (aU l i) j).b) := by
  have e : dp l = dp (l.take (i + 1)) ++ dp (l.drop (i + 1)) := by
    conv => lhs; rw [← List.take_append_drop (i + 1) l]
    simp only [dp, List.flatMap_append]
  have h1 : j < (slP (aU l i)).length := by simpa [slP] using hj
  rw [e, tk h, List.append_assoc, List.getElem?_append_right (by omega), Nat.add_sub_cancel_left, List.getElem?_append_left h1]
  simp [slP, dx, List.getElem?_eq_getElem hj]
set_option maxHeartbeats 8000000 in
theorem uU (l : List Opt) (hl : l.length ≤ 1000000) (hs : slens l) : kY Tryz.prog spA 166 [.ref [aM l]] (dp l) := by
  refine kY.of Tryz.func166 rfl (by kernel_rfl) af (Nat.le_of_ble_eq_true rfl) rfl ?_
  intro F n m y J Jx hY
  repeat' first|refine MPB.seq ?_|refine MPB.block ?_|refine MPB.reg hY aa dD (by kernel_rfl) ?_|refine MPB.skip ?_|refine MPB.label ?_|refine MPB.ret ?_|refine MPB.exit ?_|refine MPB.condT rfl ?_|refine MPB.condF rfl ?_|refine MPB.cond rfl (And.intro (fun h => ?_) (fun h => ?_))|((conv => whnf); first|refine anF ?_|refine anT ?_|refine And.intro (by kernel_rfl) ?_|refine And.intro (fun h => ?_) (fun h => ?_)|refine Or.inl ?_|fail)
  refine MPB.loop (X := Nat) (fun i => ((false, (dp (l.take i)).length), ⟨[(9, .int .i64 i), (8, .int .i64 (l.map aK).length), (7, aM l), (0, .lit (.func (.yield y) #[] #[]))], []⟩)) (fun i => i ≤ l.length) (fun i => l.length - i) 0 (Nat.zero_le _) rfl (ah ?_ ?_) (fun i hi => ?_)
  · repeat' (first | exact trivial | refine And.intro rfl ?_)
  · repeat' (first | exact trivial | refine And.intro rfl ?_)
  · by_cases hlt : i < l.length
    · have bbk : decide ((i : Int) < ((l.map aK).length : Int)) = false → False := fun h => by have := of_decide_eq_false h; simp at this; omega
      have hx := pf hlt
      have hsx : (aU l i).sl.length ≤ 1000000 := hs _ (by rw [eS hlt]; exact List.getElem_mem hlt)
      have hget := fun (j : Nat) (hj : j < (aU l i).sl.length) => AL hlt hj
      have htk : (dp (l.take (i + 1))).length = (dp (l.take i)).length + (aU l i).sl.length := by rw [tk hlt]; simp [slP]
      generalize aU l i = x at hx hsx hget htk
      have hlm : ((x.sl.map aG).length : Int) = (x.sl.length : Int) := by rw [List.length_map]
      repeat' first|exact (bbk (by assumption)).elim|refine MPB.seq ?_|refine MPB.block ?_|refine MPB.reg hY aa dD (by kernel_rfl) ?_|refine MPB.skip ?_|refine MPB.label ?_|refine MPB.ret ?_|refine MPB.exit ?_|refine MPB.condT rfl ?_|refine MPB.condF rfl ?_|refine MPB.cond rfl (And.intro (fun h => ?_) (fun h => ?_))|((conv => whnf); first|refine anF ?_|refine anT ?_|refine And.intro (by kernel_rfl) ?_|refine And.intro (Int.natCast_nonneg i) (Exists.intro _ (And.intro hx ?_))|refine And.intro (fun h => ?_) (fun h => ?_)|refine Or.inl ?_|fail)
      refine MPB.loop (X := Nat) (fun j => ((false, (dp (l.take i)).length + j), ⟨[(16, .int .i64 j), (15, .int .i64 (x.sl.map aG).length), (14, .sl .no 3 (x.sl.map aG)), (9, .int .i64 i), (8, .int .i64 (l.map aK).length), (7, aM l), (0, .lit (.func (.yield y) #[] #[]))], []⟩)) (fun j => j ≤ x.sl.length) (fun j => x.sl.length - j) 0 (Nat.zero_le _) rfl (ah ?_ ?_) (fun j hj => ?_)
      · repeat' (first | exact trivial | refine And.intro rfl ?_)
      · repeat' (first | exact trivial | refine And.intro rfl ?_)
      · by_cases hjl : j < x.sl.length
        · have bbj : decide ((j : Int) < ((x.sl.map aG).length : Int)) = false → False := fun h => by have := of_decide_eq_false h; omega
          have hy := fT hjl
          have hg := hget j hjl
          have hsl : x.sl.getD j ⟨0, 0, 0⟩ = dx x j := rfl
          rw [hsl] at hy
          generalize dx x j = z at hy hg
          repeat' first|exact (bbj (by assumption)).elim|refine MPB.seq ?_|refine MPB.block ?_|refine MPB.reg hY aa dD (by kernel_rfl) ?_|refine MPB.skip ?_|refine MPB.label ?_|refine MPB.ret ?_|refine MPB.exit ?_|refine MPB.condT rfl ?_|refine MPB.condF rfl ?_|refine MPB.cond rfl (And.intro (fun h => ?_) (fun h => ?_))|((conv => whnf); first|refine anF ?_|refine anT ?_|refine And.intro (by kernel_rfl) ?_|refine And.intro (Int.natCast_nonneg j) (Exists.intro _ (And.intro hy ?_))|refine And.intro (fun h => ?_) (fun h => ?_)|refine Or.inl ?_|fail)
          refine Exists.intro (z.a, z.b) (And.intro hg (And.intro rfl (fun t ht => ?_)))
          subst ht
          refine And.intro ?_ ?_
          · repeat' first|refine MPB.seq ?_|refine MPB.block ?_|refine MPB.reg hY aa dD (by kernel_rfl) ?_|refine MPB.skip ?_|refine MPB.label ?_|refine MPB.ret ?_|refine MPB.exit ?_|refine MPB.condT rfl ?_|refine MPB.condF rfl ?_|refine MPB.cond rfl (And.intro (fun h => ?_) (fun h => ?_))|((conv => whnf); first|refine anF ?_|refine anT ?_|refine And.intro (by kernel_rfl) ?_|refine And.intro (fun h => ?_) (fun h => ?_)|refine Or.inl ?_|fail)
            refine Exists.intro (j + 1) (And.intro hjl (And.intro (by omega) (And.intro rfl (ah ?_ ?_))))
            · refine And.intro (congrArg some (ax (by omega))) ?_
              repeat' (first | exact trivial | refine And.intro rfl ?_)
            · repeat' (first | exact trivial | refine And.intro rfl ?_)
          · repeat' first|refine MPB.seq ?_|refine MPB.block ?_|refine MPB.reg hY aa dD (by kernel_rfl) ?_|refine MPB.skip ?_|refine MPB.label ?_|refine MPB.ret ?_|refine MPB.exit ?_|refine MPB.condT rfl ?_|refine MPB.condF rfl ?_|refine MPB.cond rfl (And.intro (fun h => ?_) (fun h => ?_))|((conv => whnf); first|refine anF ?_|refine anT ?_|refine And.intro (by kernel_rfl) ?_|refine And.intro (fun h => ?_) (fun h => ?_)|refine Or.inl ?_|fail)
            exact gO.mk (Or.inl rfl) (Or.inr rfl)
        · have hge : j = x.sl.length := by omega
          have bbj : decide ((j : Int) < ((x.sl.map aG).length : Int)) = true → False := fun h => by have := of_decide_eq_true h; omega
          repeat' first|exact (bbj (by assumption)).elim|refine MPB.seq ?_|refine MPB.block ?_|refine MPB.reg hY aa dD (by kernel_rfl) ?_|refine MPB.skip ?_|refine MPB.label ?_|refine MPB.ret ?_|refine MPB.exit ?_|refine MPB.condT rfl ?_|refine MPB.condF rfl ?_|refine MPB.cond rfl (And.intro (fun h => ?_) (fun h => ?_))|((conv => whnf); first|refine anF ?_|refine anT ?_|refine And.intro (by kernel_rfl) ?_|refine And.intro (fun h => ?_) (fun h => ?_)|refine Or.inl ?_|fail)
          refine Exists.intro (i + 1) (And.intro hlt (And.intro (by omega) (And.intro (congrArg (Prod.mk false) (by rw [htk, hge])) (ah ?_ ?_))))
          · refine And.intro (congrArg some (ax (by omega))) ?_
            repeat' (first | exact trivial | refine And.intro rfl ?_)
          · repeat' (first | exact trivial | refine And.intro rfl ?_)
    · have bbk : decide ((i : Int) < ((l.map aK).length : Int)) = true → False := fun h => by have := of_decide_eq_true h; simp at this; omega
      have he : l.take i = l := List.take_of_length_le (by omega)
      repeat' first|exact (bbk (by assumption)).elim|refine MPB.seq ?_|refine MPB.block ?_|refine MPB.reg hY aa dD (by kernel_rfl) ?_|refine MPB.skip ?_|refine MPB.label ?_|refine MPB.ret ?_|refine MPB.exit ?_|refine MPB.condT rfl ?_|refine MPB.condF rfl ?_|refine MPB.cond rfl (And.intro (fun h => ?_) (fun h => ?_))|((conv => whnf); first|refine anF ?_|refine anT ?_|refine And.intro (by kernel_rfl) ?_|refine And.intro (fun h => ?_) (fun h => ?_)|refine Or.inl ?_|fail)
      exact gO.mk (Or.inr rfl) (Or.inl (congrArg (Prod.mk false) (by rw [he])))
end Go.Proofs
namespace Go.Proofs
open Go Go.Shelf
def sA : Go.Shelf.Ren := ⟨fun | 6 => 168 | 15 => 190 | 14 => 230 | 28 => 250 | 29 => 251 | 20 => 272 | 21 => 273 | 22 => 274 | 23 => 275 | 24 => 276 | 25 => 277 | 26 => 278 | 27 => 279 | 46 => 306 | 47 => 292 | 48 => 293 | 49 => 307 | 50 => 308 | 57 => 322 | n => n, fun | 22 => 57 | 24 => 74 | 25 => 155 | 3 => 3 | 39 => 254 | 0 => 0 | 53 => 299 | 55 => 301 | 4 => 4 | 46 => 293 | 45 => 292 | 50 => 118 | 5 => 5 | 9 => 9 | 66 => 325 | 70 => 329 | 76 => 346 | 77 => 347 | n => n, fun | n => n⟩
theorem sB : Go.Proofs.SlLaysF0.n6 Tryz.prog sA where
  mixed := by kernel_rfl
  f6 := ⟨Tryz.f168.name, by kernel_rfl, Tryz.func168.trans (congrArg some (by kernel_rfl))⟩
  f14 := ⟨Tryz.f230.name, by kernel_rfl, Tryz.func230.trans (congrArg some (by kernel_rfl))⟩
  f15 := Tryz.func190.trans (congrArg some (by kernel_rfl))
  f20 := ⟨Tryz.f272.name, by kernel_rfl, Tryz.func272.trans (congrArg some (by kernel_rfl))⟩
  f21 := ⟨Tryz.f273.name, by kernel_rfl, Tryz.func273.trans (congrArg some (by kernel_rfl))⟩
  f22 := ⟨Tryz.f274.name, by kernel_rfl, Tryz.func274.trans (congrArg some (by kernel_rfl))⟩
  f23 := ⟨Tryz.f275.name, by kernel_rfl, Tryz.func275.trans (congrArg some (by kernel_rfl))⟩
  f24 := ⟨Tryz.f276.name, by kernel_rfl, Tryz.func276.trans (congrArg some (by kernel_rfl))⟩
  f25 := ⟨Tryz.f277.name, by kernel_rfl, Tryz.func277.trans (congrArg some (by kernel_rfl))⟩
  f26 := ⟨Tryz.f278.name, by kernel_rfl, Tryz.func278.trans (congrArg some (by kernel_rfl))⟩
  f27 := ⟨Tryz.f279.name, by kernel_rfl, Tryz.func279.trans (congrArg some (by kernel_rfl))⟩
  f28 := Tryz.func250.trans (congrArg some (by kernel_rfl))
  f29 := Tryz.func251.trans (congrArg some (by kernel_rfl))
  f46 := ⟨Tryz.f306.name, by kernel_rfl, Tryz.func306.trans (congrArg some (by kernel_rfl))⟩
  f47 := Tryz.func292.trans (congrArg some (by kernel_rfl))
  f48 := Tryz.func293.trans (congrArg some (by kernel_rfl))
  f49 := ⟨Tryz.f307.name, by kernel_rfl, Tryz.func307.trans (congrArg some (by kernel_rfl))⟩
  f50 := ⟨Tryz.f308.name, by kernel_rfl, Tryz.func308.trans (congrArg some (by kernel_rfl))⟩
  f57 := ⟨Tryz.f322.name, by kernel_rfl, Tryz.func322.trans (congrArg some (by kernel_rfl))⟩
  t0 := Tryz.underlying0
  a0 := Tryz.isAgg0
  z0 := Tryz.sizeOf0
  v0 := Tryz.zeroValue0
  t3 := Tryz.underlying3
  a3 := Tryz.isAgg3
  z3 := Tryz.sizeOf3
  v3 := Tryz.zeroValue3
  t4 := Tryz.underlying4
  a4 := Tryz.isAgg4
  z4 := Tryz.sizeOf4
  v4 := Tryz.zeroValue4
  t5 := Tryz.underlying5
  a5 := Tryz.isAgg5
  z5 := Tryz.sizeOf5
  v5 := Tryz.zeroValue5
  t9 := Tryz.underlying9
  a9 := Tryz.isAgg9
  z9 := Tryz.sizeOf9
  v9 := Tryz.zeroValue9
  t22 := Tryz.underlying57
  a22 := Tryz.isAgg57
  z22 := Tryz.sizeOf57
  v22 := Tryz.zeroValue57
  t25 := Tryz.underlying155
  a25 := Tryz.isAgg155
  z25 := Tryz.sizeOf155
  v25 := Tryz.zeroValue155
  t39 := Tryz.underlying254
  a39 := Tryz.isAgg254
  z39 := Tryz.sizeOf254
  v39 := Tryz.zeroValue254
  t45 := Tryz.underlying292
  a45 := Tryz.isAgg292
  z45 := Tryz.sizeOf292
  v45 := Tryz.zeroValue292
  t46 := Tryz.underlying293
  a46 := Tryz.isAgg293
  z46 := Tryz.sizeOf293
  v46 := Tryz.zeroValue293
  t50 := Tryz.underlying118
  a50 := Tryz.isAgg118
  z50 := Tryz.sizeOf118
  v50 := Tryz.zeroValue118
  t53 := Tryz.underlying299
  a53 := Tryz.isAgg299
  z53 := Tryz.sizeOf299
  v53 := Tryz.zeroValue299
  t55 := Tryz.underlying301
  a55 := Tryz.isAgg301
  z55 := Tryz.sizeOf301
  v55 := Tryz.zeroValue301
  t66 := Tryz.underlying325
  a66 := Tryz.isAgg325
  z66 := Tryz.sizeOf325
  v66 := Tryz.zeroValue325
  t70 := Tryz.underlying329
  a70 := Tryz.isAgg329
  z70 := Tryz.sizeOf329
  v70 := Tryz.zeroValue329
  t76 := Tryz.underlying346
  a76 := Tryz.isAgg346
  z76 := Tryz.sizeOf346
  v76 := Tryz.zeroValue346
  t77 := Tryz.underlying347
  a77 := Tryz.isAgg347
  z77 := Tryz.sizeOf347
  v77 := Tryz.zeroValue347
end Go.Proofs
namespace Go.Proofs
open Go Go.Shelf
def sw : Go.Shelf.Ren := ⟨fun | 6 => 172 | 15 => 190 | 14 => 235 | 28 => 250 | 29 => 251 | 20 => 280 | 21 => 281 | 22 => 282 | 23 => 283 | 24 => 284 | 25 => 285 | 26 => 286 | 27 => 287 | 46 => 309 | 47 => 292 | 48 => 293 | 49 => 310 | 50 => 311 | 57 => 323 | n => n, fun | 22 => 239 | 24 => 241 | 25 => 243 | 3 => 3 | 39 => 254 | 0 => 0 | 53 => 299 | 55 => 301 | 4 => 4 | 46 => 293 | 45 => 292 | 50 => 118 | 5 => 5 | 9 => 9 | 66 => 325 | 70 => 329 | 76 => 346 | 77 => 347 | n => n, fun | n => n⟩
theorem sx : Go.Proofs.SlLaysF0.n6 Tryz.prog sw where
  mixed := by kernel_rfl
  f6 := ⟨Tryz.f172.name, by kernel_rfl, Tryz.func172.trans (congrArg some (by kernel_rfl))⟩
  f14 := ⟨Tryz.f235.name, by kernel_rfl, Tryz.func235.trans (congrArg some (by kernel_rfl))⟩
  f15 := Tryz.func190.trans (congrArg some (by kernel_rfl))
  f20 := ⟨Tryz.f280.name, by kernel_rfl, Tryz.func280.trans (congrArg some (by kernel_rfl))⟩
  f21 := ⟨Tryz.f281.name, by kernel_rfl, Tryz.func281.trans (congrArg some (by kernel_rfl))⟩
  f22 := ⟨Tryz.f282.name, by kernel_rfl, Tryz.func282.trans (congrArg some (by kernel_rfl))⟩
  f23 := ⟨Tryz.f283.name, by kernel_rfl, Tryz.func283.trans (congrArg some (by kernel_rfl))⟩
  f24 := ⟨Tryz.f284.name, by kernel_rfl, Tryz.func284.trans (congrArg some (by kernel_rfl))⟩
  f25 := ⟨Tryz.f285.name, by kernel_rfl, Tryz.func285.trans (congrArg some (by kernel_rfl))⟩
  f26 := ⟨Tryz.f286.name, by kernel_rfl, Tryz.func286.trans (congrArg some (by kernel_rfl))⟩
  f27 := ⟨Tryz.f287.name, by kernel_rfl, Tryz.func287.trans (congrArg some (by kernel_rfl))⟩
  f28 := Tryz.func250.trans (congrArg some (by kernel_rfl))
  f29 := Tryz.func251.trans (congrArg some (by kernel_rfl))
  f46 := ⟨Tryz.f309.name, by kernel_rfl, Tryz.func309.trans (congrArg some (by kernel_rfl))⟩
  f47 := Tryz.func292.trans (congrArg some (by kernel_rfl))
  f48 := Tryz.func293.trans (congrArg some (by kernel_rfl))
  f49 := ⟨Tryz.f310.name, by kernel_rfl, Tryz.func310.trans (congrArg some (by kernel_rfl))⟩
  f50 := ⟨Tryz.f311.name, by kernel_rfl, Tryz.func311.trans (congrArg some (by kernel_rfl))⟩
  f57 := ⟨Tryz.f323.name, by kernel_rfl, Tryz.func323.trans (congrArg some (by kernel_rfl))⟩
  t0 := Tryz.underlying0
  a0 := Tryz.isAgg0
  z0 := Tryz.sizeOf0
  v0 := Tryz.zeroValue0
  t3 := Tryz.underlying3
  a3 := Tryz.isAgg3
  z3 := Tryz.sizeOf3
  v3 := Tryz.zeroValue3
  t4 := Tryz.underlying4
  a4 := Tryz.isAgg4
  z4 := Tryz.sizeOf4
  v4 := Tryz.zeroValue4
  t5 := Tryz.underlying5
  a5 := Tryz.isAgg5
  z5 := Tryz.sizeOf5
  v5 := Tryz.zeroValue5
  t9 := Tryz.underlying9
  a9 := Tryz.isAgg9
  z9 := Tryz.sizeOf9
  v9 := Tryz.zeroValue9
  t22 := Tryz.underlying239
  a22 := Tryz.isAgg239
  z22 := Tryz.sizeOf239
  v22 := Tryz.zeroValue239
  t25 := Tryz.underlying243
  a25 := Tryz.isAgg243
  z25 := Tryz.sizeOf243
  v25 := Tryz.zeroValue243
  t39 := Tryz.underlying254
  a39 := Tryz.isAgg254
  z39 := Tryz.sizeOf254
  v39 := Tryz.zeroValue254
  t45 := Tryz.underlying292
  a45 := Tryz.isAgg292
  z45 := Tryz.sizeOf292
  v45 := Tryz.zeroValue292
  t46 := Tryz.underlying293
  a46 := Tryz.isAgg293
  z46 := Tryz.sizeOf293
  v46 := Tryz.zeroValue293
  t50 := Tryz.underlying118
  a50 := Tryz.isAgg118
  z50 := Tryz.sizeOf118
  v50 := Tryz.zeroValue118
  t53 := Tryz.underlying299
  a53 := Tryz.isAgg299
  z53 := Tryz.sizeOf299
  v53 := Tryz.zeroValue299
  t55 := Tryz.underlying301
  a55 := Tryz.isAgg301
  z55 := Tryz.sizeOf301
  v55 := Tryz.zeroValue301
  t66 := Tryz.underlying325
  a66 := Tryz.isAgg325
  z66 := Tryz.sizeOf325
  v66 := Tryz.zeroValue325
  t70 := Tryz.underlying329
  a70 := Tryz.isAgg329
  z70 := Tryz.sizeOf329
  v70 := Tryz.zeroValue329
  t76 := Tryz.underlying346
  a76 := Tryz.isAgg346
  z76 := Tryz.sizeOf346
  v76 := Tryz.zeroValue346
  t77 := Tryz.underlying347
  a77 := Tryz.isAgg347
  z77 := Tryz.sizeOf347
  v77 := Tryz.zeroValue347
end Go.Proofs
namespace Go.Proofs
open Go Go.AI
set_option maxRecDepth 10000
def l3 (x : ar) : List Int := [x.k, x.a, x.b]
instance : Inhabited ar := ⟨⟨0, 0, 0⟩⟩
def wl (x y : ar) : Int := orS [el x.k y.k, el x.a y.a]
theorem qg (x y : ar) : ae Tryz.prog 93 [.agg (aH x), .agg (aH y)] (.int .i64 (wl x y)) := by
  refine ag aa Tryz.func93 rfl (by kernel_rfl) af (Nat.le_of_ble_eq_true rfl) ?_
  intro F n' w0 m0 hG hro h1
  repeat' first|refine Q1 ?_|refine Q2 ?_|refine Q3 hG aa ql (by kernel_rfl) ?_|refine Q4 hG aa ql (by kernel_rfl) ?_|refine Q5 hG aa ?_|refine Q6 hG aa ?_|refine Q7 hG aa ?_|refine Q8 hG aa ?_|refine Q9 rfl ?_|refine QF rfl ?_|refine QC rfl (And.intro (fun h => ?_) (fun h => ?_))|((conv => whnf); first|refine anF ?_|refine anT ?_|refine And.intro (by kernel_rfl) ?_|refine Exists.intro _ (And.intro (kW _ _) ?_)|refine Exists.intro _ (And.intro (sL [el x.k y.k, el x.a y.a] (Nat.le_of_ble_eq_true rfl)) ?_)|refine And.intro (fun h => ?_) (fun h => ?_)|refine Or.inl ?_|fail)
  all_goals exact Ends.mk (Or.inl rfl) (ac rfl)
def lO (x y : ar) : Bool := (x.k == y.k) && decide (y.a ≤ x.b)
theorem xZ (x y : ar) : ae Tryz.prog 97 [.agg (aH x), .agg (aH y)] (.tup [.agg (aH ⟨x.k, x.a, max x.b y.b⟩), .bool (lO x y)]) := by
  refine ag aa Tryz.func97 rfl (by kernel_rfl) af (Nat.le_of_ble_eq_true rfl) ?_
  intro F n' w0 m0 hG hro h1
  repeat' first|refine Q1 ?_|refine Q2 ?_|refine Q3 hG aa qj (by kernel_rfl) ?_|refine Q4 hG aa qj (by kernel_rfl) ?_|refine Q5 hG aa ?_|refine Q6 hG aa ?_|refine Q7 hG aa ?_|refine Q8 hG aa ?_|refine Q9 rfl ?_|refine QF rfl ?_|refine QC rfl (And.intro (fun h => ?_) (fun h => ?_))|((conv => whnf); first|refine anF ?_|refine anT ?_|refine And.intro (by kernel_rfl) ?_|refine And.intro (fun h => ?_) (fun h => ?_)|refine Or.inl ?_|fail)
  all_goals refine Ends.mk (Or.inl rfl) (ac (congrArg (fun z => AV.tup [.agg (aH ⟨x.k, x.a, max x.b y.b⟩), .bool z]) ?_))
  all_goals simp only [lO, *, Bool.true_and, Bool.and_true, Bool.false_and, Bool.and_false, Bool.true_or, Bool.or_true, Bool.false_or, Bool.or_false, Bool.not_true, Bool.not_false]
theorem yR (x y : ar) : ltOf wl x y = true ↔ x.k < y.k ∨ (x.k = y.k ∧ x.a < y.a) := by
  unfold ltOf wl
  simp only [orS, el, decide_eq_true_eq]
  by_cases h1 : x.k < y.k <;> by_cases h2 : y.k < x.k <;> by_cases h3 : x.a < y.a <;> by_cases h4 : y.a < x.a <;> simp [h1, h2, h3, h4] <;> omega
theorem uI (x y : ar) : ltOf wl x y = false ↔ leL y x := by
  have h := yR x y
  unfold leL
  cases hb : ltOf wl x y with
  | true => have := h.1 hb; simp; omega
  | false =>
    have : ¬ (x.k < y.k ∨ (x.k = y.k ∧ x.a < y.a)) := fun g => by rw [h.2 g] at hb; cases hb
    simp; omega
theorem Bw : Sort.SWO (ltOf wl) where
  irrefl x := by rw [uI]; unfold leL; omega
  trans x y z h1 h2 := by rw [yR] at *; omega
  ntrans x y z h1 h2 := by rw [uI] at *; unfold leL at *; omega
theorem sy (l : List ar) (hl : l.length ≤ 1000000) : dF Tryz.prog 168 3 (l.map l3) [.fn 93] (fun r rows => r = .tup [] ∧ ∃ l' : List ar, l'.Perm l ∧ l'.Pairwise (fun x y => ltOf wl y x = false) ∧ rows = l'.map l3) :=
  dF.sort l3 3 wl sB (fun _ => rfl) Tryz.isAgg74 Tryz.sizeOf74 Bw (fun x y => qg x y) (qg ⟨0, 0, 0⟩ ⟨0, 0, 0⟩).enters (enters_of Tryz.func168 (by kernel_rfl) rfl) l (by omega)
theorem yI (l : List ar) : bu (l.map l3) = l.map aH := by simp [bu, l3, aH]
def yw : List ar → List (Nat × AV)
  | [] => [(7, .sl .full 0 [])]
  | x :: r => [(7, .me .sl 46 (x :: r).length []), (xk 46, .me .arr 46 3 ((x :: r).map aH))]
theorem jE (o : List ar) (z : ar) : yw (o ++ [z]) = [(7, .me .sl 46 (o.length + 1) []), (xk 46, .me .arr 46 3 ((o ++ [z]).map aH))] := by
  cases o with
  | nil => rfl
  | cons x r => simp [yw]
theorem vm (o : List ar) (z x : ar) : yw (o ++ [z] ++ [x]) = [(7, .me .sl 46 (o.length + 1 + 1) []), (xk 46, .me .arr 46 3 ((o ++ [z]).map aH ++ [aH x]))] := by
  rw [jE, List.map_append, List.length_append]; rfl
theorem rk {α : Type} (a b : α) : ∀ l : List α, dn (l ++ [a]) l.length b = l ++ [b]
  | [] => rfl
  | x :: l => by simp only [List.cons_append, List.length_cons, dn, rk a b l]
theorem zr {l : List ar} (h : l ≠ []) : ∃ o z, dL l = o ++ [z] := by
  rcases bT l with rfl | ⟨m, x, rfl⟩
  · exact absurd rfl h
  · rw [dL, List.foldl_append]
    show ∃ o z, eJ (dL m) x = o ++ [z]
    rcases bT (dL m) with e | ⟨o, y, e⟩
    · rw [e]; exact ⟨[], x, rfl⟩
    · rw [e, jN]
      split
      · exact ⟨o, _, rfl⟩
      · exact ⟨o ++ [y], x, rfl⟩
set_option maxHeartbeats 8000000 in
theorem xW (l : List ar) (hl : l.length ≤ 1000000) (hne : l ≠ []) : dF Tryz.prog 96 3 (l.map l3) [.fn 93, .fn 97] (fun r _ => ∃ l' : List ar, l'.Perm l ∧ l'.Pairwise leL ∧ r = bt (dL l')) := by
  refine dF.ofRebase aa Tryz.func96 rfl (by kernel_rfl) af (Nat.le_of_ble_eq_true rfl) (by kernel_rfl) (by kernel_rfl) (by kernel_rfl) 2 (by kernel_rfl) ?_
  intro F n' b cap hro h1 w0 m0 hG
  refine SPB.out ?_
  refine Q4 hG aa bg (by kernel_rfl) ?_
  conv => whnf
  refine And.intro rfl ?_
  conv => whnf
  refine And.intro rfl (And.intro rfl (And.intro rfl (Exists.intro _ (And.intro (sy l hl) ?_))))
  rintro r rows ⟨rfl, l', hp, hs, rfl⟩ _ _
  conv => whnf
  intro _ _ w2 m2 hG2
  rw [yI l']
  have hle : l'.Pairwise leL := hs.imp fun h => (uI _ _).1 h
  have hn' : l'.length = l.length := hp.length_eq
  have hpos : 0 < l'.length := by rw [hn']; exact List.length_pos_iff.2 hne
  clear hG
  have hG := hG2
  refine SPB.out ?_
  refine Q1 ?_
  refine SPB.regN hG aa bg [7] (by kernel_rfl) ?_
  conv => whnf
  repeat' first|refine Q1 ?_|refine Q2 ?_|refine Q3 hG aa bg (by kernel_rfl) ?_|refine Q4 hG aa bg (by kernel_rfl) ?_|refine Q5 hG aa ?_|refine Q6 hG aa ?_|refine Q7 hG aa ?_|refine Q8 hG aa ?_|refine Q9 rfl ?_|refine QF rfl ?_|refine QC rfl (And.intro (fun h => ?_) (fun h => ?_))|((conv => whnf); first|refine anF ?_|refine anT ?_|refine And.intro (by kernel_rfl) ?_|refine And.intro (fun h => ?_) (fun h => ?_)|refine Or.inl ?_|fail)
  refine az (X := Nat) (fun i => ⟨(18, .int .i64 i) :: (17, .int .i64 (l'.map aH).length) :: (16, bt l') :: (2, .fn 97) :: yw (dL (l'.take i)), []⟩) (fun i => i ≤ l'.length) (fun i => l'.length - i) 0 (Nat.zero_le _) (ah ?_ ?_) (fun i hi => ?_)
  · repeat' (first | exact trivial | refine And.intro rfl ?_)
  · repeat' (first | exact trivial | refine And.intro rfl ?_)
  · by_cases hlt : i < l'.length
    · have bbk : decide ((i : Int) < ((l'.map aH).length : Int)) = false → False := fun h => by have := of_decide_eq_false h; simp at this; omega
      have hx : (l'.map aH)[(i : Int).toNat]? = some (aH l'[i]) := by simp [List.getElem?_eq_getElem hlt]
      have hsn : dL (l'.take (i + 1)) = eJ (dL (l'.take i)) l'[i] := by
        rw [dL, List.take_add_one, List.getElem?_eq_getElem hlt, List.foldl_append]; rfl
      have hbd : (dL (l'.take i)).length ≤ i := by
        have := l9 (l'.take i) []
        simp only [List.length_nil, Nat.zero_add, List.length_take] at this
        unfold dL; omega
      generalize l'[i] = x at hx hsn
      generalize dL (l'.take i) = out at hsn hbd
      rcases bT out with rfl | ⟨o, z, rfl⟩
      · have bb0 : decide ((([] : List (List AV)).length : Int) > 0) = true → False := fun h => by simp at h
        have bb1 : decide ((0 : Int) > 0) = true → False := fun h => by simp at h
        repeat' first|exact (bbk (by assumption)).elim|exact (bb0 (by assumption)).elim|exact (bb1 (by assumption)).elim|refine Q1 ?_|refine Q2 ?_|refine Q3 hG aa bg (by kernel_rfl) ?_|refine Q4 hG aa bg (by kernel_rfl) ?_|refine Q5 hG aa ?_|refine Q6 hG aa ?_|refine Q7 hG aa ?_|refine Q8 hG aa ?_|refine Q9 rfl ?_|refine QF rfl ?_|refine QC rfl (And.intro (fun h => ?_) (fun h => ?_))|((conv => whnf); first|refine anF ?_|refine anT ?_|refine And.intro (by kernel_rfl) ?_|refine And.intro (Int.natCast_nonneg i) (Exists.intro _ (And.intro hx ?_))|refine Or.inr (And.intro rfl (And.intro (Nat.le_of_ble_eq_true rfl) (And.intro (Nat.le_of_ble_eq_true rfl) (And.intro (Nat.le_of_ble_eq_true rfl) ?_))))|refine And.intro (fun h => ?_) (fun h => ?_)|refine Or.inl ?_|fail)
        refine Exists.intro (i + 1) (And.intro hlt (And.intro (by omega) ?_))
        dsimp only
        rw [hsn, show eJ [] x = [x] from rfl]
        refine ah (And.intro (congrArg some (ax (by omega))) ?_) ?_
        · repeat' (first | exact trivial | refine And.intro rfl ?_)
        · repeat' (first | exact trivial | refine And.intro rfl ?_)
      · rw [jE]
        have hgt : decide (((o.length + 1 : Nat) : Int) > 0) = false → False := fun h => by have := of_decide_eq_false h; omega
        have hbo : o.length + 1 ≤ i := by simpa using hbd
        have hln : ((o ++ [z]).map aH).length = o.length + 1 := by simp
        have hw : IntKind.i64.wrap (((o.length + 1 : Nat) : Int) - 1) = (o.length : Int) := (ap (by omega) (by omega)).trans (by omega)
        have h0 : 0 ≤ IntKind.i64.wrap (((o.length + 1 : Nat) : Int) - 1) := by rw [hw]; exact Int.natCast_nonneg _
        have hl1 : IntKind.i64.wrap (((o.length + 1 : Nat) : Int) - 1) < ((o.length + 1 : Nat) : Int) := by rw [hw]; omega
        have hz : ((o ++ [z]).map aH)[(IntKind.i64.wrap (((o.length + 1 : Nat) : Int) - 1)).toNat]? = some (aH z) := by rw [hw]; simp
        rw [jN] at hsn
        repeat' first|exact (bbk (by assumption)).elim|exact (hgt (by assumption)).elim|refine Q1 ?_|refine Q2 ?_|refine Q3 hG aa bg (by kernel_rfl) ?_|refine Q4 hG aa bg (by kernel_rfl) ?_|refine Q5 hG aa ?_|refine Q6 hG aa ?_|refine Q7 hG aa ?_|refine Q8 hG aa ?_|refine Q9 rfl ?_|refine QF rfl ?_|refine QC rfl (And.intro (fun h => ?_) (fun h => ?_))|((conv => whnf); first|refine anF ?_|refine anT ?_|refine And.intro (by kernel_rfl) ?_|refine And.intro (Int.natCast_nonneg i) (Exists.intro _ (And.intro hx ?_))|refine And.intro h0 (And.intro hl1 ?_)|refine Exists.intro _ (And.intro hz ?_)|refine Exists.intro _ (And.intro (xZ _ _) ?_)|refine And.intro (Nat.le_of_ble_eq_true rfl) (And.intro (show (((o ++ [z]).map aH).length + 1) * 24 ≤ 70368744177664 by rw [hln]; omega) (And.intro (show ((o ++ [z]).map aH).length + 1 ≤ 4611686018427387904 by rw [hln]; omega) ?_))|refine And.intro (fun h => ?_) (fun h => ?_)|refine Or.inl ?_|fail)
        · have ht := (by assumption : lO z x = true)
          simp only [lO, Bool.and_eq_true, beq_iff_eq, decide_eq_true_eq] at ht
          rw [if_pos ht] at hsn
          refine Exists.intro (i + 1) (And.intro hlt (And.intro (by omega) ?_))
          dsimp only
          rw [hsn, jE]
          refine ah (And.intro (congrArg some (ax (by omega))) (And.intro rfl (And.intro rfl (And.intro rfl (And.intro rfl (And.intro (congrArg (fun q => some (AV.me .arr 46 3 q)) ?_) trivial)))))) ?_
          · rw [hw, Int.toNat_natCast]
            have e := rk (aH z) (aH ⟨z.k, z.a, max z.b x.b⟩) (o.map aH)
            rw [List.length_map] at e
            rw [List.map_append, List.map_append]
            exact e
          · repeat' (first | exact trivial | refine And.intro rfl ?_)
        · have ht := (by assumption : lO z x = false)
          have ht : ¬ (z.k = x.k ∧ x.a ≤ z.b) := fun h => by
            have : lO z x = true := by simp only [lO, Bool.and_eq_true, beq_iff_eq, decide_eq_true_eq]; exact h
            rw [this] at ht; cases ht
          rw [if_neg ht] at hsn
          refine Exists.intro (i + 1) (And.intro hlt (And.intro (by omega) ?_))
          dsimp only
          rw [hsn, vm]
          refine ah (And.intro (congrArg some (ax (by omega))) ?_) ?_
          · repeat' (first | exact trivial | refine And.intro rfl ?_)
          · repeat' (first | exact trivial | refine And.intro rfl ?_)
    · have he : l'.take i = l' := List.take_of_length_le (by omega)
      have bbk : decide ((i : Int) < ((l'.map aH).length : Int)) = true → False := fun h => by have := of_decide_eq_true h; simp at this; omega
      rw [he]
      obtain ⟨o, z, hoz⟩ := zr (l := l') (by intro h; rw [h] at hpos; simp at hpos)
      rw [hoz, jE]
      refine SPB.frz [.tmp 7] ?_
      conv => whnf
      repeat' first|exact (bbk (by assumption)).elim|refine Q1 ?_|refine Q2 ?_|refine Q3 hG aa bg (by kernel_rfl) ?_|refine Q4 hG aa bg (by kernel_rfl) ?_|refine Q5 hG aa ?_|refine Q6 hG aa ?_|refine Q7 hG aa ?_|refine Q8 hG aa ?_|refine Q9 rfl ?_|refine QF rfl ?_|refine QC rfl (And.intro (fun h => ?_) (fun h => ?_))|((conv => whnf); first|refine anF ?_|refine anT ?_|refine And.intro (by kernel_rfl) ?_|refine And.intro (fun h => ?_) (fun h => ?_)|refine Or.inl ?_|fail)
      refine Exists.intro (bt (dL l')) (And.intro ⟨l', hp, hle, rfl⟩ (Ends.mk (Or.inl rfl) (ac ?_)))
      rw [hoz]; rfl
end Go.Proofs
namespace Go.Proofs
open Go Go.AI
set_option maxRecDepth 10000
theorem s5 : ae Tryz.prog 96 [.sl .no 3 [], .fn 93, .fn 97] (bt []) := by
  have ks := ae.sortNil sB (enters_of Tryz.func168 (by kernel_rfl) rfl) 3 93 (o := .no)
  refine ag aa Tryz.func96 rfl (by kernel_rfl) af (Nat.le_of_ble_eq_true rfl) ?_
  intro F n' w0 m0 hG hro h1
  repeat' first|refine Q1 ?_|refine Q2 ?_|refine Q3 hG aa bg (by kernel_rfl) ?_|refine Q4 hG aa bg (by kernel_rfl) ?_|refine Q5 hG aa ?_|refine Q6 hG aa ?_|refine Q7 hG aa ?_|refine Q8 hG aa ?_|refine Q9 rfl ?_|refine QF rfl ?_|refine QC rfl (And.intro (fun h => ?_) (fun h => ?_))|((conv => whnf); first|refine anF ?_|refine anT ?_|refine And.intro (by kernel_rfl) ?_|refine Exists.intro _ (And.intro (ks) ?_)|refine And.intro (fun h => ?_) (fun h => ?_)|refine Or.inl ?_|fail)
  refine az (X := Unit) (fun _ => ⟨[(18, .int .i64 0), (17, .int .i64 0), (7, .sl (.id 7) 3 [])], []⟩) (fun _ => True) (fun _ => 0) () trivial (ah ?_ ?_) (fun i hi => ?_)
  · repeat' (first | exact trivial | refine And.intro rfl ?_)
  · repeat' (first | exact trivial | refine And.intro rfl ?_)
  · have bb : decide ((0 : Int) < 0) = true → False := fun h => by simp at h
    repeat' first|exact (bb (by assumption)).elim|refine Q1 ?_|refine Q2 ?_|refine Q3 hG aa bg (by kernel_rfl) ?_|refine Q4 hG aa bg (by kernel_rfl) ?_|refine Q5 hG aa ?_|refine Q6 hG aa ?_|refine Q7 hG aa ?_|refine Q8 hG aa ?_|refine Q9 rfl ?_|refine QF rfl ?_|refine QC rfl (And.intro (fun h => ?_) (fun h => ?_))|((conv => whnf); first|refine anF ?_|refine anT ?_|refine And.intro (by kernel_rfl) ?_|refine And.intro (fun h => ?_) (fun h => ?_)|refine Or.inl ?_|fail)
    exact Ends.mk (Or.inl rfl) (ac rfl)
def vC (l : List Opt) : Bool := decide (8 < l.length)
theorem Aa (l : List Opt) : BD l = (dp l).any fun x => !cg x.1 x.2 := by
  unfold BD dp
  rw [List.any_flatMap]
  congr 1
  funext o
  rw [List.any_map]; rfl
theorem sm (l : List Opt) : wq l = (vC l || nB l || (dp l).any fun x => !cg x.1 x.2) := by
  unfold wq; rw [Aa]; rfl
theorem xL : kx [] = [] := by simp [kx, dL]
theorem vn (l : List Opt) : (gy l).length = l.length + (dp l).length := by rw [gy, yy]; simp [iB]
set_option maxHeartbeats 16000000 in
theorem xY (l : List Opt) (hl : l.length ≤ 1000000) (hs : slens l) (hsp : (dp l).length ≤ 900000) : ae Tryz.prog 27 [aM l] (bt (au l)) := by
  refine ae.ofBm aa Tryz.func27 rfl (by kernel_rfl) af (Nat.le_of_ble_eq_true rfl) ?_
  intro F n' w0 m0 hG hro h9 hm0
  repeat' first|refine Q1 ?_|refine Q2 ?_|refine Q3 hG aa a7 (by kernel_rfl) ?_|refine Q4 hG aa a7 (by kernel_rfl) ?_|refine Q5 hG aa ?_|refine Q6 hG aa ?_|refine Q7 hG aa ?_|refine Q8 hG aa ?_|refine Q9 rfl ?_|refine QF rfl ?_|refine QC rfl (And.intro (fun h => ?_) (fun h => ?_))|((conv => whnf); first|refine anF ?_|refine anT ?_|refine And.intro (by kernel_rfl) ?_|refine And.intro (fun h => ?_) (fun h => ?_)|refine Or.inl ?_|fail)
  have hn8 : decide (((l.map aK).length : Int) > 8) = vC l := by rw [List.length_map]; exact decide_eq_decide.2 (by omega)
  rw [hn8]
  refine SPB.resize 3 0 1003000 3 rfl rfl ?_
  refine az (X := Nat) (fun i => ⟨[(14, .int .i64 i), (13, .int .i64 (l.map aK).length), (12, aM l), (4, .loc 4 0), (3, .loc 3 0), (0, aM l)], [(4, [.bool (vC l || nB (l.take i))]), (3, [.sl (.id 1003000) 3 ((iB (l.take i)).map aH)])]⟩) (fun i => i ≤ l.length) (fun i => l.length - i) 0 (Nat.zero_le _) (ah ?_ ?_) (fun i hi => ?_)
  · repeat' (first | exact trivial | refine And.intro rfl ?_)
  · refine And.intro (congrArg (fun z => some [AV.bool z]) (by simp [nB])) ?_
    repeat' (first | exact trivial | refine And.intro rfl ?_)
  · by_cases hlt : i < l.length
    · have bbk : decide ((i : Int) < ((l.map aK).length : Int)) = false → False := fun h => by have := of_decide_eq_false h; simp at this; omega
      have hx := pf hlt
      have hsA : iB (l.take (i + 1)) = iB (l.take i) ++ [⟨1, (aU l i).a, (aU l i).b⟩] := by
        rw [List.take_add_one, List.getElem?_eq_getElem hlt, eS hlt]; exact List.map_append
      have hbA : nB (l.take (i + 1)) = (nB (l.take i) || (!cg (aU l i).a (aU l i).b || decide (6 < (aU l i).sl.length))) := by
        rw [List.take_add_one, List.getElem?_eq_getElem hlt, eS hlt]
        unfold nB
        rw [List.any_append]; simp
      have hln : ((iB (l.take i)).map aH).length = i := by simp [iB]; omega
      generalize aU l i = x at hx hsA hbA
      have h6 : decide (((x.sl.map aG).length : Int) > 6) = decide (6 < x.sl.length) := by rw [List.length_map]; exact decide_eq_decide.2 (by omega)
      have hrow : (iB (l.take (i + 1))).map aH = (iB (l.take i)).map aH ++ [[.int .i64 1, .int .i64 x.a, .int .i64 x.b]] := by rw [hsA, List.map_append]; rfl
      generalize (iB (l.take i)).map aH = row at hln hrow
      obtain ⟨wb, hwb⟩ : ∃ wb, wb = (vC l || nB (l.take i)) := ⟨_, rfl⟩
      rw [← hwb]
      have hw2 : (vC l || nB (l.take (i + 1))) = (wb || (!cg x.a x.b || decide (6 < x.sl.length))) := by rw [hbA, hwb, Bool.or_assoc]
      repeat' first|exact (bbk (by assumption)).elim|refine Q1 ?_|refine Q2 ?_|refine Q3 hG aa a7 (by kernel_rfl) ?_|refine Q4 hG aa a7 (by kernel_rfl) ?_|refine Q5 hG aa ?_|refine Q6 hG aa ?_|refine Q7 hG aa ?_|refine Q8 hG aa ?_|refine Q9 rfl ?_|refine QF rfl ?_|refine QC rfl (And.intro (fun h => ?_) (fun h => ?_))|((conv => whnf); first|refine anF ?_|refine anT ?_|refine And.intro (by kernel_rfl) ?_|refine And.intro (Int.natCast_nonneg i) (Exists.intro _ (And.intro hx ?_))|refine Exists.intro _ (And.intro (su _ _) ?_)|refine And.intro (show (row.length + 1) * 24 ≤ 70368744177664 by omega) (And.intro (show row.length + 1 ≤ 4611686018427387904 by omega) ?_)|refine And.intro (fun h => ?_) (fun h => ?_)|refine Or.inl ?_|fail)
      all_goals refine Exists.intro (i + 1) (And.intro hlt (And.intro (by omega) ?_))
      all_goals dsimp only
      all_goals rw [hw2, hrow]
      all_goals refine ah (And.intro (congrArg some (ax (by omega))) ?_) (And.intro (congrArg (fun z => some [AV.bool z]) ?_) ?_)
      all_goals first
        | (clear hwb hw2; simp only [h6, *, Bool.true_and, Bool.and_true, Bool.false_and, Bool.and_false, Bool.true_or, Bool.or_true, Bool.false_or, Bool.or_false, Bool.not_true, Bool.not_false]; done)
        | (repeat' (first | exact trivial | refine And.intro rfl ?_))
    · have bbk : decide ((i : Int) < ((l.map aK).length : Int)) = true → False := fun h => by have := of_decide_eq_true h; simp at this; omega
      have he : l.take i = l := List.take_of_length_le (by omega)
      rw [he]
      repeat' first|exact (bbk (by assumption)).elim|refine Q1 ?_|refine Q2 ?_|refine Q3 hG aa a7 (by kernel_rfl) ?_|refine Q4 hG aa a7 (by kernel_rfl) ?_|refine Q5 hG aa ?_|refine Q6 hG aa ?_|refine Q7 hG aa ?_|refine Q8 hG aa ?_|refine Q9 rfl ?_|refine QF rfl ?_|refine QC rfl (And.intro (fun h => ?_) (fun h => ?_))|((conv => whnf); first|refine anF ?_|refine anT ?_|refine And.intro (by kernel_rfl) ?_|refine Exists.intro _ (And.intro (Aj l) ?_)|refine And.intro (fun h => ?_) (fun h => ?_)|refine Or.inl ?_|fail)
      have hAB : gy l = iB l ++ (dp l).map (mkK 2) := by rw [gy, yy]
      refine ⟨SP.rangeM hG hro (Nat.le_trans (by decide) h9) (α := Int × Int) spA (f := 166) (cap := [.ref [aM l]]) (items := dp l) rfl (uU l hl hs) (fun _ => rfl) (fun _ => [(4, .loc 4 0), (3, .loc 3 0)]) [4, 3] (fun _ => rfl)
        (fun pre => [(4, [.bool (vC l || nB l || pre.any fun x => !cg x.1 x.2)]), (3, [.sl (.id 1003000) 3 ((iB l ++ pre.map (mkK 2)).map aH)])]) (ah ?_ ?_) (by kernel_rfl) (by decide) ?_ ?_⟩
      · repeat' (first | exact trivial | refine And.intro rfl ?_)
      · refine And.intro (congrArg (fun z => some [AV.bool z]) (by simp)) (And.intro (congrArg (fun z => some [AV.sl (.id 1003000) 3 z]) (by simp)) trivial)
      · intro F' n'' m' hG' pre x rest hx
        clear hG
        have hG := hG'
        have hpl : pre.length < 1000000 := by
          have := congrArg List.length hx
          simp at this; omega
        have hrl : (iB l).length ≤ 1000000 := by simp [iB]; omega
        have hrow : (iB l ++ (pre ++ [x]).map (mkK 2)).map aH = (iB l ++ pre.map (mkK 2)).map aH ++ [[.int .i64 2, .int .i64 x.1, .int .i64 x.2]] := by simp [aH, mkK]
        have hln : ((iB l ++ pre.map (mkK 2)).map aH).length ≤ 3000000 := by simp; omega
        generalize (iB l ++ pre.map (mkK 2)).map aH = row at hln hrow
        obtain ⟨wb, hwb⟩ : ∃ wb, wb = (vC l || nB l || pre.any fun x => !cg x.1 x.2) := ⟨_, rfl⟩
        rw [← hwb]
        have hw2 : (vC l || nB l || (pre ++ [x]).any fun x => !cg x.1 x.2) = (wb || !cg x.1 x.2) := by rw [List.any_append, hwb]; simp [Bool.or_assoc]
        refine SPB.out (Q4 hG aa a7 (by kernel_rfl) ?_)
        conv => whnf
        refine And.intro rfl (And.intro (ah ?_ ?_) ?_)
        · repeat' (first | exact trivial | refine And.intro rfl ?_)
        · repeat' (first | exact trivial | refine And.intro rfl ?_)
        refine SPB.out ?_
        repeat' first|refine Q1 ?_|refine Q2 ?_|refine Q3 hG aa a7 (by kernel_rfl) ?_|refine Q4 hG aa a7 (by kernel_rfl) ?_|refine Q5 hG aa ?_|refine Q6 hG aa ?_|refine Q7 hG aa ?_|refine Q8 hG aa ?_|refine Q9 rfl ?_|refine QF rfl ?_|refine QC rfl (And.intro (fun h => ?_) (fun h => ?_))|((conv => whnf); first|refine anF ?_|refine anT ?_|refine And.intro (by kernel_rfl) ?_|refine Exists.intro _ (And.intro (su _ _) ?_)|refine And.intro (show (row.length + 1) * 24 ≤ 70368744177664 by omega) (And.intro (show row.length + 1 ≤ 4611686018427387904 by omega) ?_)|refine And.intro (fun h => ?_) (fun h => ?_)|refine Or.inl ?_|fail)
        all_goals (refine ah ?_ ?_)
        all_goals first
          | (dsimp only; rw [hw2, hrow]; clear hwb hw2; refine And.intro (congrArg (fun z => some [AV.bool z]) ?_) (And.intro rfl trivial); simp only [*, Bool.true_and, Bool.and_true, Bool.false_and, Bool.and_false, Bool.true_or, Bool.or_true, Bool.false_or, Bool.or_false, Bool.not_true, Bool.not_false]; done)
          | (repeat' (first | exact trivial | refine And.intro rfl ?_))
      · conv => whnf
        by_cases hne : gy l = []
        · rw [← hAB, hne]
          repeat' first|refine Q1 ?_|refine Q2 ?_|refine Q3 hG aa a7 (by kernel_rfl) ?_|refine Q4 hG aa a7 (by kernel_rfl) ?_|refine Q5 hG aa ?_|refine Q6 hG aa ?_|refine Q7 hG aa ?_|refine Q8 hG aa ?_|refine Q9 rfl ?_|refine QF rfl ?_|refine QC rfl (And.intro (fun h => ?_) (fun h => ?_))|((conv => whnf); first|refine anF ?_|refine anT ?_|refine And.intro (by kernel_rfl) ?_|refine Exists.intro _ (And.intro (s5) ?_)|refine And.intro (fun h => ?_) (fun h => ?_)|refine Or.inl ?_|fail)
          · refine Ends.mk (Or.inl rfl) (ac ?_)
            rw [au, sm, if_pos ‹_›]; rfl
          · refine Ends.mk (Or.inl rfl) (ac ?_)
            rw [au, hne, xL]; split <;> rfl
        · rw [← hAB]
          repeat' first|refine SPB.oreg (id := 16) hG aa hm0 a7 2 (by kernel_rfl) ?_|refine Q1 ?_|refine Q2 ?_|refine Q3 hG aa a7 (by kernel_rfl) ?_|refine Q4 hG aa a7 (by kernel_rfl) ?_|refine Q5 hG aa ?_|refine Q6 hG aa ?_|refine Q7 hG aa ?_|refine Q8 hG aa ?_|refine Q9 rfl ?_|refine QF rfl ?_|refine QC rfl (And.intro (fun h => ?_) (fun h => ?_))|((conv => whnf); first|refine anF ?_|refine anT ?_|refine And.intro (by kernel_rfl) ?_|refine And.intro (fun h => ?_) (fun h => ?_)|refine Or.inl ?_|fail)
          · refine Ends.mk (Or.inl rfl) (ac ?_)
            rw [au, sm, if_pos ‹_›]; rfl
          · have hb : wq l = false := by rw [sm]; assumption
            have h8 : l.length ≤ 8 := by
              have := hb; unfold wq at this; simp at this; omega
            conv => whnf
            refine Exists.intro ((gy l).map l3) (Exists.intro _ (And.intro (xW (gy l) ?_ hne) (And.intro (yI _).symm (And.intro ?_ (And.intro (by decide) (And.intro ?_ (And.intro rfl ?_)))))))
            · rw [vn]; omega
            · simpa using hne
            · intro x hx; obtain ⟨y, _, rfl⟩ := List.mem_map.1 hx; rfl
            · rintro r rows ⟨l', hp, hle, rfl⟩ _ _
              repeat' first|refine Q1 ?_|refine Q2 ?_|refine Q3 hG aa a7 (by kernel_rfl) ?_|refine Q4 hG aa a7 (by kernel_rfl) ?_|refine Q5 hG aa ?_|refine Q6 hG aa ?_|refine Q7 hG aa ?_|refine Q8 hG aa ?_|refine Q9 rfl ?_|refine QF rfl ?_|refine QC rfl (And.intro (fun h => ?_) (fun h => ?_))|((conv => whnf); first|refine anF ?_|refine anT ?_|refine And.intro (by kernel_rfl) ?_|refine And.intro (fun h => ?_) (fun h => ?_)|refine Or.inl ?_|fail)
              have hg := vR.1 hb
              refine Ends.mk (Or.inl rfl) (ac ?_)
              rw [vH (fun x h => (hg.raw x h).2.2.1) hp hle, ← hg.loads]; rfl
end Go.Proofs
namespace Go.Proofs
open Go Go.AI
set_option maxRecDepth 10000
def p2 (x : Int × Int) : List Int := [x.1, x.2]
def pA (x : Int × Int) : List AV := [.int .i64 x.1, .int .i64 x.2]
def wk (x y : Int × Int) : Int := el x.1 y.1
theorem qU (x y : Int × Int) : ltOf wk y x = false ↔ x.1 ≤ y.1 := by
  unfold ltOf wk
  simp only [el]
  by_cases h1 : y.1 < x.1 <;> by_cases h2 : x.1 < y.1 <;> simp [h1, h2] <;> omega
theorem Db (x y : Int × Int) : ltOf wk x y = true ↔ x.1 < y.1 := by
  have := qU y x
  cases h : ltOf wk x y
  · simp; exact this.1 h
  · simp
    rw [h] at this
    simp at this; exact this
theorem Bv : Sort.SWO (ltOf wk) where
  irrefl x := by rw [qU]; omega
  trans x y z h1 h2 := by rw [Db] at *; omega
  ntrans x y z h1 h2 := by rw [qU] at *; omega
theorem oW (x y : Int × Int) : ae Tryz.prog 173 [.agg (pA x), .agg (pA y)] (.int .i64 (wk x y)) := by
  refine ag aa Tryz.func173 rfl (by kernel_rfl) af (Nat.le_of_ble_eq_true rfl) ?_
  intro F n' w0 m0 hG hro h1
  repeat' first|refine Q1 ?_|refine Q2 ?_|refine Q3 hG aa om (by kernel_rfl) ?_|refine Q4 hG aa om (by kernel_rfl) ?_|refine Q5 hG aa ?_|refine Q6 hG aa ?_|refine Q7 hG aa ?_|refine Q8 hG aa ?_|refine Q9 rfl ?_|refine QF rfl ?_|refine QC rfl (And.intro (fun h => ?_) (fun h => ?_))|((conv => whnf); first|refine anF ?_|refine anT ?_|refine And.intro (by kernel_rfl) ?_|refine Exists.intro _ (And.intro (kW _ _) ?_)|refine And.intro (fun h => ?_) (fun h => ?_)|refine Or.inl ?_|fail)
  all_goals exact Ends.mk (Or.inl rfl) (ac rfl)
theorem sv (l : List (Int × Int)) (hl : l.length ≤ 4000000) : dF Tryz.prog 172 2 (l.map p2) [.fn 173] (fun r rows => r = .tup [] ∧ ∃ l' : List (Int × Int), l'.Perm l ∧ l'.Pairwise (fun x y => ltOf wk y x = false) ∧ rows = l'.map p2) :=
  dF.sort p2 2 wk sx (fun _ => rfl) Tryz.isAgg241 Tryz.sizeOf241 Bv (fun x y => oW x y) (oW (0, 0) (0, 0)).enters (enters_of Tryz.func172 (by kernel_rfl) rfl) l (by omega)
theorem yH (l : List (Int × Int)) : bu (l.map p2) = l.map pA := by simp [bu, p2, pA]
def AR : List (Int × Int) → List (Nat × AV)
  | [] => [(3, .sl .full 0 [])]
  | x :: r => [(3, .me .sl 30 (x :: r).length []), (xk 30, .me .arr 30 2 ((x :: r).map pA))]
theorem xm (z : Int × Int) (o : List (Int × Int)) (a b : Int × Int) : AR (z :: o ++ [a, b]) = [(3, .me .sl 30 ((z :: o).length + 2) []), (xk 30, .me .arr 30 2 ((z :: o).map pA ++ [pA a, pA b]))] := by
  simp [AR]
def rT : Img := ⟨0, 0, 0, 0⟩
theorem xg {l : List Img} {i : Nat} (h : i < l.length) : bp (l.take (i + 1)) = bp (l.take i) ++ [((l.getD i rT).a, (l.getD i rT).u), ((l.getD i rT).b, 0 - (l.getD i rT).u)] := by
  induction l generalizing i with
  | nil => simp at h
  | cons x r ih =>
    cases i with
    | zero => rfl
    | succ i => 
      have := ih (i := i) (by simpa using h)
      simp only [List.take_succ_cons, bp, this, List.getD_cons_succ, List.cons_append]
theorem Bd {l : List Img} {i : Nat} (h : i < l.length) : (l.map gE)[(i : Int).toNat]? = some (gE (l.getD i rT)) := by simp [List.getElem?_eq_getElem h]
theorem o6 : ∀ l : List Img, (bp l).length = 2 * l.length
  | [] => rfl
  | x :: r => by simp only [bp, List.length_cons, o6 r]; omega
theorem vZ (f : Int) (x y : Int × Int) (r : List (Int × Int)) : bv f (x :: y :: r) = if y.1 = x.1 then bv (f + x.2) (y :: r) else (x.1, f + x.2) :: bv (f + x.2) (y :: r) := rfl
theorem ve : ∀ (l : List Img), (∀ x ∈ l, 0 ≤ x.u ∧ x.u ≤ 1000000) → ∀ p ∈ bp l, -1000000 ≤ p.2 ∧ p.2 ≤ 1000000
  | [], _, p, hp => nomatch hp
  | x :: r, h, p, hp => by
    have h1 := h x (.head _)
    simp only [bp, List.mem_cons] at hp
    rcases hp with rfl | rfl | hp
    · dsimp only; omega
    · dsimp only; omega
    · exact ve r (fun y hy => h y (.tail _ hy)) p hp
theorem wi {α : Type} {l : List α} {k : Nat} {a : α} {t : List α} (h : a :: t = l.drop k) : l[k]? = some a ∧ t = l.drop (k + 1) ∧ k < l.length := by
  have h1 : (l.drop k)[0]? = some a := by rw [← h]; rfl
  rw [List.getElem?_drop] at h1
  refine ⟨by simpa using h1, ?_, (List.getElem?_eq_some_iff.1 (by simpa using h1)).1⟩
  have := congrArg List.tail h
  rw [List.tail_drop] at this
  exact this
theorem sJ (l : List Img) : ae Tryz.prog 106 [bV l] (.clo 171 [.ref [bV l]]) := by
  refine ag aa Tryz.func106 rfl (by kernel_rfl) af (Nat.le_of_ble_eq_true rfl) ?_
  intro F n' w0 m0 hG hro h1
  repeat' first|refine Q1 ?_|refine Q2 ?_|refine Q3 hG aa oR (by kernel_rfl) ?_|refine Q4 hG aa oR (by kernel_rfl) ?_|refine Q5 hG aa ?_|refine Q6 hG aa ?_|refine Q7 hG aa ?_|refine Q8 hG aa ?_|refine Q9 rfl ?_|refine QF rfl ?_|refine QC rfl (And.intro (fun h => ?_) (fun h => ?_))|((conv => whnf); first|refine anF ?_|refine anT ?_|refine And.intro (by kernel_rfl) ?_|refine And.intro (fun h => ?_) (fun h => ?_)|refine Or.inl ?_|fail)
  all_goals exact Ends.mk (Or.inl rfl) (ac rfl)
set_option maxHeartbeats 8000000 in
theorem lN (l : List Img) (hl : l.length ≤ 1000000) (hu : ∀ x ∈ l, 0 ≤ x.u ∧ x.u ≤ 1000000) : kY Tryz.prog pA 171 [.ref [bV l]] (aW l) := by
  refine kY.of Tryz.func171 rfl (by kernel_rfl) af (Nat.le_of_ble_eq_true rfl) rfl ?_
  intro F n m y J Jx hY
  have ks := ae.sortNil sx (enters_of Tryz.func172 (by kernel_rfl) rfl) 0 173 (o := .full)
  have hbd := ve l hu
  refine MPB.seq ?_
  refine MPB.sp (by kernel_rfl) (fun W0 m0 hG hms => ?_) hY
  refine SPB.regN hG aa aB [3] (by kernel_rfl) ?_
  conv => whnf
  refine MPB.seq ?_
  refine MPB.sp (by kernel_rfl) (fun W0 m0 hG hms => ?_) hY
  repeat' first|refine Q1 ?_|refine Q2 ?_|refine Q3 hG aa aB (by kernel_rfl) ?_|refine Q4 hG aa aB (by kernel_rfl) ?_|refine Q5 hG aa ?_|refine Q6 hG aa ?_|refine Q7 hG aa ?_|refine Q8 hG aa ?_|refine Q9 rfl ?_|refine QF rfl ?_|refine QC rfl (And.intro (fun h => ?_) (fun h => ?_))|((conv => whnf); first|refine anF ?_|refine anT ?_|refine And.intro (by kernel_rfl) ?_|refine And.intro (fun h => ?_) (fun h => ?_)|refine Or.inl ?_|fail)
  refine az (X := Nat) (fun i => ⟨(11, .int .i64 i) :: (10, .int .i64 (l.map gE).length) :: (9, bV l) :: (0, .lit (.func (.yield y) #[] #[])) :: AR (bp (l.take i)), []⟩) (fun i => i ≤ l.length) (fun i => l.length - i) 0 (Nat.zero_le _) (ah ?_ ?_) (fun i hi => ?_)
  · repeat' (first | exact trivial | refine And.intro rfl ?_)
  · repeat' (first | exact trivial | refine And.intro rfl ?_)
  · by_cases hlt : i < l.length
    · have bbk : decide ((i : Int) < ((l.map gE).length : Int)) = false → False := fun h => by have := of_decide_eq_false h; simp at this; omega
      have hx := Bd hlt
      have hux : 0 ≤ (l.getD i rT).u ∧ (l.getD i rT).u ≤ 1000000 := hu _ (by rw [List.getD_eq_getElem?_getD, List.getElem?_eq_getElem hlt]; exact List.getElem_mem hlt)
      have hst := xg hlt
      have hln : (bp (l.take i)).length = 2 * i := by rw [o6, List.length_take]; omega
      generalize l.getD i rT = x at hx hux hst
      have hng : IntKind.i64.wrap (0 - x.u) = 0 - x.u := (ap (by omega) (by omega)).trans (by omega)
      generalize bp (l.take i) = st at hst hln
      rcases st with _ | ⟨z, o⟩
      · skip
        repeat' first|exact (bbk (by assumption)).elim|refine Q1 ?_|refine Q2 ?_|refine Q3 hG aa aB (by kernel_rfl) ?_|refine Q4 hG aa aB (by kernel_rfl) ?_|refine Q5 hG aa ?_|refine Q6 hG aa ?_|refine Q7 hG aa ?_|refine Q8 hG aa ?_|refine Q9 rfl ?_|refine QF rfl ?_|refine QC rfl (And.intro (fun h => ?_) (fun h => ?_))|((conv => whnf); first|refine anF ?_|refine anT ?_|refine And.intro (by kernel_rfl) ?_|refine And.intro (Int.natCast_nonneg i) (Exists.intro _ (And.intro hx ?_))|refine Or.inr (And.intro rfl (And.intro (Nat.le_of_ble_eq_true rfl) (And.intro (Nat.le_of_ble_eq_true rfl) (And.intro (Nat.le_of_ble_eq_true rfl) ?_))))|refine And.intro (fun h => ?_) (fun h => ?_)|refine Or.inl ?_|fail)
        conv => whnf
        refine Exists.intro (i + 1) (And.intro hlt (And.intro (by omega) ?_))
        rw [hst, hng]
        refine ah (And.intro (congrArg some (ax (by omega))) ?_) ?_
        · repeat' (first | exact trivial | refine And.intro rfl ?_)
        · repeat' (first | exact trivial | refine And.intro rfl ?_)
      · have hml : ((z :: o).map pA).length = 2 * i := by rw [List.length_map]; exact hln
        repeat' first|exact (bbk (by assumption)).elim|refine Q1 ?_|refine Q2 ?_|refine Q3 hG aa aB (by kernel_rfl) ?_|refine Q4 hG aa aB (by kernel_rfl) ?_|refine Q5 hG aa ?_|refine Q6 hG aa ?_|refine Q7 hG aa ?_|refine Q8 hG aa ?_|refine Q9 rfl ?_|refine QF rfl ?_|refine QC rfl (And.intro (fun h => ?_) (fun h => ?_))|((conv => whnf); first|refine anF ?_|refine anT ?_|refine And.intro (by kernel_rfl) ?_|refine And.intro (Int.natCast_nonneg i) (Exists.intro _ (And.intro hx ?_))|refine And.intro (Nat.le_of_ble_eq_true rfl) (And.intro (show (((z :: o).map pA).length + 2) * 16 ≤ 70368744177664 by rw [hml]; omega) (And.intro (show ((z :: o).map pA).length + 2 ≤ 4611686018427387904 by rw [hml]; omega) ?_))|refine And.intro (fun h => ?_) (fun h => ?_)|refine Or.inl ?_|fail)
        conv => whnf
        refine Exists.intro (i + 1) (And.intro hlt (And.intro (by omega) ?_))
        rw [hst, xm, hng]
        refine ah (And.intro (congrArg some (ax (by omega))) ?_) ?_
        · repeat' (first | exact trivial | refine And.intro rfl ?_)
        · repeat' (first | exact trivial | refine And.intro rfl ?_)
    · have he : l.take i = l := List.take_of_length_le (by omega)
      have bbk : decide ((i : Int) < ((l.map gE).length : Int)) = true → False := fun h => by have := of_decide_eq_true h; simp at this; omega
      rw [he]
      have hln := o6 l
      have hbd := hbd
      have hfl := fun (s : List (Int × Int)) (hp : s.Perm (bp l)) (hs : s.Pairwise fun x y => x.1 ≤ y.1) => rY hp hs
      generalize bp l = st at hln hfl hbd
      rcases st with _ | ⟨z, o⟩
      · have hf0 := hfl [] (.refl _) .nil
        repeat' first|exact (bbk (by assumption)).elim|refine Q1 ?_|refine Q2 ?_|refine Q3 hG aa aB (by kernel_rfl) ?_|refine Q4 hG aa aB (by kernel_rfl) ?_|refine Q5 hG aa ?_|refine Q6 hG aa ?_|refine Q7 hG aa ?_|refine Q8 hG aa ?_|refine Q9 rfl ?_|refine QF rfl ?_|refine QC rfl (And.intro (fun h => ?_) (fun h => ?_))|((conv => whnf); first|refine anF ?_|refine anT ?_|refine And.intro (by kernel_rfl) ?_|refine And.intro (fun h => ?_) (fun h => ?_)|refine Or.inl ?_|fail)
        refine MPB.seq ?_
        refine MPB.sp (by kernel_rfl) (fun W0 m0 hG hms => ?_) hY
        refine Q4 hG aa aB (by kernel_rfl) ?_
        repeat' first|refine MPB.sp (c := .region _ _ true) (by kernel_rfl) (fun W0 m0 hG hms => ?_) hY|refine Q3 hG aa aB (by kernel_rfl) ?_|refine MPB.seq ?_|refine MPB.block ?_|refine MPB.reg hY aa aB (by kernel_rfl) ?_|refine MPB.skip ?_|refine MPB.label ?_|refine MPB.ret ?_|refine MPB.exit ?_|refine MPB.condT rfl ?_|refine MPB.condF rfl ?_|refine MPB.cond rfl (And.intro (fun h => ?_) (fun h => ?_))|((conv => whnf); first|refine anF ?_|refine anT ?_|refine And.intro (by kernel_rfl) ?_|refine Exists.intro _ (And.intro (ks) ?_)|refine And.intro (fun h => ?_) (fun h => ?_)|refine Or.inl ?_|fail)
        refine MPB.loop (X := Unit) (fun _ => ((false, 0), ⟨[(36, .int .i64 0), (35, .int .i64 0), (0, .lit (.func (.yield y) #[] #[]))], []⟩)) (fun _ => True) (fun _ => 0) () trivial rfl (ah ?_ ?_) (fun _ _ => ?_)
        · repeat' (first | exact trivial | refine And.intro rfl ?_)
        · repeat' (first | exact trivial | refine And.intro rfl ?_)
        · have bb0 : decide ((0 : Int) < 0) = true → False := fun h => by simp at h
          repeat' first|exact (bb0 (by assumption)).elim|refine MPB.seq ?_|refine MPB.block ?_|refine MPB.reg hY aa aB (by kernel_rfl) ?_|refine MPB.skip ?_|refine MPB.label ?_|refine MPB.ret ?_|refine MPB.exit ?_|refine MPB.condT rfl ?_|refine MPB.condF rfl ?_|refine MPB.cond rfl (And.intro (fun h => ?_) (fun h => ?_))|((conv => whnf); first|refine anF ?_|refine anT ?_|refine And.intro (by kernel_rfl) ?_|refine And.intro (fun h => ?_) (fun h => ?_)|refine Or.inl ?_|fail)
          exact gO.mk (Or.inr rfl) (Or.inl (congrArg (Prod.mk false) (by rw [← hf0]; rfl)))
      · skip
        repeat' first|exact (bbk (by assumption)).elim|refine Q1 ?_|refine Q2 ?_|refine Q3 hG aa aB (by kernel_rfl) ?_|refine Q4 hG aa aB (by kernel_rfl) ?_|refine Q5 hG aa ?_|refine Q6 hG aa ?_|refine Q7 hG aa ?_|refine Q8 hG aa ?_|refine Q9 rfl ?_|refine QF rfl ?_|refine QC rfl (And.intro (fun h => ?_) (fun h => ?_))|((conv => whnf); first|refine anF ?_|refine anT ?_|refine And.intro (by kernel_rfl) ?_|refine And.intro (fun h => ?_) (fun h => ?_)|refine Or.inl ?_|fail)
        refine MPB.seq ?_
        refine MPB.sp (by kernel_rfl) (fun W0 m0 hG hms => ?_) hY
        refine SPB.oregX hG aa aB 1 (by kernel_rfl) ?_
        conv => whnf
        refine Exists.intro ((z :: o).map p2) (Exists.intro _ (And.intro (sv (z :: o) ?_) (And.intro (yH _).symm (And.intro ?_ ?_))))
        · omega
        · intro x hx; obtain ⟨y, _, rfl⟩ := List.mem_map.1 hx; rfl
        · rintro r rows ⟨rfl, s, hp, hs, rfl⟩ _ _
          conv => whnf
          rw [yH]
          have hs' : s.Pairwise fun x y => x.1 ≤ y.1 := hs.imp fun h => (qU _ _).1 h
          have hf := hfl s hp hs'
          have hbs : ∀ p ∈ s, -1000000 ≤ p.2 ∧ p.2 ≤ 1000000 := fun p h => hbd p (hp.mem_iff.1 h)
          have hsl : s.length ≤ 2000000 := by have := hp.length_eq; omega
          repeat' first|refine MPB.seq ?_|refine MPB.block ?_|refine MPB.reg hY aa aB (by kernel_rfl) ?_|refine MPB.skip ?_|refine MPB.label ?_|refine MPB.ret ?_|refine MPB.exit ?_|refine MPB.condT rfl ?_|refine MPB.condF rfl ?_|refine MPB.cond rfl (And.intro (fun h => ?_) (fun h => ?_))|((conv => whnf); first|refine anF ?_|refine anT ?_|refine And.intro (by kernel_rfl) ?_|refine And.intro (fun h => ?_) (fun h => ?_)|refine Or.inl ?_|fail)
          refine MPB.loop (X := Nat × Int × Nat) (fun x => ((false, x.2.2), ⟨[(36, .int .i64 x.1), (35, .int .i64 (s.map pA).length), (34, .sl .no 2 (s.map pA)), (3, .sl .no 2 (s.map pA)), (6, .int .i64 x.2.1), (0, .lit (.func (.yield y) #[] #[]))], []⟩)) (fun x => x.1 ≤ s.length ∧ bv x.2.1 (s.drop x.1) = (aW l).drop x.2.2 ∧ x.2.2 ≤ (aW l).length ∧ -1000000 * (x.1 : Int) ≤ x.2.1 ∧ x.2.1 ≤ 1000000 * (x.1 : Int)) (fun x => s.length - x.1) (0, 0, 0) ⟨Nat.zero_le _, hf, Nat.zero_le _, by decide, by decide⟩ rfl (ah ?_ ?_) (fun x hI => ?_)
          · repeat' (first | exact trivial | refine And.intro rfl ?_)
          · repeat' (first | exact trivial | refine And.intro rfl ?_)
          · obtain ⟨j, f, k⟩ := x
            obtain ⟨hj, hfr, hk, hf1, hf2⟩ := hI
            simp only at hj hfr hk hf1 hf2 ⊢
            by_cases hjl : j < s.length
            · have bbj : decide ((j : Int) < ((s.map pA).length : Int)) = false → False := fun h => by have := of_decide_eq_false h; simp at this; omega
              have hx : (s.map pA)[(j : Int).toNat]? = some (pA s[j]) := by simp [List.getElem?_eq_getElem hjl]
              have hxb := hbs s[j] (List.getElem_mem hjl)
              rw [List.drop_eq_getElem_cons hjl] at hfr
              have hw1 : IntKind.i64.wrap ((j : Int) + 1) = ((j + 1 : Nat) : Int) := (ap (by omega) (by omega)).trans (by omega)
              generalize s[j] = x at hx hxb hfr
              have hwf : IntKind.i64.wrap (f + x.2) = f + x.2 := ap (by omega) (by omega)
              by_cases hj1 : j + 1 < s.length
              · have bb1 : decide (IntKind.i64.wrap ((j : Int) + 1) < ((s.map pA).length : Int)) = false → False := fun h => by rw [hw1] at h; have := of_decide_eq_false h; simp at this; omega
                have hy : (s.map pA)[(IntKind.i64.wrap ((j : Int) + 1)).toNat]? = some (pA s[j + 1]) := by rw [hw1, Int.toNat_natCast]; simp [List.getElem?_eq_getElem hj1]
                have h0 : 0 ≤ IntKind.i64.wrap ((j : Int) + 1) := by rw [hw1]; exact Int.natCast_nonneg _
                rw [List.drop_eq_getElem_cons hj1, vZ, ← List.drop_eq_getElem_cons hj1] at hfr
                generalize s[j + 1] = z at hy hfr
                repeat' first|exact (bbj (by assumption)).elim|exact (bb1 (by assumption)).elim|refine MPB.sp (c := .region _ _ true) (by kernel_rfl) (fun W0 m0 hG hms => ?_) hY|refine Q3 hG aa aB (by kernel_rfl) ?_|refine MPB.seq ?_|refine MPB.block ?_|refine MPB.reg hY aa aB (by kernel_rfl) ?_|refine MPB.skip ?_|refine MPB.label ?_|refine MPB.ret ?_|refine MPB.exit ?_|refine MPB.condT rfl ?_|refine MPB.condF rfl ?_|refine MPB.cond rfl (And.intro (fun h => ?_) (fun h => ?_))|((conv => whnf); first|refine anF ?_|refine anT ?_|refine And.intro (by kernel_rfl) ?_|refine And.intro (Int.natCast_nonneg j) (Exists.intro _ (And.intro hx ?_))|refine And.intro h0 (Exists.intro _ (And.intro hy ?_))|refine And.intro (fun h => ?_) (fun h => ?_)|refine Or.inl ?_|fail)
                · have hzx := beq_iff_eq.1 (by assumption : (z.1 == x.1) = true)
                  rw [if_pos hzx] at hfr
                  refine Exists.intro (j + 1, f + x.2, k) (And.intro ⟨hjl, hfr, hk, show -1000000 * ((j + 1 : Nat) : Int) ≤ f + x.2 by omega, show f + x.2 ≤ 1000000 * ((j + 1 : Nat) : Int) by omega⟩ (And.intro (show s.length - (j + 1) < s.length - j by omega) (And.intro rfl (ah ?_ ?_))))
                  · exact And.intro (congrArg some (ax (by omega))) (And.intro rfl (And.intro rfl (And.intro rfl (And.intro (congrArg (fun z => some (AV.int .i64 z)) hwf) (And.intro rfl trivial)))))
                  · repeat' (first | exact trivial | refine And.intro rfl ?_)
                · have hzx : ¬ z.1 = x.1 := fun h => by have := (by assumption : (z.1 == x.1) = false); rw [h] at this; simp at this
                  rw [if_neg hzx] at hfr
                  obtain ⟨hg1, hg2, hg3⟩ := wi hfr
                  refine Exists.intro (x.1, f + x.2) (And.intro hg1 (And.intro (congrArg (fun z => [AV.int .i64 x.1, AV.int .i64 z]) hwf) (fun t ht => ?_)))
                  subst ht
                  refine And.intro ?_ ?_
                  · skip
                    repeat' first|refine MPB.seq ?_|refine MPB.block ?_|refine MPB.reg hY aa aB (by kernel_rfl) ?_|refine MPB.skip ?_|refine MPB.label ?_|refine MPB.ret ?_|refine MPB.exit ?_|refine MPB.condT rfl ?_|refine MPB.condF rfl ?_|refine MPB.cond rfl (And.intro (fun h => ?_) (fun h => ?_))|((conv => whnf); first|refine anF ?_|refine anT ?_|refine And.intro (by kernel_rfl) ?_|refine And.intro (fun h => ?_) (fun h => ?_)|refine Or.inl ?_|fail)
                    refine Exists.intro (j + 1, f + x.2, k + 1) (And.intro ⟨hjl, hg2, hg3, show -1000000 * ((j + 1 : Nat) : Int) ≤ f + x.2 by omega, show f + x.2 ≤ 1000000 * ((j + 1 : Nat) : Int) by omega⟩ (And.intro (show s.length - (j + 1) < s.length - j by omega) (And.intro rfl (ah ?_ ?_))))
                    · exact And.intro (congrArg some (ax (by omega))) (And.intro rfl (And.intro rfl (And.intro rfl (And.intro (congrArg (fun z => some (AV.int .i64 z)) hwf) (And.intro rfl trivial)))))
                    · repeat' (first | exact trivial | refine And.intro rfl ?_)
                  · skip
                    repeat' first|refine MPB.seq ?_|refine MPB.block ?_|refine MPB.reg hY aa aB (by kernel_rfl) ?_|refine MPB.skip ?_|refine MPB.label ?_|refine MPB.ret ?_|refine MPB.exit ?_|refine MPB.condT rfl ?_|refine MPB.condF rfl ?_|refine MPB.cond rfl (And.intro (fun h => ?_) (fun h => ?_))|((conv => whnf); first|refine anF ?_|refine anT ?_|refine And.intro (by kernel_rfl) ?_|refine And.intro (fun h => ?_) (fun h => ?_)|refine Or.inl ?_|fail)
                    exact gO.mk (Or.inl rfl) (Or.inr rfl)
              · have bb1 : decide (IntKind.i64.wrap ((j : Int) + 1) < ((s.map pA).length : Int)) = true → False := fun h => by rw [hw1] at h; have := of_decide_eq_true h; simp at this; omega
                repeat' first|exact (bbj (by assumption)).elim|exact (bb1 (by assumption)).elim|refine MPB.sp (c := .region _ _ true) (by kernel_rfl) (fun W0 m0 hG hms => ?_) hY|refine Q3 hG aa aB (by kernel_rfl) ?_|refine MPB.seq ?_|refine MPB.block ?_|refine MPB.reg hY aa aB (by kernel_rfl) ?_|refine MPB.skip ?_|refine MPB.label ?_|refine MPB.ret ?_|refine MPB.exit ?_|refine MPB.condT rfl ?_|refine MPB.condF rfl ?_|refine MPB.cond rfl (And.intro (fun h => ?_) (fun h => ?_))|((conv => whnf); first|refine anF ?_|refine anT ?_|refine And.intro (by kernel_rfl) ?_|refine And.intro (Int.natCast_nonneg j) (Exists.intro _ (And.intro hx ?_))|refine And.intro (fun h => ?_) (fun h => ?_)|refine Or.inl ?_|fail)
                have hde : s.drop (j + 1) = [] := List.drop_of_length_le (by omega)
                rw [hde] at hfr
                obtain ⟨hg1, hg2, hg3⟩ := wi (show (x.1, f + x.2) :: [] = (aW l).drop k from hfr)
                rw [← show bv (f + x.2) (s.drop (j + 1)) = [] by rw [hde]; rfl] at hg2
                refine Exists.intro (x.1, f + x.2) (And.intro hg1 (And.intro (congrArg (fun z => [AV.int .i64 x.1, AV.int .i64 z]) hwf) (fun t ht => ?_)))
                subst ht
                refine And.intro ?_ ?_
                · skip
                  repeat' first|refine MPB.seq ?_|refine MPB.block ?_|refine MPB.reg hY aa aB (by kernel_rfl) ?_|refine MPB.skip ?_|refine MPB.label ?_|refine MPB.ret ?_|refine MPB.exit ?_|refine MPB.condT rfl ?_|refine MPB.condF rfl ?_|refine MPB.cond rfl (And.intro (fun h => ?_) (fun h => ?_))|((conv => whnf); first|refine anF ?_|refine anT ?_|refine And.intro (by kernel_rfl) ?_|refine And.intro (fun h => ?_) (fun h => ?_)|refine Or.inl ?_|fail)
                  refine Exists.intro (j + 1, f + x.2, k + 1) (And.intro ⟨hjl, hg2, hg3, show -1000000 * ((j + 1 : Nat) : Int) ≤ f + x.2 by omega, show f + x.2 ≤ 1000000 * ((j + 1 : Nat) : Int) by omega⟩ (And.intro (show s.length - (j + 1) < s.length - j by omega) (And.intro rfl (ah ?_ ?_))))
                  · exact And.intro (congrArg some (ax (by omega))) (And.intro rfl (And.intro rfl (And.intro rfl (And.intro (congrArg (fun z => some (AV.int .i64 z)) hwf) (And.intro rfl trivial)))))
                  · repeat' (first | exact trivial | refine And.intro rfl ?_)
                · skip
                  repeat' first|refine MPB.seq ?_|refine MPB.block ?_|refine MPB.reg hY aa aB (by kernel_rfl) ?_|refine MPB.skip ?_|refine MPB.label ?_|refine MPB.ret ?_|refine MPB.exit ?_|refine MPB.condT rfl ?_|refine MPB.condF rfl ?_|refine MPB.cond rfl (And.intro (fun h => ?_) (fun h => ?_))|((conv => whnf); first|refine anF ?_|refine anT ?_|refine And.intro (by kernel_rfl) ?_|refine And.intro (fun h => ?_) (fun h => ?_)|refine Or.inl ?_|fail)
                  exact gO.mk (Or.inl rfl) (Or.inr rfl)
            · have bbj : decide ((j : Int) < ((s.map pA).length : Int)) = true → False := fun h => by have := of_decide_eq_true h; simp at this; omega
              repeat' first|exact (bbj (by assumption)).elim|refine MPB.sp (c := .region _ _ true) (by kernel_rfl) (fun W0 m0 hG hms => ?_) hY|refine Q3 hG aa aB (by kernel_rfl) ?_|refine MPB.seq ?_|refine MPB.block ?_|refine MPB.reg hY aa aB (by kernel_rfl) ?_|refine MPB.skip ?_|refine MPB.label ?_|refine MPB.ret ?_|refine MPB.exit ?_|refine MPB.condT rfl ?_|refine MPB.condF rfl ?_|refine MPB.cond rfl (And.intro (fun h => ?_) (fun h => ?_))|((conv => whnf); first|refine anF ?_|refine anT ?_|refine And.intro (by kernel_rfl) ?_|refine And.intro (fun h => ?_) (fun h => ?_)|refine Or.inl ?_|fail)
              have hke : k = (aW l).length := by
                rw [List.drop_of_length_le (by omega)] at hfr
                have := congrArg List.length hfr
                simp [bv] at this; omega
              exact gO.mk (Or.inr rfl) (Or.inl (congrArg (Prod.mk false) hke))
end Go.Proofs
