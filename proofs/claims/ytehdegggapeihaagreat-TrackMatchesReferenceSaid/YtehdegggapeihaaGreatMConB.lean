/- Contracts of the functions and plain facts about what they reckon, part 2: called with arguments that read so, each hands back what is typed. The conditions are those typed. -/
import Derived.Test.YtehdegggapeihaaGreatMConA
set_option linter.unusedSectionVars false
set_option linter.unusedVariables false
set_option linter.unusedSimpArgs false
namespace Go.Proofs
open Go Go.AI
set_option maxRecDepth 10000
def i4A (y : Nat → Int) : List AV := [.int .i64 (y 0), .int .i64 (y 1), .int .i64 (y 2), .int .i64 (y 3)]
def Ek (x y : Nat → Int) (i : Nat) : Int := match i with
 | 0 => al 3 24
 | 1 => al (y 0) 4
 | 2 => di x 0
 | 3 => di x 1
 | 4 => di x 2
 | 5 => di x 3
 | 6 => di x 4
 | 7 => di x 5
 | 8 => di x 6
 | 9 => al (y 0) 4
 | 10 => w64 (20 + al (y 1) 200)
 | 11 => w64 (100 + al (y 1) 2000)
 | 12 => al (y 2) 12
 | 13 => al (y 2) 4
 | 14 => w64 (2 + al (y 2) 30)
 | 15 => w64 (1 + al (y 3) 20)
 | 16 => w64 (1 + al (y 3) 9)
 | 17 => w64 (1 + al (y 3) 4)
 | 18 => w64 (5 + al (y 1) 60)
 | 19 => al (w64 ((y 0).tdiv 4)) 4
 | _ => w64 (1 + al (y 2) 9)
set_option maxHeartbeats 4000000 in
theorem CK (x y : Nat → Int) (hx : w64 (2 * w64 (10 + al (x 0) 90)) ≠ 0) : ae Tryz.prog 69 [.int .i64 3, .agg (iu x), .agg (i4A y)] (.agg (aJ (Ek x y))) := by
 refine ah aa Tryz.func69 rfl (by kernel_rfl) af (Nat.le_of_ble_eq_true rfl) ?_
 intro F n' w0 m0 hG hro h1
 repeat' first|refine Q1 ?_|refine Q2 ?_|refine Q3 hG aa pH ?_|refine Q4 hG aa pH ?_|refine Q5 hG aa ?_|refine Q6 hG aa ?_|refine Q7 hG aa ?_|refine Q8 hG aa ?_|refine Q9 rfl ?_|refine QF rfl ?_|refine QC rfl ⟨fun h => ?_,fun h => ?_⟩|((conv => whnf); first|refine anF ?_|refine anT ?_|refine anK ?_|refine Exists.intro _ (And.intro (CZ x hx) ?_)|refine Exists.intro _ (And.intro (CC _ _ (by decide)) ?_)|refine And.intro (show (4 : Int) ≠ 0 by decide) ?_|refine And.intro (by decide) (And.intro (by decide) ?_)|refine And.intro (fun h => ?_) (fun h => ?_)|refine Or.inl ?_)
 all_goals exact Ends.mk (Or.inl rfl) (ac rfl)
def bi (a b : Int) : Bool := inS b 1 1000000 && inS a 0 (w64 (b - 1))
def ar (a b : Int) : List AV := [.int .i64 a, .int .i64 b]
theorem vX (a b : Int) : ae Tryz.prog 184 [.agg (ar a b)] (.bool (bi a b)) := by
 refine ah aa Tryz.func184 rfl (by kernel_rfl) af (Nat.le_of_ble_eq_true rfl) ?_
 intro F n' w0 m0 hG hro h1
 repeat' first|refine Q1 ?_|refine Q2 ?_|refine Q3 hG aa nv ?_|refine Q4 hG aa nv ?_|refine Q5 hG aa ?_|refine Q6 hG aa ?_|refine Q7 hG aa ?_|refine Q8 hG aa ?_|refine Q9 rfl ?_|refine QF rfl ?_|refine QC rfl ⟨fun h => ?_,fun h => ?_⟩|((conv => whnf); first|refine anF ?_|refine anT ?_|refine anK ?_|refine Exists.intro _ (And.intro (vW _ _ _) ?_)|refine And.intro (fun h => ?_) (fun h => ?_)|refine Or.inl ?_)
 all_goals refine Ends.mk (Or.inl rfl) (ac (congrArg AV.bool ?_))
 all_goals (simp only [bi, *, Bool.true_and, Bool.and_true, Bool.false_and, Bool.and_false]; try rfl)
def yh (t a b : Int) : Bool := decide (a ≤ t) && decide (t < b)
theorem vV (a b t : Int) : ae Tryz.prog 186 [.agg (ar a b), .int .i64 t] (.bool (yh t a b)) := by
 refine ah aa Tryz.func186 rfl (by kernel_rfl) af (Nat.le_of_ble_eq_true rfl) ?_
 intro F n' w0 m0 hG hro h1
 repeat' first|refine Q1 ?_|refine Q2 ?_|refine Q3 hG aa nu ?_|refine Q4 hG aa nu ?_|refine Q5 hG aa ?_|refine Q6 hG aa ?_|refine Q7 hG aa ?_|refine Q8 hG aa ?_|refine Q9 rfl ?_|refine QF rfl ?_|refine QC rfl ⟨fun h => ?_,fun h => ?_⟩|((conv => whnf); first|refine anF ?_|refine anT ?_|refine anK ?_|refine And.intro (fun h => ?_) (fun h => ?_)|refine Or.inl ?_)
 all_goals refine Ends.mk (Or.inl rfl) (ac (congrArg AV.bool ?_))
 all_goals (simp_all [yh] <;> omega)
def jC (x y : aq) : Bool := decide (x.k = y.k) && decide (x.a < y.b) && decide (y.a < x.b)
theorem Cx (x y : aq) : ae Tryz.prog 182 [.agg (aw y), .ref (aw x)] (.bool (jC x y)) := by
 refine ah aa Tryz.func182 rfl (by kernel_rfl) af (Nat.le_of_ble_eq_true rfl) ?_
 intro F n' w0 m0 hG hro h1
 repeat' first|refine Q1 ?_|refine Q2 ?_|refine Q3 hG aa ny ?_|refine Q4 hG aa ny ?_|refine Q5 hG aa ?_|refine Q6 hG aa ?_|refine Q7 hG aa ?_|refine Q8 hG aa ?_|refine Q9 rfl ?_|refine QF rfl ?_|refine QC rfl ⟨fun h => ?_,fun h => ?_⟩|((conv => whnf); first|refine anF ?_|refine anT ?_|refine anK ?_|refine And.intro (fun h => ?_) (fun h => ?_)|refine Or.inl ?_)
 all_goals refine Ends.mk (Or.inl rfl) (ac (congrArg AV.bool ?_))
 all_goals (simp_all [jC] <;> (intros; omega))
end Go.Proofs
namespace Go.Proofs
open Go Go.AI
set_option maxRecDepth 10000
def dI (a : Int) (f : Nat → Int) (n : Nat) : List (Int × Int) := (List.range n).map fun (i : Nat) => (a + i, f i)
def jj (c : Int) (r : Int × List Int) (p : Int × Int) : Int × List Int := (min c (w64 (r.1 - p.2)), r.2 ++ [min c (w64 (r.1 - p.2))])
def cg (c : Int) (pre : List (Int × Int)) : Int × List Int := pre.foldl (jj c) (c, [])
theorem fI (c : Int) (pre : List (Int × Int)) (x : Int × Int) : cg c (pre ++ [x]) = jj c (cg c pre) x := by simp [cg, List.foldl_append]
theorem gE (c : Int) (pre : List (Int × Int)) : (cg c pre).2.length = pre.length := by
 suffices h : ∀ (r : Int × List Int), (pre.foldl (jj c) r).2.length = r.2.length + pre.length by simpa [cg] using h (c, [])
 induction pre with
 | nil => intro r; simp
 | cons p t ih => intro r; simp [ih, jj]; omega
end Go.Proofs
namespace Go.Proofs
open Go Go.AI
set_option maxRecDepth 10000
def D9 (s : Nat → Int) (x : aq) : Int := if x.k = 1 then s 14 else s 15
def xe (s : Nat → Int) (t : Int) (n : Int) (x : aq) : Int := if yh t x.a x.b then w64 (n + D9 s x) else n
def jr (s : Nat → Int) (l : List aq) (t : Int) : Int := l.foldl (xe s t) (s 13)
theorem fJ (s : Nat → Int) (l : List aq) (x : aq) (t : Int) : jr s (l ++ [x]) t = xe s t (jr s l t) x := by simp [jr, List.foldl_append]
def dJ (s : Nat → Int) : Nat → Int := fun i => s (i + 2)
def Br (s : Nat → Int) (l : List aq) (lit : Bool) (t : Int) : Int := if lit then w64 (jr s l t - s 12) else jr s l t
end Go.Proofs
namespace Go.Proofs
open Go Go.AI
set_option maxRecDepth 10000
def dz (pre : List aq) (x : aq) : Bool := inS x.k 1 2 && bi x.a x.b && !(pre.any (jC x))
def okL : List aq → List aq → Bool
 | _, [] => true
 | pre, x :: r => dz pre x && okL (pre ++ [x]) r
def bT (l : List aq) : Bool := decide (l.length ≤ 64) && okL [] l
theorem j9 {l : List aq} {i : Nat} (h : i < l.length) : okL (l.take i) (l.drop i) = (dz (l.take i) (l.getD i ⟨0, 0, 0⟩) && okL (l.take (i + 1)) (l.drop (i + 1))) := by
 rw [List.drop_eq_getElem_cons h, List.getD_eq_getElem?_getD, List.getElem?_eq_getElem h, List.take_add_one, List.getElem?_eq_getElem h]; rfl
set_option maxHeartbeats 4000000 in
theorem CG (l : List aq) (hl : l.length ≤ 1000000) : ae Tryz.prog 110 [bn l] (.bool (bT l)) := by
 refine ah aa Tryz.func110 rfl (by kernel_rfl) af (Nat.le_of_ble_eq_true rfl) ?_
 intro F n' w0 m0 hG hro h1
 repeat' first|refine Q1 ?_|refine Q2 ?_|refine Q3 hG aa gg ?_|refine Q4 hG aa gg ?_|refine Q5 hG aa ?_|refine Q6 hG aa ?_|refine Q7 hG aa ?_|refine Q8 hG aa ?_|refine Q9 rfl ?_|refine QF rfl ?_|refine QC rfl ⟨fun h => ?_,fun h => ?_⟩|((conv => whnf); first|refine anF ?_|refine anT ?_|refine anK ?_|refine And.intro (fun h => ?_) (fun h => ?_)|refine Or.inl ?_)
 ·have h64 : ¬ l.length ≤ 64 := by have := of_decide_eq_true (by assumption : decide (((l.map aw).length : Int) > 64) = true); simp at this; omega
  exact Ends.mk (Or.inl rfl) (ac (congrArg AV.bool (by rw [bT, decide_eq_false h64]; rfl)))
 ·have h64 : l.length ≤ 64 := by have := of_decide_eq_false (by assumption : decide (((l.map aw).length : Int) > 64) = false); simp at this; omega
  refine ap (X := Nat) (fun i => ⟨[(11, .int .i64 i), (10, .int .i64 (l.map aw).length), (9, bn l), (0, bn l)], []⟩)
   (fun i => i ≤ l.length ∧ okL (l.take i) (l.drop i) = okL [] l) (fun i => l.length - i) 0 ⟨Nat.zero_le _, rfl⟩ (ag ?_ ?_) (fun i hi => ?_)
  ·repeat' (first | exact trivial | refine And.intro rfl ?_)
  ·repeat' (first | exact trivial | refine And.intro rfl ?_)
  ·obtain ⟨hi, hok⟩ := hi
   have hj : decide ((i : Int) < ((l.map aw).length : Int)) = true → i < l.length := fun h => by have := of_decide_eq_true h; simp at this; omega
   obtain ⟨x, hxd⟩ : ∃ x, x = l.getD i ⟨0, 0, 0⟩ := ⟨_, rfl⟩
   have hx : decide ((i : Int) < ((l.map aw).length : Int)) = true → (l.map aw)[(i : Int).toNat]? = some [.int .i64 x.k, .int .i64 x.a, .int .i64 x.b] := fun h => by have := hj h; rw [hxd]; simp [List.getElem?_eq_getElem this]; rfl
   have hle : (i : Int).toNat ≤ (l.map aw).length := by simp; exact hi
   have he : ((l.map aw).take (i : Int).toNat).drop 0 = (l.take i).map aw := by simp [List.map_take]
   have h88 := Cw (l.take i) (jC x) 182 _ [.ref (aw x)] (Or.inl rfl) (by simp; omega) (fun y _ => Cx x y)
   rw [← he] at h88
   repeat' first|refine Q1 ?_|refine Q2 ?_|refine Q3 hG aa gg ?_|refine Q4 hG aa gg ?_|refine Q5 hG aa ?_|refine Q6 hG aa ?_|refine Q7 hG aa ?_|refine Q8 hG aa ?_|refine Q9 rfl ?_|refine QF rfl ?_|refine QC rfl ⟨fun h => ?_,fun h => ?_⟩|((conv => whnf); first|refine anF ?_|refine anT ?_|refine anK ?_|refine And.intro (Int.natCast_nonneg i) (Exists.intro _ (And.intro (hx (by assumption)) ?_))|refine Exists.intro _ (And.intro (vW _ _ _) ?_)|refine Exists.intro _ (And.intro (vX _ _) ?_)|refine Exists.intro _ (And.intro (h88) ?_)|refine And.intro (Int.natCast_nonneg i) (And.intro (Nat.zero_le _) (And.intro hle ?_))|refine And.intro (fun h => ?_) (fun h => ?_)|refine Or.inl ?_)
   ·have hl := hj (by assumption)
    rw [j9 hl, ← hxd, show dz (l.take i) x = false by simp_all [dz], Bool.false_and] at hok
    exact Ends.mk (Or.inl rfl) (ac (congrArg AV.bool (by rw [bT, ← hok, Bool.and_false])))
   ·have hl := hj (by assumption)
    rw [j9 hl, ← hxd, show dz (l.take i) x = false by simp_all [dz], Bool.false_and] at hok
    exact Ends.mk (Or.inl rfl) (ac (congrArg AV.bool (by rw [bT, ← hok, Bool.and_false])))
   ·have hl := hj (by assumption)
    rw [j9 hl, ← hxd, show dz (l.take i) x = false by simp_all [dz], Bool.false_and] at hok
    exact Ends.mk (Or.inl rfl) (ac (congrArg AV.bool (by rw [bT, ← hok, Bool.and_false])))
   ·have hl := hj (by assumption)
    rw [j9 hl, ← hxd, show dz (l.take i) x = true by simp_all [dz], Bool.true_and] at hok
    refine Exists.intro (i + 1) (And.intro ⟨hl, hok⟩ (And.intro (by omega) (ag ?_ ?_)))
    ·refine And.intro (congrArg some (am (by omega))) ?_
     repeat' (first | exact trivial | refine And.intro rfl ?_)
    ·repeat' (first | exact trivial | refine And.intro rfl ?_)
   ·have hge : l.length ≤ i := by have := of_decide_eq_false (by assumption : decide ((i : Int) < ((l.map aw).length : Int)) = false); simp at this; omega
    rw [List.drop_of_length_le hge] at hok
    refine Ends.mk (Or.inl rfl) (ac (congrArg AV.bool ?_))
    rw [bT, decide_eq_true h64, ← hok]; rfl
def fc (s : Nat → Int) (l : List aq) (a b : Int) : Bool := bi a b && decide (w64 (b - a) ≤ 4320) && bT l && dR s
theorem CL (s : Nat → Int) (l : List aq) (a b : Int) (hl : l.length ≤ 1000000) : ae Tryz.prog 131 [.agg (aJ s), bn l, .agg (ar a b)] (.bool (fc s l a b)) := by
 refine ah aa Tryz.func131 rfl (by kernel_rfl) af (Nat.le_of_ble_eq_true rfl) ?_
 intro F n' w0 m0 hG hro h1
 repeat' first|refine Q1 ?_|refine Q2 ?_|refine Q3 hG aa n5 ?_|refine Q4 hG aa n5 ?_|refine Q5 hG aa ?_|refine Q6 hG aa ?_|refine Q7 hG aa ?_|refine Q8 hG aa ?_|refine Q9 rfl ?_|refine QF rfl ?_|refine QC rfl ⟨fun h => ?_,fun h => ?_⟩|((conv => whnf); first|refine anF ?_|refine anT ?_|refine anK ?_|refine Exists.intro _ (And.intro (vX _ _) ?_)|refine Exists.intro _ (And.intro (CG l hl) ?_)|refine Exists.intro _ (And.intro (oj s) ?_)|refine And.intro (fun h => ?_) (fun h => ?_)|refine Or.inl ?_)
 all_goals refine Ends.mk (Or.inl rfl) (ac (congrArg AV.bool ?_))
 all_goals (have hw : w64 (b - a) = IntKind.i64.wrap (b - a) := rfl)
 all_goals (simp only [fc, *, hw, Bool.true_and, Bool.and_true, Bool.false_and, Bool.and_false])
theorem Cu (c : Int × Int) (t : Int) (h : inS t 0 1000000 = true) (hc : gL c = true) : ae Tryz.prog 263 [.agg (aY c), .ref [.int .i64 t]] (.bool (kh c t)) := by
 refine ah aa Tryz.func263 rfl (by kernel_rfl) af (Nat.le_of_ble_eq_true rfl) ?_
 intro F n' w0 m0 hG hro h1
 repeat' first|refine Q1 ?_|refine Q2 ?_|refine Q3 hG aa m9 ?_|refine Q4 hG aa m9 ?_|refine Q5 hG aa ?_|refine Q6 hG aa ?_|refine Q7 hG aa ?_|refine Q8 hG aa ?_|refine Q9 rfl ?_|refine QF rfl ?_|refine QC rfl ⟨fun h => ?_,fun h => ?_⟩|((conv => whnf); first|refine anF ?_|refine anT ?_|refine anK ?_|refine Exists.intro _ (And.intro (CS c t h hc) ?_)|refine And.intro (fun h => ?_) (fun h => ?_)|refine Or.inl ?_)
 all_goals exact Ends.mk (Or.inl rfl) (ac rfl)
def ly (o : Nat → Int) (t : Int) : Bool := atS o t 0 && !((fz o t).any fun c => kh c t)
theorem C0 (s : Nat → Int) (t : Int) (h : atS (dJ s) t 0 = false) : ae Tryz.prog 206 [.agg (aJ s), .int .i64 t] (.bool (ly (dJ s) t)) := by
 have h26 := C1 (dJ s) t h
 refine ah aa Tryz.func206 rfl (by kernel_rfl) af (Nat.le_of_ble_eq_true rfl) ?_
 intro F n' w0 m0 hG hro h1
 repeat' first|refine Q1 ?_|refine Q2 ?_|refine Q3 hG aa ga ?_|refine Q4 hG aa ga ?_|refine Q5 hG aa ?_|refine Q6 hG aa ?_|refine Q7 hG aa ?_|refine Q8 hG aa ?_|refine Q9 rfl ?_|refine QF rfl ?_|refine QC rfl ⟨fun h => ?_,fun h => ?_⟩|((conv => whnf); first|refine anF ?_|refine anT ?_|refine anK ?_|refine Exists.intro _ (And.intro (h26) ?_)|refine And.intro (fun h => ?_) (fun h => ?_)|refine Or.inl ?_)
 all_goals exact Ends.mk (Or.inl rfl) (ac (congrArg AV.bool (by rw [ly, h]; rfl)))
theorem CD (s : Nat → Int) (t : Int) (h : atS (dJ s) t 0 = true) (hc : ∀ c ∈ fz (dJ s) t, gL c = true) (hn : (fz (dJ s) t).length ≤ 1000000) : ae Tryz.prog 206 [.agg (aJ s), .int .i64 t] (.bool (ly (dJ s) t)) := by
 have h26 := CV (dJ s) t h
 have ht : inS t 0 1000000 = true := by simp only [atS, Bool.and_eq_true] at h; exact h.1.1
 have h94 := Cv (fz (dJ s) t) (fun c => kh c t) 263 _ [.ref [.int .i64 t]] (Or.inl rfl) hn (fun c hm => Cu c t ht (hc c hm))
 refine ah aa Tryz.func206 rfl (by kernel_rfl) af (Nat.le_of_ble_eq_true rfl) ?_
 intro F n' w0 m0 hG hro h1
 repeat' first|refine Q1 ?_|refine Q2 ?_|refine Q3 hG aa ga ?_|refine Q4 hG aa ga ?_|refine Q5 hG aa ?_|refine Q6 hG aa ?_|refine Q7 hG aa ?_|refine Q8 hG aa ?_|refine Q9 rfl ?_|refine QF rfl ?_|refine QC rfl ⟨fun h => ?_,fun h => ?_⟩|((conv => whnf); first|refine anF ?_|refine anT ?_|refine anK ?_|refine Exists.intro _ (And.intro (h26) ?_)|refine Exists.intro _ (And.intro (h94) ?_)|refine And.intro (fun h => ?_) (fun h => ?_)|refine Or.inl ?_)
 all_goals exact Ends.mk (Or.inl rfl) (ac (congrArg AV.bool (by rw [ly, h]; rfl)))
end Go.Proofs
namespace Go.Proofs
open Go Go.AI
set_option maxRecDepth 10000
theorem BT {o : Nat → Int} (h : PV o) {d : Int} (h1 : -1000 ≤ d) (h2 : d ≤ 2000000) : gL (fa o d) = true := by
 have hr := Dp h d
 have l1 := h.l1
 have l3 := h.l3
 have hc : 0 ≤ BN o d ∧ BN o d < 48000 := ⟨Int.emod_nonneg _ (by omega), Int.emod_lt_of_pos _ (by omega)⟩
 have e1 : w64 ((vp o d).tdiv 1000) = BN o d / 1000 := by rw [EC h h1 h2, Int.tdiv_eq_ediv_of_nonneg hc.1]; exact ai (by omega) (by omega)
 have e2 : w64 ((uG o d).tdiv 1000) = yI o d / 1000 := by rw [El h h1 h2, Int.tdiv_eq_ediv_of_nonneg (by omega)]; exact ai (by omega) (by omega)
 simp only [gL, fa, e1, e2, inS, Bool.and_eq_true, decide_eq_true_eq]
 omega
theorem BM {o : Nat → Int} (h : PV o) {t : Int} (h1 : 0 ≤ t) (h2 : t ≤ 1000000) : ∀ c ∈ fz o t, gL c = true := fun c hc => by
 have s1 := h.s1
 have s2 := h.s2
 obtain ⟨d, d1, d2, rfl⟩ := (lF ⟨h1, by omega⟩ ⟨s1, s2⟩ c).1 hc
 exact BT h (by omega) (by omega)
theorem B7 (s : Nat → Int) (t : Int) : ae Tryz.prog 206 [.agg (aJ s), .int .i64 t] (.bool (ly (dJ s) t)) := by
 cases h : atS (dJ s) t 0
 ·exact C0 s t h
 ·have hv : PV (dJ s) ∧ 0 ≤ t ∧ t ≤ 1000000 := by
   simp only [atS, Bool.and_eq_true] at h
   have h2 := h.1.1
   simp only [inS, Bool.and_eq_true, decide_eq_true_eq] at h2
   exact ⟨(gA _).1 h.2, h2.1, h2.2⟩
  refine CD s t h (BM hv.1 hv.2.1 hv.2.2) ?_
  have := zm (dJ s) t
  have := hv.1.s2
  omega
theorem yc : ∀ (l pre : List aq), okL pre l = true → ∀ x ∈ l, x.k = 1 ∨ x.k = 2
 | [], _, _, x, h => absurd h (by simp)
 | y :: r, pre, h, x, hx => by
  simp only [okL, Bool.and_eq_true] at h
  rcases List.mem_cons.1 hx with rfl | hx
  ·have := h.1
   simp only [dz, inS, Bool.and_eq_true, decide_eq_true_eq] at this
   omega
  ·exact yc r _ h.2 x hx
theorem CF (s : Nat → Int) (l : List aq) (t : Int) (hl : l.length ≤ 1000) (hk : ∀ x ∈ l, x.k = 1 ∨ x.k = 2) : ae Tryz.prog 111 [.agg (aJ s), bn l, .int .i64 t] (.int .i64 (jr s l t)) := by
 refine ah aa Tryz.func111 rfl (by kernel_rfl) af (Nat.le_of_ble_eq_true rfl) ?_
 intro F n' w0 m0 hG hro h1
 repeat' first|refine Q1 ?_|refine Q2 ?_|refine Q3 hG aa cY ?_|refine Q4 hG aa cY ?_|refine Q5 hG aa ?_|refine Q6 hG aa ?_|refine Q7 hG aa ?_|refine Q8 hG aa ?_|refine Q9 rfl ?_|refine QF rfl ?_|refine QC rfl ⟨fun h => ?_,fun h => ?_⟩|((conv => whnf); first|refine anF ?_|refine anT ?_|refine anK ?_|refine And.intro (fun h => ?_) (fun h => ?_)|refine Or.inl ?_)
 refine ap (X := Nat) (fun i => ⟨[(20, .int .i64 i), (19, .int .i64 (l.map aw).length), (18, bn l), (8, .int .i64 (jr s (l.take i) t)), (7, .loc 7 0), (2, .int .i64 t)], [(7, [.int .i64 0, .int .i64 (s 14), .int .i64 (s 15)])]⟩)
  (fun i => i ≤ l.length) (fun i => l.length - i) 0 (Nat.zero_le _) (ag ?_ ?_) (fun i hi => ?_)
 ·repeat' (first | exact trivial | refine And.intro rfl ?_)
 ·repeat' (first | exact trivial | refine And.intro rfl ?_)
 ·have hj : decide ((i : Int) < ((l.map aw).length : Int)) = true → i < l.length := fun h => by have := of_decide_eq_true h; simp at this; omega
  obtain ⟨x, hxd⟩ : ∃ x, x = l.getD i ⟨0, 0, 0⟩ := ⟨_, rfl⟩
  have hx : decide ((i : Int) < ((l.map aw).length : Int)) = true → (l.map aw)[(i : Int).toNat]? = some [.int .i64 x.k, .int .i64 x.a, .int .i64 x.b] := fun h => by have := hj h; rw [hxd]; simp [List.getElem?_eq_getElem this]; rfl
  have hs : decide ((i : Int) < ((l.map aw).length : Int)) = true → l.take (i + 1) = l.take i ++ [x] := fun h => by have := hj h; rw [hxd, List.take_add_one, List.getD_eq_getElem?_getD, List.getElem?_eq_getElem this]; rfl
  have hkx : decide ((i : Int) < ((l.map aw).length : Int)) = true → x.k = 1 ∨ x.k = 2 := fun h => hk x (by have := hj h; rw [hxd, List.getD_eq_getElem?_getD, List.getElem?_eq_getElem this]; exact List.getElem_mem this)
  obtain ⟨xk, xa, xb⟩ := x
  by_cases hk1 : xk = 1 ∨ xk = 2
  ·have body : ∀ q : Int, q = 1 ∨ q = 2 → xk = q → True := fun _ _ _ => trivial
   rcases hk1 with rfl | rfl
   ·repeat' first|refine Q1 ?_|refine Q2 ?_|refine Q3 hG aa cY ?_|refine Q4 hG aa cY ?_|refine Q5 hG aa ?_|refine Q6 hG aa ?_|refine Q7 hG aa ?_|refine Q8 hG aa ?_|refine Q9 rfl ?_|refine QF rfl ?_|refine QC rfl ⟨fun h => ?_,fun h => ?_⟩|((conv => whnf); first|refine anF ?_|refine anT ?_|refine anK ?_|refine And.intro (Int.natCast_nonneg i) (Exists.intro _ (And.intro (hx (by assumption)) ?_))|refine Exists.intro _ (And.intro (vV _ _ _) ?_)|refine And.intro (of_decide_eq_true (Eq.refl true)) ?_|refine And.intro (fun h => ?_) (fun h => ?_)|refine Or.inl ?_)
    ·refine Exists.intro (i + 1) (And.intro (hj (by assumption)) (And.intro (by have := hj (by assumption); omega) (ag ?_ ?_)))
     ·refine And.intro (congrArg some (am (by omega))) (And.intro rfl (And.intro rfl (And.intro (congrArg (fun z => some (AV.int .i64 z)) ?_) ?_)))
      ·rw [hs (by assumption), fJ]
       exact (if_pos (by assumption)).symm
      ·repeat' (first | exact trivial | refine And.intro rfl ?_)
     ·repeat' (first | exact trivial | refine And.intro rfl ?_)
    ·refine Exists.intro (i + 1) (And.intro (hj (by assumption)) (And.intro (by have := hj (by assumption); omega) (ag ?_ ?_)))
     ·refine And.intro (congrArg some (am (by omega))) (And.intro rfl (And.intro rfl (And.intro (congrArg (fun z => some (AV.int .i64 z)) ?_) ?_)))
      ·rw [hs (by assumption), fJ]
       exact (if_neg (fun h => tf h (by assumption))).symm
      ·repeat' (first | exact trivial | refine And.intro rfl ?_)
     ·repeat' (first | exact trivial | refine And.intro rfl ?_)
    ·have hge : l.length ≤ i := by have := of_decide_eq_false (by assumption : decide ((i : Int) < ((l.map aw).length : Int)) = false); simp at this; omega
     refine Ends.mk (Or.inl rfl) (ac ?_)
     rw [List.take_of_length_le hge]; rfl
   ·repeat' first|refine Q1 ?_|refine Q2 ?_|refine Q3 hG aa cY ?_|refine Q4 hG aa cY ?_|refine Q5 hG aa ?_|refine Q6 hG aa ?_|refine Q7 hG aa ?_|refine Q8 hG aa ?_|refine Q9 rfl ?_|refine QF rfl ?_|refine QC rfl ⟨fun h => ?_,fun h => ?_⟩|((conv => whnf); first|refine anF ?_|refine anT ?_|refine anK ?_|refine And.intro (Int.natCast_nonneg i) (Exists.intro _ (And.intro (hx (by assumption)) ?_))|refine Exists.intro _ (And.intro (vV _ _ _) ?_)|refine And.intro (of_decide_eq_true (Eq.refl true)) ?_|refine And.intro (fun h => ?_) (fun h => ?_)|refine Or.inl ?_)
    ·refine Exists.intro (i + 1) (And.intro (hj (by assumption)) (And.intro (by have := hj (by assumption); omega) (ag ?_ ?_)))
     ·refine And.intro (congrArg some (am (by omega))) (And.intro rfl (And.intro rfl (And.intro (congrArg (fun z => some (AV.int .i64 z)) ?_) ?_)))
      ·rw [hs (by assumption), fJ]
       exact (if_pos (by assumption)).symm
      ·repeat' (first | exact trivial | refine And.intro rfl ?_)
     ·repeat' (first | exact trivial | refine And.intro rfl ?_)
    ·refine Exists.intro (i + 1) (And.intro (hj (by assumption)) (And.intro (by have := hj (by assumption); omega) (ag ?_ ?_)))
     ·refine And.intro (congrArg some (am (by omega))) (And.intro rfl (And.intro rfl (And.intro (congrArg (fun z => some (AV.int .i64 z)) ?_) ?_)))
      ·rw [hs (by assumption), fJ]
       exact (if_neg (fun h => tf h (by assumption))).symm
      ·repeat' (first | exact trivial | refine And.intro rfl ?_)
     ·repeat' (first | exact trivial | refine And.intro rfl ?_)
    ·have hge : l.length ≤ i := by have := of_decide_eq_false (by assumption : decide ((i : Int) < ((l.map aw).length : Int)) = false); simp at this; omega
     refine Ends.mk (Or.inl rfl) (ac ?_)
     rw [List.take_of_length_le hge]; rfl
  ·have hge : ¬ decide ((i : Int) < ((l.map aw).length : Int)) = true := fun h => hk1 (hkx h)
   repeat' first
 | exact (hge (by assumption)).elim
    | refine Q1 ?_
    | refine Q2 ?_
    | refine Q3 hG aa cY ?_
    | refine Q4 hG aa cY ?_
    | refine Q5 hG aa ?_
    | refine Q6 hG aa ?_
    | refine Q7 hG aa ?_
    | refine Q8 hG aa ?_
    | refine Q9 rfl ?_
    | refine QF rfl ?_
    | refine QC rfl ⟨fun h => ?_,fun h => ?_⟩
    |(conv => whnf
      first
       | refine anF ?_
       | refine anT ?_
       | refine And.intro (by kernel_rfl) ?_
       | refine And.intro (Int.natCast_nonneg i) (Exists.intro _ (And.intro (hx (by assumption)) ?_))
       | refine And.intro (fun h => ?_) (fun h => ?_)
       | refine Or.inl ?_
       | fail)
   have hge : l.length ≤ i := by have := of_decide_eq_false (by assumption : decide ((i : Int) < ((l.map aw).length : Int)) = false); simp at this; omega
   refine Ends.mk (Or.inl rfl) (ac ?_)
   rw [List.take_of_length_le hge]; rfl
theorem qt {l : List aq} (h : bT l = true) : l.length ≤ 64 := by simp only [bT, Bool.and_eq_true, decide_eq_true_eq] at h; exact h.1
theorem uJ {l : List aq} (h : bT l = true) : ∀ x ∈ l, x.k = 1 ∨ x.k = 2 := by simp only [bT, Bool.and_eq_true] at h; exact yc l [] h.2
def pX (s : Nat → Int) (l : List aq) (a b : Int) : List AV := [.ref (ar a b), .ref (aJ s), .ref [bn l]]
theorem CJ (s : Nat → Int) (l : List aq) (a b : Int) : ae Tryz.prog 132 [.agg (aJ s), bn l, .agg (ar a b)] (.clo 205 (pX s l a b)) := by
 refine ah aa Tryz.func132 rfl (by kernel_rfl) af (Nat.le_of_ble_eq_true rfl) ?_
 intro F n' w0 m0 hG hro h1
 repeat' first|refine Q1 ?_|refine Q2 ?_|refine Q3 hG aa n4 ?_|refine Q4 hG aa n4 ?_|refine Q5 hG aa ?_|refine Q6 hG aa ?_|refine Q7 hG aa ?_|refine Q8 hG aa ?_|refine Q9 rfl ?_|refine QF rfl ?_|refine QC rfl ⟨fun h => ?_,fun h => ?_⟩|((conv => whnf); first|refine anF ?_|refine anT ?_|refine anK ?_|refine And.intro (fun h => ?_) (fun h => ?_)|refine Or.inl ?_)
 all_goals exact Ends.mk (Or.inl rfl) (ac rfl)
def jL (s : Nat → Int) (l : List aq) (t : Int) : Int := Br s l (ly (dJ s) t) t
def ek (s : Nat → Int) (l : List aq) (a b : Int) : List (Int × Int) := dI a (fun i => jL s l (a + i)) (b - a).toNat
def uL (p : Int × Int) : Array Value := #[.int .i64 p.1, .int .i64 p.2]
theorem B9 (s : Nat → Int) (l : List aq) (a b : Int) (ha : 0 ≤ a) (hb : b ≤ 1000000) (hl : l.length ≤ 1000) (hk : ∀ x ∈ l, x.k = 1 ∨ x.k = 2) : un Tryz.prog uL 205 (pX s l a b) (ek s l a b) := by
 refine un.of aa nr Tryz.func205 rfl (by kernel_rfl) af (by kernel_rfl) (Nat.le_of_ble_eq_true rfl) rfl (fun l => by kernel_rfl) ?_
 intro F n m y J Jx hY
 refine YP.loop (X := Nat) (fun i => ((false, i), ⟨(5, .int .i64 (a + i)) :: params 0 (.lit (.func (.yield y) #[] #[]) :: pX s l a b), []⟩)) (fun i => i ≤ (b - a).toNat) (fun i => (b - a).toNat - i) 0 (Nat.zero_le _) rfl
  (ag ?_ ?_) (fun i hi => ?_)
 ·refine And.intro (congrArg (fun z => some (AV.int .i64 z)) (show a = a + ((0 : Nat) : Int) by omega)) ?_
  repeat' (first | exact trivial | refine And.intro rfl ?_)
 ·exact trivial
 ·refine bO (keep := nr) hY aa _ _ _ _ (by kernel_rfl) (by kernel_rfl) ?_
  refine And.intro (fun h => ?_) (fun h => ?_)
  ·have hib : i < (b - a).toNat := by have := of_decide_eq_true (by assumption : decide (a + (i : Int) < b) = true); omega
   refine Exists.intro _ (And.intro (CF s l (a + i) hl hk) ?_)
   refine Exists.intro _ (And.intro (B7 s (a + i)) ?_)
   refine And.intro (fun h2 => ?_) (fun h2 => ?_)
   ·refine And.intro rfl (Exists.intro (a + (i : Int), jL s l (a + i)) (And.intro ?_ (And.intro (congrArg (fun z => #[Value.int .i64 (a + (i : Int)), Value.int .i64 z]) ((if_pos h2).symm)) (And.intro ?_ ?_))))
    ·simp [ek, dI, List.getElem?_map, List.getElem?_range hib]
    ·refine anF ?_
     refine Exists.intro (i + 1) (And.intro hib (And.intro (by omega) (And.intro rfl (ag ?_ trivial))))
     refine And.intro (congrArg (fun z => some (AV.int .i64 z)) ((ai (by omega) (by omega)).trans (by omega))) ?_
     repeat' (first | exact trivial | refine And.intro rfl ?_)
    ·refine anT ?_
     exact gO.mk (Or.inl rfl) (Or.inr rfl)
   ·refine And.intro rfl (Exists.intro (a + (i : Int), jL s l (a + i)) (And.intro ?_ (And.intro (congrArg (fun z => #[Value.int .i64 (a + (i : Int)), Value.int .i64 z]) ((if_neg (fun h => tf h h2)).symm)) (And.intro ?_ ?_))))
    ·simp [ek, dI, List.getElem?_map, List.getElem?_range hib]
    ·refine anF ?_
     refine Exists.intro (i + 1) (And.intro hib (And.intro (by omega) (And.intro rfl (ag ?_ trivial))))
     refine And.intro (congrArg (fun z => some (AV.int .i64 z)) ((ai (by omega) (by omega)).trans (by omega))) ?_
     repeat' (first | exact trivial | refine And.intro rfl ?_)
    ·refine anT ?_
     exact gO.mk (Or.inl rfl) (Or.inr rfl)
  ·refine gO.mk (Or.inr rfl) (Or.inl ?_)
   simp [ek, dI]
   have := of_decide_eq_false h
   omega
end Go.Proofs
namespace Go.Proofs
open Go Go.AI
set_option maxRecDepth 10000
theorem mb {a b : Int} (h : bi a b = true) : 0 ≤ a ∧ a < b ∧ b ≤ 1000000 := by
 simp only [bi, inS, Bool.and_eq_true, decide_eq_true_eq] at h
 rw [ai (by omega) (by omega)] at h
 omega
theorem lN {s : Nat → Int} {l : List aq} {a b : Int} (h : fc s l a b = true) : (0 ≤ a ∧ a < b ∧ b ≤ 1000000) ∧ b - a ≤ 4320 ∧ bT l = true ∧ dR s = true := by
 simp only [fc, Bool.and_eq_true, decide_eq_true_eq] at h
 have hb := mb h.1.1.1
 refine ⟨hb, ?_, h.1.2, h.2⟩
 have := h.1.1.2
 rwa [ai (by omega) (by omega)] at this
theorem mq {s : Nat → Int} {l : List aq} {a b : Int} : (ek s l a b).length = (b - a).toNat := by simp [ek, dI]
theorem Dw (m : Mem) (x : Int × Int) (i : Nat) (c : AV) (v : Value) (h1 : [AV.int .i64 x.1, AV.int .i64 x.2][i]? = some c) (h2 : (uL x)[i]? = some v) : RD m c v := by
 match i, h1, h2 with
 | 0, h1, h2 => cases h1; cases h2; exact .int _ _
 | 1, h1, h2 => cases h1; cases h2; exact .int _ _
def lvS (rows : List (List AV)) : AV := match rows with
 | [] => .sl (.id 1009000) 0 []
 | r => .sl (.id 1009000) 1 r
theorem CU (s : Nat → Int) (l : List aq) (a b : Int) (hl : l.length ≤ 1000000) (hv : fc s l a b = true) : ae Tryz.prog 65 [.agg (aJ s), bn l, .agg (ar a b)] (.tup [kX (cg (s 11) (ek s l a b)).2, .int .i64 0]) := by
 obtain ⟨hab, h43, hp, hs⟩ := lN hv
 have h59 := CL s l a b hl
 rw [hv] at h59
 have hlen : (ek s l a b).length ≤ 4320 := by rw [mq]; omega
 refine ah aa Tryz.func65 rfl (by kernel_rfl) af (Nat.le_of_ble_eq_true rfl) ?_
 intro F n' w0 m0 hG hro h1
 repeat' first|refine Q1 ?_|refine Q2 ?_|refine Q3 hG aa cw ?_|refine Q4 hG aa cw ?_|refine Q5 hG aa ?_|refine Q6 hG aa ?_|refine Q7 hG aa ?_|refine Q8 hG aa ?_|refine Q9 rfl ?_|refine QF rfl ?_|refine QC rfl ⟨fun h => ?_,fun h => ?_⟩|((conv => whnf); first|refine anF ?_|refine anT ?_|refine anK ?_|refine Exists.intro _ (And.intro (h59) ?_)|refine Exists.intro _ (And.intro (CJ s l a b) ?_)|refine And.intro (fun h => ?_) (fun h => ?_)|refine Or.inl ?_)
 refine ⟨SP.range hG hro h1 (α := Int × Int) (fun p => [.int .i64 p.1, .int .i64 p.2]) uL (f := 205) (cap := pX s l a b) (items := ek s l a b) rfl (B9 s l a b hab.1 hab.2.2 (by have := qt hp; omega) (uJ hp)) (fun _ => rfl) (fun _ => rfl) Dw
  [(9, .loc 9 0), (8, .loc 8 0), (3, .loc 3 0)] (fun pre => [(9, [lvS ((cg (s 11) pre).2.map fun h => [.int .i64 h])]), (8, [.int .i64 (cg (s 11) pre).1]), (3, aJ s)]) (ag ?_ ?_) (by kernel_rfl) (by decide) ?_ ?_⟩
 ·repeat' (first | exact trivial | refine And.intro rfl ?_)
 ·repeat' (first | exact trivial | refine And.intro rfl ?_)
 ·intro F' n'' m' hG pre x rest hx
  have hpl : pre.length < 4320 := by rw [hx] at hlen; simp at hlen; omega
  have hrl : ((cg (s 11) pre).2.map fun h => [AV.int .i64 h]).length = pre.length := by rw [List.length_map, gE]
  refine SPB.out (Q4 hG aa cw ?_)
  conv => whnf
  refine And.intro rfl (And.intro (ag ?_ ?_) ?_)
  ·repeat' (first | exact trivial | refine And.intro rfl ?_)
  ·repeat' (first | exact trivial | refine And.intro rfl ?_)
  ·refine SPB.out ?_
   generalize hrw : ((cg (s 11) pre).2.map fun h => [AV.int .i64 h]) = rows at hrl ⊢
   rcases rows with _ | ⟨y, r⟩
   ·repeat' first|refine Q1 ?_|refine Q2 ?_|refine Q3 hG aa cw ?_|refine Q4 hG aa cw ?_|refine Q5 hG aa ?_|refine Q6 hG aa ?_|refine Q7 hG aa ?_|refine Q8 hG aa ?_|refine Q9 rfl ?_|refine QF rfl ?_|refine QC rfl ⟨fun h => ?_,fun h => ?_⟩|((conv => whnf); first|refine anF ?_|refine anT ?_|refine anK ?_|refine And.intro (show (List.length ([] : List (List AV)) + 1) * 8 ≤ 70368744177664 by rw [hrl]; omega) ?_|refine And.intro (show List.length ([] : List (List AV)) + 1 ≤ 4611686018427387904 by rw [hrl]; omega) ?_|refine And.intro (fun h => ?_) (fun h => ?_)|refine Or.inl ?_)
    refine ag ?_ ?_
    ·repeat' (first | exact trivial | refine And.intro rfl ?_)
    ·refine And.intro ?_ (And.intro ?_ (And.intro rfl trivial))
     ·rw [fI, jj, List.map_append, hrw]; rfl
     ·rw [fI]; rfl
   ·repeat' first|refine Q1 ?_|refine Q2 ?_|refine Q3 hG aa cw ?_|refine Q4 hG aa cw ?_|refine Q5 hG aa ?_|refine Q6 hG aa ?_|refine Q7 hG aa ?_|refine Q8 hG aa ?_|refine Q9 rfl ?_|refine QF rfl ?_|refine QC rfl ⟨fun h => ?_,fun h => ?_⟩|((conv => whnf); first|refine anF ?_|refine anT ?_|refine anK ?_|refine And.intro (show (List.length ((y :: r) : List (List AV)) + 1) * 8 ≤ 70368744177664 by rw [hrl]; omega) ?_|refine And.intro (show List.length ((y :: r) : List (List AV)) + 1 ≤ 4611686018427387904 by rw [hrl]; omega) ?_|refine And.intro (fun h => ?_) (fun h => ?_)|refine Or.inl ?_)
    refine ag ?_ ?_
    ·repeat' (first | exact trivial | refine And.intro rfl ?_)
    ·refine And.intro ?_ (And.intro ?_ (And.intro rfl trivial))
     ·rw [fI, jj, List.map_append, hrw]; rfl
     ·rw [fI]; rfl
 ·have hne : ((cg (s 11) (ek s l a b)).2.map fun h => [AV.int .i64 h]).length ≠ 0 := by rw [List.length_map, gE, mq]; omega
  rw [show kX (cg (s 11) (ek s l a b)).2 = .sl .no 1 ((cg (s 11) (ek s l a b)).2.map fun h => [AV.int .i64 h]) from rfl]
  generalize ((cg (s 11) (ek s l a b)).2.map fun h => [AV.int .i64 h]) = rows at hne ⊢
  rcases rows with _ | ⟨y, r⟩
  ·exact absurd rfl hne
  ·conv => whnf
   repeat' first|refine Q1 ?_|refine Q2 ?_|refine Q3 hG aa cw ?_|refine Q4 hG aa cw ?_|refine Q5 hG aa ?_|refine Q6 hG aa ?_|refine Q7 hG aa ?_|refine Q8 hG aa ?_|refine Q9 rfl ?_|refine QF rfl ?_|refine QC rfl ⟨fun h => ?_,fun h => ?_⟩|((conv => whnf); first|refine anF ?_|refine anT ?_|refine anK ?_|refine And.intro (fun h => ?_) (fun h => ?_)|refine Or.inl ?_)
   all_goals exact Ends.mk (Or.inl rfl) (ac rfl)
end Go.Proofs
namespace Go.Proofs
open Go Go.AI
set_option maxRecDepth 10000
theorem CI (n : Int) : ae Tryz.prog 217 [.int .i64 n] (.bool (decide (n < 0))) := by
 refine ah aa Tryz.func217 rfl (by kernel_rfl) af (Nat.le_of_ble_eq_true rfl) ?_
 intro F n' w0 m0 hG hro h1
 repeat' first|refine Q1 ?_|refine Q2 ?_|refine Q3 hG aa np ?_|refine Q4 hG aa np ?_|refine Q5 hG aa ?_|refine Q6 hG aa ?_|refine Q7 hG aa ?_|refine Q8 hG aa ?_|refine Q9 rfl ?_|refine QF rfl ?_|refine QC rfl ⟨fun h => ?_,fun h => ?_⟩|((conv => whnf); first|refine anF ?_|refine anT ?_|refine anK ?_|refine And.intro (fun h => ?_) (fun h => ?_)|refine Or.inl ?_)
 all_goals exact Ends.mk (Or.inl rfl) (ac rfl)
def gK (s : Nat → Int) (l : List aq) (a b : Int) : Int := let i := cq (fun n => decide (n < 0)) (cg (s 11) (ek s l a b)).2 0; if i ≥ 0 then w64 (a + i) else -1
theorem CT (s : Nat → Int) (l : List aq) (a b : Int) (hl : l.length ≤ 1000000) (hv : fc s l a b = true) : ae Tryz.prog 146 [.agg (aJ s), bn l, .agg (ar a b)] (.tup [.int .i64 (gK s l a b), .int .i64 0]) := by
 have k36 := CU s l a b hl hv
 obtain ⟨hab, h43, hp, hs⟩ := lN hv
 have k64 := vZ (cg (s 11) (ek s l a b)).2 (fun n => decide (n < 0)) 217 _ [] (Or.inr ⟨rfl, rfl⟩) (by rw [gE, mq]; omega) (fun n _ => CI n)
 refine ah aa Tryz.func146 rfl (by kernel_rfl) af (Nat.le_of_ble_eq_true rfl) ?_
 intro F n' w0 m0 hG hro h1
 repeat' first|refine Q1 ?_|refine Q2 ?_|refine Q3 hG aa nV ?_|refine Q4 hG aa nV ?_|refine Q5 hG aa ?_|refine Q6 hG aa ?_|refine Q7 hG aa ?_|refine Q8 hG aa ?_|refine Q9 rfl ?_|refine QF rfl ?_|refine QC rfl ⟨fun h => ?_,fun h => ?_⟩|((conv => whnf); first|refine anF ?_|refine anT ?_|refine anK ?_|refine Exists.intro _ (And.intro (k36) ?_)|refine Exists.intro _ (And.intro (k64) ?_)|refine And.intro (fun h => ?_) (fun h => ?_)|refine Or.inl ?_)
 ·exact Ends.mk (Or.inl rfl) (ac (congrArg (fun z => AV.tup [.int .i64 z, .int .i64 0]) (if_pos (of_decide_eq_true (by assumption))).symm))
 ·exact Ends.mk (Or.inl rfl) (ac (congrArg (fun z => AV.tup [.int .i64 z, .int .i64 0]) (if_neg (of_decide_eq_false (by assumption))).symm))
end Go.Proofs
namespace Go.Proofs
open Go Go.AI
set_option maxRecDepth 10000
theorem u6 (l : List Int) (i : Nat) (h : i < l.length) : (l.map fun h => [AV.int .i64 h])[(i : Int).toNat]? = some [.int .i64 (l.getD i 0)] := by simp [List.getElem?_eq_getElem h]
def jB (x : Int × Int × Int) : List AV := [.int .i64 x.1, .int .i64 x.2.1, .int .i64 x.2.2]
def qQ (x : Int × Int × Int) : Prop := inI x.1 ∧ inI x.2.1 ∧ inI x.2.2
end Go.Proofs
namespace Go.Proofs
open Go Go.AI
set_option maxRecDepth 10000
structure jJ where
 x : Nat → Int
 y : Nat → Int
 z : List (Int × Int × Int)
 from_ : Int
 long : Int
 hx : ∀ i, inI (x i)
 hy : ∀ i, inI (y i)
 hz : ∀ r ∈ z, qQ r
 hf : inI from_
 hl : inI long
namespace jJ
def s (c : jJ) : Nat → Int := Ek c.x c.y
end jJ
theorem eC {n a b : Int} (h : a ≤ n ∧ n ≤ b) : inS n a b = true := by simp only [inS, Bool.and_eq_true, decide_eq_true_eq]; exact h
structure Fj (s : Nat → Int) : Prop where
 c : 100 ≤ s 11 ∧ s 11 ≤ 2099
 u : 0 ≤ s 12 ∧ s 12 ≤ 11
 i : 0 ≤ s 13 ∧ s 13 ≤ 3
 h : 2 ≤ s 14 ∧ s 14 ≤ 31
 d : 1 ≤ s 15 ∧ s 15 ≤ 20
theorem jJ.mfed (c : jJ) : Fj c.s := by
 have y1 := aM (c.hy 1) (n := 2000) (by omega)
 have y2 := aM (c.hy 2) (n := 12) (by omega)
 have y3 := aM (c.hy 2) (n := 4) (by omega)
 have y4 := aM (c.hy 2) (n := 30) (by omega)
 have y5 := aM (c.hy 3) (n := 20) (by omega)
 refine ⟨?_, ?_, ?_, ?_, ?_⟩
 ·show 100 ≤ w64 (100 + al (c.y 1) 2000) ∧ w64 (100 + al (c.y 1) 2000) ≤ 2099
  rw [ai (by omega) (by omega)]; omega
 ·show 0 ≤ al (c.y 2) 12 ∧ al (c.y 2) 12 ≤ 11
  omega
 ·show 0 ≤ al (c.y 2) 4 ∧ al (c.y 2) 4 ≤ 3
  omega
 ·show 2 ≤ w64 (2 + al (c.y 2) 30) ∧ w64 (2 + al (c.y 2) 30) ≤ 31
  rw [ai (by omega) (by omega)]; omega
 ·show 1 ≤ w64 (1 + al (c.y 3) 20) ∧ w64 (1 + al (c.y 3) 20) ≤ 20
  rw [ai (by omega) (by omega)]; omega
theorem Bl {o p : Nat → Int} (h : ∀ i, i < 7 → o i = p i) : lq o = lq p := by
 simp only [lq, h 0 (by omega), h 1 (by omega), h 2 (by omega), h 3 (by omega), h 4 (by omega), h 5 (by omega), h 6 (by omega)]
theorem jJ.orb (c : jJ) : ∀ i, i < 7 → dJ c.s i = di c.x i := by
 intro i hi
 match i, hi with
 | 0, _ => rfl
 | 1, _ => rfl
 | 2, _ => rfl
 | 3, _ => rfl
 | 4, _ => rfl
 | 5, _ => rfl
 | 6, _ => rfl
theorem jJ.pv (c : jJ) : PV (dJ c.s) := by
 rw [← gA, Bl c.orb, gA]
 exact (x9 c.hx).1
theorem jJ.sat (c : jJ) : dR c.s = true := by
 have m := c.mfed
 have mc := m.c; have mu := m.u; have mi := m.i; have mh := m.h; have md := m.d
 have p0 := aM (c.hy 0) (n := 4) (by omega)
 have p1 := aM (c.hy 1) (n := 200) (by omega)
 have p2 := aM (c.hy 1) (n := 60) (by omega)
 have p3 := aM (c.hy 2) (n := 9) (by omega)
 have p4 := aM (c.hy 3) (n := 9) (by omega)
 have p5 := aM (c.hy 3) (n := 4) (by omega)
 have p6 : 0 ≤ al (w64 ((c.y 0).tdiv 4)) 4 ∧ al (w64 ((c.y 0).tdiv 4)) 4 < 4 := aM (lM _) (by omega)
 have ho : lq (fun i => c.s (i + 2)) = true := (gA _).2 c.pv
 have q0 : inS (c.s 0) 0 23 = true := by show inS (al 3 24) 0 23 = true; decide
 have q1 : inS (c.s 1) 0 15 = true := eC (show 0 ≤ al (c.y 0) 4 ∧ al (c.y 0) 4 ≤ 15 by omega)
 have q9 : inS (c.s 9) 0 4 = true := eC (show 0 ≤ al (c.y 0) 4 ∧ al (c.y 0) 4 ≤ 4 by omega)
 have q10 : inS (c.s 10) 1 1000000 = true := eC (show 1 ≤ w64 (20 + al (c.y 1) 200) ∧ w64 (20 + al (c.y 1) 200) ≤ 1000000 by rw [ai (by omega) (by omega)]; omega)
 have q19 : inS (c.s 19) 0 60 = true := eC (show 0 ≤ al (w64 ((c.y 0).tdiv 4)) 4 ∧ al (w64 ((c.y 0).tdiv 4)) 4 ≤ 60 by omega)
 have q20 : inS (c.s 20) 1 1000 = true := eC (show 1 ≤ w64 (1 + al (c.y 2) 9) ∧ w64 (1 + al (c.y 2) 9) ≤ 1000 by rw [ai (by omega) (by omega)]; omega)
 have q16 : inS (c.s 16) 0 10000 = true := eC (show 0 ≤ w64 (1 + al (c.y 3) 9) ∧ w64 (1 + al (c.y 3) 9) ≤ 10000 by rw [ai (by omega) (by omega)]; omega)
 have q17 : inS (c.s 17) 0 10000 = true := eC (show 0 ≤ w64 (1 + al (c.y 3) 4) ∧ w64 (1 + al (c.y 3) 4) ≤ 10000 by rw [ai (by omega) (by omega)]; omega)
 have q18 : inS (c.s 18) 1 1000000 = true := eC (show 1 ≤ w64 (5 + al (c.y 1) 60) ∧ w64 (5 + al (c.y 1) 60) ≤ 1000000 by rw [ai (by omega) (by omega)]; omega)
 have q11 : inS (c.s 11) 1 1000000 = true := eC (by omega)
 have q12 : inS (c.s 12) 0 10000 = true := eC (by omega)
 have q13 : inS (c.s 13) 0 10000 = true := eC (by omega)
 have q14 : inS (c.s 14) 0 10000 = true := eC (by omega)
 have q15 : inS (c.s 15) 0 10000 = true := eC (by omega)
 simp only [dR, q0, q1, q9, q10, q11, q12, q13, q14, q15, q16, q17, q18, q19, q20, ho, Bool.and_self]
end Go.Proofs
namespace Go.Proofs
open Go Go.AI
set_option maxRecDepth 10000
theorem xf {o : Nat → Int} {t : Int} (h : o 6 = 0) : fz o t = [fa o (w64 t)] := by
 have e : jO o t = [w64 t] := by
  unfold jO
  rw [h]
  simp
 unfold fz
 rw [e]
 exact (x2 (l := [fa o (w64 t)]) (List.Perm.refl _) (by simp)).symm
theorem Bv {o : Nat → Int} {t : Int} (h : o 6 = 0) : ly o t = (atS o t 0 && !kh (fa o (w64 t)) t) := by
 unfold ly
 rw [xf h]
 simp
end Go.Proofs
namespace Go.Proofs
open Go Go.AI
set_option maxRecDepth 10000
theorem Dq {n : Nat} {cs : List AV} (h : Fa (dQ (n + 1)) [.int .i64, .int .i64, .int .i64] cs) : ∃ x : Int × Int × Int, qQ x ∧ cs = jB x := by
 obtain ⟨b0, q, rfl, h0, h⟩ := aj h
 obtain ⟨b1, q, rfl, h1, h⟩ := aj h
 obtain ⟨b2, q, rfl, h2, h⟩ := aj h
 obtain rfl := dE h
 obtain ⟨z0, rfl, i0⟩ := az h0
 obtain ⟨z1, rfl, i1⟩ := az h1
 obtain ⟨z2, rfl, i2⟩ := az h2
 exact ⟨(z0, z1, z2), ⟨i0, i1, i2⟩, rfl⟩
theorem Do {n : Nat} {a : AV} (h : dQ (n + 2) (.sl [.int .i64, .int .i64, .int .i64]) a) : ∃ z : List (Int × Int × Int), (∀ x ∈ z, qQ x) ∧ a = .sl .no 3 (z.map jB) := by
 obtain ⟨xs, rfl, h2⟩ := h
 suffices hs : ∀ l : List (List AV), (∀ x ∈ l, Fa (dQ (n + 1)) [.int .i64, .int .i64, .int .i64] x) → ∃ z : List (Int × Int × Int), (∀ x ∈ z, qQ x) ∧ l = z.map jB by
  obtain ⟨z, g1, g2⟩ := hs xs h2
  exact ⟨z, g1, congrArg (AV.sl .no 3) g2⟩
 intro l
 induction l with
 | nil => exact fun _ => ⟨[], by simp, rfl⟩
 | cons y r ih =>
  intro h
  obtain ⟨z, g1, rfl⟩ := ih (fun x hx => h x (List.mem_cons_of_mem _ hx))
  obtain ⟨x, g2, rfl⟩ := Dq (h y List.mem_cons_self)
  exact ⟨x :: z, fun w hw => by rcases List.mem_cons.1 hw with rfl | hw; exact g2; exact g1 w hw, rfl⟩
end Go.Proofs
namespace Go.Proofs
open Go Go.AI
set_option maxRecDepth 10000
theorem vD (n a b : Int) : ae Tryz.prog 296 [.int .i64 n, .int .i64 a, .int .i64 b] (.bool (inS n a b)) := by
 refine ah aa Tryz.func296 rfl (by kernel_rfl) af (Nat.le_of_ble_eq_true rfl) ?_
 intro F n' w0 m0 hG hro h1
 repeat' first|refine Q1 ?_|refine Q2 ?_|refine Q3 hG aa m5 ?_|refine Q4 hG aa m5 ?_|refine Q5 hG aa ?_|refine Q6 hG aa ?_|refine Q7 hG aa ?_|refine Q8 hG aa ?_|refine Q9 rfl ?_|refine QF rfl ?_|refine QC rfl ⟨fun h => ?_,fun h => ?_⟩|((conv => whnf); first|refine anF ?_|refine anT ?_|refine anK ?_|refine And.intro (fun h => ?_) (fun h => ?_)|refine Or.inl ?_)
 all_goals refine Ends.mk (Or.inl rfl) (ac (congrArg AV.bool ?_))
 all_goals (simp_all [inS] <;> omega)
theorem sS (n a b : Int) : ae Tryz.prog 164 [.int .i64 n, .int .i64 a, .int .i64 b] (.bool (inS n a b)) := by
 refine ah aa Tryz.func164 rfl (by kernel_rfl) af (Nat.le_of_ble_eq_true rfl) ?_
 intro F n' w0 m0 hG hro h1
 repeat' first|refine Q1 ?_|refine Q2 ?_|refine Q3 hG aa nJ ?_|refine Q4 hG aa nJ ?_|refine Q5 hG aa ?_|refine Q6 hG aa ?_|refine Q7 hG aa ?_|refine Q8 hG aa ?_|refine Q9 rfl ?_|refine QF rfl ?_|refine QC rfl ⟨fun h => ?_,fun h => ?_⟩|((conv => whnf); first|refine anF ?_|refine anT ?_|refine anK ?_|refine And.intro (fun h => ?_) (fun h => ?_)|refine Or.inl ?_)
 all_goals refine Ends.mk (Or.inl rfl) (ac (congrArg AV.bool ?_))
 all_goals (simp_all [inS] <;> omega)
theorem sP (t : Int) : ae Tryz.prog 333 [.int .i64 t] (.bool (inS t 0 1000000)) := by
 refine ah aa Tryz.func333 rfl (by kernel_rfl) af (Nat.le_of_ble_eq_true rfl) ?_
 intro F n' w0 m0 hG hro h1
 repeat' first|refine Q1 ?_|refine Q2 ?_|refine Q3 hG aa mP ?_|refine Q4 hG aa mP ?_|refine Q5 hG aa ?_|refine Q6 hG aa ?_|refine Q7 hG aa ?_|refine Q8 hG aa ?_|refine Q9 rfl ?_|refine QF rfl ?_|refine QC rfl ⟨fun h => ?_,fun h => ?_⟩|((conv => whnf); first|refine anF ?_|refine anT ?_|refine anK ?_|refine And.intro (fun h => ?_) (fun h => ?_)|refine Or.inl ?_)
 all_goals refine Ends.mk (Or.inl rfl) (ac (congrArg AV.bool ?_))
 all_goals (simp_all [inS] <;> omega)
theorem td3 (n : Int) : (0 ≤ n → n.tdiv 3 = n / 3) ∧ (n < 0 → n.tdiv 3 = -((-n) / 3)) := by
 refine ⟨fun h => Int.tdiv_eq_ediv_of_nonneg h, fun h => ?_⟩
 have e : n.tdiv 3 = -((-n).tdiv 3) := by rw [Int.neg_tdiv, Int.neg_neg]
 rw [e, Int.tdiv_eq_ediv_of_nonneg (by omega)]
def fp (n : Int) : Prop := -1000000000 ≤ n ∧ n ≤ 1000000000
theorem lP {n : Int} (h : fp n) : iT n = n / 3 := by
 obtain ⟨h1, h2⟩ := h
 obtain ⟨g1, g2⟩ := td3 n
 have e : w64 (n.tdiv 3) = n.tdiv 3 := ai (by omega) (by omega)
 unfold iT
 rw [e, ai (n := 3 * n.tdiv 3) (by omega) (by omega)]
 split
 ·rw [ai (by omega) (by omega)]; omega
 ·omega
theorem kN (n : Int) (h : fp n) : ae Tryz.prog 334 [.int .i64 n] (.int .i64 (iT n)) := by
 obtain ⟨h1, h2⟩ := h
 obtain ⟨g1, g2⟩ := td3 n
 obtain ⟨g3, g4⟩ := td3 (2 - n)
 have e1 : IntKind.i64.wrap (2 - n) = 2 - n := ai (by omega) (by omega)
 have e2 : IntKind.i64.wrap ((2 - n).tdiv 3) = (2 - n).tdiv 3 := ai (by omega) (by omega)
 have e3 : IntKind.i64.wrap (0 - (2 - n).tdiv 3) = 0 - (2 - n).tdiv 3 := ai (by omega) (by omega)
 have e4 : IntKind.i64.wrap (n.tdiv 3) = n.tdiv 3 := ai (by omega) (by omega)
 have e5 := lP (n := n) ⟨h1, h2⟩
 refine ah aa Tryz.func334 rfl (by kernel_rfl) af (Nat.le_of_ble_eq_true rfl) ?_
 intro F n' w0 m0 hG hro h1
 repeat' first|refine Q1 ?_|refine Q2 ?_|refine Q3 hG aa mO ?_|refine Q4 hG aa mO ?_|refine Q5 hG aa ?_|refine Q6 hG aa ?_|refine Q7 hG aa ?_|refine Q8 hG aa ?_|refine Q9 rfl ?_|refine QF rfl ?_|refine QC rfl ⟨fun h => ?_,fun h => ?_⟩|((conv => whnf); first|refine anF ?_|refine anT ?_|refine anK ?_|refine And.intro (by decide) ?_|refine And.intro (fun h => ?_) (fun h => ?_)|refine Or.inl ?_)
 ·have := of_decide_eq_true (by assumption : decide (n ≥ 0) = true)
  exact Ends.mk (Or.inl rfl) (ac (congrArg (AV.int .i64) (by rw [e4, e5]; omega)))
 ·have := of_decide_eq_false (by assumption : decide (n ≥ 0) = false)
  exact Ends.mk (Or.inl rfl) (ac (congrArg (AV.int .i64) (by rw [e1, e2, e3, e5]; omega)))
theorem sQ (a b : Int) (ha : fp a) (hb : fp b) : ae Tryz.prog 329 [.int .i64 a, .int .i64 b] (.int .i64 (sK a b)) := by
 obtain ⟨a1, a2⟩ := ha
 obtain ⟨b1, b2⟩ := hb
 have e1 : w64 (a - b) = a - b := ai (by omega) (by omega)
 have e2 : w64 (b - a) = b - a := ai (by omega) (by omega)
 have f1 : IntKind.i64.wrap (a - b) = a - b := e1
 have f2 : IntKind.i64.wrap (b - a) = b - a := e2
 refine ah aa Tryz.func329 rfl (by kernel_rfl) af (Nat.le_of_ble_eq_true rfl) ?_
 intro F n' w0 m0 hG hro h1
 repeat' first|refine Q1 ?_|refine Q2 ?_|refine Q3 hG aa mQ ?_|refine Q4 hG aa mQ ?_|refine Q5 hG aa ?_|refine Q6 hG aa ?_|refine Q7 hG aa ?_|refine Q8 hG aa ?_|refine Q9 rfl ?_|refine QF rfl ?_|refine QC rfl ⟨fun h => ?_,fun h => ?_⟩|((conv => whnf); first|refine anF ?_|refine anT ?_|refine anK ?_|refine And.intro (fun h => ?_) (fun h => ?_)|refine Or.inl ?_)
 ·have := of_decide_eq_true (by assumption : decide (a < b) = true)
  exact Ends.mk (Or.inl rfl) (ac (congrArg (AV.int .i64) (by unfold sK; rw [f2, e1, e2]; omega)))
 ·have := of_decide_eq_false (by assumption : decide (a < b) = false)
  exact Ends.mk (Or.inl rfl) (ac (congrArg (AV.int .i64) (by unfold sK; rw [f1, e1, e2]; omega)))
theorem x8 {t : Int} (h : inS t 0 1000000 = true) : 0 ≤ t ∧ t ≤ 1000000 := by simpa only [inS, Bool.and_eq_true, decide_eq_true_eq] using h
theorem yl {t : Int} (h : inS t 0 1000000 = true) : 0 ≤ dW t ∧ dW t < 360 := by
 have := x8 h
 unfold dW
 rw [ai (by rw [Int.tdiv_eq_ediv_of_nonneg this.1]; omega) (by rw [Int.tdiv_eq_ediv_of_nonneg this.1]; omega), Int.tdiv_eq_ediv_of_nonneg this.1]
 exact ⟨Int.tmod_nonneg _ (by omega), Int.tmod_lt_of_pos _ (by omega)⟩
theorem Bq {t : Int} (h : inS t 0 1000000 = true) : fp (w64 (w64 (1440 - t.tmod 1440) * 100)) := by
 have := x8 h
 have h1 : 0 ≤ t.tmod 1440 := Int.tmod_nonneg _ this.1
 have h2 : t.tmod 1440 < 1440 := Int.tmod_lt_of_pos _ (by omega)
 unfold fp
 rw [ai (n := 1440 - t.tmod 1440) (by omega) (by omega), ai (by omega) (by omega)]
 omega
theorem Bp (t : Int) : fp (uV t) := by
 unfold uV fp
 generalize iT _ = q
 rcases Int.lt_or_le q 0 with h | h
 ·have e : q.tmod 48000 = -((-q).tmod 48000) := by rw [Int.neg_tmod, Int.neg_neg]
  have h1 : 0 ≤ (-q).tmod 48000 := Int.tmod_nonneg _ (by omega)
  have h2 : (-q).tmod 48000 < 48000 := Int.tmod_lt_of_pos _ (by omega)
  omega
 ·have h1 : 0 ≤ q.tmod 48000 := Int.tmod_nonneg _ h
  have h2 : q.tmod 48000 < 48000 := Int.tmod_lt_of_pos _ (by omega)
  omega
theorem zy (t : Int) (h : inS t 0 1000000 = true) : ae Tryz.prog 326 [.int .i64 t] (.tup [.int .i64 (uV t), .int .i64 0]) := by
 have k := sP t
 rw [h] at k
 refine ah aa Tryz.func326 rfl (by kernel_rfl) af (Nat.le_of_ble_eq_true rfl) ?_
 intro F n' w0 m0 hG hro h1
 repeat' first|refine Q1 ?_|refine Q2 ?_|refine Q3 hG aa mT ?_|refine Q4 hG aa mT ?_|refine Q5 hG aa ?_|refine Q6 hG aa ?_|refine Q7 hG aa ?_|refine Q8 hG aa ?_|refine Q9 rfl ?_|refine QF rfl ?_|refine QC rfl ⟨fun h => ?_,fun h => ?_⟩|((conv => whnf); first|refine anF ?_|refine anT ?_|refine anK ?_|refine Exists.intro _ (And.intro (k) ?_)|refine Exists.intro _ (And.intro (kN _ (Bq h)) ?_)|refine And.intro (by decide) ?_|refine And.intro (fun h => ?_) (fun h => ?_)|refine Or.inl ?_)
 all_goals exact Ends.mk (Or.inl rfl) (ac rfl)
theorem A2 {t : Int} (h : inS t 0 1000000 = true) : fp (w64 (dW t * 100)) ∧ fp (w64 (w64 (180 - dW t) * 100)) ∧ fp (w64 (w64 (dW t - 360) * 100)) := by
 have := yl h
 unfold fp
 rw [ai (n := dW t * 100) (by omega) (by omega), ai (n := 180 - dW t) (by omega) (by omega), ai (n := (180 - dW t) * 100) (by omega) (by omega), ai (n := dW t - 360) (by omega) (by omega), ai (n := (dW t - 360) * 100) (by omega) (by omega)]
 omega
theorem wD {t : Int} (h : inS t 0 1000000 = true) : fp (gW t) := by
 have hd := yl h
 obtain ⟨h1, h2, h3⟩ := A2 h
 have e1 := lP h1
 have e2 := lP h2
 have e3 := lP h3
 rw [Int.mul_comm] at e1 e2 e3 h1 h2 h3
 unfold gW fp at *
 split
 ·rw [e1, ai (by omega) (by omega)]; omega
 ·split
  ·rw [e2, ai (by omega) (by omega)]; omega
  ·rw [e3, ai (by omega) (by omega)]; omega
theorem zx (t : Int) (h : inS t 0 1000000 = true) : ae Tryz.prog 327 [.int .i64 t] (.tup [.int .i64 (gW t), .int .i64 0]) := by
 have k := sP t
 rw [h] at k
 obtain ⟨h1, h2, h3⟩ := A2 h
 have k1 := kN _ h1
 have k2 := kN _ h2
 have k3 := kN _ h3
 have m1 : w64 (100 * dW t) = w64 (dW t * 100) := by rw [Int.mul_comm]
 have m2 : w64 (100 * w64 (180 - dW t)) = w64 (w64 (180 - dW t) * 100) := by rw [Int.mul_comm]
 have m3 : w64 (100 * w64 (dW t - 360)) = w64 (w64 (dW t - 360) * 100) := by rw [Int.mul_comm]
 refine ah aa Tryz.func327 rfl (by kernel_rfl) af (Nat.le_of_ble_eq_true rfl) ?_
 intro F n' w0 m0 hG hro h1
 repeat' first|refine Q1 ?_|refine Q2 ?_|refine Q3 hG aa mS ?_|refine Q4 hG aa mS ?_|refine Q5 hG aa ?_|refine Q6 hG aa ?_|refine Q7 hG aa ?_|refine Q8 hG aa ?_|refine Q9 rfl ?_|refine QF rfl ?_|refine QC rfl ⟨fun h => ?_,fun h => ?_⟩|((conv => whnf); first|refine anF ?_|refine anT ?_|refine anK ?_|refine Exists.intro _ (And.intro (k) ?_)|refine Exists.intro _ (And.intro (k1) ?_)|refine Exists.intro _ (And.intro (k2) ?_)|refine Exists.intro _ (And.intro (k3) ?_)|refine And.intro (by decide) ?_|refine And.intro (fun h => ?_) (fun h => ?_)|refine Or.inl ?_)
 ·have hd : dW t ≤ 90 := of_decide_eq_true (by assumption)
  exact Ends.mk (Or.inl rfl) (ac (congrArg (fun z => AV.tup [.int .i64 z, .int .i64 0]) (by rw [gW, if_pos hd, m1]; rfl)))
 ·have hd : ¬ dW t ≤ 90 := of_decide_eq_false (by assumption)
  have hd2 : dW t ≤ 270 := of_decide_eq_true (by assumption)
  exact Ends.mk (Or.inl rfl) (ac (congrArg (fun z => AV.tup [.int .i64 z, .int .i64 0]) (by rw [gW, if_neg hd, if_pos hd2, m2]; rfl)))
 ·have hd : ¬ dW t ≤ 90 := of_decide_eq_false (by assumption)
  have hd2 : ¬ dW t ≤ 270 := of_decide_eq_false (by assumption)
  exact Ends.mk (Or.inl rfl) (ac (congrArg (fun z => AV.tup [.int .i64 z, .int .i64 0]) (by rw [gW, if_neg hd, if_neg hd2, m3]; rfl)))
theorem zw (c : Int × Int) : ae Tryz.prog 328 [.agg (aY c)] (.bool (gL c)) := by
 refine ah aa Tryz.func328 rfl (by kernel_rfl) af (Nat.le_of_ble_eq_true rfl) ?_
 intro F n' w0 m0 hG hro h1
 repeat' first|refine Q1 ?_|refine Q2 ?_|refine Q3 hG aa mR ?_|refine Q4 hG aa mR ?_|refine Q5 hG aa ?_|refine Q6 hG aa ?_|refine Q7 hG aa ?_|refine Q8 hG aa ?_|refine Q9 rfl ?_|refine QF rfl ?_|refine QC rfl ⟨fun h => ?_,fun h => ?_⟩|((conv => whnf); first|refine anF ?_|refine anT ?_|refine anK ?_|refine And.intro (fun h => ?_) (fun h => ?_)|refine Or.inl ?_)
 all_goals refine Ends.mk (Or.inl rfl) (ac (congrArg AV.bool ?_))
 all_goals (simp_all [gL, inS] <;> omega)
theorem BS {c : Int × Int} (h : gL c = true) : 0 ≤ c.1 ∧ c.1 ≤ 47 ∧ 0 ≤ c.2 ∧ c.2 ≤ 23 := by
 simp only [gL, inS, Bool.and_eq_true, decide_eq_true_eq] at h; omega
theorem zB (c : Int × Int) (t : Int) (h : inS t 0 1000000 = true) (hc : gL c = true) : ae Tryz.prog 315 [.agg (aY c), .int .i64 t] (.tup [.int .i64 (qb c t), .int .i64 0]) := by
 have k204 := zw c
 rw [hc] at k204
 have hr := BS hc
 have s1 : fp (w64 (w64 (1000 * c.1) + 500)) := by unfold fp; rw [ai (n := 1000 * c.1) (by omega) (by omega), ai (by omega) (by omega)]; omega
 have s2 : fp (w64 (w64 (1000 * c.2) + 500)) := by unfold fp; rw [ai (n := 1000 * c.2) (by omega) (by omega), ai (by omega) (by omega)]; omega
 have k1 := sQ _ _ s1 (Bp t)
 have k2 := sQ _ _ s2 (wD h)
 refine ah aa Tryz.func315 rfl (by kernel_rfl) af (Nat.le_of_ble_eq_true rfl) ?_
 intro F n' w0 m0 hG hro h1
 repeat' first|refine Q1 ?_|refine Q2 ?_|refine Q3 hG aa mX ?_|refine Q4 hG aa mX ?_|refine Q5 hG aa ?_|refine Q6 hG aa ?_|refine Q7 hG aa ?_|refine Q8 hG aa ?_|refine Q9 rfl ?_|refine QF rfl ?_|refine QC rfl ⟨fun h => ?_,fun h => ?_⟩|((conv => whnf); first|refine anF ?_|refine anT ?_|refine anK ?_|refine Exists.intro _ (And.intro (zy t h) ?_)|refine Exists.intro _ (And.intro (zx t h) ?_)|refine Exists.intro _ (And.intro (k204) ?_)|refine Exists.intro _ (And.intro (k1) ?_)|refine Exists.intro _ (And.intro (k2) ?_)|refine And.intro (by decide) ?_|refine And.intro (fun h => ?_) (fun h => ?_)|refine Or.inl ?_)
 all_goals exact Ends.mk (Or.inl rfl) (ac (congrArg (fun z => AV.tup [.int .i64 z, .int .i64 0]) (by unfold qb; simp only []; rw [Int.mul_comm 75]; rfl)))
theorem zD (c : Int × Int) (t : Int) (h : inS t 0 1000000 = true) (hc : gL c = true) : ae Tryz.prog 298 [.agg (aY c), .int .i64 t] (.bool (kh c t)) := by
 refine ah aa Tryz.func298 rfl (by kernel_rfl) af (Nat.le_of_ble_eq_true rfl) ?_
 intro F n' w0 m0 hG hro h1
 repeat' first|refine Q1 ?_|refine Q2 ?_|refine Q3 hG aa m4 ?_|refine Q4 hG aa m4 ?_|refine Q5 hG aa ?_|refine Q6 hG aa ?_|refine Q7 hG aa ?_|refine Q8 hG aa ?_|refine Q9 rfl ?_|refine QF rfl ?_|refine QC rfl ⟨fun h => ?_,fun h => ?_⟩|((conv => whnf); first|refine anF ?_|refine anT ?_|refine anK ?_|refine Exists.intro _ (And.intro (zB c t h hc) ?_)|refine And.intro (fun h => ?_) (fun h => ?_)|refine Or.inl ?_)
 all_goals exact Ends.mk (Or.inl rfl) (ac rfl)
set_option maxHeartbeats 4000000 in
theorem mM (s : Nat → Int) : ae Tryz.prog 89 [.agg (aJ s)] (.bool (dR s)) := by
 refine ah aa Tryz.func89 rfl (by kernel_rfl) af (Nat.le_of_ble_eq_true rfl) ?_
 intro F n' w0 m0 hG hro h1
 repeat' first|refine Q1 ?_|refine Q2 ?_|refine Q3 hG aa pz ?_|refine Q4 hG aa pz ?_|refine Q5 hG aa ?_|refine Q6 hG aa ?_|refine Q7 hG aa ?_|refine Q8 hG aa ?_|refine Q9 rfl ?_|refine QF rfl ?_|refine QC rfl ⟨fun h => ?_,fun h => ?_⟩|((conv => whnf); first|refine anF ?_|refine anT ?_|refine anK ?_|refine Exists.intro _ (And.intro (sS _ _ _) ?_)|refine Exists.intro _ (And.intro (rI (fun i => s (i + 2))) ?_)|refine And.intro (fun h => ?_) (fun h => ?_)|refine Or.inl ?_)
 all_goals refine Ends.mk (Or.inl rfl) (ac (congrArg AV.bool ?_))
 all_goals (simp only [Bool.not_eq_true', Bool.not_eq_false'] at *)
 all_goals (simp only [dR, *, Bool.true_and, Bool.and_true, Bool.false_and, Bool.and_false])
theorem vE (a b : Int) : ae Tryz.prog 258 [.agg (ar a b)] (.bool (bi a b)) := by
 have e : bi a b = (inS a 0 1000000 && (inS b 0 1000000 && decide (a < b))) := by
  unfold bi inS
  by_cases h : -9223372036854775807 ≤ b ∧ b ≤ 9223372036854775807
  ·rw [ai (by omega) (by omega), Bool.eq_iff_iff]; simp only [Bool.and_eq_true, decide_eq_true_eq]; omega
  ·rw [Bool.eq_iff_iff]; simp only [Bool.and_eq_true, decide_eq_true_eq]; omega
 refine ah aa Tryz.func258 rfl (by kernel_rfl) af (Nat.le_of_ble_eq_true rfl) ?_
 intro F n' w0 m0 hG hro h1
 repeat' first|refine Q1 ?_|refine Q2 ?_|refine Q3 hG aa na ?_|refine Q4 hG aa na ?_|refine Q5 hG aa ?_|refine Q6 hG aa ?_|refine Q7 hG aa ?_|refine Q8 hG aa ?_|refine Q9 rfl ?_|refine QF rfl ?_|refine QC rfl ⟨fun h => ?_,fun h => ?_⟩|((conv => whnf); first|refine anF ?_|refine anT ?_|refine anK ?_|refine Exists.intro _ (And.intro (vD _ _ _) ?_)|refine And.intro (fun h => ?_) (fun h => ?_)|refine Or.inl ?_)
 all_goals refine Ends.mk (Or.inl rfl) (ac (congrArg AV.bool ?_))
 all_goals (rw [e]; simp only [*, Bool.true_and, Bool.and_true, Bool.false_and, Bool.and_false])
end Go.Proofs
namespace Go.Proofs
open Go Go.AI
set_option maxRecDepth 10000
theorem tv {l : List aq} {i : Nat} (h : i < l.length) : (l.map aw)[(i : Int).toNat]? = some [.int .i64 (l.getD i ⟨0, 0, 0⟩).k, .int .i64 (l.getD i ⟨0, 0, 0⟩).a, .int .i64 (l.getD i ⟨0, 0, 0⟩).b] := by simp [List.getElem?_eq_getElem h]; rfl
set_option maxHeartbeats 4000000 in
theorem B3 (l : List aq) (hl : l.length ≤ 1000000) : ae Tryz.prog 257 [bn l] (.bool (bT l)) := by
 refine ah aa Tryz.func257 rfl (by kernel_rfl) af (Nat.le_of_ble_eq_true rfl) ?_
 intro F n' w0 m0 hG hro h1
 repeat' first|refine Q1 ?_|refine Q2 ?_|refine Q3 hG aa bC ?_|refine Q4 hG aa bC ?_|refine Q5 hG aa ?_|refine Q6 hG aa ?_|refine Q7 hG aa ?_|refine Q8 hG aa ?_|refine Q9 rfl ?_|refine QF rfl ?_|refine QC rfl ⟨fun h => ?_,fun h => ?_⟩|((conv => whnf); first|refine anF ?_|refine anT ?_|refine anK ?_|refine And.intro (fun h => ?_) (fun h => ?_)|refine Or.inl ?_)
 ·have h64 : ¬ l.length ≤ 64 := by have := of_decide_eq_true (by assumption : decide (((l.map aw).length : Int) > 64) = true); simp at this; omega
  exact Ends.mk (Or.inl rfl) (ac (congrArg AV.bool (by rw [bT, decide_eq_false h64]; rfl)))
 ·have h64 : l.length ≤ 64 := by have := of_decide_eq_false (by assumption : decide (((l.map aw).length : Int) > 64) = false); simp at this; omega
  refine ap (X := Nat) (fun i => ⟨[(3, .int .i64 i), (0, bn l)], []⟩)
   (fun i => i ≤ l.length ∧ okL (l.take i) (l.drop i) = okL [] l) (fun i => l.length - i) 0 ⟨Nat.zero_le _, rfl⟩ (ag ?_ ?_) (fun i hi => ?_)
  ·repeat' (first | exact trivial | refine And.intro rfl ?_)
  ·repeat' (first | exact trivial | refine And.intro rfl ?_)
  ·obtain ⟨hi, hok⟩ := hi
   by_cases hlt : i < l.length
   ·have bbk : decide ((i : Int) < ((l.map aw).length : Int)) = false → False := fun h => by have := of_decide_eq_false h; rw [List.length_map] at this; omega
    have hx := tv hlt
    have hst := j9 hlt
    generalize l.getD i ⟨0, 0, 0⟩ = x at hx hst
    have bad : dz (l.take i) x = false → false = bT l := fun h => by rw [hst, h, Bool.false_and] at hok; rw [bT, ← hok, Bool.and_false]
    repeat' first|exact (bbk (by assumption)).elim|refine Q1 ?_|refine Q2 ?_|refine Q3 hG aa bC ?_|refine Q4 hG aa bC ?_|refine Q5 hG aa ?_|refine Q6 hG aa ?_|refine Q7 hG aa ?_|refine Q8 hG aa ?_|refine Q9 rfl ?_|refine QF rfl ?_|refine QC rfl ⟨fun h => ?_,fun h => ?_⟩|((conv => whnf); first|refine anF ?_|refine anT ?_|refine anK ?_|refine And.intro (Int.natCast_nonneg i) (Exists.intro _ (And.intro hx ?_))|refine Exists.intro _ (And.intro (vD _ _ _) ?_)|refine Exists.intro _ (And.intro (vE _ _) ?_)|refine And.intro (fun h => ?_) (fun h => ?_)|refine Or.inl ?_)
    ·exact Ends.mk (Or.inl rfl) (ac (congrArg AV.bool (bad (by simp_all [dz]))))
    ·exact Ends.mk (Or.inl rfl) (ac (congrArg AV.bool (bad (by simp_all [dz]))))
    ·have g1 : inS x.k 1 2 = true := fR (by assumption)
     have g2 : bi x.a x.b = true := fR (by assumption)
     refine ap (X := Nat) (fun k => ⟨[(4, .int .i64 k), (3, .int .i64 i), (0, bn l)], []⟩)
      (fun k => k ≤ i ∧ (l.take k).any (jC x) = false) (fun k => i - k) 0 ⟨Nat.zero_le _, rfl⟩ (ag ?_ ?_) (fun k hk => ?_)
     ·repeat' (first | exact trivial | refine And.intro rfl ?_)
     ·repeat' (first | exact trivial | refine And.intro rfl ?_)
     ·obtain ⟨hk, hany⟩ := hk
      by_cases hki : k < i
      ·have bbi : decide ((k : Int) < (i : Int)) = false → False := fun h => by have := of_decide_eq_false h; omega
       have hy := tv (l := l) (i := k) (by omega)
       have hsk : l.take (k + 1) = l.take k ++ [l.getD k ⟨0, 0, 0⟩] := by rw [List.take_add_one, List.getD_eq_getElem?_getD, List.getElem?_eq_getElem (show k < l.length by omega)]; rfl
       have hin : l.getD k ⟨0, 0, 0⟩ ∈ l.take i := by
        rw [List.getD_eq_getElem?_getD, List.getElem?_eq_getElem (show k < l.length by omega)]
        exact List.mem_iff_getElem?.2 ⟨k, by rw [List.getElem?_take, if_pos hki, List.getElem?_eq_getElem (show k < l.length by omega)]; rfl⟩
       generalize l.getD k ⟨0, 0, 0⟩ = y at hy hsk hin
       have nxt : jC x y = false → (l.take (k + 1)).any (jC x) = false := fun h => by rw [hsk, List.any_append, hany]; simp [h]
       have hbad : jC x y = true → dz (l.take i) x = false := fun h => by
        have : (l.take i).any (jC x) = true := List.any_eq_true.2 ⟨y, hin, h⟩
        simp [dz, this]
       repeat' first|exact (bbi (by assumption)).elim|refine Q1 ?_|refine Q2 ?_|refine Q3 hG aa bC ?_|refine Q4 hG aa bC ?_|refine Q5 hG aa ?_|refine Q6 hG aa ?_|refine Q7 hG aa ?_|refine Q8 hG aa ?_|refine Q9 rfl ?_|refine QF rfl ?_|refine QC rfl ⟨fun h => ?_,fun h => ?_⟩|((conv => whnf); first|refine anF ?_|refine anT ?_|refine anK ?_|refine And.intro (Int.natCast_nonneg i) (Exists.intro _ (And.intro hx ?_))|refine And.intro (Int.natCast_nonneg k) (Exists.intro _ (And.intro hy ?_))|refine And.intro (fun h => ?_) (fun h => ?_)|refine Or.inl ?_)
       all_goals first
        | exact Ends.mk (Or.inl rfl) (ac (congrArg AV.bool (bad (hbad (by simp_all [jC])))))
        |(refine Exists.intro (k + 1) (And.intro ⟨hki, nxt (by simp_all [jC] <;> omega)⟩ (And.intro (by omega) (ag ?_ ?_)))
          ·refine And.intro (congrArg some (am (by omega))) ?_
           repeat' (first | exact trivial | refine And.intro rfl ?_)
          ·repeat' (first | exact trivial | refine And.intro rfl ?_))
      ·have hke : k = i := by omega
       subst hke
       have bbi : decide ((k : Int) < (k : Int)) = true → False := fun h => by have := of_decide_eq_true h; omega
       have hgood : dz (l.take k) x = true := by simp [dz, g1, g2, hany]
       repeat' first|exact (bbi (by assumption)).elim|refine Q1 ?_|refine Q2 ?_|refine Q3 hG aa bC ?_|refine Q4 hG aa bC ?_|refine Q5 hG aa ?_|refine Q6 hG aa ?_|refine Q7 hG aa ?_|refine Q8 hG aa ?_|refine Q9 rfl ?_|refine QF rfl ?_|refine QC rfl ⟨fun h => ?_,fun h => ?_⟩|((conv => whnf); first|refine anF ?_|refine anT ?_|refine anK ?_|refine And.intro (fun h => ?_) (fun h => ?_)|refine Or.inl ?_)
       all_goals
        refine Exists.intro (k + 1) (And.intro ⟨hlt, by rw [← hok, hst, hgood, Bool.true_and]⟩ (And.intro (by omega) (ag ?_ ?_)))
        ·refine And.intro (congrArg some (am (by omega))) ?_
         repeat' (first | exact trivial | refine And.intro rfl ?_)
        ·repeat' (first | exact trivial | refine And.intro rfl ?_)
   ·have hge : i = l.length := by omega
    have bbk : decide ((i : Int) < ((l.map aw).length : Int)) = true → False := fun h => by have := of_decide_eq_true h; rw [List.length_map] at this; omega
    repeat' first|exact (bbk (by assumption)).elim|refine Q1 ?_|refine Q2 ?_|refine Q3 hG aa bC ?_|refine Q4 hG aa bC ?_|refine Q5 hG aa ?_|refine Q6 hG aa ?_|refine Q7 hG aa ?_|refine Q8 hG aa ?_|refine Q9 rfl ?_|refine QF rfl ?_|refine QC rfl ⟨fun h => ?_,fun h => ?_⟩|((conv => whnf); first|refine anF ?_|refine anT ?_|refine anK ?_|refine And.intro (fun h => ?_) (fun h => ?_)|refine Or.inl ?_)
    all_goals
     rw [List.drop_of_length_le (by omega)] at hok
     refine Ends.mk (Or.inl rfl) (ac (congrArg AV.bool ?_))
     rw [bT, decide_eq_true h64, ← hok]; rfl
theorem vF (s : Nat → Int) (l : List aq) (a b : Int) (hl : l.length ≤ 1000000) : ae Tryz.prog 203 [.agg (aJ s), bn l, .agg (ar a b)] (.bool (fc s l a b)) := by
 refine ah aa Tryz.func203 rfl (by kernel_rfl) af (Nat.le_of_ble_eq_true rfl) ?_
 intro F n' w0 m0 hG hro h1
 repeat' first|refine Q1 ?_|refine Q2 ?_|refine Q3 hG aa ns ?_|refine Q4 hG aa ns ?_|refine Q5 hG aa ?_|refine Q6 hG aa ?_|refine Q7 hG aa ?_|refine Q8 hG aa ?_|refine Q9 rfl ?_|refine QF rfl ?_|refine QC rfl ⟨fun h => ?_,fun h => ?_⟩|((conv => whnf); first|refine anF ?_|refine anT ?_|refine anK ?_|refine Exists.intro _ (And.intro (mM s) ?_)|refine Exists.intro _ (And.intro (B3 l hl) ?_)|refine Exists.intro _ (And.intro (vE _ _) ?_)|refine And.intro (fun h => ?_) (fun h => ?_)|refine Or.inl ?_)
 all_goals refine Ends.mk (Or.inl rfl) (ac (congrArg AV.bool ?_))
 all_goals (have hw : w64 (b - a) = IntKind.i64.wrap (b - a) := rfl)
 all_goals (simp only [fc, *, hw, Bool.true_and, Bool.and_true, Bool.false_and, Bool.and_false])
theorem B0 (s : Nat → Int) (l : List aq) (t : Int) (hl : l.length ≤ 1000) : ae Tryz.prog 259 [.agg (aJ s), bn l, .int .i64 t] (.int .i64 (jr s l t)) := by
 refine ah aa Tryz.func259 rfl (by kernel_rfl) af (Nat.le_of_ble_eq_true rfl) ?_
 intro F n' w0 m0 hG hro h1
 repeat' first|refine Q1 ?_|refine Q2 ?_|refine Q3 hG aa d7 ?_|refine Q4 hG aa d7 ?_|refine Q5 hG aa ?_|refine Q6 hG aa ?_|refine Q7 hG aa ?_|refine Q8 hG aa ?_|refine Q9 rfl ?_|refine QF rfl ?_|refine QC rfl ⟨fun h => ?_,fun h => ?_⟩|((conv => whnf); first|refine anF ?_|refine anT ?_|refine anK ?_|refine And.intro (fun h => ?_) (fun h => ?_)|refine Or.inl ?_)
 refine ap (X := Nat) (fun i => ⟨[(8, .int .i64 i), (7, .int .i64 (jr s (l.take i) t)), (3, .loc 3 0), (2, .int .i64 t), (1, bn l)], [(3, aJ s)]⟩)
  (fun i => i ≤ l.length) (fun i => l.length - i) 0 (Nat.zero_le _) (ag ?_ ?_) (fun i hi => ?_)
 ·repeat' (first | exact trivial | refine And.intro rfl ?_)
 ·repeat' (first | exact trivial | refine And.intro rfl ?_)
 ·by_cases hlt : i < l.length
  ·have bbk : decide ((i : Int) < ((l.map aw).length : Int)) = false → False := fun h => by have := of_decide_eq_false h; rw [List.length_map] at this; omega
   have hx := tv hlt
   have hs : l.take (i + 1) = l.take i ++ [l.getD i ⟨0, 0, 0⟩] := by rw [List.take_add_one, List.getD_eq_getElem?_getD, List.getElem?_eq_getElem hlt]; rfl
   generalize l.getD i ⟨0, 0, 0⟩ = x at hx hs
   repeat' first|exact (bbk (by assumption)).elim|refine Q1 ?_|refine Q2 ?_|refine Q3 hG aa d7 ?_|refine Q4 hG aa d7 ?_|refine Q5 hG aa ?_|refine Q6 hG aa ?_|refine Q7 hG aa ?_|refine Q8 hG aa ?_|refine Q9 rfl ?_|refine QF rfl ?_|refine QC rfl ⟨fun h => ?_,fun h => ?_⟩|((conv => whnf); first|refine anF ?_|refine anT ?_|refine anK ?_|refine And.intro (Int.natCast_nonneg i) (Exists.intro _ (And.intro hx ?_))|refine And.intro (fun h => ?_) (fun h => ?_)|refine Or.inl ?_)
   all_goals
    refine Exists.intro (i + 1) (And.intro hlt (And.intro (by omega) (ag ?_ ?_)))
    ·refine And.intro (congrArg some (am (by omega))) (And.intro (congrArg (fun z => some (AV.int .i64 z)) ?_) ?_)
     ·rw [hs, fJ]
      unfold xe yh D9
      have hks : ∀ v : Int, (x.k == v) = decide (x.k = v) := fun v => by rw [Bool.eq_iff_iff]; simp
      first
       |(rw [if_pos (by simp_all), if_pos (by simp_all)]; rfl)
       |(rw [if_pos (by simp_all), if_neg (by simp_all)]; rfl)
       |(rw [if_neg (by simp_all <;> (intros; omega))])
     ·repeat' (first | exact trivial | refine And.intro rfl ?_)
    ·repeat' (first | exact trivial | refine And.intro rfl ?_)
  ·have hge : i = l.length := by omega
   subst hge
   have bbk : decide (((l.length : Nat) : Int) < ((l.map aw).length : Int)) = true → False := fun h => by have := of_decide_eq_true h; rw [List.length_map] at this; omega
   repeat' first|exact (bbk (by assumption)).elim|refine Q1 ?_|refine Q2 ?_|refine Q3 hG aa d7 ?_|refine Q4 hG aa d7 ?_|refine Q5 hG aa ?_|refine Q6 hG aa ?_|refine Q7 hG aa ?_|refine Q8 hG aa ?_|refine Q9 rfl ?_|refine QF rfl ?_|refine QC rfl ⟨fun h => ?_,fun h => ?_⟩|((conv => whnf); first|refine anF ?_|refine anT ?_|refine anK ?_|refine And.intro (fun h => ?_) (fun h => ?_)|refine Or.inl ?_)
   all_goals (rw [List.take_length]; exact Ends.mk (Or.inl rfl) (ac rfl))
theorem DB {o : Nat → Int} (h : PV o) {t : Int} (h1 : 0 ≤ t) (h2 : t ≤ 1000000) : (ly o t = true ↔ ∀ d, -(o 6) ≤ d → d ≤ o 6 → kh (fa o (t - d)) t = false) := by
 have s1 := h.s1
 have s2 := h.s2
 constructor
 ·intro hl d g1 g2
  simp only [ly, Bool.and_eq_true, Bool.not_eq_true', List.any_eq_false] at hl
  have hm := (lF (o := o) (t := t) ⟨h1, by omega⟩ ⟨s1, s2⟩ (fa o (t - d))).2 ⟨t - d, by omega, by omega, rfl⟩
  simpa using hl.2 _ hm
 ·intro hd
  simp only [ly, Bool.and_eq_true, Bool.not_eq_true', List.any_eq_false]
  refine ⟨BZ h h1 h2 (by omega) (by omega), fun y hy => ?_⟩
  obtain ⟨d, d1, d2, rfl⟩ := (lF (o := o) (t := t) ⟨h1, by omega⟩ ⟨s1, s2⟩ y).1 hy
  have := hd (t - d) (by omega) (by omega)
  rw [show t - (t - d) = d by omega] at this
  simpa using this
theorem B1 (s : Nat → Int) (t : Int) (hv : PV (dJ s)) (hta : 0 ≤ t) (htb : t ≤ 1000000) : ae Tryz.prog 260 [.agg (aJ s), .int .i64 t] (.bool (ly (dJ s) t)) := by
 have s1 : 0 ≤ s 8 := hv.s1
 have s2 : s 8 ≤ 10 := hv.s2
 have hall := DB hv hta htb
 have hlk : ∀ j : Nat, (j : Int) ≤ 2 * s 8 → ae Tryz.prog 297 [.agg (iu (dJ s)), .int .i64 t, .int .i64 ((j : Int) - s 8)] (.tup [.agg (aY (fa (dJ s) (t - ((j : Int) - s 8)))), .int .i64 0]) := fun j hj => by
  have h := CW (dJ s) t ((j : Int) - s 8)
  have ha := BZ hv hta htb (show -10 ≤ (j : Int) - s 8 by omega) (show (j : Int) - s 8 ≤ 10 by omega)
  rw [ha, show xi (dJ s) t ((j : Int) - s 8) = fa (dJ s) (t - ((j : Int) - s 8)) from by rw [xi, if_pos ha, ai (by omega) (by omega)]] at h
  exact h
 refine ah aa Tryz.func260 rfl (by kernel_rfl) af (Nat.le_of_ble_eq_true rfl) ?_
 intro F n' w0 m0 hG hro h1
 repeat' first|refine Q1 ?_|refine Q2 ?_|refine Q3 hG aa dZ ?_|refine Q4 hG aa dZ ?_|refine Q5 hG aa ?_|refine Q6 hG aa ?_|refine Q7 hG aa ?_|refine Q8 hG aa ?_|refine Q9 rfl ?_|refine QF rfl ?_|refine QC rfl ⟨fun h => ?_,fun h => ?_⟩|((conv => whnf); first|refine anF ?_|refine anT ?_|refine anK ?_|refine And.intro (fun h => ?_) (fun h => ?_)|refine Or.inl ?_)
 refine ap (X := Nat) (fun j => ⟨[(5, .int .i64 ((j : Int) - s 8)), (2, .loc 2 0), (1, .int .i64 t)], [(2, aJ s)]⟩)
  (fun j => (j : Int) ≤ 2 * s 8 + 1 ∧ ∀ m : Nat, m < j → kh (fa (dJ s) (t - ((m : Int) - s 8))) t = false) (fun j => (2 * s 8 + 1).toNat - j) 0 ⟨by omega, fun m hm => absurd hm (by omega)⟩ (ag ?_ ?_) (fun j hj => ?_)
 ·refine And.intro (congrArg (fun z => some (AV.int .i64 z)) ((ai (by omega) (by omega)).trans (by omega))) ?_
  repeat' (first | exact trivial | refine And.intro rfl ?_)
 ·repeat' (first | exact trivial | refine And.intro rfl ?_)
 ·obtain ⟨hj, hm⟩ := hj
  by_cases hlt : (j : Int) ≤ 2 * s 8
  ·have bbk : decide ((j : Int) - s 8 ≤ s 8) = false → False := fun h => by have := of_decide_eq_false h; omega
   have k121 := hlk j hlt
   have k122 := zD (fa (dJ s) (t - ((j : Int) - s 8))) t (eC ⟨hta, htb⟩) (BT hv (by omega) (by omega))
   repeat' first|exact (bbk (by assumption)).elim|refine Q1 ?_|refine Q2 ?_|refine Q3 hG aa dZ ?_|refine Q4 hG aa dZ ?_|refine Q5 hG aa ?_|refine Q6 hG aa ?_|refine Q7 hG aa ?_|refine Q8 hG aa ?_|refine Q9 rfl ?_|refine QF rfl ?_|refine QC rfl ⟨fun h => ?_,fun h => ?_⟩|((conv => whnf); first|refine anF ?_|refine anT ?_|refine anK ?_|refine Exists.intro _ (And.intro (k121) ?_)|refine Exists.intro _ (And.intro (k122) ?_)|refine And.intro (fun h => ?_) (fun h => ?_)|refine Or.inl ?_)
   ·have hd : kh (fa (dJ s) (t - ((j : Int) - s 8))) t = true := by assumption
    refine Ends.mk (Or.inl rfl) (ac (congrArg AV.bool ?_))
    cases hl : ly (dJ s) t with
    | false => rfl
    | true =>
     have := hall.1 hl ((j : Int) - s 8) (by show -(s 8) ≤ _; omega) (by show _ ≤ s 8; omega)
     rw [hd] at this; cases this
   ·have hd : kh (fa (dJ s) (t - ((j : Int) - s 8))) t = false := by assumption
    refine Exists.intro (j + 1) (And.intro ⟨by omega, fun m hmj => ?_⟩ (And.intro (by omega) (ag ?_ ?_)))
    ·rcases Nat.lt_succ_iff_lt_or_eq.1 hmj with h | rfl
     ·exact hm m h
     ·exact hd
    ·refine And.intro (congrArg (fun z => some (AV.int .i64 z)) ((ai (by omega) (by omega)).trans (by omega))) ?_
     repeat' (first | exact trivial | refine And.intro rfl ?_)
    ·repeat' (first | exact trivial | refine And.intro rfl ?_)
  ·have bbk : decide ((j : Int) - s 8 ≤ s 8) = true → False := fun h => by have := of_decide_eq_true h; omega
   repeat' first|exact (bbk (by assumption)).elim|refine Q1 ?_|refine Q2 ?_|refine Q3 hG aa dZ ?_|refine Q4 hG aa dZ ?_|refine Q5 hG aa ?_|refine Q6 hG aa ?_|refine Q7 hG aa ?_|refine Q8 hG aa ?_|refine Q9 rfl ?_|refine QF rfl ?_|refine QC rfl ⟨fun h => ?_,fun h => ?_⟩|((conv => whnf); first|refine anF ?_|refine anT ?_|refine anK ?_|refine And.intro (fun h => ?_) (fun h => ?_)|refine Or.inl ?_)
   all_goals
    refine Ends.mk (Or.inl rfl) (ac (congrArg AV.bool ?_))
    refine (hall.2 fun d d1 d2 => ?_).symm
    have d1 : -(s 8) ≤ d := d1
    have d2 : d ≤ s 8 := d2
    have := hm (d + s 8).toNat (by omega)
    rwa [show (((d + s 8).toNat : Nat) : Int) - s 8 = d by omega] at this
theorem Eh {s : Nat → Int} (h : dR s = true) : PV (dJ s) := by
 simp only [dR, Bool.and_eq_true] at h
 exact (gA _).1 h.2
end Go.Proofs
namespace Go.Proofs
open Go Go.AI
set_option maxRecDepth 10000
def fP (s : Nat → Int) (l : List aq) (a : Int) (n : Nat) : List Int := (List.range n).map fun (i : Nat) => jL s l (a + (i : Int))
theorem qw (s : Nat → Int) (l : List aq) (a : Int) (n : Nat) : fP s l a (n + 1) = fP s l a n ++ [jL s l (a + (n : Int))] := by simp [fP, List.range_succ]
theorem kE (s : Nat → Int) (l : List aq) (a : Int) (n : Nat) : (fP s l a n).length = n := by simp [fP]
theorem yT (s : Nat → Int) (l : List aq) (a : Int) {n i : Nat} (h : i < n) : (fP s l a n).getD i 0 = jL s l (a + (i : Int)) := by
 unfold fP
 rw [List.getD_eq_getElem?_getD, List.getElem?_map, List.getElem?_range h]; rfl
theorem B4 (s : Nat → Int) (l : List aq) (a b : Int) (hl : l.length ≤ 1000000) (hv : fc s l a b = true) : ae Tryz.prog 204 [.agg (aJ s), bn l, .agg (ar a b)] (kX (fP s l a (b - a).toNat)) := by
 obtain ⟨hab, h43, hp, hs⟩ := lN hv
 have k23 := vF s l a b hl
 rw [hv] at k23
 have hpv := Eh hs
 have hl64 := qt hp
 refine ah aa Tryz.func204 rfl (by kernel_rfl) af (Nat.le_of_ble_eq_true rfl) ?_
 intro F n' w0 m0 hG hro h1
 repeat' first|refine Q1 ?_|refine Q2 ?_|refine Q3 hG aa d8 ?_|refine Q4 hG aa d8 ?_|refine Q5 hG aa ?_|refine Q6 hG aa ?_|refine Q7 hG aa ?_|refine Q8 hG aa ?_|refine Q9 rfl ?_|refine QF rfl ?_|refine QC rfl ⟨fun h => ?_,fun h => ?_⟩|((conv => whnf); first|refine anF ?_|refine anT ?_|refine anK ?_|refine And.intro (fun h => ?_) (fun h => ?_)|refine Or.inl ?_)
 refine ap (X := Nat) (fun i => ⟨[(8, .int .i64 (a + (i : Int))), (7, .sl (.id 7) 1 ((fP s l a i).map fun h => [.int .i64 h])), (5, .loc 5 0), (3, .loc 3 0), (1, bn l)], [(5, ar a b), (3, aJ s)]⟩)
  (fun i => i ≤ (b - a).toNat) (fun i => (b - a).toNat - i) 0 (Nat.zero_le _) (ag ?_ ?_) (fun i hi => ?_)
 ·refine And.intro (congrArg (fun z => some (AV.int .i64 z)) (show a = a + ((0 : Nat) : Int) by omega)) ?_
  repeat' (first | exact trivial | refine And.intro rfl ?_)
 ·repeat' (first | exact trivial | refine And.intro rfl ?_)
 ·have hrl : ((fP s l a i).map fun h => [AV.int .i64 h]).length = i := by rw [List.length_map, kE]
  by_cases hlt : i < (b - a).toNat
  ·have bbk : decide (a + (i : Int) < b) = false → False := fun h => by have := of_decide_eq_false h; omega
   have k66 := B1 s (a + (i : Int)) hpv (by omega) (by omega)
   repeat' first|exact (bbk (by assumption)).elim|refine Q1 ?_|refine Q2 ?_|refine Q3 hG aa d8 ?_|refine Q4 hG aa d8 ?_|refine Q5 hG aa ?_|refine Q6 hG aa ?_|refine Q7 hG aa ?_|refine Q8 hG aa ?_|refine Q9 rfl ?_|refine QF rfl ?_|refine QC rfl ⟨fun h => ?_,fun h => ?_⟩|((conv => whnf); first|refine anF ?_|refine anT ?_|refine anK ?_|refine Exists.intro _ (And.intro (B0 s l _ (by omega)) ?_)|refine Exists.intro _ (And.intro (k66) ?_)|refine And.intro (show (List.length ((fP s l a i).map fun h => [AV.int .i64 h]) + 1) * 8 ≤ 70368744177664 by rw [hrl]; omega) ?_|refine And.intro (show List.length ((fP s l a i).map fun h => [AV.int .i64 h]) + 1 ≤ 4611686018427387904 by rw [hrl]; omega) ?_|refine And.intro (fun h => ?_) (fun h => ?_)|refine Or.inl ?_)
   ·have hd : ly (dJ s) (a + (i : Int)) = true := by assumption
    refine Exists.intro (i + 1) (And.intro hlt (And.intro (by omega) (ag ?_ ?_)))
    ·refine And.intro (congrArg (fun z => some (AV.int .i64 z)) ((ai (by omega) (by omega)).trans (by omega))) (And.intro ?_ ?_)
     ·rw [qw, List.map_append, jL, Br, if_pos hd]; rfl
     ·repeat' (first | exact trivial | refine And.intro rfl ?_)
    ·repeat' (first | exact trivial | refine And.intro rfl ?_)
   ·have hd : ly (dJ s) (a + (i : Int)) = false := by assumption
    refine Exists.intro (i + 1) (And.intro hlt (And.intro (by omega) (ag ?_ ?_)))
    ·refine And.intro (congrArg (fun z => some (AV.int .i64 z)) ((ai (by omega) (by omega)).trans (by omega))) (And.intro ?_ ?_)
     ·rw [qw, List.map_append, jL, Br, if_neg (by rw [hd]; exact Bool.false_ne_true)]; rfl
     ·repeat' (first | exact trivial | refine And.intro rfl ?_)
    ·repeat' (first | exact trivial | refine And.intro rfl ?_)
  ·have hge : i = (b - a).toNat := by omega
   have bbk : decide (a + (i : Int) < b) = true → False := fun h => by have := of_decide_eq_true h; omega
   repeat' first|exact (bbk (by assumption)).elim|refine Q1 ?_|refine Q2 ?_|refine Q3 hG aa d8 ?_|refine Q4 hG aa d8 ?_|refine Q5 hG aa ?_|refine Q6 hG aa ?_|refine Q7 hG aa ?_|refine Q8 hG aa ?_|refine Q9 rfl ?_|refine QF rfl ?_|refine QC rfl ⟨fun h => ?_,fun h => ?_⟩|((conv => whnf); first|refine anF ?_|refine anT ?_|refine anK ?_|refine And.intro (fun h => ?_) (fun h => ?_)|refine Or.inl ?_)
   all_goals (rw [← hge]; exact Ends.mk (Or.inl rfl) (ac rfl))
theorem Ep {a : Int} {f : Nat → Int} (n i : Nat) (h : i < n) : (dI a f n).take (i + 1) = (dI a f n).take i ++ [(a + (i : Int), f i)] := by
 unfold dI
 rw [List.take_add_one, List.getElem?_map, List.getElem?_range h]; rfl
theorem Dy (s : Nat → Int) (l : List aq) (a b : Int) : ek s l a b = dI a (fun i : Nat => jL s l (a + (i : Int))) (b - a).toNat := rfl
theorem B6 (s : Nat → Int) (l : List aq) (a b : Int) (hl : l.length ≤ 1000000) (hv : fc s l a b = true) : ae Tryz.prog 130 [.agg (aJ s), bn l, .agg (ar a b)] (.tup [kX (cg (s 11) (ek s l a b)).2, .int .i64 0]) := by
 obtain ⟨hab, h43, hp, hs⟩ := lN hv
 have k23 := vF s l a b hl
 rw [hv] at k23
 have k55 := B4 s l a b hl hv
 rw [Dy]
 obtain ⟨N, hN⟩ : ∃ N, N = (b - a).toNat := ⟨_, rfl⟩
 rw [← hN] at k55 ⊢
 refine ah aa Tryz.func130 rfl (by kernel_rfl) af (Nat.le_of_ble_eq_true rfl) ?_
 intro F n' w0 m0 hG hro h1
 repeat' first|refine Q1 ?_|refine Q2 ?_|refine Q3 hG aa ed ?_|refine Q4 hG aa ed ?_|refine Q5 hG aa ?_|refine Q6 hG aa ?_|refine Q7 hG aa ?_|refine Q8 hG aa ?_|refine Q9 rfl ?_|refine QF rfl ?_|refine QC rfl ⟨fun h => ?_,fun h => ?_⟩|((conv => whnf); first|refine anF ?_|refine anT ?_|refine anK ?_|refine Exists.intro _ (And.intro (k23) ?_)|refine Exists.intro _ (And.intro (k55) ?_)|refine And.intro (fun h => ?_) (fun h => ?_)|refine Or.inl ?_)
 refine ap (X := Nat) (fun i => ⟨[(11, .int .i64 i), (10, .sl (.id 10) 1 ((cg (s 11) ((dI a (fun i : Nat => jL s l (a + (i : Int))) N).take i)).2.map fun h => [.int .i64 h])), (9, .int .i64 (cg (s 11) ((dI a (fun i : Nat => jL s l (a + (i : Int))) N).take i)).1), (8, kX (fP s l a N)), (3, .loc 3 0)], [(3, aJ s)]⟩)
  (fun i => i ≤ N) (fun i => N - i) 0 (Nat.zero_le _) (ag ?_ ?_) (fun i hi => ?_)
 ·repeat' (first | exact trivial | refine And.intro rfl ?_)
 ·repeat' (first | exact trivial | refine And.intro rfl ?_)
 ·by_cases hlt : i < N
  ·have bbk : decide ((i : Int) < (((fP s l a N).map fun h => [AV.int .i64 h]).length : Int)) = false → False := fun h => by have := of_decide_eq_false h; rw [List.length_map, kE] at this; omega
   have hx := u6 (fP s l a N) i (by rw [kE]; exact hlt)
   rw [yT s l a hlt] at hx
   have hst := fI (s 11) ((dI a (fun i : Nat => jL s l (a + (i : Int))) N).take i) (a + (i : Int), jL s l (a + (i : Int)))
   rw [← Ep N i hlt] at hst
   have hrl : ((cg (s 11) ((dI a (fun i : Nat => jL s l (a + (i : Int))) N).take i)).2.map fun h => [AV.int .i64 h]).length = i := by rw [List.length_map, gE, List.length_take]; simp [dI]; omega
   generalize cg (s 11) ((dI a (fun i : Nat => jL s l (a + (i : Int))) N).take i) = r at hst hrl ⊢
   repeat' first|exact (bbk (by assumption)).elim|refine Q1 ?_|refine Q2 ?_|refine Q3 hG aa ed ?_|refine Q4 hG aa ed ?_|refine Q5 hG aa ?_|refine Q6 hG aa ?_|refine Q7 hG aa ?_|refine Q8 hG aa ?_|refine Q9 rfl ?_|refine QF rfl ?_|refine QC rfl ⟨fun h => ?_,fun h => ?_⟩|((conv => whnf); first|refine anF ?_|refine anT ?_|refine anK ?_|refine And.intro (Int.natCast_nonneg i) (Exists.intro _ (And.intro hx ?_))|refine And.intro (show (List.length (r.2.map fun h => [AV.int .i64 h]) + 1) * 8 ≤ 70368744177664 by rw [hrl]; omega) ?_|refine And.intro (show List.length (r.2.map fun h => [AV.int .i64 h]) + 1 ≤ 4611686018427387904 by rw [hrl]; omega) ?_|refine And.intro (fun h => ?_) (fun h => ?_)|refine Or.inl ?_)
   all_goals
    refine Exists.intro (i + 1) (And.intro hlt (And.intro (by omega) (ag ?_ ?_)))
    ·refine And.intro (congrArg some (am (by omega))) (And.intro ?_ (And.intro ?_ ?_))
     ·rw [hst, jj, List.map_append]; rfl
     ·rw [hst]; rfl
     ·repeat' (first | exact trivial | refine And.intro rfl ?_)
    ·repeat' (first | exact trivial | refine And.intro rfl ?_)
  ·have hge : i = N := by omega
   have bbk : decide ((i : Int) < (((fP s l a N).map fun h => [AV.int .i64 h]).length : Int)) = true → False := fun h => by have := of_decide_eq_true h; rw [List.length_map, kE] at this; omega
   repeat' first|exact (bbk (by assumption)).elim|refine Q1 ?_|refine Q2 ?_|refine Q3 hG aa ed ?_|refine Q4 hG aa ed ?_|refine Q5 hG aa ?_|refine Q6 hG aa ?_|refine Q7 hG aa ?_|refine Q8 hG aa ?_|refine Q9 rfl ?_|refine QF rfl ?_|refine QC rfl ⟨fun h => ?_,fun h => ?_⟩|((conv => whnf); first|refine anF ?_|refine anT ?_|refine anK ?_|refine And.intro (fun h => ?_) (fun h => ?_)|refine Or.inl ?_)
   all_goals
    rw [List.take_of_length_le (by simp [dI]; omega)]
    exact Ends.mk (Or.inl rfl) (ac rfl)
theorem B5 (s : Nat → Int) (l : List aq) (a b : Int) (hl : l.length ≤ 1000000) (hv : fc s l a b = true) : ae Tryz.prog 82 [.agg (aJ s), bn l, .agg (ar a b)] (.tup [.int .i64 (gK s l a b), .int .i64 0]) := by
 obtain ⟨hab, h43, hp, hs⟩ := lN hv
 have k15 := B6 s l a b hl hv
 unfold gK
 have hln : (cg (s 11) (ek s l a b)).2.length ≤ 10000 := by rw [gE, mq]; omega
 generalize (cg (s 11) (ek s l a b)).2 = L at k15 hln ⊢
 refine ah aa Tryz.func82 rfl (by kernel_rfl) af (Nat.le_of_ble_eq_true rfl) ?_
 intro F n' w0 m0 hG hro h1
 repeat' first|refine Q1 ?_|refine Q2 ?_|refine Q3 hG aa eR ?_|refine Q4 hG aa eR ?_|refine Q5 hG aa ?_|refine Q6 hG aa ?_|refine Q7 hG aa ?_|refine Q8 hG aa ?_|refine Q9 rfl ?_|refine QF rfl ?_|refine QC rfl ⟨fun h => ?_,fun h => ?_⟩|((conv => whnf); first|refine anF ?_|refine anT ?_|refine anK ?_|refine Exists.intro _ (And.intro (k15) ?_)|refine And.intro (fun h => ?_) (fun h => ?_)|refine Or.inl ?_)
 refine ap (X := Nat) (fun i => ⟨[(10, .int .i64 i), (8, kX L), (5, .loc 5 0)], [(5, ar a b)]⟩)
  (fun i => i ≤ L.length ∧ cq (fun n => decide (n < 0)) (L.drop i) i = cq (fun n => decide (n < 0)) L 0) (fun i => L.length - i) 0 ⟨Nat.zero_le _, rfl⟩ (ag ?_ ?_) (fun i hi => ?_)
 ·repeat' (first | exact trivial | refine And.intro rfl ?_)
 ·repeat' (first | exact trivial | refine And.intro rfl ?_)
 ·obtain ⟨hi, hix⟩ := hi
  by_cases hlt : i < L.length
  ·have bbk : decide ((i : Int) < ((L.map fun h => [AV.int .i64 h]).length : Int)) = false → False := fun h => by have := of_decide_eq_false h; rw [List.length_map] at this; omega
   have hx := u6 L i hlt
   rw [aT (d := (0 : Int)) hlt] at hix
   generalize L.getD i 0 = x at hx hix
   repeat' first|exact (bbk (by assumption)).elim|refine Q1 ?_|refine Q2 ?_|refine Q3 hG aa eR ?_|refine Q4 hG aa eR ?_|refine Q5 hG aa ?_|refine Q6 hG aa ?_|refine Q7 hG aa ?_|refine Q8 hG aa ?_|refine Q9 rfl ?_|refine QF rfl ?_|refine QC rfl ⟨fun h => ?_,fun h => ?_⟩|((conv => whnf); first|refine anF ?_|refine anT ?_|refine anK ?_|refine And.intro (Int.natCast_nonneg i) (Exists.intro _ (And.intro hx ?_))|refine And.intro (fun h => ?_) (fun h => ?_)|refine Or.inl ?_)
   ·rw [if_pos (by assumption)] at hix
    refine Ends.mk (Or.inl rfl) (ac ?_)
    rw [← hix]
    simp only [if_pos (show (i : Int) ≥ 0 by omega)]
    rfl
   ·rw [if_neg (fun h => tf h (by assumption))] at hix
    refine Exists.intro (i + 1) (And.intro ⟨hlt, hix⟩ (And.intro (by omega) (ag ?_ ?_)))
    ·refine And.intro (congrArg some (am (by omega))) ?_
     repeat' (first | exact trivial | refine And.intro rfl ?_)
    ·repeat' (first | exact trivial | refine And.intro rfl ?_)
  ·have hge : i = L.length := by omega
   have bbk : decide ((i : Int) < ((L.map fun h => [AV.int .i64 h]).length : Int)) = true → False := fun h => by have := of_decide_eq_true h; rw [List.length_map] at this; omega
   rw [List.drop_of_length_le (by omega)] at hix
   repeat' first|exact (bbk (by assumption)).elim|refine Q1 ?_|refine Q2 ?_|refine Q3 hG aa eR ?_|refine Q4 hG aa eR ?_|refine Q5 hG aa ?_|refine Q6 hG aa ?_|refine Q7 hG aa ?_|refine Q8 hG aa ?_|refine Q9 rfl ?_|refine QF rfl ?_|refine QC rfl ⟨fun h => ?_,fun h => ?_⟩|((conv => whnf); first|refine anF ?_|refine anT ?_|refine anK ?_|refine And.intro (fun h => ?_) (fun h => ?_)|refine Or.inl ?_)
   all_goals
    refine Ends.mk (Or.inl rfl) (ac ?_)
    rw [← hix]
    simp only [cq]
    rfl
end Go.Proofs
