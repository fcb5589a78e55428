/- Contracts of the functions and plain facts about what they reckon, part 5: called with arguments that read so, each hands back what is typed. The conditions are those typed. -/
import Derived.Test.YtehdegggapeihaaGreatWConD
set_option linter.unusedSectionVars false
set_option linter.unusedVariables false
set_option linter.unusedSimpArgs false
namespace Go.Proofs
open Go Go.AI
set_option maxRecDepth 10000
theorem zb {α : Type} (p : α → Bool) : ∀ (l : List α) (k : Nat), bj p l k = -1 ∨ ∃ j, j < l.length ∧ bj p l k = ((k + j : Nat) : Int)
 | [], k => .inl rfl
 | x :: l, k => by
  rw [bj]
  split
  ·exact .inr ⟨0, by simp, by simp⟩
  ·rcases zb p l (k + 1) with h | ⟨j, h1, h2⟩
   ·exact .inl h
   ·exact .inr ⟨j + 1, by simpa using h1, by rw [h2]; congr 1; omega⟩
def kS (o : Opt) (lost : List Int) : Nat := if il o lost ≥ 0 then (il o lost).toNat else o.sl.length
def flA (s : Nat → Int) (l : List Opt) (ps : List aj) (a b : Int) : List AV := aX s ++ [aP l, au ps, .int .i64 a, .int .i64 b]
def kw (l : List Opt) (lost : List Int) : List Int := l.map fun o => il o lost
def eL (l : List Opt) (lost : List Int) : List Img := l.map fun o => oG o (kS o lost)
def dv (l : List Opt) (lost : List Int) : List Opt := l.map fun o => l9 o (kS o lost)
def kO (l : List Opt) (lost : List Int) : List AV := [aB lost, aB (kw l lost), gP (eL l lost), d5 (aq (dv l lost))]
theorem Cd (o : Opt) (lost : List Int) : (il o lost = -1 ∧ kS o lost = o.sl.length) ∨ ∃ j, j < o.sl.length ∧ il o lost = (j : Int) ∧ kS o lost = j := by
 rcases zb (fun x : aZ => !inP lost x.p) o.sl 0 with h | ⟨j, h1, h2⟩
 ·have h : il o lost = -1 := h
  exact .inl ⟨h, by unfold kS; rw [if_neg (by omega)]⟩
 ·have h : il o lost = (j : Int) := by rw [il, h2]; simp
  exact .inr ⟨j, h1, h, by unfold kS; rw [if_pos (by omega), h]; simp⟩
theorem oA {α : Type} (f : Opt → α) {l : List Opt} {i : Nat} (h : i < l.length) : (l.take (i + 1)).map f = (l.take i).map f ++ [f (aD l i)] := by
 rw [List.take_add_one, List.getElem?_eq_getElem h, bT h]; exact List.map_append
theorem Ee (o : Opt) (k : Nat) : (l9 o k).sl.length ≤ o.sl.length := by
 unfold l9
 split
 ·show (o.sl.take _).length ≤ _; rw [List.length_take]; omega
 ·exact Nat.le_refl _
theorem sN (n : Nat) : ∀ l : List Opt, (∀ o ∈ l, o.sl.length ≤ n) → (bM l).length ≤ n * l.length
 | [], _ => Nat.zero_le _
 | o :: l, h => by
  have h1 := sN n l fun p hp => h p (List.mem_cons_of_mem _ hp)
  have h2 := h o List.mem_cons_self
  simp only [bM, List.flatMap_cons, List.length_append, List.length_map, List.length_cons] at h1 ⊢
  rw [Nat.mul_add]
  omega
set_option maxHeartbeats 16000000 in
theorem CS (s : Nat → Int) (l : List Opt) (ps : List aj) (a b : Int) (lost : List Int) (hl : l.length ≤ 8) (hsl : ∀ o ∈ l, o.sl.length ≤ 6) (hps : ps.length ≤ 1000000) (hlo : lost.length ≤ 1000000)
  (hs : ∀ o ∈ l, jF o ps lost = true) (hc : ∀ o ∈ l, lu o = true) : ae Tryz.prog 122 [.agg (flA s l ps a b), aB lost] (.tup [.agg (kO l lost), .bool true]) := by
 refine ag aa Tryz.func122 rfl (by kernel_rfl) af (Nat.le_of_ble_eq_true rfl) ?_
 intro F n' w0 m0 hG hro h1
 repeat' first|refine Q1 ?_|refine Q2 ?_|refine Q3 hG aa cN ?_|refine Q4 hG aa cN ?_|refine Q5 hG aa ?_|refine Q6 hG aa ?_|refine Q7 hG aa ?_|refine Q8 hG aa ?_|refine Q9 rfl ?_|refine QF rfl ?_|refine QC rfl ⟨fun h => ?_,fun h => ?_⟩|((conv => whnf); first|refine anF ?_|refine anT ?_|refine anK ?_|refine Exists.intro _ (And.intro (wL lost hlo) ?_)|refine And.intro (fun h => ?_) (fun h => ?_)|refine Or.inl ?_)
 refine SPB.resize 4 1 1004001 1 rfl rfl ?_
 refine SPB.resize 4 2 1004002 4 rfl rfl ?_
 refine aw (X := Nat) (fun x => ⟨[(18, .int .i64 x), (6, .sl (.id 6) 9 ((dv (l.take x) lost).map aG)), (17, .int .i64 (l.map aG).length), (16, aP l), (5, .bool false), (4, .loc 4 0), (2, .loc 2 0), (1, aB lost)], [(4, [aB lost, .sl (.id 1004001) 1 ((kw (l.take x) lost).map fun h => [AV.int .i64 h]), .sl (.id 1004002) 4 ((eL (l.take x) lost).map gw), .sl (.id 1004003) 0 []]), (2, flA s l ps a b)]⟩) (fun x => x ≤ l.length) (fun x => l.length - x) 0 (Nat.zero_le _) (ah ?_ ?_) (fun x hx => ?_)
 ·repeat' (first | exact trivial | refine And.intro rfl ?_)
 ·repeat' (first | exact trivial | refine And.intro rfl ?_)
 ·rename Nat => i
  have hi := hx
  by_cases hlt_i : i < l.length
  ·have bbk : decide ((i : Int) < ((l.map aG).length : Int)) = false → False := fun h => by have := of_decide_eq_false h; simp at this; omega
   have hx := gp hlt_i
   have hm : aD l i ∈ l := by rw [bT hlt_i]; exact List.getElem_mem hlt_i
   have hso := hs _ hm
   have hco := hc _ hm
   have hso6 := hsl _ hm
   have cS : ae Tryz.prog 198 [.agg (aG (aD l i)), au ps, aB lost] (.tup [.int .i64 (il (aD l i) lost), .int .i64 0]) := by
    have h := yp (aD l i) ps lost (by omega) hps hlo
    rw [yK, hso, if_pos rfl] at h; exact h
   have cW := rH (aD l i) (by omega) hco
   have e1 : (dv (l.take (i + 1)) lost).map aG = (dv (l.take i) lost).map aG ++ [aG (l9 (aD l i) (kS (aD l i) lost))] := by rw [dv, oA _ hlt_i, List.map_append]; rfl
   have e2 : (kw (l.take (i + 1)) lost).map (fun h => [AV.int .i64 h]) = (kw (l.take i) lost).map (fun h => [AV.int .i64 h]) ++ [[.int .i64 (il (aD l i) lost)]] := by rw [kw, oA _ hlt_i, List.map_append]; rfl
   have e3 : (eL (l.take (i + 1)) lost).map gw = (eL (l.take i) lost).map gw ++ [gw (oG (aD l i) (kS (aD l i) lost))] := by rw [eL, oA _ hlt_i, List.map_append]; rfl
   have n1 : ((dv (l.take i) lost).map aG).length = i := by simp [dv]; omega
   have n2 : ((kw (l.take i) lost).map fun h => [AV.int .i64 h]).length = i := by simp [kw]; omega
   have n3 : ((eL (l.take i) lost).map gw).length = i := by simp [eL]; omega
   have hkc := Cd (aD l i) lost
   have cF := fun (j : Nat) (hj : j < (aD l i).sl.length) => rV (aD l i) j (by omega) hco hj
   generalize (dv (l.take i) lost).map aG = r1 at e1 n1 ⊢
   generalize ((kw (l.take i) lost).map fun h => [AV.int .i64 h]) = r2 at e2 n2 ⊢
   generalize (eL (l.take i) lost).map gw = r3 at e3 n3 ⊢
   generalize il (aD l i) lost = n at cS e2 hkc
   generalize kS (aD l i) lost = q at e1 e3 hkc
   generalize aD l i = u at *
   rcases hkc with ⟨rfl, rfl⟩ | ⟨_, hj, rfl, rfl⟩
   ·repeat' first|exact (bbk (by assumption)).elim|refine Q1 ?_|refine Q2 ?_|refine Q3 hG aa cN ?_|refine Q4 hG aa cN ?_|refine Q5 hG aa ?_|refine Q6 hG aa ?_|refine Q7 hG aa ?_|refine Q8 hG aa ?_|refine Q9 rfl ?_|refine QF rfl ?_|refine QC rfl ⟨fun h => ?_,fun h => ?_⟩|((conv => whnf); first|refine anF ?_|refine anT ?_|refine anK ?_|refine And.intro (Int.natCast_nonneg i) (Exists.intro _ (And.intro hx ?_))|refine Exists.intro _ (And.intro (cS) ?_)|refine Exists.intro _ (And.intro (cW) ?_)|refine And.intro (show (r1.length + 1) * 88 ≤ 70368744177664 by omega) (And.intro (show r1.length + 1 ≤ 4611686018427387904 by omega) ?_)|refine And.intro (show (r2.length + 1) * 8 ≤ 70368744177664 by omega) (And.intro (show r2.length + 1 ≤ 4611686018427387904 by omega) ?_)|refine And.intro (show (r3.length + 1) * 32 ≤ 70368744177664 by omega) (And.intro (show r3.length + 1 ≤ 4611686018427387904 by omega) ?_)|refine And.intro (fun h => ?_) (fun h => ?_)|refine Or.inl ?_)
    refine Exists.intro (i + 1) (And.intro hlt_i (And.intro (by omega) (ah ?_ ?_)))
    ·refine And.intro (congrArg some (ap (by omega))) (And.intro (congrArg (fun z => some (AV.sl (.id 6) 9 z)) (e1.trans (congrArg (r1 ++ ·) ?_)).symm) ?_)
     ·rw [l9, if_neg (by omega)]; rfl
     ·repeat' (first | exact trivial | refine And.intro rfl ?_)
    ·refine And.intro (congrArg some ?_) ?_
     ·rw [e2, e3]
      rw [oG, if_neg (by omega)]; rfl
     ·repeat' (first | exact trivial | refine And.intro rfl ?_)
   ·have hjw : IntKind.i64.wrap ((q : Int) + 1) = ((q + 1 : Nat) : Int) := (am (by omega) (by omega)).trans (by omega)
    have hj1 : 0 ≤ IntKind.i64.wrap ((q : Int) + 1) := by rw [hjw]; exact Int.natCast_nonneg _
    have hj2 : (IntKind.i64.wrap ((q : Int) + 1)).toNat ≤ (u.sl.map aC).length := by rw [hjw, List.length_map]; omega
    have hrow : ((u.sl.map aC).take (IntKind.i64.wrap ((q : Int) + 1)).toNat).drop 0 = (u.sl.take (q + 1)).map aC := by rw [hjw, List.drop_zero, Int.toNat_natCast, List.map_take]
    have bbn : decide ((q : Int) ≥ 0) = false → False := fun h => by have := of_decide_eq_false h; omega
    have cFj := cF q hj
    repeat' first|exact (bbk (by assumption)).elim|exact (bbn (by assumption)).elim|refine Q1 ?_|refine Q2 ?_|refine Q3 hG aa cN ?_|refine Q4 hG aa cN ?_|refine Q5 hG aa ?_|refine Q6 hG aa ?_|refine Q7 hG aa ?_|refine Q8 hG aa ?_|refine Q9 rfl ?_|refine QF rfl ?_|refine QC rfl ⟨fun h => ?_,fun h => ?_⟩|((conv => whnf); first|refine anF ?_|refine anT ?_|refine anK ?_|refine And.intro (Int.natCast_nonneg i) (Exists.intro _ (And.intro hx ?_))|refine Exists.intro _ (And.intro (cS) ?_)|refine Exists.intro _ (And.intro (cW) ?_)|refine Exists.intro _ (And.intro (cFj) ?_)|refine And.intro hj1 (And.intro (Nat.zero_le _) (And.intro hj2 ?_))|refine And.intro (show (r1.length + 1) * 88 ≤ 70368744177664 by omega) (And.intro (show r1.length + 1 ≤ 4611686018427387904 by omega) ?_)|refine And.intro (show (r2.length + 1) * 8 ≤ 70368744177664 by omega) (And.intro (show r2.length + 1 ≤ 4611686018427387904 by omega) ?_)|refine And.intro (show (r3.length + 1) * 32 ≤ 70368744177664 by omega) (And.intro (show r3.length + 1 ≤ 4611686018427387904 by omega) ?_)|refine And.intro (fun h => ?_) (fun h => ?_)|refine Or.inl ?_)
    refine Exists.intro (i + 1) (And.intro hlt_i (And.intro (by omega) (ah ?_ ?_)))
    ·refine And.intro (congrArg some (ap (by omega))) (And.intro (congrArg (fun z => some (AV.sl (.id 6) 9 z)) (e1.trans (congrArg (r1 ++ ·) ?_)).symm) ?_)
     ·rw [l9, if_pos hj]
      exact congrArg (fun z => [[AV.int .i64 u.id, .int .i64 u.ord, .int .i64 u.cl, .int .i64 u.sat, .int .i64 u.a, .int .i64 u.b, .int .i64 u.look, .int .i64 u.size, .sl .no 3 z]]) hrow.symm
     ·repeat' (first | exact trivial | refine And.intro rfl ?_)
    ·refine And.intro (congrArg some ?_) ?_
     ·rw [e2, e3]
      rw [oG, if_pos hj]; rfl
     ·repeat' (first | exact trivial | refine And.intro rfl ?_)
  ·have bbk : decide ((i : Int) < ((l.map aG).length : Int)) = true → False := fun h => by have := of_decide_eq_true h; simp at this; omega
   have he : l.take i = l := List.take_of_length_le (by omega)
   rw [he]
   have hw6 : ∀ o ∈ dv l lost, o.sl.length ≤ 6 := fun o ho => by
    obtain ⟨p, hp, rfl⟩ := List.mem_map.1 ho
    exact Nat.le_trans (Ee _ _) (hsl p hp)
   have hwl : (dv l lost).length ≤ 8 := by simp [dv]; omega
   have cL := rR (dv l lost) (by omega) (fun o ho => by have := hw6 o ho; omega) (by have := sN 6 _ hw6; omega)
   repeat' first|exact (bbk (by assumption)).elim|refine Q1 ?_|refine Q2 ?_|refine Q3 hG aa cN ?_|refine Q4 hG aa cN ?_|refine Q5 hG aa ?_|refine Q6 hG aa ?_|refine Q7 hG aa ?_|refine Q8 hG aa ?_|refine Q9 rfl ?_|refine QF rfl ?_|refine QC rfl ⟨fun h => ?_,fun h => ?_⟩|((conv => whnf); first|refine anF ?_|refine anT ?_|refine anK ?_|refine Exists.intro _ (And.intro (cL) ?_)|refine And.intro (fun h => ?_) (fun h => ?_)|refine Or.inl ?_)
   exact Ends.mk (Or.inl rfl) (ac rfl)
end Go.Proofs
namespace Go.Proofs
open Go Go.AI
set_option maxRecDepth 10000
def gu (x : Int) (r : List Int) : Int := r.foldl min x
theorem A5 (x : Int) (r : List Int) (hl : r.length ≤ 1000000) : ae Tryz.prog 202 [aB (x :: r)] (.int .i64 (gu x r)) := by
 have hlen : (((x :: r).map fun h => [AV.int .i64 h]).length : Int) = (r.length : Int) + 1 := by simp
 have bb0 : decide ((((x :: r).map fun h => [AV.int .i64 h]).length : Int) < 1) = true → False := fun h => by have := of_decide_eq_true h; omega
 have hx0 : ((x :: r).map fun h => [AV.int .i64 h])[((0 : Int)).toNat]? = some [.int .i64 x] := rfl
 refine ag aa Tryz.func202 rfl (by kernel_rfl) af (Nat.le_of_ble_eq_true rfl) ?_
 intro F n' w0 m0 hG hro h1
 repeat' first|exact (bb0 (by assumption)).elim|refine Q1 ?_|refine Q2 ?_|refine Q3 hG aa dT ?_|refine Q4 hG aa dT ?_|refine Q5 hG aa ?_|refine Q6 hG aa ?_|refine Q7 hG aa ?_|refine Q8 hG aa ?_|refine Q9 rfl ?_|refine QF rfl ?_|refine QC rfl ⟨fun h => ?_,fun h => ?_⟩|((conv => whnf); first|refine anF ?_|refine anT ?_|refine anK ?_|refine And.intro (of_decide_eq_true (Eq.refl true)) (Exists.intro _ (And.intro hx0 ?_))|refine And.intro (fun h => ?_) (fun h => ?_)|refine Or.inl ?_)
 refine aw (X := Nat) (fun i_ => ⟨[(4, .int .i64 ((i_ + 1 : Nat) : Int)), (3, .int .i64 (gu x (r.take i_))), (0, aB (x :: r))], []⟩) (fun i_ => i_ ≤ r.length) (fun x => r.length - x) 0 (Nat.zero_le _) (ah ?_ ?_) (fun i hx => ?_)
 ·repeat' (first | exact trivial | refine And.intro rfl ?_)
 ·repeat' (first | exact trivial | refine And.intro rfl ?_)
 ·have hi := hx
  by_cases hlt_i : i < r.length
  ·have bbk : decide (((i + 1 : Nat) : Int) < (((x :: r).map fun h => [AV.int .i64 h]).length : Int)) = false → False := fun h => by have := of_decide_eq_false h; rw [hlen] at this; omega
   have hx : ((x :: r).map fun h => [AV.int .i64 h])[(((i + 1 : Nat) : Int)).toNat]? = some [.int .i64 (r.getD i 0)] := by rw [Int.toNat_natCast]; simp [List.getElem?_eq_getElem hlt_i]
   have hm : gu x (r.take (i + 1)) = min (gu x (r.take i)) (r.getD i 0) := by
    rw [gu, iG hlt_i, List.foldl_append]; rfl
   generalize r.getD i 0 = u at hx hm
   repeat' first|exact (bbk (by assumption)).elim|refine Q1 ?_|refine Q2 ?_|refine Q3 hG aa dT ?_|refine Q4 hG aa dT ?_|refine Q5 hG aa ?_|refine Q6 hG aa ?_|refine Q7 hG aa ?_|refine Q8 hG aa ?_|refine Q9 rfl ?_|refine QF rfl ?_|refine QC rfl ⟨fun h => ?_,fun h => ?_⟩|((conv => whnf); first|refine anF ?_|refine anT ?_|refine anK ?_|refine And.intro (Int.natCast_nonneg (i + 1)) (Exists.intro _ (And.intro hx ?_))|refine And.intro (fun h => ?_) (fun h => ?_)|refine Or.inl ?_)
   refine Exists.intro (i + 1) (And.intro hlt_i (And.intro (by omega) (ah ?_ ?_)))
   ·refine And.intro (congrArg some (ap (by omega))) (And.intro (congrArg (fun z => some (AV.int .i64 z)) hm.symm) ?_)
    repeat' (first | exact trivial | refine And.intro rfl ?_)
   ·repeat' (first | exact trivial | refine And.intro rfl ?_)
  ·have bbk : decide (((i + 1 : Nat) : Int) < (((x :: r).map fun h => [AV.int .i64 h]).length : Int)) = true → False := fun h => by have := of_decide_eq_true h; rw [hlen] at this; omega
   have he : r.take i = r := List.take_of_length_le (by omega)
   rw [he]
   repeat' first|exact (bbk (by assumption)).elim|refine Q1 ?_|refine Q2 ?_|refine Q3 hG aa dT ?_|refine Q4 hG aa dT ?_|refine Q5 hG aa ?_|refine Q6 hG aa ?_|refine Q7 hG aa ?_|refine Q8 hG aa ?_|refine Q9 rfl ?_|refine QF rfl ?_|refine QC rfl ⟨fun h => ?_,fun h => ?_⟩|((conv => whnf); first|refine anF ?_|refine anT ?_|refine anK ?_|refine And.intro (fun h => ?_) (fun h => ?_)|refine Or.inl ?_)
   exact Ends.mk (Or.inl rfl) (ac rfl)
structure Fnd where
 n : Int
 at_ : Int
 what : List Int
 is : Bool
def uk (x : Fnd) : List AV := [.int .i64 x.n, .int .i64 x.at_, aB x.what, .bool x.is]
def rB (a b : Fnd) : Fnd := if !a.is || (b.is && decide (b.n > a.n)) then b else a
theorem wZ (x y : Fnd) : ae Tryz.prog 201 [.agg (uk x), .agg (uk y)] (.agg (uk (rB x y))) := by
 obtain ⟨n, t, w, i⟩ := x
 obtain ⟨n2, t2, w2, i2⟩ := y
 cases i <;> cases i2
 ·refine ag aa Tryz.func201 rfl (by kernel_rfl) af (Nat.le_of_ble_eq_true rfl) ?_
  intro F n' w0 m0 hG hro h1
  repeat' first|refine Q1 ?_|refine Q2 ?_|refine Q3 hG aa cH ?_|refine Q4 hG aa cH ?_|refine Q5 hG aa ?_|refine Q6 hG aa ?_|refine Q7 hG aa ?_|refine Q8 hG aa ?_|refine Q9 rfl ?_|refine QF rfl ?_|refine QC rfl ⟨fun h => ?_,fun h => ?_⟩|((conv => whnf); first|refine anF ?_|refine anT ?_|refine anK ?_|refine And.intro (fun h => ?_) (fun h => ?_)|refine Or.inl ?_)
  all_goals refine Ends.mk (Or.inl rfl) (ac (congrArg (fun z => AV.agg (uk z)) ?_))
  all_goals (clear hG; first | rfl | (simp only [rB]; symm; first | (apply if_pos; simp_all; done) | (apply if_neg; simp_all; done)))
 ·refine ag aa Tryz.func201 rfl (by kernel_rfl) af (Nat.le_of_ble_eq_true rfl) ?_
  intro F n' w0 m0 hG hro h1
  repeat' first|refine Q1 ?_|refine Q2 ?_|refine Q3 hG aa cH ?_|refine Q4 hG aa cH ?_|refine Q5 hG aa ?_|refine Q6 hG aa ?_|refine Q7 hG aa ?_|refine Q8 hG aa ?_|refine Q9 rfl ?_|refine QF rfl ?_|refine QC rfl ⟨fun h => ?_,fun h => ?_⟩|((conv => whnf); first|refine anF ?_|refine anT ?_|refine anK ?_|refine And.intro (fun h => ?_) (fun h => ?_)|refine Or.inl ?_)
  all_goals refine Ends.mk (Or.inl rfl) (ac (congrArg (fun z => AV.agg (uk z)) ?_))
  all_goals (clear hG; first | rfl | (simp only [rB]; symm; first | (apply if_pos; simp_all; done) | (apply if_neg; simp_all; done)))
 ·refine ag aa Tryz.func201 rfl (by kernel_rfl) af (Nat.le_of_ble_eq_true rfl) ?_
  intro F n' w0 m0 hG hro h1
  repeat' first|refine Q1 ?_|refine Q2 ?_|refine Q3 hG aa cH ?_|refine Q4 hG aa cH ?_|refine Q5 hG aa ?_|refine Q6 hG aa ?_|refine Q7 hG aa ?_|refine Q8 hG aa ?_|refine Q9 rfl ?_|refine QF rfl ?_|refine QC rfl ⟨fun h => ?_,fun h => ?_⟩|((conv => whnf); first|refine anF ?_|refine anT ?_|refine anK ?_|refine And.intro (fun h => ?_) (fun h => ?_)|refine Or.inl ?_)
  all_goals refine Ends.mk (Or.inl rfl) (ac (congrArg (fun z => AV.agg (uk z)) ?_))
  all_goals (clear hG; first | rfl | (simp only [rB]; symm; first | (apply if_pos; simp_all; done) | (apply if_neg; simp_all; done)))
 ·refine ag aa Tryz.func201 rfl (by kernel_rfl) af (Nat.le_of_ble_eq_true rfl) ?_
  intro F n' w0 m0 hG hro h1
  repeat' first|refine Q1 ?_|refine Q2 ?_|refine Q3 hG aa cH ?_|refine Q4 hG aa cH ?_|refine Q5 hG aa ?_|refine Q6 hG aa ?_|refine Q7 hG aa ?_|refine Q8 hG aa ?_|refine Q9 rfl ?_|refine QF rfl ?_|refine QC rfl ⟨fun h => ?_,fun h => ?_⟩|((conv => whnf); first|refine anF ?_|refine anT ?_|refine anK ?_|refine And.intro (fun h => ?_) (fun h => ?_)|refine Or.inl ?_)
  all_goals refine Ends.mk (Or.inl rfl) (ac (congrArg (fun z => AV.agg (uk z)) ?_))
  all_goals (clear hG; first | rfl | (simp only [rB]; symm; first | (apply if_pos; simp_all; done) | (apply if_neg; simp_all; done)))
def ea (l : List (Int × Int)) : Int × Int := l.foldl (fun r x => if x.2 > r.1 then (x.2, x.1) else r) (0, -1)
set_option maxHeartbeats 4000000 in
theorem yn (l : List Img) (hl : l.length ≤ 1000000) (hv : dZ l = true) : ae Tryz.prog 62 [gP l] (.tup [.int .i64 (ea (bf l)).1, .int .i64 (ea (bf l)).2, .int .i64 0]) := by
 have cV : ae Tryz.prog 105 [gP l] (.bool true) := by rw [← hv]; exact kK l hl
 have hu : ∀ x ∈ l, 0 ≤ x.u ∧ x.u ≤ 1000000 := by
  simp only [dZ, Bool.and_eq_true] at hv
  exact jy l [] hv.1
 have hseq := kN l hl hu
 refine ag aa Tryz.func62 rfl (by kernel_rfl) af (Nat.le_of_ble_eq_true rfl) ?_
 intro F n' w0 m0 hG hro h1
 repeat' first|refine Q1 ?_|refine Q2 ?_|refine Q3 hG aa di ?_|refine Q4 hG aa di ?_|refine Q5 hG aa ?_|refine Q6 hG aa ?_|refine Q7 hG aa ?_|refine Q8 hG aa ?_|refine Q9 rfl ?_|refine QF rfl ?_|refine QC rfl ⟨fun h => ?_,fun h => ?_⟩|((conv => whnf); first|refine anF ?_|refine anT ?_|refine anK ?_|refine Exists.intro _ (And.intro (cV) ?_)|refine Exists.intro _ (And.intro (rW l) ?_)|refine And.intro (fun h => ?_) (fun h => ?_)|refine Or.inl ?_)
 generalize bf l = items at hseq
 refine ⟨SP.rangeM2 hG hro h1 (α := Int × Int) pA (f := 171) (cap := [.ref [gP l]]) (items := items) rfl hseq (fun _ => rfl) (fun _ => [(6, .loc 6 0), (5, .loc 5 0)]) [6, 5] (fun _ => rfl)
  (fun p => [(6, [.int .i64 (ea p).2]), (5, [.int .i64 (ea p).1])]) (ah ?_ ?_) (by kernel_rfl) (by decide) ?_ ?_⟩
 ·repeat' (first | exact trivial | refine And.intro rfl ?_)
 ·repeat' (first | exact trivial | refine And.intro rfl ?_)
 ·intro F' n'' m' hG' _ _ pre x rest hx
  clear hG
  have hG := hG'
  have hm : ea (pre ++ [x]) = if x.2 > (ea pre).1 then (x.2, x.1) else ea pre := by rw [ea, List.foldl_append]; rfl
  generalize ea pre = r at hm
  obtain ⟨n, t⟩ := r
  refine SPB.out (Q1 ?_)
  repeat' first|refine Q1 ?_|refine Q2 ?_|refine Q3 hG aa di ?_|refine Q4 hG aa di ?_|refine Q5 hG aa ?_|refine Q6 hG aa ?_|refine Q7 hG aa ?_|refine Q8 hG aa ?_|refine Q9 rfl ?_|refine QF rfl ?_|refine QC rfl ⟨fun h => ?_,fun h => ?_⟩|((conv => whnf); first|refine anF ?_|refine anT ?_|refine anK ?_|refine And.intro (fun h => ?_) (fun h => ?_)|refine Or.inl ?_)
  refine And.intro (ah ?_ ?_) ?_
  ·repeat' (first | exact trivial | refine And.intro rfl ?_)
  ·repeat' (first | exact trivial | refine And.intro rfl ?_)
  refine SPB.out ?_
  repeat' first|refine Q1 ?_|refine Q2 ?_|refine Q3 hG aa di ?_|refine Q4 hG aa di ?_|refine Q5 hG aa ?_|refine Q6 hG aa ?_|refine Q7 hG aa ?_|refine Q8 hG aa ?_|refine Q9 rfl ?_|refine QF rfl ?_|refine QC rfl ⟨fun h => ?_,fun h => ?_⟩|((conv => whnf); first|refine anF ?_|refine anT ?_|refine anK ?_|refine And.intro (fun h => ?_) (fun h => ?_)|refine Or.inl ?_)
  ·rw [if_pos (of_decide_eq_true (by assumption))] at hm
   refine ah ?_ ?_
   ·repeat' (first | exact trivial | refine And.intro rfl ?_)
   ·dsimp only; rw [hm]; repeat' (first | exact trivial | refine And.intro rfl ?_)
  ·rw [if_neg (of_decide_eq_false (by assumption))] at hm
   refine ah ?_ ?_
   ·repeat' (first | exact trivial | refine And.intro rfl ?_)
   ·dsimp only; rw [hm]; repeat' (first | exact trivial | refine And.intro rfl ?_)
 ·conv => whnf
  repeat' first|refine Q1 ?_|refine Q2 ?_|refine Q3 hG aa di ?_|refine Q4 hG aa di ?_|refine Q5 hG aa ?_|refine Q6 hG aa ?_|refine Q7 hG aa ?_|refine Q8 hG aa ?_|refine Q9 rfl ?_|refine QF rfl ?_|refine QC rfl ⟨fun h => ?_,fun h => ?_⟩|((conv => whnf); first|refine anF ?_|refine anT ?_|refine anK ?_|refine And.intro (fun h => ?_) (fun h => ?_)|refine Or.inl ?_)
  all_goals exact Ends.mk (Or.inl rfl) (ac rfl)
theorem Bu (s : Nat → Int) (l : List Opt) (ps : List aj) (a b : Int) (lost : List Int) (I : List Img) (n t : Int) (h1 : eL l lost = I) (h2 : ea (bf I) = (n, t)) (hl : I.length ≤ 1000000) (hv : dZ I = true) :
  ae Tryz.prog 127 [.agg (flA s l ps a b), .agg (kO l lost)] (.tup [.int .i64 n, .int .i64 t, .bool true]) := by
 have c := yn I hl hv
 rw [h2] at c
 rw [kO, h1]
 refine ag aa Tryz.func127 rfl (by kernel_rfl) af (Nat.le_of_ble_eq_true rfl) ?_
 intro F n' w0 m0 hG hro h1
 repeat' first|refine Q1 ?_|refine Q2 ?_|refine Q3 hG aa nW ?_|refine Q4 hG aa nW ?_|refine Q5 hG aa ?_|refine Q6 hG aa ?_|refine Q7 hG aa ?_|refine Q8 hG aa ?_|refine Q9 rfl ?_|refine QF rfl ?_|refine QC rfl ⟨fun h => ?_,fun h => ?_⟩|((conv => whnf); first|refine anF ?_|refine anT ?_|refine anK ?_|refine Exists.intro _ (And.intro (c) ?_)|refine And.intro (fun h => ?_) (fun h => ?_)|refine Or.inl ?_)
 all_goals exact Ends.mk (Or.inl rfl) (ac rfl)
def lvL (s : Nat → Int) (D : List ao) (a b : Int) : List Int := (cU (s 11) (d9 s D a b)).2
theorem yt (s : Nat → Int) (l : List Opt) (ps : List aj) (a b : Int) (lost : List Int) (D : List ao) (x : Int) (r : List Int) (h1 : aq (dv l lost) = D) (h2 : lvL s D a b = x :: r) (hD : D.length ≤ 1000000) (hv : fE s D a b = true) (hr : r.length ≤ 100000) :
  ae Tryz.prog 129 [.agg (flA s l ps a b), .agg (kO l lost)] (.tup [.int .i64 (w64 (0 - gu x r)), .int .i64 (w64 (a + bj (fun y => gu x r == y) (x :: r) 0)), .bool true]) := by
 have c := wX s D a b hD hv
 rw [show (cU (s 11) (d9 s D a b)).2 = x :: r from h2] at c
 have c2 := A5 x r (by omega)
 have c3 := qa (x :: r) (gu x r) (by simp; omega)
 have bb0 : ((((x :: r).map fun h => [AV.int .i64 h]).length : Int) == 0) = true → False := fun h => by have := eq_of_beq h; simp at this; omega
 rw [kO, h1]
 generalize gu x r = m at *
 generalize bj (fun y => m == y) (x :: r) 0 = j at *
 refine ag aa Tryz.func129 rfl (by kernel_rfl) af (Nat.le_of_ble_eq_true rfl) ?_
 intro F n' w0 m0 hG hro h1
 repeat' first|exact (bb0 (by assumption)).elim|refine Q1 ?_|refine Q2 ?_|refine Q3 hG aa nV ?_|refine Q4 hG aa nV ?_|refine Q5 hG aa ?_|refine Q6 hG aa ?_|refine Q7 hG aa ?_|refine Q8 hG aa ?_|refine Q9 rfl ?_|refine QF rfl ?_|refine QC rfl ⟨fun h => ?_,fun h => ?_⟩|((conv => whnf); first|refine anF ?_|refine anT ?_|refine anK ?_|refine Exists.intro _ (And.intro (c) ?_)|refine Exists.intro _ (And.intro (c2) ?_)|refine Exists.intro _ (And.intro (c3) ?_)|refine And.intro (fun h => ?_) (fun h => ?_)|refine Or.inl ?_)
 all_goals exact Ends.mk (Or.inl rfl) (ac rfl)
def d3 (s : Nat → Int) (l : List Opt) (ps : List aj) (k a b : Int) : Bool := ug k && aT s l ps a b && decide (((ax l).length : Int) ≤ 6)
theorem gY (s : Nat → Int) (l : List Opt) (ps : List aj) (k a b : Int) (hl : l.length ≤ 1000000) (hs : ij l) (hps : ps.length ≤ 1000000) : ae Tryz.prog 51 [.agg (aX s), aP l, au ps, .int .i64 k, .agg (aQ a b)] (.bool (d3 s l ps k a b)) := by
 have hfl : (((ax l).map fun h => [AV.int .i64 h]).length : Int) = ((ax l).length : Int) := by rw [List.length_map]
 refine ag aa Tryz.func51 rfl (by kernel_rfl) af (Nat.le_of_ble_eq_true rfl) ?_
 intro F n' w0 m0 hG hro h1
 repeat' first|refine Q1 ?_|refine Q2 ?_|refine Q3 hG aa pV ?_|refine Q4 hG aa pV ?_|refine Q5 hG aa ?_|refine Q6 hG aa ?_|refine Q7 hG aa ?_|refine Q8 hG aa ?_|refine Q9 rfl ?_|refine QF rfl ?_|refine QC rfl ⟨fun h => ?_,fun h => ?_⟩|((conv => whnf); first|refine anF ?_|refine anT ?_|refine anK ?_|refine Exists.intro _ (And.intro (rI s l ps a b hl hs hps) ?_)|refine Exists.intro _ (And.intro (fe l hl hs) ?_)|refine And.intro (fun h => ?_) (fun h => ?_)|refine Or.inl ?_)
 all_goals refine Ends.mk (Or.inl rfl) (ac (congrArg AV.bool ?_))
 all_goals (try rw [hfl] at *)
 all_goals (clear hG; grind [d3, ug])
end Go.Proofs
namespace Go.Proofs
open Go Go.AI
set_option maxRecDepth 10000
section
variable {Γ : aI} {s : St} {K : Exit → St → Prop}
theorem SPB.unown {c : Code} (d j k sz sz2 : Nat) {cs : List AV} (h1 : AI.get s.b d = some cs) (h2 : cs[j]? = some (.sl (.id k) sz [])) (h : SPB Γ ⟨s.t, (d, de cs j (.sl .no sz2 [])) :: s.b⟩ c K) : SPB Γ s c K := by
 refine ⟨fun a w hI => h.out a w ?_⟩
 obtain ⟨⟨cx, hW, ht⟩, hs, hd, hrn⟩ := hI
 have hne : cs ≠ [] := fun e => by rw [e] at h2; simp at h2
 refine ⟨⟨cx, hW.rebox h1 hne (ez _ _ _) (fun x hx => ?_) (fun vs hvs i x v q1 q2 => ?_), ht⟩, hs, hd, hrn⟩
 ·obtain ⟨p, hp⟩ := List.getElem?_of_mem hx
  rw [dy] at hp
  split at hp
  ·cases hp; rfl
  ·exact (hW.box d cs h1 hne).2.2.1 x (List.mem_of_getElem? hp)
 ·rw [dy] at q1
  split at q1
  ·rename_i hj
   cases q1
   have hr := hvs i _ v (by rw [← hj.1]; exact h2) q2
   obtain ⟨r1, r2, r3⟩ := (show RC1 cx (.sl (.id k) sz []) v from hr)
   show RD cx.m _ v
   match r3 with
   | .sl _ _ _ base len cap ho hf hl hc _ _ b off hb g _ _ => exact .sl _ _ _ _ _ _ (by intro k hk; cases hk) (by intro hk; cases hk) hl hc (by simp) (by simp) b off hb g (by simp) (by simp)
  ·exact hvs i x v q1 q2
end
theorem vb {s : Nat → Int} {ps : List aj} {z : Int} (hpl : ps.length ≤ 64) : ∀ (l : List aZ) (t t2 : Int), t2 ≤ t → bn s ps z t l = true → sd ps t2 l = true
 | [], _, _, _, _ => rfl
 | x :: r, t, t2, ht, h => by
  simp only [bn, eX, Bool.and_eq_true, inS, decide_eq_true_eq, Bool.not_eq_true'] at h
  obtain ⟨⟨⟨h0, h1⟩, ⟨⟨⟨_, h2⟩, h3⟩, h4⟩, _⟩, h5⟩ := h
  rw [am (by omega) (by omega)] at h1
  rw [sd, vb hpl r x.b x.b (Int.le_refl _) h5, Bool.and_true]
  simp only [slL, Bool.and_eq_true, Bool.not_eq_true', decide_eq_false_iff_not]
  omega
theorem pw {s : Nat → Int} {o : Opt} {ps : List aj} (hps : cc ps = true) (ho : 0 ≤ o.b) (h : db s o ps = true) : eO o ps = true := by
 have hl := (qD hps).2
 simp only [db, Bool.and_eq_true, inS, decide_eq_true_eq] at h
 obtain ⟨⟨_, h1⟩, h2⟩ := h
 have h3 := vb hl o.sl o.b 0 ho h2
 simp only [eO, Bool.and_eq_true, Bool.not_eq_true', decide_eq_false_iff_not, h3, hps, and_true]
 omega
theorem xr {s : Nat → Int} {l : List Opt} {ps : List aj} {a b : Int} (h : aT s l ps a b = true) {lost : List Int} (hs : kV ps lost = true) : ∀ o ∈ l, jF o ps lost = true := fun o ho => by
 obtain ⟨_, hr, _, _, hp, hf, _⟩ := aY.1 h
 obtain ⟨_, _, hfit⟩ := ku.of h
 have h1 := hfit o ho
 unfold jF
 rw [hs, Bool.and_true]
 exact pw hp (by have := h1.shot; omega) (hf o ho).1
theorem tB {s : Nat → Int} {l : List Opt} {ps : List aj} {a b : Int} (h : aT s l ps a b = true) {lost : List Int} (hs : kV ps lost = true) (hlo : lost.length ≤ 1000000) : ae Tryz.prog 122 [.agg (flA s l ps a b), aB lost] (.tup [.agg (kO l lost), .bool true]) := by
 obtain ⟨hl, _, _, _, hp, _, _⟩ := aY.1 h
 obtain ⟨_, _, hfit⟩ := ku.of h
 exact CS s l ps a b lost hl (fun o ho => (hfit o ho).len.2) (by have := (qD hp).2; omega) hlo (xr h hs) (fun o ho => (hfit o ho).can)
def Et : Fnd := ⟨0, 0, [], false⟩
def dM (m : List Int → Int × Int) (L : List (List Int)) : Fnd := L.foldl (fun x y => rB x ⟨(m y).1, (m y).2, y, true⟩) Et
theorem yd (m : List Int → Int × Int) (L : List (List Int)) (y : List Int) : dM m (L ++ [y]) = rB (dM m L) ⟨(m y).1, (m y).2, y, true⟩ := by rw [dM, List.foldl_append]; rfl
set_option maxHeartbeats 8000000 in
theorem pC (s : Nat → Int) (l : List Opt) (ps : List aj) (k a b : Int) (g : FuncId) (m : List Int → Int × Int) (hl : l.length ≤ 1000000) (hs : ij l) (hps : ps.length ≤ 1000000) (hv : d3 s l ps k a b = true)
  (hw : ∀ lost ∈ bz (ax l) ps k, ae Tryz.prog 122 [.agg (flA s l ps a b), aB lost] (.tup [.agg (kO l lost), .bool true]))
  (hg : ∀ lost ∈ bz (ax l) ps k, ae Tryz.prog g [.agg (flA s l ps a b), .agg (kO l lost)] (.tup [.int .i64 (m lost).1, .int .i64 (m lost).2, .bool true])) :
  ae Tryz.prog 126 [.agg (aX s), aP l, au ps, .int .i64 k, .agg (aQ a b), .fn g] (.tup [.agg (uk (dM m (bz (ax l) ps k))), .int .i64 0]) := by
 have cV := gY s l ps k a b hl hs hps
 rw [hv] at cV
 have hf6 : (ax l).length ≤ 6 := by
  simp only [d3, Bool.and_eq_true, decide_eq_true_eq] at hv; omega
 have hseq := mQ (ax l) ps k hf6 hps
 refine ag aa Tryz.func126 rfl (by kernel_rfl) af (Nat.le_of_ble_eq_true rfl) ?_
 intro F n' w0 m0 hG hro h1
 repeat' first|refine Q1 ?_|refine Q2 ?_|refine Q3 hG aa dt ?_|refine Q4 hG aa dt ?_|refine Q5 hG aa ?_|refine Q6 hG aa ?_|refine Q7 hG aa ?_|refine Q8 hG aa ?_|refine Q9 rfl ?_|refine QF rfl ?_|refine QC rfl ⟨fun h => ?_,fun h => ?_⟩|((conv => whnf); first|refine anF ?_|refine anT ?_|refine anK ?_|refine Exists.intro _ (And.intro (cV) ?_)|refine Exists.intro _ (And.intro (fe l hl hs) ?_)|refine Exists.intro _ (And.intro (tC _ _ _) ?_)|refine And.intro (fun h => ?_) (fun h => ?_)|refine Or.inl ?_)
 generalize bz (ax l) ps k = items at hseq hw hg
 refine SPB.unown 12 2 1012002 0 1 rfl rfl ?_
 conv => whnf
 refine ⟨SP.rangeM2 hG hro h1 (α := List Int) (fun l => [aB l]) (f := 191) (cap := [.ref [aB (ax l)], .ref [au ps], .ref [.int .i64 k]]) (items := items) rfl hseq (fun _ => rfl) (fun _ => [(14, .loc 14 0), (13, .loc 13 0), (12, .loc 12 0), (11, .loc 11 0)]) [14, 13, 12, 11] (fun _ => rfl)
  (fun p => [(14, flA s l ps a b), (13, [.int .i64 0]), (12, uk (dM m p)), (11, [.fn g])]) (ah ?_ ?_) (by kernel_rfl) (by decide) ?_ ?_⟩
 ·repeat' (first | exact trivial | refine And.intro rfl ?_)
 ·repeat' (first | exact trivial | refine And.intro rfl ?_)
 ·intro F' n'' m' hG' _ _ pre x rest hx
  clear hG
  have hG := hG'
  have hxm : x ∈ items := by rw [hx]; simp
  have cW := hw x hxm
  have cM := hg x hxm
  have hb := yd m pre x
  generalize dM m pre = z at hb
  refine SPB.out (Q4 hG aa dt ?_)
  conv => whnf
  refine And.intro rfl (And.intro (ah ?_ ?_) ?_)
  ·repeat' (first | exact trivial | refine And.intro rfl ?_)
  ·repeat' (first | exact trivial | refine And.intro rfl ?_)
  refine SPB.out ?_
  repeat' first|refine Q1 ?_|refine Q2 ?_|refine Q3 hG aa dt ?_|refine Q4 hG aa dt ?_|refine Q5 hG aa ?_|refine Q6 hG aa ?_|refine Q7 hG aa ?_|refine Q8 hG aa ?_|refine Q9 rfl ?_|refine QF rfl ?_|refine QC rfl ⟨fun h => ?_,fun h => ?_⟩|((conv => whnf); first|refine anF ?_|refine anT ?_|refine anK ?_|refine Exists.intro _ (And.intro (cW) ?_)|refine Exists.intro _ (And.intro (cM) ?_)|refine Exists.intro _ (And.intro (wZ z ⟨(m x).1, (m x).2, x, true⟩) ?_)|refine And.intro (fun h => ?_) (fun h => ?_)|refine Or.inl ?_)
  refine ah ?_ ?_
  ·repeat' (first | exact trivial | refine And.intro rfl ?_)
  ·dsimp only; rw [hb]; repeat' (first | exact trivial | refine And.intro rfl ?_)
 ·conv => whnf
  repeat' first|refine Q1 ?_|refine Q2 ?_|refine Q3 hG aa dt ?_|refine Q4 hG aa dt ?_|refine Q5 hG aa ?_|refine Q6 hG aa ?_|refine Q7 hG aa ?_|refine Q8 hG aa ?_|refine Q9 rfl ?_|refine QF rfl ?_|refine QC rfl ⟨fun h => ?_,fun h => ?_⟩|((conv => whnf); first|refine anF ?_|refine anT ?_|refine anK ?_|refine And.intro (fun h => ?_) (fun h => ?_)|refine Or.inl ?_)
  all_goals exact Ends.mk (Or.inl rfl) (ac rfl)
end Go.Proofs
namespace Go.Proofs
open Go Go.AI
set_option maxRecDepth 10000
theorem oF {s : Nat → Int} {l : List Opt} {ps : List aj} {a b : Int} (h : aT s l ps a b = true) (k : Opt → Nat) : ∀ o ∈ l, (oG o (k o)).i = o.id ∧ (oG o (k o)).u = o.size ∧ (oG o (k o)).a = o.a ∧ o.a < (oG o (k o)).b ∧ (oG o (k o)).b ≤ dY o := fun o ho => by
 obtain ⟨_, _, hfit⟩ := ku.of h
 have hf := hfit o ho
 have hs := hf.shot
 have hla := hf.last
 have hc := hf.can
 simp only [lu, Bool.and_eq_true] at hc
 have hge := te _ _ hc.1
 unfold oG
 split
 ·rename_i hk
  have h1 := hge _ (yG hk)
  have h2 := hf.slot _ (yG hk)
  exact ⟨rfl, rfl, rfl, by show _ < (eY _ _).b; omega, h2.2.2⟩
 ·exact ⟨rfl, rfl, rfl, by show _ < dY _; omega, Int.le_refl _⟩
theorem xX {s : Nat → Int} {l : List Opt} {ps : List aj} {a b : Int} (h : aT s l ps a b = true) (k : Opt → Nat) : dZ (l.map fun o => oG o (k o)) = true := by
 obtain ⟨hl, hr, _, hsat, _, _, hids⟩ := aY.1 h
 obtain ⟨_, _, hfit⟩ := ku.of h
 have hq := sO hsat
 have himg := oF h k
 rw [dZ, Bool.and_eq_true]
 refine ⟨(qI _ []).2 ⟨fun x hx => ?_, ?_, fun p hp => nomatch hp⟩, by simp; omega⟩
 ·obtain ⟨o, ho, rfl⟩ := List.mem_map.1 hx
  obtain ⟨e1, e2, e3, e4, e5⟩ := himg o ho
  have hf := hfit o ho
  have f1 := hf.id; have f2 := hf.size; have f3 := hf.shot; have f4 := hf.last
  rw [e1, e2, e3]
  refine ⟨f1, ⟨f2.1, by omega⟩, f3.1, e4, by omega⟩
 ·rw [List.pairwise_map]
  refine List.Pairwise.imp_of_mem (fun {x y} hx hy hxy => ?_) hids
  rw [(himg x hx).1, (himg y hy).1]; exact hxy
theorem j7 {s : Nat → Int} {l : List Opt} {ps : List aj} {a b : Int} (h : aT s l ps a b = true) (k : Opt → Nat) : c6 (l.map fun o => l9 o (k o)) := by
 obtain ⟨_, hg, _⟩ := ku.of h
 refine ⟨by have := hg.n; simpa using this, fun o ho => ?_, fun o ho x hx => ?_⟩
 ·obtain ⟨p, hp, rfl⟩ := List.mem_map.1 ho
  have := hg.shot p hp
  unfold l9
  split
  ·exact ⟨this.1, this.2.1, this.2.2.1, by show (List.take _ _).length ≤ 6; rw [List.length_take]; omega⟩
  ·exact this
 ·obtain ⟨p, hp, rfl⟩ := List.mem_map.1 ho
  refine hg.slot p hp x ?_
  unfold l9 at hx
  split at hx
  ·exact List.mem_of_mem_take hx
  ·exact hx
theorem vH {s : Nat → Int} {l : List Opt} {ps : List aj} {a b : Int} (h : aT s l ps a b = true) {D : List Opt} (hg : c6 D) : fE s (aq D) a b = true := by
 obtain ⟨_, hr, hab, hsat, _, _, _⟩ := aY.1 h
 have hw : w64 (b - a) = b - a := am (by omega) (by omega)
 simp only [fE, Bool.and_eq_true, decide_eq_true_eq, hg.proper, hsat, and_true, gd, hw]
 omega
theorem pp (c : Int) : ∀ (pre : List (Int × Int)) (r : Int × List Int), (pre.foldl (fN c) r).2.length = r.2.length + pre.length
 | [], r => by simp
 | p :: pre, r => by rw [List.foldl_cons, pp c pre]; simp [fN]; omega
theorem Ek (s : Nat → Int) (D : List ao) (a b : Int) : (lvL s D a b).length = (b - a).toNat := by
 rw [lvL, cU, pp]; simp [d9, fG]
def pkM (l : List Opt) (lost : List Int) : Int × Int := ea (bf (eL l lost))
def t8 (l : List Int) : Int := match l with | [] => 0 | x :: r => gu x r
def loM (s : Nat → Int) (l : List Opt) (a b : Int) (lost : List Int) : Int × Int := (w64 (0 - t8 (lvL s (aq (dv l lost)) a b)), w64 (a + bj (fun y => t8 (lvL s (aq (dv l lost)) a b) == y) (lvL s (aq (dv l lost)) a b) 0))
def pkS (l : List Opt) (ps : List aj) (k : Int) : Fnd := dM (pkM l) (bz (ax l) ps k)
def loS (s : Nat → Int) (l : List Opt) (ps : List aj) (k a b : Int) : Fnd := dM (loM s l a b) (bz (ax l) ps k)
theorem qy {f : List Int} {ps : List aj} {k : Int} {x : List Int} (h : x ∈ bz f ps k) : fc ps x k = true ∧ ∃ b, b < 2 ^ f.length ∧ x = iK f b := by
 obtain ⟨h1, h2⟩ := List.mem_filter.1 h
 obtain ⟨b, hb, rfl⟩ := List.mem_map.1 h1
 exact ⟨h2, b, List.mem_range.1 hb, rfl⟩
theorem AG {ps : List aj} {x : List Int} {k : Int} (h : fc ps x k = true) : kV ps x = true := by
 simp only [fc, Bool.and_eq_true] at h; exact h.1.2
theorem gI {s : Nat → Int} {l : List Opt} {ps : List aj} {k a b : Int} (hv : d3 s l ps k a b = true) : aT s l ps a b = true ∧ (ax l).length ≤ 6 ∧ 0 ≤ k ∧ k ≤ 3 := by
 simp only [d3, ug, Bool.and_eq_true, decide_eq_true_eq] at hv
 exact ⟨hv.1.2, by omega, hv.1.1⟩
theorem fp {s : Nat → Int} {l : List Opt} {ps : List aj} {a b : Int} (h : aT s l ps a b = true) : l.length ≤ 1000000 ∧ ij l ∧ ps.length ≤ 1000000 := by
 obtain ⟨hl, _, _, _, hp, _, _⟩ := aY.1 h
 obtain ⟨hk, _, _⟩ := ku.of h
 have := (qD hp).2
 exact ⟨by omega, hk.sl, by omega⟩
theorem yB {f : List Int} {b : Nat} (hf : f.length ≤ 6) : (iK f b).length ≤ 1000000 := Nat.le_trans (oq f b f.length) (by omega)
theorem tH {s : Nat → Int} {l : List Opt} {ps : List aj} {k a b : Int} (hv : d3 s l ps k a b = true) : ∀ lost ∈ bz (ax l) ps k, ae Tryz.prog 122 [.agg (flA s l ps a b), aB lost] (.tup [.agg (kO l lost), .bool true]) := fun lost hm => by
 obtain ⟨ht, hf, _⟩ := gI hv
 obtain ⟨ha, bb, _, rfl⟩ := qy hm
 exact tB ht (AG ha) (yB hf)
theorem yr {s : Nat → Int} {l : List Opt} {ps : List aj} {a b : Int} (ht : aT s l ps a b = true) (lost : List Int) : ae Tryz.prog 127 [.agg (flA s l ps a b), .agg (kO l lost)] (.tup [.int .i64 (pkM l lost).1, .int .i64 (pkM l lost).2, .bool true]) :=
 Bu s l ps a b lost _ _ _ rfl rfl (by have := (aY.1 ht).1; simp [eL]; omega) (xX ht _)
theorem wK {s : Nat → Int} {l : List Opt} {ps : List aj} {a b : Int} (ht : aT s l ps a b = true) (lost : List Int) : ae Tryz.prog 129 [.agg (flA s l ps a b), .agg (kO l lost)] (.tup [.int .i64 (loM s l a b lost).1, .int .i64 (loM s l a b lost).2, .bool true]) := by
 obtain ⟨_, hr, hab, _⟩ := aY.1 ht
 have hg : c6 (dv l lost) := j7 ht _
 have hlen := Ek s (aq (dv l lost)) a b
 have hd := iU hg
 have hv := vH ht hg
 unfold loM
 generalize hlv : lvL s (aq (dv l lost)) a b = lv at hlen
 cases lv with
 | nil => simp at hlen; omega
 | cons x r => exact yt s l ps a b lost _ x r rfl hlv (by omega) hv (by simp at hlen; omega)
theorem lA {s : Nat → Int} {l : List Opt} {ps : List aj} {k a b : Int} (hv : d3 s l ps k a b = true) : ae Tryz.prog 56 [.agg (aX s), aP l, au ps, .int .i64 k, .agg (aQ a b)] (.tup [.int .i64 (pkS l ps k).n, .int .i64 (pkS l ps k).at_, aB (pkS l ps k).what, .int .i64 0]) := by
 obtain ⟨ht, hf, _⟩ := gI hv
 obtain ⟨hl, hs, hp⟩ := fp ht
 have c := pC s l ps k a b 127 (pkM l) hl hs hp hv (tH hv) (fun lost _ => yr ht lost)
 have e : dM (pkM l) (bz (ax l) ps k) = pkS l ps k := rfl
 rw [e] at c
 generalize pkS l ps k = z at c
 refine ag aa Tryz.func56 rfl (by kernel_rfl) af (Nat.le_of_ble_eq_true rfl) ?_
 intro F n' w0 m0 hG hro h1
 repeat' first|refine Q1 ?_|refine Q2 ?_|refine Q3 hG aa pU ?_|refine Q4 hG aa pU ?_|refine Q5 hG aa ?_|refine Q6 hG aa ?_|refine Q7 hG aa ?_|refine Q8 hG aa ?_|refine Q9 rfl ?_|refine QF rfl ?_|refine QC rfl ⟨fun h => ?_,fun h => ?_⟩|((conv => whnf); first|refine anF ?_|refine anT ?_|refine anK ?_|refine Exists.intro _ (And.intro (c) ?_)|refine And.intro (fun h => ?_) (fun h => ?_)|refine Or.inl ?_)
 all_goals exact Ends.mk (Or.inl rfl) (ac rfl)
theorem tE {s : Nat → Int} {l : List Opt} {ps : List aj} {k a b : Int} (hv : d3 s l ps k a b = true) : ae Tryz.prog 58 [.agg (aX s), aP l, au ps, .int .i64 k, .agg (aQ a b)] (.tup [.int .i64 (w64 (0 - (loS s l ps k a b).n)), .int .i64 (loS s l ps k a b).at_, aB (loS s l ps k a b).what, .int .i64 0]) := by
 obtain ⟨ht, hf, _⟩ := gI hv
 obtain ⟨hl, hs, hp⟩ := fp ht
 have c := pC s l ps k a b 129 (loM s l a b) hl hs hp hv (tH hv) (fun lost _ => wK ht lost)
 have e : dM (loM s l a b) (bz (ax l) ps k) = loS s l ps k a b := rfl
 rw [e] at c
 generalize loS s l ps k a b = z at c
 refine ag aa Tryz.func58 rfl (by kernel_rfl) af (Nat.le_of_ble_eq_true rfl) ?_
 intro F n' w0 m0 hG hro h1
 repeat' first|refine Q1 ?_|refine Q2 ?_|refine Q3 hG aa pT ?_|refine Q4 hG aa pT ?_|refine Q5 hG aa ?_|refine Q6 hG aa ?_|refine Q7 hG aa ?_|refine Q8 hG aa ?_|refine Q9 rfl ?_|refine QF rfl ?_|refine QC rfl ⟨fun h => ?_,fun h => ?_⟩|((conv => whnf); first|refine anF ?_|refine anT ?_|refine anK ?_|refine Exists.intro _ (And.intro (c) ?_)|refine And.intro (fun h => ?_) (fun h => ?_)|refine Or.inl ?_)
 all_goals exact Ends.mk (Or.inl rfl) (ac rfl)
theorem lC {s : Nat → Int} {l : List Opt} {ps : List aj} {k a b : Int} (hv : d3 s l ps k a b = true) : ae Tryz.prog 60 [.agg (aX s), aP l, au ps, .int .i64 k, .agg (aQ a b)] (.bool (decide ((pkS l ps k).n ≤ s 10) && decide (w64 (0 - (loS s l ps k a b).n) ≥ 0))) := by
 have c1 := lA hv
 have c2 := tE hv
 generalize pkS l ps k = z at *
 generalize w64 (0 - (loS s l ps k a b).n) = m at *
 generalize loS s l ps k a b = z2 at *
 refine ag aa Tryz.func60 rfl (by kernel_rfl) af (Nat.le_of_ble_eq_true rfl) ?_
 intro F n' w0 m0 hG hro h1
 repeat' first|refine Q1 ?_|refine Q2 ?_|refine Q3 hG aa pS ?_|refine Q4 hG aa pS ?_|refine Q5 hG aa ?_|refine Q6 hG aa ?_|refine Q7 hG aa ?_|refine Q8 hG aa ?_|refine Q9 rfl ?_|refine QF rfl ?_|refine QC rfl ⟨fun h => ?_,fun h => ?_⟩|((conv => whnf); first|refine anF ?_|refine anT ?_|refine anK ?_|refine Exists.intro _ (And.intro (c1) ?_)|refine Exists.intro _ (And.intro (c2) ?_)|refine And.intro (fun h => ?_) (fun h => ?_)|refine Or.inl ?_)
 all_goals refine Ends.mk (Or.inl rfl) (ac (congrArg AV.bool ?_))
 all_goals (clear hG c1 c2; first | grind | (simp_all; done) | (simp_all; omega))
def oK (f l : List Int) (i : Nat) : Bool := inP f (aS l i) && (decide (i = 0) || decide (aS l (i - 1) < aS l i))
def jQ (f l : List Int) : Bool := (List.range l.length).all (oK f l)
theorem Aq {f l : List Int} {i : Nat} (hi : i < l.length) (h : oK f l i = false) : jQ f l = false := by
 unfold jQ
 rw [List.all_eq_false]
 exact ⟨i, List.mem_range.2 hi, by rw [h]; simp⟩
theorem vV {s : Nat → Int} {l : List Opt} {ps : List aj} {a b : Int} (h : aT s l ps a b = true) {lost : List Int} (hf : jQ (ax l) lost = true) : kV ps lost = true := by
 obtain ⟨_, hr, _, _, hp, hft, _⟩ := aY.1 h
 have hpl := (qD hp).2
 have hin : ∀ x ∈ ax l, 0 ≤ x ∧ x < (ps.length : Int) := fun x hx => by
  rw [oz, sj, List.mem_flatMap] at hx
  obtain ⟨o, ho, hx⟩ := hx
  obtain ⟨y, hy, rfl⟩ := List.mem_map.1 hx
  have hfo := (hft o (List.mem_of_mem_take ho)).1
  simp only [db, Bool.and_eq_true] at hfo
  have hall : ∀ (sl : List aZ) (t : Int), bn s ps o.size t sl = true → ∀ z ∈ sl, 0 ≤ z.p ∧ z.p < (ps.length : Int) := fun sl => by
   induction sl with
   | nil => intro _ _ z hz; cases hz
   | cons x r ih =>
    intro t ht z hz
    simp only [bn, eX, Bool.and_eq_true, inS, decide_eq_true_eq] at ht
    rcases List.mem_cons.1 hz with e | hz
    ·subst e
     have := ht.1.1
     rw [am (by omega) (by omega)] at this
     omega
    ·exact ih _ ht.2 z hz
  exact hall o.sl o.b hfo.2 y (List.mem_of_mem_take hy)
 unfold kV
 rw [hp, Bool.and_true, List.all_eq_true]
 intro i hi
 unfold jQ at hf
 rw [List.all_eq_true] at hf
 have h1 := hf i hi
 simp only [oK, inP, Bool.and_eq_true, List.any_eq_true, beq_iff_eq] at h1
 obtain ⟨⟨y, hy, e⟩, h2⟩ := h1
 have h3 := hin y hy
 simp only [oC, Bool.and_eq_true, decide_eq_true_eq]
 rw [e]
 rw [e] at h2
 exact ⟨h3, h2⟩
def xp (s : Nat → Int) (l : List Opt) (ps : List aj) (a b : Int) (lost : List Int) : AV := .tup (if (d3 s l ps 0 a b && jQ (ax l) lost) = true then [.agg (kO l lost), .int .i64 0] else [.agg [.sl .full 0 [], .sl .full 0 [], .sl .full 0 [], .sl .full 0 []], .int .i64 210])
set_option maxHeartbeats 4000000 in
theorem oV (s : Nat → Int) (l : List Opt) (ps : List aj) (a b : Int) (lost : List Int) (hl : l.length ≤ 1000000) (hs : ij l) (hps : ps.length ≤ 1000000) (hlo : lost.length ≤ 1000000) : ae Tryz.prog 53 [.agg (aX s), aP l, au ps, .agg (aQ a b), aB lost] (xp s l ps a b lost) := by
 have cV := gY s l ps 0 a b hl hs hps
 have cFk := fe l hl hs
 cases hv : d3 s l ps 0 a b with
 | false =>
  rw [hv] at cV
  rw [xp, hv, Bool.false_and, if_neg (by decide)]
  refine ag aa Tryz.func53 rfl (by kernel_rfl) af (Nat.le_of_ble_eq_true rfl) ?_
  intro F n' w0 m0 hG hro h1
  repeat' first|refine Q1 ?_|refine Q2 ?_|refine Q3 hG aa dj ?_|refine Q4 hG aa dj ?_|refine Q5 hG aa ?_|refine Q6 hG aa ?_|refine Q7 hG aa ?_|refine Q8 hG aa ?_|refine Q9 rfl ?_|refine QF rfl ?_|refine QC rfl ⟨fun h => ?_,fun h => ?_⟩|((conv => whnf); first|refine anF ?_|refine anT ?_|refine anK ?_|refine Exists.intro _ (And.intro (cV) ?_)|refine And.intro (fun h => ?_) (fun h => ?_)|refine Or.inl ?_)
  all_goals exact Ends.mk (Or.inl rfl) (ac rfl)
 | true =>
  rw [hv] at cV
  obtain ⟨ht, hf6, _⟩ := gI hv
  have cC := fun x => jY (ax l) x (by omega)
  have cW := fun h : jQ (ax l) lost = true => tB ht (vV ht h) hlo
  rw [xp, hv, Bool.true_and]
  generalize hfk : ax l = f at *
  refine ag aa Tryz.func53 rfl (by kernel_rfl) af (Nat.le_of_ble_eq_true rfl) ?_
  intro F n' w0 m0 hG hro h1
  repeat' first|refine Q1 ?_|refine Q2 ?_|refine Q3 hG aa dj ?_|refine Q4 hG aa dj ?_|refine Q5 hG aa ?_|refine Q6 hG aa ?_|refine Q7 hG aa ?_|refine Q8 hG aa ?_|refine Q9 rfl ?_|refine QF rfl ?_|refine QC rfl ⟨fun h => ?_,fun h => ?_⟩|((conv => whnf); first|refine anF ?_|refine anT ?_|refine anK ?_|refine Exists.intro _ (And.intro (cV) ?_)|refine Exists.intro _ (And.intro (cFk) ?_)|refine And.intro (fun h => ?_) (fun h => ?_)|refine Or.inl ?_)
  refine aw (X := Nat) (fun x => ⟨[(28, .int .i64 x), (27, .int .i64 (lost.map fun h => [AV.int .i64 h]).length), (26, aB lost), (12, aB f), (10, .loc 10 0), (8, .loc 8 0), (5, .loc 5 0), (4, aB lost), (2, au ps), (1, aP l)], [(10, [.sl (.id 1010000) 0 [], .sl (.id 1010001) 0 [], .sl (.id 1010002) 0 [], .sl (.id 1010003) 0 []]), (8, aQ a b), (5, aX s)]⟩) (fun x => x ≤ lost.length ∧ (List.range x).all (oK f lost) = true) (fun x => lost.length - x) 0 ⟨Nat.zero_le _, rfl⟩ (ah ?_ ?_) (fun x hx => ?_)
  ·repeat' (first | exact trivial | refine And.intro rfl ?_)
  ·repeat' (first | exact trivial | refine And.intro rfl ?_)
  ·rename Nat => i
   obtain ⟨hi, hall⟩ := hx
   by_cases hlt_i : i < lost.length
   ·have bbk : decide ((i : Int) < ((lost.map fun h => [AV.int .i64 h]).length : Int)) = false → False := fun h => by have := of_decide_eq_false h; simp at this; omega
    have hx := ka hlt_i
    have hw : (i : Int) > 0 → IntKind.i64.wrap ((i : Int) - 1) = ((i - 1 : Nat) : Int) := fun h => (am (by omega) (by omega)).trans (by omega)
    have hp0 : decide ((i : Int) > 0) = true → 0 ≤ IntKind.i64.wrap ((i : Int) - 1) := fun h => by rw [hw (of_decide_eq_true h)]; omega
    have hp : decide ((i : Int) > 0) = true → (lost.map fun h => [AV.int .i64 h])[(IntKind.i64.wrap ((i : Int) - 1)).toNat]? = some [.int .i64 (aS lost (i - 1))] := fun h => by rw [hw (of_decide_eq_true h)]; exact ka (by omega)
    have hok : oK f lost i = (inP f (aS lost i) && (decide (i = 0) || decide (aS lost (i - 1) < aS lost i))) := rfl
    have cCi := cC (aS lost i)
    generalize aS lost (i - 1) = v at hp hok
    generalize aS lost i = u at hx hok cCi
    repeat' first|exact (bbk (by assumption)).elim|refine Q1 ?_|refine Q2 ?_|refine Q3 hG aa dj ?_|refine Q4 hG aa dj ?_|refine Q5 hG aa ?_|refine Q6 hG aa ?_|refine Q7 hG aa ?_|refine Q8 hG aa ?_|refine Q9 rfl ?_|refine QF rfl ?_|refine QC rfl ⟨fun h => ?_,fun h => ?_⟩|((conv => whnf); first|refine anF ?_|refine anT ?_|refine anK ?_|refine And.intro (Int.natCast_nonneg i) (Exists.intro _ (And.intro hx ?_))|refine Exists.intro _ (And.intro (cCi) ?_)|refine And.intro (hp0 (by assumption)) (Exists.intro _ (And.intro (hp (by assumption)) ?_))|refine And.intro (fun h => ?_) (fun h => ?_)|refine Or.inl ?_)
    all_goals first
     |((try dsimp only)
       refine Ends.mk (Or.inl rfl) (ac ?_)
       rw [if_neg (by rw [Aq hlt_i (by rw [hok]; clear hG; grind)]; decide)]
       rfl)
     | skip
    all_goals (refine Exists.intro (i + 1) (And.intro ?_ (And.intro (by omega) (ah ?_ ?_))))
    all_goals first
     |(refine And.intro (congrArg some (ap (by omega))) ?_
       repeat' (first | exact trivial | refine And.intro rfl ?_))
     |((repeat' (first | exact trivial | refine And.intro rfl ?_)); done)
     |(exact ⟨hlt_i, by rw [wy, hall, hok]; clear hG; grind⟩)
   ·have bbk : decide ((i : Int) < ((lost.map fun h => [AV.int .i64 h]).length : Int)) = true → False := fun h => by have := of_decide_eq_true h; simp at this; omega
    have he : i = lost.length := by omega
    rw [he] at hall
    have hfs : jQ f lost = true := hall
    have cWl := cW hfs
    rw [if_pos hfs]
    repeat' first|exact (bbk (by assumption)).elim|refine Q1 ?_|refine Q2 ?_|refine Q3 hG aa dj ?_|refine Q4 hG aa dj ?_|refine Q5 hG aa ?_|refine Q6 hG aa ?_|refine Q7 hG aa ?_|refine Q8 hG aa ?_|refine Q9 rfl ?_|refine QF rfl ?_|refine QC rfl ⟨fun h => ?_,fun h => ?_⟩|((conv => whnf); first|refine anF ?_|refine anT ?_|refine anK ?_|refine Exists.intro _ (And.intro (cWl) ?_)|refine And.intro (fun h => ?_) (fun h => ?_)|refine Or.inl ?_)
    exact Ends.mk (Or.inl rfl) (ac rfl)
end Go.Proofs
namespace Go.Proofs
open Go Go.AI
def BP (m : List Int → Int × Int) (L : List (List Int)) (x : Fnd) : Prop := (L = [] ∧ x = Et) ∨ (x.is = true ∧ x.what ∈ L ∧ x.n = (m x.what).1 ∧ x.at_ = (m x.what).2 ∧ ∀ y ∈ L, (m y).1 ≤ x.n)
theorem BP.step {m : List Int → Int × Int} {L : List (List Int)} {x : Fnd} (h : BP m L x) (y : List Int) : BP m (L ++ [y]) (rB x ⟨(m y).1, (m y).2, y, true⟩) := by
 refine .inr ?_
 rcases h with ⟨rfl, rfl⟩ | ⟨h1, h2, h3, h4, h5⟩
 ·refine ⟨rfl, by simp [rB, Et], rfl, rfl, fun z hz => ?_⟩
  simp only [List.nil_append, List.mem_singleton] at hz
  subst hz
  exact Int.le_refl _
 ·unfold rB
  simp only [h1, Bool.not_true, Bool.false_or, Bool.true_and]
  split
  ·rename_i hg
   have hg := of_decide_eq_true hg
   refine ⟨rfl, by simp, rfl, rfl, fun z hz => ?_⟩
   show _ ≤ (m y).1
   rcases List.mem_append.1 hz with hz | hz
   ·have := h5 z hz; omega
   ·rw [List.mem_singleton.1 hz]; exact Int.le_refl _
  ·rename_i hg
   have hg : ¬ (m y).1 > x.n := fun h => hg (decide_eq_true h)
   refine ⟨h1, List.mem_append_left _ h2, h3, h4, fun z hz => ?_⟩
   rcases List.mem_append.1 hz with hz | hz
   ·exact h5 z hz
   ·rw [List.mem_singleton.1 hz]; omega
theorem BP.fold {m : List Int → Int × Int} : ∀ (L pre : List (List Int)) (x : Fnd), BP m pre x → BP m (pre ++ L) (L.foldl (fun x y => rB x ⟨(m y).1, (m y).2, y, true⟩) x)
 | [], pre, x, h => by simpa using h
 | y :: L, pre, x, h => by
  have := BP.fold L (pre ++ [y]) _ (h.step y)
  simpa using this
theorem AD (m : List Int → Int × Int) (L : List (List Int)) : BP m L (dM m L) := by
 have := BP.fold (m := m) L [] Et (.inl ⟨rfl, rfl⟩)
 rw [List.nil_append] at this; exact this
theorem ux {m : List Int → Int × Int} {L : List (List Int)} (h : L ≠ []) : (dM m L).what ∈ L ∧ (dM m L).n = (m (dM m L).what).1 ∧ (dM m L).at_ = (m (dM m L).what).2 ∧ ∀ y ∈ L, (m y).1 ≤ (dM m L).n := by
 rcases AD m L with ⟨h1, _⟩ | ⟨_, h1⟩
 ·exact absurd h1 h
 ·exact h1
theorem BN {f : List Int} {ps : List aj} {k : Int} (hp : cc ps = true) (h0 : 0 ≤ k) (h3 : k ≤ 3) : [] ∈ bz f ps k := by
 unfold bz ei
 rw [List.mem_filter, List.mem_map]
 refine ⟨⟨0, List.mem_range.2 (Nat.two_pow_pos _), ?_⟩, ?_⟩
 ·unfold iK gK
  rw [List.filterMap_eq_nil_iff]
  intro i _
  simp [yc]
 ·simp only [fc, ug, kV, yZ, y6, hp, Bool.and_eq_true, decide_eq_true_eq]
  simp; omega
theorem qh {f : List Int} {ps : List aj} {k : Int} (hp : cc ps = true) (h0 : 0 ≤ k) (h3 : k ≤ 3) : bz f ps k ≠ [] := fun e => by
 have := BN (f := f) hp h0 h3
 rw [e] at this; cases this
theorem wu : ∀ (l : List Int) (a b : Int), asc l → (∀ x ∈ l, a ≤ x ∧ x < b) → a ≤ b → (l.length : Int) ≤ b - a
 | [], a, b, _, _, h => by simp; omega
 | x :: l, a, b, hl, hx, h => by
  obtain ⟨h1, h2⟩ := List.pairwise_cons.1 hl
  have hx0 := hx x List.mem_cons_self
  have := wu l (x + 1) b h2 (fun y hy => ⟨by have := h1 y hy; omega, (hx y (List.mem_cons_of_mem _ hy)).2⟩) (by omega)
  rw [List.length_cons]; omega
theorem Cp {s : Nat → Int} {l : List Opt} {ps : List aj} {a b : Int} (h : aT s l ps a b = true) : ∀ x ∈ ax l, 0 ≤ x ∧ x < (ps.length : Int) := fun x hx => by
 have hf : jQ (ax l) [x] = true := by
  unfold jQ
  rw [List.all_eq_true]
  intro i hi
  have : i = 0 := by have := List.mem_range.1 hi; simp at this; omega
  subst this
  simp [oK, inP, aS, hx]
 have hs := vV h hf
 have := yI hs (i := 0) (by simp)
 simpa [aS] using this
theorem oJ {s : Nat → Int} {l : List Opt} {ps : List aj} {a b : Int} (h : aT s l ps a b = true) : (ax l).length ≤ ps.length := by
 have := wu (ax l) 0 ps.length (td l) (Cp h) (by omega)
 omega
theorem jz {s : Nat → Int} {l : List Opt} {ps : List aj} {a b k : Int} (h : aT s l ps a b = true) (h6 : ps.length ≤ 6) (h0 : 0 ≤ k) (h3 : k ≤ 3) : d3 s l ps k a b = true := by
 have := oJ h
 simp only [d3, ug, h, Bool.and_eq_true, decide_eq_true_eq, and_true]
 omega
theorem yH {s : Nat → Int} {l : List Opt} {ps : List aj} {a b k : Int} (h : aT s l ps a b = true) (h6 : ps.length ≤ 6) (h0 : 0 ≤ k) (h3 : k ≤ 3) : ff l ps k = false := by
 have hf := oJ h
 obtain ⟨hl, _, _, _, hp, hft, _⟩ := aY.1 h
 obtain ⟨_, _, hfit⟩ := ku.of h
 have hlv : (l.any fun o => !eO o ps) = false := by
  rw [List.any_eq_false]
  intro o ho
  have h1 := hfit o ho
  rw [pw hp (by have := h1.shot; omega) (hft o ho).1]; simp
 simp only [ff, mM, hlv, hp, Bool.not_true, Bool.or_false, Bool.or_eq_false_iff, decide_eq_false_iff_not]
 omega
end Go.Proofs
namespace Go.Proofs
open Go Go.AI
set_option maxRecDepth 10000
set_option maxHeartbeats 4000000 in
theorem fA (l m : List Int) (hl : l.length ≤ 1000000) : ae Tryz.prog 46 [aB l, aB m] (.bool (decide (l = m))) := by
 have hlm : ((l.map (fun h => [AV.int .i64 h])).length : Int) = (l.length : Int) := by rw [List.length_map]
 have hmm : ((m.map (fun h => [AV.int .i64 h])).length : Int) = (m.length : Int) := by rw [List.length_map]
 refine ag aa Tryz.func46 rfl (by kernel_rfl) af (Nat.le_of_ble_eq_true rfl) ?_
 intro F n' w0 m0 hG hro h1
 repeat' first|refine Q1 ?_|refine Q2 ?_|refine Q3 hG aa eF ?_|refine Q4 hG aa eF ?_|refine Q5 hG aa ?_|refine Q6 hG aa ?_|refine Q7 hG aa ?_|refine Q8 hG aa ?_|refine Q9 rfl ?_|refine QF rfl ?_|refine QC rfl ⟨fun h => ?_,fun h => ?_⟩|((conv => whnf); first|refine anF ?_|refine anT ?_|refine anK ?_|refine And.intro (fun h => ?_) (fun h => ?_)|refine Or.inl ?_)
 all_goals first
  |(refine Ends.mk (Or.inl rfl) (ac (congrArg AV.bool ?_))
    have h := (by assumption : (((l.map (fun h => [AV.int .i64 h])).length : Int) != ((m.map (fun h => [AV.int .i64 h])).length : Int)) = true)
    rw [hlm, hmm] at h
    exact (decide_eq_false fun e => by rw [e] at h; simp at h).symm)
  | skip
 have hll : l.length = m.length := by
  have h := (by assumption : (((l.map (fun h => [AV.int .i64 h])).length : Int) != ((m.map (fun h => [AV.int .i64 h])).length : Int)) = false)
  rw [hlm, hmm] at h
  simp at h; omega
 refine aw (X := Nat) (fun x => ⟨[(5, .int .i64 x), (1, aB m), (0, aB l)], []⟩) (fun x => x ≤ l.length ∧ l.take x = m.take x) (fun x => l.length - x) 0 ⟨Nat.zero_le _, rfl⟩ (ah ?_ ?_) (fun x hx => ?_)
 ·repeat' (first | exact trivial | refine And.intro rfl ?_)
 ·repeat' (first | exact trivial | refine And.intro rfl ?_)
 ·rename Nat => i
  obtain ⟨hi, ht⟩ := hx
  by_cases hlt_i : i < l.length
  ·have bbk : decide ((i : Int) < ((l.map (fun h => [AV.int .i64 h])).length : Int)) = false → False := fun h => by have := of_decide_eq_false h; simp at this; omega
   have hx := jG (f := (fun h => [AV.int .i64 h])) 0 hlt_i
   have hy := jG (f := (fun h => [AV.int .i64 h])) 0 (show i < m.length by omega)
   have hn1 := f9 0 hlt_i
   have hn2 := f9 0 (show i < m.length by omega)
   have hne : l.getD i 0 ≠ m.getD i 0 → decide (l = m) = false := fun h => decide_eq_false fun e => h (by rw [e])
   generalize l.getD i 0 = u at *
   generalize m.getD i 0 = v at *
   repeat' first|exact (bbk (by assumption)).elim|refine Q1 ?_|refine Q2 ?_|refine Q3 hG aa eF ?_|refine Q4 hG aa eF ?_|refine Q5 hG aa ?_|refine Q6 hG aa ?_|refine Q7 hG aa ?_|refine Q8 hG aa ?_|refine Q9 rfl ?_|refine QF rfl ?_|refine QC rfl ⟨fun h => ?_,fun h => ?_⟩|((conv => whnf); first|refine anF ?_|refine anT ?_|refine anK ?_|refine And.intro (Int.natCast_nonneg i) (Exists.intro _ (And.intro hx ?_))|refine And.intro (Int.natCast_nonneg i) (Exists.intro _ (And.intro hy ?_))|refine And.intro (fun h => ?_) (fun h => ?_)|refine Or.inl ?_)
   all_goals first
    |(refine Ends.mk (Or.inl rfl) (ac (congrArg AV.bool ?_))
      exact (hne fun e => by subst e; have h := (by assumption : (u != u) = true); simp at h).symm)
    | skip
   refine Exists.intro (i + 1) (And.intro ⟨hlt_i, ?_⟩ (And.intro (by omega) (ah ?_ ?_)))
   ·rw [hn1, hn2, ht]
    have e : u = v := by
     have h := (by assumption : (u != v) = false)
     simpa using h
    rw [e]
   ·refine And.intro (congrArg some (ap (by omega))) ?_
    repeat' (first | exact trivial | refine And.intro rfl ?_)
   ·repeat' (first | exact trivial | refine And.intro rfl ?_)
  ·have bbk : decide ((i : Int) < ((l.map (fun h => [AV.int .i64 h])).length : Int)) = true → False := fun h => by have := of_decide_eq_true h; simp at this; omega
   have he : l.take i = l := List.take_of_length_le (by omega)
   have he2 : m.take i = m := List.take_of_length_le (by omega)
   rw [he, he2] at ht
   repeat' first|exact (bbk (by assumption)).elim|refine Q1 ?_|refine Q2 ?_|refine Q3 hG aa eF ?_|refine Q4 hG aa eF ?_|refine Q5 hG aa ?_|refine Q6 hG aa ?_|refine Q7 hG aa ?_|refine Q8 hG aa ?_|refine Q9 rfl ?_|refine QF rfl ?_|refine QC rfl ⟨fun h => ?_,fun h => ?_⟩|((conv => whnf); first|refine anF ?_|refine anT ?_|refine anK ?_|refine And.intro (fun h => ?_) (fun h => ?_)|refine Or.inl ?_)
   exact Ends.mk (Or.inl rfl) (ac (congrArg AV.bool (decide_eq_true ht).symm))
set_option maxHeartbeats 4000000 in
theorem wB (l m : List (List Int)) (hl : l.length ≤ 1000000) (hin : ∀ i, i < l.length → (l.getD i []).length ≤ 1000000) : ae Tryz.prog 50 [ky l, ky m] (.bool (decide (l = m))) := by
 have hlm : ((l.map (fun x => [aB x])).length : Int) = (l.length : Int) := by rw [List.length_map]
 have hmm : ((m.map (fun x => [aB x])).length : Int) = (m.length : Int) := by rw [List.length_map]
 refine ag aa Tryz.func50 rfl (by kernel_rfl) af (Nat.le_of_ble_eq_true rfl) ?_
 intro F n' w0 m0 hG hro h1
 repeat' first|refine Q1 ?_|refine Q2 ?_|refine Q3 hG aa eE ?_|refine Q4 hG aa eE ?_|refine Q5 hG aa ?_|refine Q6 hG aa ?_|refine Q7 hG aa ?_|refine Q8 hG aa ?_|refine Q9 rfl ?_|refine QF rfl ?_|refine QC rfl ⟨fun h => ?_,fun h => ?_⟩|((conv => whnf); first|refine anF ?_|refine anT ?_|refine anK ?_|refine And.intro (fun h => ?_) (fun h => ?_)|refine Or.inl ?_)
 all_goals first
  |(refine Ends.mk (Or.inl rfl) (ac (congrArg AV.bool ?_))
    have h := (by assumption : (((l.map (fun x => [aB x])).length : Int) != ((m.map (fun x => [aB x])).length : Int)) = true)
    rw [hlm, hmm] at h
    exact (decide_eq_false fun e => by rw [e] at h; simp at h).symm)
  | skip
 have hll : l.length = m.length := by
  have h := (by assumption : (((l.map (fun x => [aB x])).length : Int) != ((m.map (fun x => [aB x])).length : Int)) = false)
  rw [hlm, hmm] at h
  simp at h; omega
 refine aw (X := Nat) (fun x => ⟨[(5, .int .i64 x), (1, ky m), (0, ky l)], []⟩) (fun x => x ≤ l.length ∧ l.take x = m.take x) (fun x => l.length - x) 0 ⟨Nat.zero_le _, rfl⟩ (ah ?_ ?_) (fun x hx => ?_)
 ·repeat' (first | exact trivial | refine And.intro rfl ?_)
 ·repeat' (first | exact trivial | refine And.intro rfl ?_)
 ·rename Nat => i
  obtain ⟨hi, ht⟩ := hx
  by_cases hlt_i : i < l.length
  ·have bbk : decide ((i : Int) < ((l.map (fun x => [aB x])).length : Int)) = false → False := fun h => by have := of_decide_eq_false h; simp at this; omega
   have hx := jG (f := (fun x => [aB x])) [] hlt_i
   have hy := jG (f := (fun x => [aB x])) [] (show i < m.length by omega)
   have hn1 := f9 [] hlt_i
   have hn2 := f9 [] (show i < m.length by omega)
   have hne : l.getD i [] ≠ m.getD i [] → decide (l = m) = false := fun h => decide_eq_false fun e => h (by rw [e])
   have cI := fA (l.getD i []) (m.getD i []) (hin i hlt_i)
   generalize l.getD i [] = u at *
   generalize m.getD i [] = v at *
   repeat' first|exact (bbk (by assumption)).elim|refine Q1 ?_|refine Q2 ?_|refine Q3 hG aa eE ?_|refine Q4 hG aa eE ?_|refine Q5 hG aa ?_|refine Q6 hG aa ?_|refine Q7 hG aa ?_|refine Q8 hG aa ?_|refine Q9 rfl ?_|refine QF rfl ?_|refine QC rfl ⟨fun h => ?_,fun h => ?_⟩|((conv => whnf); first|refine anF ?_|refine anT ?_|refine anK ?_|refine And.intro (Int.natCast_nonneg i) (Exists.intro _ (And.intro hx ?_))|refine And.intro (Int.natCast_nonneg i) (Exists.intro _ (And.intro hy ?_))|refine Exists.intro _ (And.intro (cI) ?_)|refine And.intro (fun h => ?_) (fun h => ?_)|refine Or.inl ?_)
   all_goals first
    |(refine Ends.mk (Or.inl rfl) (ac (congrArg AV.bool ?_))
      exact (hne fun e => by subst e; have h := (by assumption : (!decide (u = u)) = true); simp at h).symm)
    | skip
   refine Exists.intro (i + 1) (And.intro ⟨hlt_i, ?_⟩ (And.intro (by omega) (ah ?_ ?_)))
   ·rw [hn1, hn2, ht]
    have e : u = v := by
     have h := (by assumption : (!decide (u = v)) = false)
     simpa using h
    rw [e]
   ·refine And.intro (congrArg some (ap (by omega))) ?_
    repeat' (first | exact trivial | refine And.intro rfl ?_)
   ·repeat' (first | exact trivial | refine And.intro rfl ?_)
  ·have bbk : decide ((i : Int) < ((l.map (fun x => [aB x])).length : Int)) = true → False := fun h => by have := of_decide_eq_true h; simp at this; omega
   have he : l.take i = l := List.take_of_length_le (by omega)
   have he2 : m.take i = m := List.take_of_length_le (by omega)
   rw [he, he2] at ht
   repeat' first|exact (bbk (by assumption)).elim|refine Q1 ?_|refine Q2 ?_|refine Q3 hG aa eE ?_|refine Q4 hG aa eE ?_|refine Q5 hG aa ?_|refine Q6 hG aa ?_|refine Q7 hG aa ?_|refine Q8 hG aa ?_|refine Q9 rfl ?_|refine QF rfl ?_|refine QC rfl ⟨fun h => ?_,fun h => ?_⟩|((conv => whnf); first|refine anF ?_|refine anT ?_|refine anK ?_|refine And.intro (fun h => ?_) (fun h => ?_)|refine Or.inl ?_)
   exact Ends.mk (Or.inl rfl) (ac (congrArg AV.bool (decide_eq_true ht).symm))
theorem yv (p a b : Int) : ae Tryz.prog 187 [.int .i64 p, .int .i64 a, .int .i64 b] (.agg (aC ⟨p, a, b⟩)) := by
 refine ag aa Tryz.func187 rfl (by kernel_rfl) af (Nat.le_of_ble_eq_true rfl) ?_
 intro F n' w0 m0 hG hro h1
 repeat' first|refine Q1 ?_|refine Q2 ?_|refine Q3 hG aa nm ?_|refine Q4 hG aa nm ?_|refine Q5 hG aa ?_|refine Q6 hG aa ?_|refine Q7 hG aa ?_|refine Q8 hG aa ?_|refine Q9 rfl ?_|refine QF rfl ?_|refine QC rfl ⟨fun h => ?_,fun h => ?_⟩|((conv => whnf); first|refine anF ?_|refine anT ?_|refine anK ?_|refine And.intro (fun h => ?_) (fun h => ?_)|refine Or.inl ?_)
 all_goals exact Ends.mk (Or.inl rfl) (ac rfl)
theorem yw (a b : Int) : ae Tryz.prog 188 [.int .i64 a, .int .i64 b] (.agg (aM ⟨3, 0, a, b, a, b⟩)) := by
 refine ag aa Tryz.func188 rfl (by kernel_rfl) af (Nat.le_of_ble_eq_true rfl) ?_
 intro F n' w0 m0 hG hro h1
 repeat' first|refine Q1 ?_|refine Q2 ?_|refine Q3 hG aa nl ?_|refine Q4 hG aa nl ?_|refine Q5 hG aa ?_|refine Q6 hG aa ?_|refine Q7 hG aa ?_|refine Q8 hG aa ?_|refine Q9 rfl ?_|refine QF rfl ?_|refine QC rfl ⟨fun h => ?_,fun h => ?_⟩|((conv => whnf); first|refine anF ?_|refine anT ?_|refine anK ?_|refine And.intro (fun h => ?_) (fun h => ?_)|refine Or.inl ?_)
 all_goals exact Ends.mk (Or.inl rfl) (ac rfl)
def bxS (i : Nat) : Int := match i with
 | 0 => 3 | 2 => 96 | 4 => 4000 | 5 => 20000 | 10 => 10 | 11 => 100 | 13 => 1 | 18 => 100 | 20 => 3 | _ => 0
def bxP : List aj := [⟨3, 0, 18, 26, 18, 26⟩, ⟨3, 0, 38, 50, 38, 50⟩]
def bx1 : Opt := ⟨1, 0, 0, 3, 10, 12, 0, 6, [⟨0, 20, 22⟩, ⟨1, 40, 42⟩]⟩
def bx2 : Opt := ⟨2, 0, 0, 3, 30, 31, 0, 5, [⟨1, 44, 46⟩]⟩
def bxL : List Opt := [bx1, bx2]
theorem vy (o : Opt) (ow : Go.AI.Own) : gT [.int .i64 o.id, .int .i64 o.ord, .int .i64 o.cl, .int .i64 o.sat, .int .i64 o.a, .int .i64 o.b, .int .i64 o.look, .int .i64 o.size, .sl ow 3 (o.sl.map aC)] (aG o) :=
 .cons (.refl _) (.cons (.refl _) (.cons (.refl _) (.cons (.refl _) (.cons (.refl _) (.cons (.refl _) (.cons (.refl _) (.cons (.refl _) (.cons AV.weak.sl .nil))))))))
theorem Ez : ∀ y ∈ bxL.map aG, ∀ c ∈ y, AV.isCell c = true := by
 intro y hy c hc
 obtain ⟨o, _, rfl⟩ := List.mem_map.1 hy
 simp only [aG, List.mem_cons, List.not_mem_nil, or_false] at hc
 rcases hc with h | h | h | h | h | h | h | h | h <;> subst h <;> rfl
theorem sE : ae Tryz.prog 112 [] (.tup [.agg (aX bxS), aP bxL, au bxP, .agg (aQ 0 60)]) := by
 refine ag aa Tryz.func112 rfl (by kernel_rfl) af (Nat.le_of_ble_eq_true rfl) ?_
 intro F n' w0 m0 hG hro h1
 repeat' first|refine Q1 ?_|refine Q2 ?_|refine Q3 hG aa n7 ?_|refine Q4 hG aa n7 ?_|refine Q5 hG aa ?_|refine Q6 hG aa ?_|refine Q7 hG aa ?_|refine Q8 hG aa ?_|refine Q9 rfl ?_|refine QF rfl ?_|refine QC rfl ⟨fun h => ?_,fun h => ?_⟩|((conv => whnf); first|refine anF ?_|refine anT ?_|refine anK ?_|refine Exists.intro _ (And.intro (yv _ _ _) ?_)|refine Exists.intro _ (And.intro (yw _ _) ?_)|refine And.intro (fun h => ?_) (fun h => ?_)|refine Or.inl ?_)
 all_goals exact Ends.mk (Or.inl rfl) (AV.weak.tup (.cons (.refl _) (.cons (AV.weak.rows (ys := bxL.map aG) (.cons (vy bx1 .full) (.cons (vy bx2 .full) .nil)) Ez) (.cons AV.weak.sl (.cons (.refl _) .nil)))))
theorem rA : aT bxS bxL bxP 0 60 = true := by kernel_rfl
theorem CF : ax bxL = [0, 1] := (zJ bxL).symm.trans (by kernel_rfl)
theorem FS : bz (ax bxL) bxP 1 = [[], [0], [1]] := by rw [CF]; kernel_rfl
theorem FR : bz (ax bxL) bxP 0 = [[]] := by rw [CF]; kernel_rfl
end Go.Proofs
namespace Go.Proofs
open Go Go.AI
def MP (L : List (Int × Int)) (r : Int × Int) : Prop := (∀ p ∈ L, p.2 ≤ r.1) ∧ ((r = (0, -1)) ∨ (0 < r.1 ∧ (r.2, r.1) ∈ L))
theorem MP.fold : ∀ (L pre : List (Int × Int)) (r : Int × Int), MP pre r → MP (pre ++ L) (L.foldl (fun r x => if x.2 > r.1 then (x.2, x.1) else r) r)
 | [], pre, r, h => by simpa using h
 | x :: L, pre, r, h => by
  have := MP.fold L (pre ++ [x]) (if x.2 > r.1 then (x.2, x.1) else r) ?_
  ·simpa using this
  ·obtain ⟨h1, h2⟩ := h
   have h0 : 0 ≤ r.1 := by
    rcases h2 with h2 | h2
    ·rw [h2]; exact Int.le_refl _
    ·omega
   split
   ·rename_i hg
    refine ⟨fun p hp => ?_, .inr ⟨by show 0 < x.2; omega, by simp⟩⟩
    show p.2 ≤ x.2
    rcases List.mem_append.1 hp with hp | hp
    ·have := h1 p hp; omega
    ·rw [List.mem_singleton.1 hp]; exact Int.le_refl _
   ·rename_i hg
    refine ⟨fun p hp => ?_, ?_⟩
    ·rcases List.mem_append.1 hp with hp | hp
     ·exact h1 p hp
     ·rw [List.mem_singleton.1 hp]; omega
    ·rcases h2 with h2 | ⟨h2, h3⟩
     ·exact .inl h2
     ·exact .inr ⟨h2, List.mem_append_left _ h3⟩
theorem t7 (L : List (Int × Int)) : MP L (ea L) := by
 have := MP.fold L [] (0, -1) ⟨fun _ h => (nomatch h), .inl rfl⟩
 rw [List.nil_append] at this; exact this
theorem vD (L : List (Int × Int)) : 0 ≤ (ea L).1 := by
 rcases (t7 L).2 with h | h
 ·rw [h]; exact Int.le_refl _
 ·omega
theorem zX {I : List Img} (h : ∀ x ∈ I, x.a < x.b) (t : Int) : eR t I ≤ (ea (bf I)).1 := by
 obtain ⟨h1, _⟩ := t7 (bf I)
 rcases oN h t with h2 | ⟨p, hp, _, h3⟩
 ·rw [h2]; exact vD _
 ·rw [← h3]; exact h1 p hp
theorem Eg {I : List Img} (h : ∀ x ∈ I, x.a < x.b) (h0 : 0 < (ea (bf I)).1) : eR (ea (bf I)).2 I = (ea (bf I)).1 := by
 rcases (t7 (bf I)).2 with h1 | ⟨_, h2⟩
 ·rw [h1] at h0; exact absurd h0 (by decide)
 ·exact ((kc h _).1 h2).2.symm
end Go.Proofs
namespace Go.Proofs
open Go Go.AI
theorem xO (x : Int) : ∀ r : List Int, gu x r ∈ x :: r ∧ ∀ y ∈ x :: r, gu x r ≤ y := by
 intro r
 induction r generalizing x with
 | nil => exact ⟨by simp [gu], fun y hy => by simp at hy; rw [hy]; exact Int.le_refl _⟩
 | cons z r ih =>
  obtain ⟨h1, h2⟩ := ih (min x z)
  have e : gu x (z :: r) = gu (min x z) r := rfl
  rw [e]
  have h3 := h2 (min x z) List.mem_cons_self
  refine ⟨?_, fun y hy => ?_⟩
  ·rcases List.mem_cons.1 h1 with h | h
   ·rw [h]
    rcases Int.le_total x z with h4 | h4
    ·rw [Int.min_eq_left h4]; exact List.mem_cons_self
    ·rw [Int.min_eq_right h4]; exact List.mem_cons_of_mem _ List.mem_cons_self
   ·exact List.mem_cons_of_mem _ (List.mem_cons_of_mem _ h)
  ·rcases List.mem_cons.1 hy with h | h
   ·subst h; omega
   ·rcases List.mem_cons.1 h with h | h
    ·subst h; omega
    ·exact h2 y (List.mem_cons_of_mem _ h)
theorem ge {l : List Int} (h : l ≠ []) : t8 l ∈ l ∧ ∀ y ∈ l, t8 l ≤ y := by
 cases l with
 | nil => exact absurd rfl h
 | cons x r => exact xO x r
def kn (s : Nat → Int) (D : List ao) (a : Int) (i : Nat) : Int := jL s D (a + (i : Int))
theorem qO {s : Nat → Int} {l : List Opt} {ps : List aj} {a b : Int} (h : aT s l ps a b = true) {D : List Opt} (hg : c6 D) :
  lvL s (aq D) a b = (List.range (b - a).toNat).map (fun i => hU (s 11) (kn s (aq D) a) (i + 1)) ∧ (∀ i, -1000000 ≤ kn s (aq D) a i ∧ kn s (aq D) a i ≤ 1000000) := by
 obtain ⟨_, hr, hab, hsat, _⟩ := aY.1 h
 have hq := sO hsat
 have hfed := lR hsat
 have hd := iU hg
 have hn : ∀ i, -1000000 ≤ kn s (aq D) a i ∧ kn s (aq D) a i ≤ 1000000 := fun i => by
  obtain ⟨e, h1, h2⟩ := qK hfed (a + (i : Int)) (aq D) (sq (gn s) (a + (i : Int))) (by omega)
  unfold kn jL
  rw [e]; omega
 refine ⟨?_, hn⟩
 have h1 := xT (c := s 11) (f := kn s (aq D) a) (by omega) hn a (b - a).toNat (by omega)
 unfold lvL
 rw [show d9 s (aq D) a b = fG a (kn s (aq D) a) (b - a).toNat from rfl, h1]
theorem oB {s : Nat → Int} {l : List Opt} {ps : List aj} {a b : Int} (h : aT s l ps a b = true) {D : List Opt} (hg : c6 D) : lvL s (aq D) a b ≠ [] ∧ ∀ x ∈ lvL s (aq D) a b, -4000000000 ≤ x ∧ x ≤ s 11 ∧ s 11 ≤ 1000000 := by
 obtain ⟨_, hr, hab, hsat, _⟩ := aY.1 h
 have hq := sO hsat
 obtain ⟨h1, h2⟩ := qO h hg
 rw [h1]
 refine ⟨fun e => ?_, fun x hx => ?_⟩
 ·have := congrArg List.length e
  simp at this; omega
 ·obtain ⟨i, hi, rfl⟩ := List.mem_map.1 hx
  have := qQ (c := s 11) h2 (i + 1)
  have := List.mem_range.1 hi
  omega
def kF (s : Nat → Int) (l : List Opt) (a b : Int) (lost : List Int) : Int := t8 (lvL s (aq (dv l lost)) a b)
theorem Cb {s : Nat → Int} {l : List Opt} {ps : List aj} {a b : Int} (h : aT s l ps a b = true) (lost : List Int) : (loM s l a b lost).1 = -(kF s l a b lost) ∧ -4000000000 ≤ kF s l a b lost ∧ kF s l a b lost ≤ 1000000 := by
 obtain ⟨h1, h2⟩ := oB h (j7 h fun o => kS o lost)
 have h3 := ge h1
 have h4 := h2 _ h3.1
 have e : kF s l a b lost = t8 (lvL s (aq (l.map fun o => l9 o (kS o lost))) a b) := rfl
 rw [← e] at h4
 refine ⟨?_, by omega, by omega⟩
 show w64 (0 - kF s l a b lost) = _
 rw [am (by omega) (by omega)]; omega
def lowV (s : Nat → Int) (l : List Opt) (ps : List aj) (k a b : Int) : Int := w64 (0 - (loS s l ps k a b).n)
theorem uf {s : Nat → Int} {l : List Opt} {ps : List aj} {a b k : Int} (h : aT s l ps a b = true) (h0 : 0 ≤ k) (h3 : k ≤ 3) :
  (loS s l ps k a b).what ∈ bz (ax l) ps k ∧ lowV s l ps k a b = kF s l a b (loS s l ps k a b).what ∧ (loS s l ps k a b).n = -(lowV s l ps k a b) ∧ ∀ y ∈ bz (ax l) ps k, lowV s l ps k a b ≤ kF s l a b y := by
 obtain ⟨_, _, _, _, hp, _⟩ := aY.1 h
 obtain ⟨h1, h2, _, h4⟩ := ux (m := loM s l a b) (qh (f := ax l) hp h0 h3)
 have e : dM (loM s l a b) (bz (ax l) ps k) = loS s l ps k a b := rfl
 rw [e] at h1 h2 h4
 obtain ⟨v1, v2, v3⟩ := Cb h (loS s l ps k a b).what
 rw [v1] at h2
 have e2 : lowV s l ps k a b = kF s l a b (loS s l ps k a b).what := by
  unfold lowV
  rw [h2, am (by omega) (by omega)]; omega
 refine ⟨h1, e2, by rw [h2, e2], fun y hy => ?_⟩
 have h5 := h4 y hy
 obtain ⟨u1, _, _⟩ := Cb h y
 rw [u1, h2] at h5
 omega
end Go.Proofs
namespace Go.Proofs
open Go Go.AI
set_option maxRecDepth 10000
def EA : List Img := [⟨1, 6, 10, 22⟩, ⟨2, 5, 30, 46⟩]
def Fu : List Img := [⟨1, 6, 10, 42⟩, ⟨2, 5, 30, 46⟩]
theorem CE : eL bxL [] = EA := by kernel_rfl
theorem E0 : eL bxL [0] = Fu := by kernel_rfl
theorem FX : eL bxL [1] = EA := by kernel_rfl
theorem EZ : ea (bf EA) = (6, 10) := by
 rw [← rn (l := EA) (s := [(10, 6), (22, -6), (30, 5), (46, -5)]) (.refl _) (by simp [List.pairwise_cons])]
 kernel_rfl
theorem FU : ea (bf Fu) = (11, 30) := by
 rw [← rn (l := Fu) (s := [(10, 6), (30, 5), (42, -6), (46, -5)]) (.cons _ (.swap _ _ _)) (by simp [List.pairwise_cons])]
 kernel_rfl
theorem EY : pkS bxL bxP 0 = ⟨6, 10, [], true⟩ := by
 unfold pkS; rw [FR, dM, List.foldl_cons, List.foldl_nil, pkM, CE, EZ]; rfl
theorem EX : pkS bxL bxP 1 = ⟨11, 30, [0], true⟩ := by
 unfold pkS; rw [FS, dM, List.foldl_cons, List.foldl_cons, List.foldl_cons, List.foldl_nil, pkM, pkM, pkM, CE, E0, FX, EZ, FU]; rfl
theorem CG (t : Int) : ∀ D : List ao, je bxS t D = 0
 | [] => rfl
 | x :: D => by
  rw [je, CG t D]
  simp [qH, ru, bxS]
theorem FV {D : List Opt} (hg : c6 D) : ∀ x ∈ lvL bxS (aq D) 0 60, 0 ≤ x := fun x hx => by
 have h1 := (qO rA hg).1
 have hf := lR (aY.1 rA).2.2.2.1
 have hd := iU hg
 have hn : kn bxS (aq D) 0 = fun _ => 1 := funext fun i => by
  unfold kn jL
  rw [(qK hf _ _ _ (by omega)).1, zW, CG]
  simp [bxS]
 rw [h1, hn] at hx
 obtain ⟨i, hi, rfl⟩ := List.mem_map.1 hx
 have hall : ((List.range 60).all fun i => decide (0 ≤ hU (bxS 11) (fun _ => 1) (i + 1))) = true := by kernel_rfl
 exact of_decide_eq_true (List.all_eq_true.1 hall i hi)
theorem FW (k : Int) (h0 : 0 ≤ k) (h3 : k ≤ 3) : 0 ≤ lowV bxS bxL bxP k 0 60 ∧ lowV bxS bxL bxP k 0 60 ≤ 100 := by
 obtain ⟨_, h2, _⟩ := uf rA h0 h3
 rw [h2]
 generalize (loS bxS bxL bxP k 0 60).what = w
 have hg : c6 (dv bxL w) := j7 rA fun o => kS o w
 obtain ⟨h4, h5⟩ := oB rA hg
 obtain ⟨h6, _⟩ := ge h4
 exact ⟨FV hg _ h6, by have := h5 _ h6; have e : bxS 11 = 100 := rfl; unfold kF; omega⟩
theorem FQ (lost : List Int) (h : jQ [0, 1] lost = true) : xp bxS bxL bxP 0 60 lost = .tup [.agg (kO bxL lost), .int .i64 0] := by
 rw [xp, jz rA (by decide) (by decide) (by decide), CF, h]; rfl
theorem FP : xp bxS bxL bxP 0 60 [2] = .tup [.agg [.sl .full 0 [], .sl .full 0 [], .sl .full 0 [], .sl .full 0 []], .int .i64 210] := by
 rw [xp, jz rA (by decide) (by decide) (by decide), CF, show jQ [0, 1] [2] = false from by kernel_rfl]; rfl
set_option maxHeartbeats 8000000 in
theorem wD : ae Tryz.prog 41 [] (.bool true) := by
 have hs := (fp rA).2.1
 have L6 : bxL.length ≤ 1000000 := Nat.le_of_ble_eq_true rfl
 have P6 : bxP.length ≤ 1000000 := Nat.le_of_ble_eq_true rfl
 have v0 := jz (k := 0) rA (by decide) (by decide) (by decide)
 have v1 := jz (k := 1) rA (by decide) (by decide) (by decide)
 have v4 : d3 bxS bxL bxP 4 0 60 = false := by
  unfold d3
  rw [show ug 4 = false from by decide]; rfl
 have q1 := lz bxL bxP 1 L6 hs P6
 rw [sK, yH rA (by decide) (by decide) (by decide), if_neg (by decide), FS] at q1
 have q2 := lz bxL bxP 4 L6 hs P6
 rw [sK, show ff bxL bxP 4 = true from by unfold ff; rw [show mM bxL bxP 4 = true from by kernel_rfl]; rfl, if_pos rfl] at q2
 have q3 : ae Tryz.prog 53 [.agg (aX bxS), aP bxL, au bxP, .agg (aQ 0 60), .sl .full 0 []] _ := (oV bxS bxL bxP 0 60 [] L6 hs P6 (Nat.zero_le _)).weak (.cons (.refl _) (.cons (.refl _) (.cons (.refl _) (.cons (.refl _) (.cons AV.weak.slnil (.refl _))))))
 rw [FQ [] rfl, kO, show kw bxL [] = [0, 0] from by kernel_rfl, CE] at q3
 have q4 : ae Tryz.prog 53 [.agg (aX bxS), aP bxL, au bxP, .agg (aQ 0 60), .sl .full 1 [[.int .i64 0]]] _ := (oV bxS bxL bxP 0 60 [0] L6 hs P6 (Nat.le_of_ble_eq_true rfl)).weak (.cons (.refl _) (.cons (.refl _) (.cons (.refl _) (.cons (.refl _) (.cons AV.weak.sl (.refl _))))))
 rw [FQ [0] (by kernel_rfl), kO, show kw bxL [0] = [1, 0] from by kernel_rfl, E0] at q4
 have q5 : ae Tryz.prog 53 [.agg (aX bxS), aP bxL, au bxP, .agg (aQ 0 60), .sl .full 1 [[.int .i64 2]]] _ := (oV bxS bxL bxP 0 60 [2] L6 hs P6 (Nat.le_of_ble_eq_true rfl)).weak (.cons (.refl _) (.cons (.refl _) (.cons (.refl _) (.cons (.refl _) (.cons AV.weak.sl (.refl _))))))
 rw [FP] at q5
 have q6 := lA v0
 rw [EY] at q6
 have q7 := lA v1
 rw [EX] at q7
 have q8 := tE v1
 have l1 := FW 1 (by decide) (by decide)
 have l0 := FW 0 (by decide) (by decide)
 have q9 := lC v0
 rw [EY, show (decide ((⟨6, 10, [], true⟩ : Fnd).n ≤ bxS 10) && decide (w64 (0 - (loS bxS bxL bxP 0 0 60).n) ≥ 0)) = true from by rw [decide_eq_true (show w64 (0 - (loS bxS bxL bxP 0 0 60).n) ≥ 0 from l0.1)]; rfl] at q9
 have q10 := lC v1
 rw [EX, show (decide ((⟨11, 30, [0], true⟩ : Fnd).n ≤ bxS 10) && decide (w64 (0 - (loS bxS bxL bxP 1 0 60).n) ≥ 0)) = false from rfl] at q10
 have q11 := fe bxL L6 hs
 rw [CF] at q11
 have q12 := gY bxS bxL bxP 1 0 60 L6 hs P6
 rw [v1] at q12
 have q13 := gY bxS bxL bxP 4 0 60 L6 hs P6
 rw [v4] at q13
 have i1 : ae Tryz.prog 46 [aB [0, 0], .sl .full 1 [[.int .i64 0], [.int .i64 0]]] (.bool true) := by
  have h := (fA [0, 0] [0, 0] (by decide)).sl1 (o := .full)
  rw [decide_eq_true rfl] at h; exact h
 have i2 : ae Tryz.prog 46 [aB [1, 0], .sl .full 1 [[.int .i64 1], [.int .i64 0]]] (.bool true) := by
  have h := (fA [1, 0] [1, 0] (by decide)).sl1 (o := .full)
  rw [decide_eq_true rfl] at h; exact h
 have i3 : ae Tryz.prog 46 [aB [0], .sl .full 1 [[.int .i64 0]]] (.bool true) := by
  have h := (fA [0] [0] (by decide)).sl1 (o := .full)
  rw [decide_eq_true rfl] at h; exact h
 have i4 : ae Tryz.prog 46 [aB [0, 1], .sl .full 1 [[.int .i64 0], [.int .i64 1]]] (.bool true) := by
  have h := (fA [0, 1] [0, 1] (by decide)).sl1 (o := .full)
  rw [decide_eq_true rfl] at h; exact h
 have i5 : ae Tryz.prog 50 [ky [[], [0], [1]], .sl .full 1 [[.sl .full 0 []], [.sl .full 1 [[.int .i64 0]]], [.sl .full 1 [[.int .i64 1]]]]] (.bool true) := by
  have h := (wB [[], [0], [1]] [[], [0], [1]] (by decide) (fun i hi => by
   match i, hi with
   | 0, _ | 1, _ | 2, _ => decide)).weak (us := [ky [[], [0], [1]], .sl .full 1 [[.sl .full 0 []], [.sl .full 1 [[.int .i64 0]]], [.sl .full 1 [[.int .i64 1]]]]]) (.cons (.refl _) (.cons (AV.weak.rows (.cons (.cons AV.weak.slnil (.refl _)) (.cons (.cons AV.weak.sl (.refl _)) (.cons (.cons AV.weak.sl (.refl _)) .nil))) (by decide)) (.refl _)))
  rw [decide_eq_true rfl] at h; exact h
 have bl : decide (w64 (0 - (loS bxS bxL bxP 1 0 60).n) ≤ 100) = false → False := fun h => by have := of_decide_eq_false h; exact this l1.2
 generalize aq (dv bxL []) = D0 at *
 generalize aq (dv bxL [0]) = D1 at *
 generalize w64 (0 - (loS bxS bxL bxP 1 0 60).n) = lo at *
 generalize (loS bxS bxL bxP 1 0 60).at_ = lt at *
 generalize (loS bxS bxL bxP 1 0 60).what = lw at *
 refine ag aa Tryz.func41 rfl (by kernel_rfl) af (Nat.le_of_ble_eq_true rfl) ?_
 intro F n' w0 m0 hG hro h1
 repeat' first|exact (bl (by assumption)).elim|refine Q1 ?_|refine Q2 ?_|refine Q3 hG aa pY ?_|refine Q4 hG aa pY ?_|refine Q5 hG aa ?_|refine Q6 hG aa ?_|refine Q7 hG aa ?_|refine Q8 hG aa ?_|refine Q9 rfl ?_|refine QF rfl ?_|refine QC rfl ⟨fun h => ?_,fun h => ?_⟩|((conv => whnf); first|refine anF ?_|refine anT ?_|refine anK ?_|refine And.intro (of_decide_eq_true (Eq.refl true)) (Exists.intro _ (And.intro rfl ?_))|refine Exists.intro _ (And.intro (sE) ?_)|refine Exists.intro _ (And.intro (q1) ?_)|refine Exists.intro _ (And.intro (q2) ?_)|refine Exists.intro _ (And.intro (q3) ?_)|refine Exists.intro _ (And.intro (q4) ?_)|refine Exists.intro _ (And.intro (q5) ?_)|refine Exists.intro _ (And.intro (q6) ?_)|refine Exists.intro _ (And.intro (q7) ?_)|refine Exists.intro _ (And.intro (q8) ?_)|refine Exists.intro _ (And.intro (q9) ?_)|refine Exists.intro _ (And.intro (q10) ?_)|refine Exists.intro _ (And.intro (q11) ?_)|refine Exists.intro _ (And.intro (q12) ?_)|refine Exists.intro _ (And.intro (q13) ?_)|refine Exists.intro _ (And.intro (i1) ?_)|refine Exists.intro _ (And.intro (i2) ?_)|refine Exists.intro _ (And.intro (i3) ?_)|refine Exists.intro _ (And.intro (i4) ?_)|refine Exists.intro _ (And.intro (i5) ?_)|refine And.intro (fun h => ?_) (fun h => ?_)|refine Or.inl ?_)
 all_goals exact Ends.mk (Or.inl rfl) (ac rfl)
end Go.Proofs
