/- Contracts of the functions and plain facts about what they reckon, part 5: called with arguments that read so, each hands back what is typed. The conditions are those typed. -/
import Derived.Test.YtehdegggapeihaaGreatBConD
set_option linter.unusedSectionVars false
set_option linter.unusedVariables false
set_option linter.unusedSimpArgs false
namespace Go.Proofs
open Go Go.AI
set_option maxRecDepth 10000
theorem yJ {α : Type} (p : α → Bool) : ∀ (l : List α) (k : Nat), bM p l k = -1 ∨ ∃ j, j < l.length ∧ bM p l k = ((k + j : Nat) : Int)
  | [], k => .inl rfl
  | x :: l, k => by
    rw [bM]
    split
    · exact .inr ⟨0, by simp, by simp⟩
    · rcases yJ p l (k + 1) with h | ⟨j, h1, h2⟩
      · exact .inl h
      · exact .inr ⟨j + 1, by simpa using h1, by rw [h2]; congr 1; omega⟩
def kS (o : Opt) (lost : List Int) : Nat := if iA o lost ≥ 0 then (iA o lost).toNat else o.sl.length
def flA (s : Nat → Int) (l : List Opt) (ps : List ak) (a b : Int) : List AV := aX s ++ [aM l, am ps, .int .i64 a, .int .i64 b]
def fM (l : List Opt) (lost : List Int) : List Int := l.map fun o => iA o lost
def bK (l : List Opt) (lost : List Int) : List Img := l.map fun o => pq o (kS o lost)
def bn (l : List Opt) (lost : List Int) : List Opt := l.map fun o => sT o (kS o lost)
def js (l : List Opt) (lost : List Int) : List AV := [aq lost, aq (fM l lost), bV (bK l lost), bt (au (bn l lost))]
theorem A7 (o : Opt) (lost : List Int) : (iA o lost = -1 ∧ kS o lost = o.sl.length) ∨ ∃ j, j < o.sl.length ∧ iA o lost = (j : Int) ∧ kS o lost = j := by
  rcases yJ (fun x : a8 => !inP lost x.p) o.sl 0 with h | ⟨j, h1, h2⟩
  · have h : iA o lost = -1 := h
    exact .inl ⟨h, by unfold kS; rw [if_neg (by omega)]⟩
  · have h : iA o lost = (j : Int) := by rw [iA, h2]; simp
    exact .inr ⟨j, h1, h, by unfold kS; rw [if_pos (by omega), h]; simp⟩
theorem pj {α : Type} (f : Opt → α) {l : List Opt} {i : Nat} (h : i < l.length) : (l.take (i + 1)).map f = (l.take i).map f ++ [f (aU l i)] := by
  rw [List.take_add_one, List.getElem?_eq_getElem h, eS h]; exact List.map_append
theorem CT (o : Opt) (k : Nat) : (sT o k).sl.length ≤ o.sl.length := by
  unfold sT
  split
  · show (o.sl.take _).length ≤ _; rw [List.length_take]; omega
  · exact Nat.le_refl _
theorem tp (n : Nat) : ∀ l : List Opt, (∀ o ∈ l, o.sl.length ≤ n) → (dp l).length ≤ n * l.length
  | [], _ => Nat.zero_le _
  | o :: l, h => by
    have h1 := tp n l fun p hp => h p (List.mem_cons_of_mem _ hp)
    have h2 := h o List.mem_cons_self
    simp only [dp, List.flatMap_cons, List.length_append, List.length_map, List.length_cons] at h1 ⊢
    rw [Nat.mul_add]
    omega
set_option maxHeartbeats 16000000 in
theorem BN (s : Nat → Int) (l : List Opt) (ps : List ak) (a b : Int) (lost : List Int) (hl : l.length ≤ 8) (hsl : ∀ o ∈ l, o.sl.length ≤ 6) (hps : ps.length ≤ 1000000) (hlo : lost.length ≤ 1000000)
    (hs : ∀ o ∈ l, kd o ps lost = true) (hc : ∀ o ∈ l, pz o = true) : ae Tryz.prog 122 [.agg (flA s l ps a b), aq lost] (.tup [.agg (js l lost), .bool true]) := by
  refine ag aa Tryz.func122 rfl (by kernel_rfl) af (Nat.le_of_ble_eq_true rfl) ?_
  intro F n' w0 m0 hG hro h1
  repeat' first|refine Q1 ?_|refine Q2 ?_|refine Q3 hG aa cR (by kernel_rfl) ?_|refine Q4 hG aa cR (by kernel_rfl) ?_|refine Q5 hG aa ?_|refine Q6 hG aa ?_|refine Q7 hG aa ?_|refine Q8 hG aa ?_|refine Q9 rfl ?_|refine QF rfl ?_|refine QC rfl (And.intro (fun h => ?_) (fun h => ?_))|((conv => whnf); first|refine anF ?_|refine anT ?_|refine And.intro (by kernel_rfl) ?_|refine Exists.intro _ (And.intro (wG lost hlo) ?_)|refine And.intro (fun h => ?_) (fun h => ?_)|refine Or.inl ?_|fail)
  refine SPB.resize 4 1 1004001 1 rfl rfl ?_
  refine SPB.resize 4 2 1004002 4 rfl rfl ?_
  refine az (X := Nat) (fun x => ⟨[(18, .int .i64 x), (6, .sl (.id 6) 9 ((bn (l.take x) lost).map aK)), (17, .int .i64 (l.map aK).length), (16, aM l), (5, .bool false), (4, .loc 4 0), (2, .loc 2 0), (1, aq lost)], [(4, [aq lost, .sl (.id 1004001) 1 ((fM (l.take x) lost).map fun h => [AV.int .i64 h]), .sl (.id 1004002) 4 ((bK (l.take x) lost).map gE), .sl (.id 1004003) 0 []]), (2, flA s l ps a b)]⟩) (fun x => x ≤ l.length) (fun x => l.length - x) 0 (Nat.zero_le _) (ah ?_ ?_) (fun x hx => ?_)
  · repeat' (first | exact trivial | refine And.intro rfl ?_)
  · repeat' (first | exact trivial | refine And.intro rfl ?_)
  · rename Nat => i
    have hi := hx
    by_cases hlt_i : i < l.length
    · have bbk : decide ((i : Int) < ((l.map aK).length : Int)) = false → False := fun h => by have := of_decide_eq_false h; simp at this; omega
      have hx := pf hlt_i
      have hm : aU l i ∈ l := by rw [eS hlt_i]; exact List.getElem_mem hlt_i
      have hso := hs _ hm
      have hco := hc _ hm
      have hso6 := hsl _ hm
      have cS : ae Tryz.prog 198 [.agg (aK (aU l i)), am ps, aq lost] (.tup [.int .i64 (iA (aU l i) lost), .int .i64 0]) := by
        have h := xX (aU l i) ps lost (by omega) hps hlo
        rw [yp, hso, if_pos rfl] at h; exact h
      have cW := xT (aU l i) (by omega) hco
      have e1 : (bn (l.take (i + 1)) lost).map aK = (bn (l.take i) lost).map aK ++ [aK (sT (aU l i) (kS (aU l i) lost))] := by rw [bn, pj _ hlt_i, List.map_append]; rfl
      have e2 : (fM (l.take (i + 1)) lost).map (fun h => [AV.int .i64 h]) = (fM (l.take i) lost).map (fun h => [AV.int .i64 h]) ++ [[.int .i64 (iA (aU l i) lost)]] := by rw [fM, pj _ hlt_i, List.map_append]; rfl
      have e3 : (bK (l.take (i + 1)) lost).map gE = (bK (l.take i) lost).map gE ++ [gE (pq (aU l i) (kS (aU l i) lost))] := by rw [bK, pj _ hlt_i, List.map_append]; rfl
      have n1 : ((bn (l.take i) lost).map aK).length = i := by simp [bn]; omega
      have n2 : ((fM (l.take i) lost).map fun h => [AV.int .i64 h]).length = i := by simp [fM]; omega
      have n3 : ((bK (l.take i) lost).map gE).length = i := by simp [bK]; omega
      have hkc := A7 (aU l i) lost
      have cF := fun (j : Nat) (hj : j < (aU l i).sl.length) => sI (aU l i) j (by omega) hco hj
      generalize (bn (l.take i) lost).map aK = r1 at e1 n1 ⊢
      generalize ((fM (l.take i) lost).map fun h => [AV.int .i64 h]) = r2 at e2 n2 ⊢
      generalize (bK (l.take i) lost).map gE = r3 at e3 n3 ⊢
      generalize iA (aU l i) lost = n at cS e2 hkc
      generalize kS (aU l i) lost = q at e1 e3 hkc
      generalize aU l i = u at *
      rcases hkc with ⟨rfl, rfl⟩ | ⟨_, hj, rfl, rfl⟩
      · repeat' first|exact (bbk (by assumption)).elim|refine Q1 ?_|refine Q2 ?_|refine Q3 hG aa cR (by kernel_rfl) ?_|refine Q4 hG aa cR (by kernel_rfl) ?_|refine Q5 hG aa ?_|refine Q6 hG aa ?_|refine Q7 hG aa ?_|refine Q8 hG aa ?_|refine Q9 rfl ?_|refine QF rfl ?_|refine QC rfl (And.intro (fun h => ?_) (fun h => ?_))|((conv => whnf); first|refine anF ?_|refine anT ?_|refine And.intro (by kernel_rfl) ?_|refine And.intro (Int.natCast_nonneg i) (Exists.intro _ (And.intro hx ?_))|refine Exists.intro _ (And.intro (cS) ?_)|refine Exists.intro _ (And.intro (cW) ?_)|refine And.intro (show (r1.length + 1) * 88 ≤ 70368744177664 by omega) (And.intro (show r1.length + 1 ≤ 4611686018427387904 by omega) ?_)|refine And.intro (show (r2.length + 1) * 8 ≤ 70368744177664 by omega) (And.intro (show r2.length + 1 ≤ 4611686018427387904 by omega) ?_)|refine And.intro (show (r3.length + 1) * 32 ≤ 70368744177664 by omega) (And.intro (show r3.length + 1 ≤ 4611686018427387904 by omega) ?_)|refine And.intro (fun h => ?_) (fun h => ?_)|refine Or.inl ?_|fail)
        refine Exists.intro (i + 1) (And.intro hlt_i (And.intro (by omega) (ah ?_ ?_)))
        · refine And.intro (congrArg some (ax (by omega))) (And.intro (congrArg (fun z => some (AV.sl (.id 6) 9 z)) (e1.trans (congrArg (r1 ++ ·) ?_)).symm) ?_)
          · rw [sT, if_neg (by omega)]; rfl
          · repeat' (first | exact trivial | refine And.intro rfl ?_)
        · refine And.intro (congrArg some ?_) ?_
          · rw [e2, e3]
            rw [pq, if_neg (by omega)]; rfl
          · repeat' (first | exact trivial | refine And.intro rfl ?_)
      · have hjw : IntKind.i64.wrap ((q : Int) + 1) = ((q + 1 : Nat) : Int) := (ap (by omega) (by omega)).trans (by omega)
        have hj1 : 0 ≤ IntKind.i64.wrap ((q : Int) + 1) := by rw [hjw]; exact Int.natCast_nonneg _
        have hj2 : (IntKind.i64.wrap ((q : Int) + 1)).toNat ≤ (u.sl.map aG).length := by rw [hjw, List.length_map]; omega
        have hrow : ((u.sl.map aG).take (IntKind.i64.wrap ((q : Int) + 1)).toNat).drop 0 = (u.sl.take (q + 1)).map aG := by rw [hjw, List.drop_zero, Int.toNat_natCast, List.map_take]
        have bbn : decide ((q : Int) ≥ 0) = false → False := fun h => by have := of_decide_eq_false h; omega
        have cFj := cF q hj
        repeat' first|exact (bbk (by assumption)).elim|exact (bbn (by assumption)).elim|refine Q1 ?_|refine Q2 ?_|refine Q3 hG aa cR (by kernel_rfl) ?_|refine Q4 hG aa cR (by kernel_rfl) ?_|refine Q5 hG aa ?_|refine Q6 hG aa ?_|refine Q7 hG aa ?_|refine Q8 hG aa ?_|refine Q9 rfl ?_|refine QF rfl ?_|refine QC rfl (And.intro (fun h => ?_) (fun h => ?_))|((conv => whnf); first|refine anF ?_|refine anT ?_|refine And.intro (by kernel_rfl) ?_|refine And.intro (Int.natCast_nonneg i) (Exists.intro _ (And.intro hx ?_))|refine Exists.intro _ (And.intro (cS) ?_)|refine Exists.intro _ (And.intro (cW) ?_)|refine Exists.intro _ (And.intro (cFj) ?_)|refine And.intro hj1 (And.intro (Nat.zero_le _) (And.intro hj2 ?_))|refine And.intro (show (r1.length + 1) * 88 ≤ 70368744177664 by omega) (And.intro (show r1.length + 1 ≤ 4611686018427387904 by omega) ?_)|refine And.intro (show (r2.length + 1) * 8 ≤ 70368744177664 by omega) (And.intro (show r2.length + 1 ≤ 4611686018427387904 by omega) ?_)|refine And.intro (show (r3.length + 1) * 32 ≤ 70368744177664 by omega) (And.intro (show r3.length + 1 ≤ 4611686018427387904 by omega) ?_)|refine And.intro (fun h => ?_) (fun h => ?_)|refine Or.inl ?_|fail)
        refine Exists.intro (i + 1) (And.intro hlt_i (And.intro (by omega) (ah ?_ ?_)))
        · refine And.intro (congrArg some (ax (by omega))) (And.intro (congrArg (fun z => some (AV.sl (.id 6) 9 z)) (e1.trans (congrArg (r1 ++ ·) ?_)).symm) ?_)
          · rw [sT, if_pos hj]
            exact congrArg (fun z => [[AV.int .i64 u.id, .int .i64 u.ord, .int .i64 u.cl, .int .i64 u.sat, .int .i64 u.a, .int .i64 u.b, .int .i64 u.look, .int .i64 u.size, .sl .no 3 z]]) hrow.symm
          · repeat' (first | exact trivial | refine And.intro rfl ?_)
        · refine And.intro (congrArg some ?_) ?_
          · rw [e2, e3]
            rw [pq, if_pos hj]; rfl
          · repeat' (first | exact trivial | refine And.intro rfl ?_)
    · have bbk : decide ((i : Int) < ((l.map aK).length : Int)) = true → False := fun h => by have := of_decide_eq_true h; simp at this; omega
      have he : l.take i = l := List.take_of_length_le (by omega)
      rw [he]
      have hw6 : ∀ o ∈ bn l lost, o.sl.length ≤ 6 := fun o ho => by
        obtain ⟨p, hp, rfl⟩ := List.mem_map.1 ho
        exact Nat.le_trans (CT _ _) (hsl p hp)
      have hwl : (bn l lost).length ≤ 8 := by simp [bn]; omega
      have cL := xY (bn l lost) (by omega) (fun o ho => by have := hw6 o ho; omega) (by have := tp 6 _ hw6; omega)
      repeat' first|exact (bbk (by assumption)).elim|refine Q1 ?_|refine Q2 ?_|refine Q3 hG aa cR (by kernel_rfl) ?_|refine Q4 hG aa cR (by kernel_rfl) ?_|refine Q5 hG aa ?_|refine Q6 hG aa ?_|refine Q7 hG aa ?_|refine Q8 hG aa ?_|refine Q9 rfl ?_|refine QF rfl ?_|refine QC rfl (And.intro (fun h => ?_) (fun h => ?_))|((conv => whnf); first|refine anF ?_|refine anT ?_|refine And.intro (by kernel_rfl) ?_|refine Exists.intro _ (And.intro (cL) ?_)|refine And.intro (fun h => ?_) (fun h => ?_)|refine Or.inl ?_|fail)
      exact Ends.mk (Or.inl rfl) (ac rfl)
end Go.Proofs
namespace Go.Proofs
open Go Go.AI
set_option maxRecDepth 10000
def dY (x : Int) (r : List Int) : Int := r.foldl min x
theorem Al (x : Int) (r : List Int) (hl : r.length ≤ 1000000) : ae Tryz.prog 202 [aq (x :: r)] (.int .i64 (dY x r)) := by
  have hlen : (((x :: r).map fun h => [AV.int .i64 h]).length : Int) = (r.length : Int) + 1 := by simp
  have bb0 : decide ((((x :: r).map fun h => [AV.int .i64 h]).length : Int) < 1) = true → False := fun h => by have := of_decide_eq_true h; omega
  have hx0 : ((x :: r).map fun h => [AV.int .i64 h])[((0 : Int)).toNat]? = some [.int .i64 x] := rfl
  refine ag aa Tryz.func202 rfl (by kernel_rfl) af (Nat.le_of_ble_eq_true rfl) ?_
  intro F n' w0 m0 hG hro h1
  repeat' first|exact (bb0 (by assumption)).elim|refine Q1 ?_|refine Q2 ?_|refine Q3 hG aa ea (by kernel_rfl) ?_|refine Q4 hG aa ea (by kernel_rfl) ?_|refine Q5 hG aa ?_|refine Q6 hG aa ?_|refine Q7 hG aa ?_|refine Q8 hG aa ?_|refine Q9 rfl ?_|refine QF rfl ?_|refine QC rfl (And.intro (fun h => ?_) (fun h => ?_))|((conv => whnf); first|refine anF ?_|refine anT ?_|refine And.intro (by kernel_rfl) ?_|refine And.intro (of_decide_eq_true (Eq.refl true)) (Exists.intro _ (And.intro hx0 ?_))|refine And.intro (fun h => ?_) (fun h => ?_)|refine Or.inl ?_|fail)
  refine az (X := Nat) (fun i_ => ⟨[(4, .int .i64 ((i_ + 1 : Nat) : Int)), (3, .int .i64 (dY x (r.take i_))), (0, aq (x :: r))], []⟩) (fun i_ => i_ ≤ r.length) (fun x => r.length - x) 0 (Nat.zero_le _) (ah ?_ ?_) (fun i hx => ?_)
  · repeat' (first | exact trivial | refine And.intro rfl ?_)
  · repeat' (first | exact trivial | refine And.intro rfl ?_)
  · have hi := hx
    by_cases hlt_i : i < r.length
    · have bbk : decide (((i + 1 : Nat) : Int) < (((x :: r).map fun h => [AV.int .i64 h]).length : Int)) = false → False := fun h => by have := of_decide_eq_false h; rw [hlen] at this; omega
      have hx : ((x :: r).map fun h => [AV.int .i64 h])[(((i + 1 : Nat) : Int)).toNat]? = some [.int .i64 (r.getD i 0)] := by rw [Int.toNat_natCast]; simp [List.getElem?_eq_getElem hlt_i]
      have hm : dY x (r.take (i + 1)) = min (dY x (r.take i)) (r.getD i 0) := by
        rw [dY, gq hlt_i, List.foldl_append]; rfl
      generalize r.getD i 0 = u at hx hm
      repeat' first|exact (bbk (by assumption)).elim|refine Q1 ?_|refine Q2 ?_|refine Q3 hG aa ea (by kernel_rfl) ?_|refine Q4 hG aa ea (by kernel_rfl) ?_|refine Q5 hG aa ?_|refine Q6 hG aa ?_|refine Q7 hG aa ?_|refine Q8 hG aa ?_|refine Q9 rfl ?_|refine QF rfl ?_|refine QC rfl (And.intro (fun h => ?_) (fun h => ?_))|((conv => whnf); first|refine anF ?_|refine anT ?_|refine And.intro (by kernel_rfl) ?_|refine And.intro (Int.natCast_nonneg (i + 1)) (Exists.intro _ (And.intro hx ?_))|refine And.intro (fun h => ?_) (fun h => ?_)|refine Or.inl ?_|fail)
      refine Exists.intro (i + 1) (And.intro hlt_i (And.intro (by omega) (ah ?_ ?_)))
      · refine And.intro (congrArg some (ax (by omega))) (And.intro (congrArg (fun z => some (AV.int .i64 z)) hm.symm) ?_)
        repeat' (first | exact trivial | refine And.intro rfl ?_)
      · repeat' (first | exact trivial | refine And.intro rfl ?_)
    · have bbk : decide (((i + 1 : Nat) : Int) < (((x :: r).map fun h => [AV.int .i64 h]).length : Int)) = true → False := fun h => by have := of_decide_eq_true h; rw [hlen] at this; omega
      have he : r.take i = r := List.take_of_length_le (by omega)
      rw [he]
      repeat' first|exact (bbk (by assumption)).elim|refine Q1 ?_|refine Q2 ?_|refine Q3 hG aa ea (by kernel_rfl) ?_|refine Q4 hG aa ea (by kernel_rfl) ?_|refine Q5 hG aa ?_|refine Q6 hG aa ?_|refine Q7 hG aa ?_|refine Q8 hG aa ?_|refine Q9 rfl ?_|refine QF rfl ?_|refine QC rfl (And.intro (fun h => ?_) (fun h => ?_))|((conv => whnf); first|refine anF ?_|refine anT ?_|refine And.intro (by kernel_rfl) ?_|refine And.intro (fun h => ?_) (fun h => ?_)|refine Or.inl ?_|fail)
      exact Ends.mk (Or.inl rfl) (ac rfl)
structure Fnd where
  n : Int
  at_ : Int
  what : List Int
  is : Bool
def uE (x : Fnd) : List AV := [.int .i64 x.n, .int .i64 x.at_, aq x.what, .bool x.is]
def si (a b : Fnd) : Fnd := if !a.is || (b.is && decide (b.n > a.n)) then b else a
theorem wT (x y : Fnd) : ae Tryz.prog 201 [.agg (uE x), .agg (uE y)] (.agg (uE (si x y))) := by
  obtain ⟨n, t, w, i⟩ := x
  obtain ⟨n2, t2, w2, i2⟩ := y
  cases i <;> cases i2
  · refine ag aa Tryz.func201 rfl (by kernel_rfl) af (Nat.le_of_ble_eq_true rfl) ?_
    intro F n' w0 m0 hG hro h1
    repeat' first|refine Q1 ?_|refine Q2 ?_|refine Q3 hG aa cK (by kernel_rfl) ?_|refine Q4 hG aa cK (by kernel_rfl) ?_|refine Q5 hG aa ?_|refine Q6 hG aa ?_|refine Q7 hG aa ?_|refine Q8 hG aa ?_|refine Q9 rfl ?_|refine QF rfl ?_|refine QC rfl (And.intro (fun h => ?_) (fun h => ?_))|((conv => whnf); first|refine anF ?_|refine anT ?_|refine And.intro (by kernel_rfl) ?_|refine And.intro (fun h => ?_) (fun h => ?_)|refine Or.inl ?_|fail)
    all_goals refine Ends.mk (Or.inl rfl) (ac (congrArg (fun z => AV.agg (uE z)) ?_))
    all_goals (clear hG; first | rfl | (simp only [si]; symm; first | (apply if_pos; simp_all; done) | (apply if_neg; simp_all; done)))
  · refine ag aa Tryz.func201 rfl (by kernel_rfl) af (Nat.le_of_ble_eq_true rfl) ?_
    intro F n' w0 m0 hG hro h1
    repeat' first|refine Q1 ?_|refine Q2 ?_|refine Q3 hG aa cK (by kernel_rfl) ?_|refine Q4 hG aa cK (by kernel_rfl) ?_|refine Q5 hG aa ?_|refine Q6 hG aa ?_|refine Q7 hG aa ?_|refine Q8 hG aa ?_|refine Q9 rfl ?_|refine QF rfl ?_|refine QC rfl (And.intro (fun h => ?_) (fun h => ?_))|((conv => whnf); first|refine anF ?_|refine anT ?_|refine And.intro (by kernel_rfl) ?_|refine And.intro (fun h => ?_) (fun h => ?_)|refine Or.inl ?_|fail)
    all_goals refine Ends.mk (Or.inl rfl) (ac (congrArg (fun z => AV.agg (uE z)) ?_))
    all_goals (clear hG; first | rfl | (simp only [si]; symm; first | (apply if_pos; simp_all; done) | (apply if_neg; simp_all; done)))
  · refine ag aa Tryz.func201 rfl (by kernel_rfl) af (Nat.le_of_ble_eq_true rfl) ?_
    intro F n' w0 m0 hG hro h1
    repeat' first|refine Q1 ?_|refine Q2 ?_|refine Q3 hG aa cK (by kernel_rfl) ?_|refine Q4 hG aa cK (by kernel_rfl) ?_|refine Q5 hG aa ?_|refine Q6 hG aa ?_|refine Q7 hG aa ?_|refine Q8 hG aa ?_|refine Q9 rfl ?_|refine QF rfl ?_|refine QC rfl (And.intro (fun h => ?_) (fun h => ?_))|((conv => whnf); first|refine anF ?_|refine anT ?_|refine And.intro (by kernel_rfl) ?_|refine And.intro (fun h => ?_) (fun h => ?_)|refine Or.inl ?_|fail)
    all_goals refine Ends.mk (Or.inl rfl) (ac (congrArg (fun z => AV.agg (uE z)) ?_))
    all_goals (clear hG; first | rfl | (simp only [si]; symm; first | (apply if_pos; simp_all; done) | (apply if_neg; simp_all; done)))
  · refine ag aa Tryz.func201 rfl (by kernel_rfl) af (Nat.le_of_ble_eq_true rfl) ?_
    intro F n' w0 m0 hG hro h1
    repeat' first|refine Q1 ?_|refine Q2 ?_|refine Q3 hG aa cK (by kernel_rfl) ?_|refine Q4 hG aa cK (by kernel_rfl) ?_|refine Q5 hG aa ?_|refine Q6 hG aa ?_|refine Q7 hG aa ?_|refine Q8 hG aa ?_|refine Q9 rfl ?_|refine QF rfl ?_|refine QC rfl (And.intro (fun h => ?_) (fun h => ?_))|((conv => whnf); first|refine anF ?_|refine anT ?_|refine And.intro (by kernel_rfl) ?_|refine And.intro (fun h => ?_) (fun h => ?_)|refine Or.inl ?_|fail)
    all_goals refine Ends.mk (Or.inl rfl) (ac (congrArg (fun z => AV.agg (uE z)) ?_))
    all_goals (clear hG; first | rfl | (simp only [si]; symm; first | (apply if_pos; simp_all; done) | (apply if_neg; simp_all; done)))
def de (l : List (Int × Int)) : Int × Int := l.foldl (fun r x => if x.2 > r.1 then (x.2, x.1) else r) (0, -1)
set_option maxHeartbeats 4000000 in
theorem sE (l : List Img) (hl : l.length ≤ 1000000) (hv : ew l = true) : ae Tryz.prog 62 [bV l] (.tup [.int .i64 (de (aW l)).1, .int .i64 (de (aW l)).2, .int .i64 0]) := by
  have cV : ae Tryz.prog 105 [bV l] (.bool true) := by rw [← hv]; exact lL l hl
  have hu : ∀ x ∈ l, 0 ≤ x.u ∧ x.u ≤ 1000000 := by
    simp only [ew, Bool.and_eq_true] at hv
    exact j6 l [] hv.1
  have hseq := lN l hl hu
  refine ag aa Tryz.func62 rfl (by kernel_rfl) af (Nat.le_of_ble_eq_true rfl) ?_
  intro F n' w0 m0 hG hro h1
  repeat' first|refine Q1 ?_|refine Q2 ?_|refine Q3 hG aa du (by kernel_rfl) ?_|refine Q4 hG aa du (by kernel_rfl) ?_|refine Q5 hG aa ?_|refine Q6 hG aa ?_|refine Q7 hG aa ?_|refine Q8 hG aa ?_|refine Q9 rfl ?_|refine QF rfl ?_|refine QC rfl (And.intro (fun h => ?_) (fun h => ?_))|((conv => whnf); first|refine anF ?_|refine anT ?_|refine And.intro (by kernel_rfl) ?_|refine Exists.intro _ (And.intro (cV) ?_)|refine Exists.intro _ (And.intro (sJ l) ?_)|refine And.intro (fun h => ?_) (fun h => ?_)|refine Or.inl ?_|fail)
  generalize aW l = items at hseq
  refine ⟨SP.rangeM2 hG hro h1 (α := Int × Int) pA (f := 171) (cap := [.ref [bV l]]) (items := items) rfl hseq (fun _ => rfl) (fun _ => [(6, .loc 6 0), (5, .loc 5 0)]) [6, 5] (fun _ => rfl)
    (fun p => [(6, [.int .i64 (de p).2]), (5, [.int .i64 (de p).1])]) (ah ?_ ?_) (by kernel_rfl) (by decide) ?_ ?_⟩
  · repeat' (first | exact trivial | refine And.intro rfl ?_)
  · repeat' (first | exact trivial | refine And.intro rfl ?_)
  · intro F' n'' m' hG' _ _ pre x rest hx
    clear hG
    have hG := hG'
    have hm : de (pre ++ [x]) = if x.2 > (de pre).1 then (x.2, x.1) else de pre := by rw [de, List.foldl_append]; rfl
    generalize de pre = r at hm
    obtain ⟨n, t⟩ := r
    refine SPB.out (Q1 ?_)
    repeat' first|refine Q1 ?_|refine Q2 ?_|refine Q3 hG aa du (by kernel_rfl) ?_|refine Q4 hG aa du (by kernel_rfl) ?_|refine Q5 hG aa ?_|refine Q6 hG aa ?_|refine Q7 hG aa ?_|refine Q8 hG aa ?_|refine Q9 rfl ?_|refine QF rfl ?_|refine QC rfl (And.intro (fun h => ?_) (fun h => ?_))|((conv => whnf); first|refine anF ?_|refine anT ?_|refine And.intro (by kernel_rfl) ?_|refine And.intro (fun h => ?_) (fun h => ?_)|refine Or.inl ?_|fail)
    refine And.intro (ah ?_ ?_) ?_
    · repeat' (first | exact trivial | refine And.intro rfl ?_)
    · repeat' (first | exact trivial | refine And.intro rfl ?_)
    refine SPB.out ?_
    repeat' first|refine Q1 ?_|refine Q2 ?_|refine Q3 hG aa du (by kernel_rfl) ?_|refine Q4 hG aa du (by kernel_rfl) ?_|refine Q5 hG aa ?_|refine Q6 hG aa ?_|refine Q7 hG aa ?_|refine Q8 hG aa ?_|refine Q9 rfl ?_|refine QF rfl ?_|refine QC rfl (And.intro (fun h => ?_) (fun h => ?_))|((conv => whnf); first|refine anF ?_|refine anT ?_|refine And.intro (by kernel_rfl) ?_|refine And.intro (fun h => ?_) (fun h => ?_)|refine Or.inl ?_|fail)
    · rw [if_pos (of_decide_eq_true (by assumption))] at hm
      refine ah ?_ ?_
      · repeat' (first | exact trivial | refine And.intro rfl ?_)
      · dsimp only; rw [hm]; repeat' (first | exact trivial | refine And.intro rfl ?_)
    · rw [if_neg (of_decide_eq_false (by assumption))] at hm
      refine ah ?_ ?_
      · repeat' (first | exact trivial | refine And.intro rfl ?_)
      · dsimp only; rw [hm]; repeat' (first | exact trivial | refine And.intro rfl ?_)
  · conv => whnf
    repeat' first|refine Q1 ?_|refine Q2 ?_|refine Q3 hG aa du (by kernel_rfl) ?_|refine Q4 hG aa du (by kernel_rfl) ?_|refine Q5 hG aa ?_|refine Q6 hG aa ?_|refine Q7 hG aa ?_|refine Q8 hG aa ?_|refine Q9 rfl ?_|refine QF rfl ?_|refine QC rfl (And.intro (fun h => ?_) (fun h => ?_))|((conv => whnf); first|refine anF ?_|refine anT ?_|refine And.intro (by kernel_rfl) ?_|refine And.intro (fun h => ?_) (fun h => ?_)|refine Or.inl ?_|fail)
    all_goals exact Ends.mk (Or.inl rfl) (ac rfl)
theorem Am (s : Nat → Int) (l : List Opt) (ps : List ak) (a b : Int) (lost : List Int) (I : List Img) (n t : Int) (h1 : bK l lost = I) (h2 : de (aW I) = (n, t)) (hl : I.length ≤ 1000000) (hv : ew I = true) :
    ae Tryz.prog 127 [.agg (flA s l ps a b), .agg (js l lost)] (.tup [.int .i64 n, .int .i64 t, .bool true]) := by
  have c := sE I hl hv
  rw [h2] at c
  rw [js, h1]
  refine ag aa Tryz.func127 rfl (by kernel_rfl) af (Nat.le_of_ble_eq_true rfl) ?_
  intro F n' w0 m0 hG hro h1
  repeat' first|refine Q1 ?_|refine Q2 ?_|refine Q3 hG aa oJ (by kernel_rfl) ?_|refine Q4 hG aa oJ (by kernel_rfl) ?_|refine Q5 hG aa ?_|refine Q6 hG aa ?_|refine Q7 hG aa ?_|refine Q8 hG aa ?_|refine Q9 rfl ?_|refine QF rfl ?_|refine QC rfl (And.intro (fun h => ?_) (fun h => ?_))|((conv => whnf); first|refine anF ?_|refine anT ?_|refine And.intro (by kernel_rfl) ?_|refine Exists.intro _ (And.intro (c) ?_)|refine And.intro (fun h => ?_) (fun h => ?_)|refine Or.inl ?_|fail)
  all_goals exact Ends.mk (Or.inl rfl) (ac rfl)
def lvL (s : Nat → Int) (D : List ar) (a b : Int) : List Int := (dM (s 11) (fA s D a b)).2
theorem x9 (s : Nat → Int) (l : List Opt) (ps : List ak) (a b : Int) (lost : List Int) (D : List ar) (x : Int) (r : List Int) (h1 : au (bn l lost) = D) (h2 : lvL s D a b = x :: r) (hD : D.length ≤ 1000000) (hv : ip s D a b = true) (hr : r.length ≤ 100000) :
    ae Tryz.prog 129 [.agg (flA s l ps a b), .agg (js l lost)] (.tup [.int .i64 (w64 (0 - dY x r)), .int .i64 (w64 (a + bM (fun y => dY x r == y) (x :: r) 0)), .bool true]) := by
  have c := wR s D a b hD hv
  rw [show (dM (s 11) (fA s D a b)).2 = x :: r from h2] at c
  have c2 := Al x r (by omega)
  have c3 := qE (x :: r) (dY x r) (by simp; omega)
  have bb0 : ((((x :: r).map fun h => [AV.int .i64 h]).length : Int) == 0) = true → False := fun h => by have := eq_of_beq h; simp at this; omega
  rw [js, h1]
  generalize dY x r = m at *
  generalize bM (fun y => m == y) (x :: r) 0 = j at *
  refine ag aa Tryz.func129 rfl (by kernel_rfl) af (Nat.le_of_ble_eq_true rfl) ?_
  intro F n' w0 m0 hG hro h1
  repeat' first|exact (bb0 (by assumption)).elim|refine Q1 ?_|refine Q2 ?_|refine Q3 hG aa oI (by kernel_rfl) ?_|refine Q4 hG aa oI (by kernel_rfl) ?_|refine Q5 hG aa ?_|refine Q6 hG aa ?_|refine Q7 hG aa ?_|refine Q8 hG aa ?_|refine Q9 rfl ?_|refine QF rfl ?_|refine QC rfl (And.intro (fun h => ?_) (fun h => ?_))|((conv => whnf); first|refine anF ?_|refine anT ?_|refine And.intro (by kernel_rfl) ?_|refine Exists.intro _ (And.intro (c) ?_)|refine Exists.intro _ (And.intro (c2) ?_)|refine Exists.intro _ (And.intro (c3) ?_)|refine And.intro (fun h => ?_) (fun h => ?_)|refine Or.inl ?_|fail)
  all_goals exact Ends.mk (Or.inl rfl) (ac rfl)
def ei (s : Nat → Int) (l : List Opt) (ps : List ak) (k a b : Int) : Bool := rD k && aO s l ps a b && decide (((aw l).length : Int) ≤ 6)
theorem io (s : Nat → Int) (l : List Opt) (ps : List ak) (k a b : Int) (hl : l.length ≤ 1000000) (hs : slens l) (hps : ps.length ≤ 1000000) : ae Tryz.prog 51 [.agg (aX s), aM l, am ps, .int .i64 k, .agg (aF a b)] (.bool (ei s l ps k a b)) := by
  have hfl : (((aw l).map fun h => [AV.int .i64 h]).length : Int) = ((aw l).length : Int) := by rw [List.length_map]
  refine ag aa Tryz.func51 rfl (by kernel_rfl) af (Nat.le_of_ble_eq_true rfl) ?_
  intro F n' w0 m0 hG hro h1
  repeat' first|refine Q1 ?_|refine Q2 ?_|refine Q3 hG aa qx (by kernel_rfl) ?_|refine Q4 hG aa qx (by kernel_rfl) ?_|refine Q5 hG aa ?_|refine Q6 hG aa ?_|refine Q7 hG aa ?_|refine Q8 hG aa ?_|refine Q9 rfl ?_|refine QF rfl ?_|refine QC rfl (And.intro (fun h => ?_) (fun h => ?_))|((conv => whnf); first|refine anF ?_|refine anT ?_|refine And.intro (by kernel_rfl) ?_|refine Exists.intro _ (And.intro (xU s l ps a b hl hs hps) ?_)|refine Exists.intro _ (And.intro (gN l hl hs) ?_)|refine And.intro (fun h => ?_) (fun h => ?_)|refine Or.inl ?_|fail)
  all_goals refine Ends.mk (Or.inl rfl) (ac (congrArg AV.bool ?_))
  all_goals (try rw [hfl] at *)
  all_goals (clear hG; grind [ei, rD])
end Go.Proofs
namespace Go.Proofs
open Go Go.AI
set_option maxRecDepth 10000
section
variable {Γ : aN} {s : St} {K : Exit → St → Prop}
theorem SPB.unown {c : Code} (d j k sz sz2 : Nat) {cs : List AV} (h1 : AI.get s.b d = some cs) (h2 : cs[j]? = some (.sl (.id k) sz [])) (h : SPB Γ ⟨s.t, (d, dn cs j (.sl .no sz2 [])) :: s.b⟩ c K) : SPB Γ s c K := by
  refine ⟨fun a w hI => h.out a w ?_⟩
  obtain ⟨⟨cx, hW, ht⟩, hs, hd, hrn⟩ := hI
  have hne : cs ≠ [] := fun e => by rw [e] at h2; simp at h2
  refine ⟨⟨cx, hW.rebox h1 hne (eG _ _ _) (fun x hx => ?_) (fun vs hvs i x v q1 q2 => ?_), ht⟩, hs, hd, hrn⟩
  · obtain ⟨p, hp⟩ := List.getElem?_of_mem hx
    rw [dH] at hp
    split at hp
    · cases hp; rfl
    · exact (hW.box d cs h1 hne).2.2.1 x (List.mem_of_getElem? hp)
  · rw [dH] at q1
    split at q1
    · rename_i hj
      cases q1
      have hr := hvs i _ v (by rw [← hj.1]; exact h2) q2
      obtain ⟨r1, r2, r3⟩ := (show RC1 cx (.sl (.id k) sz []) v from hr)
      show RD cx.m _ v
      match r3 with
      | .sl _ _ _ base len cap ho hf hl hc _ _ b off hb g _ _ => exact .sl _ _ _ _ _ _ (by intro k hk; cases hk) (by intro hk; cases hk) hl hc (by simp) (by simp) b off hb g (by simp) (by simp)
    · exact hvs i x v q1 q2
end
theorem vg {s : Nat → Int} {ps : List ak} {z : Int} (hpl : ps.length ≤ 64) : ∀ (l : List a8) (t t2 : Int), t2 ≤ t → bq s ps z t l = true → sN ps t2 l = true
  | [], _, _, _, _ => rfl
  | x :: r, t, t2, ht, h => by
    simp only [bq, fe, Bool.and_eq_true, inS, decide_eq_true_eq, Bool.not_eq_true'] at h
    obtain ⟨⟨⟨h0, h1⟩, ⟨⟨⟨_, h2⟩, h3⟩, h4⟩, _⟩, h5⟩ := h
    rw [ap (by omega) (by omega)] at h1
    rw [sN, vg hpl r x.b x.b (Int.le_refl _) h5, Bool.and_true]
    simp only [slL, Bool.and_eq_true, Bool.not_eq_true', decide_eq_false_iff_not]
    omega
theorem qb {s : Nat → Int} {o : Opt} {ps : List ak} (hps : bP ps = true) (ho : 0 ≤ o.b) (h : dh s o ps = true) : eU o ps = true := by
  have hl := (rp hps).2
  simp only [dh, Bool.and_eq_true, inS, decide_eq_true_eq] at h
  obtain ⟨⟨_, h1⟩, h2⟩ := h
  have h3 := vg hl o.sl o.b 0 ho h2
  simp only [eU, Bool.and_eq_true, Bool.not_eq_true', decide_eq_false_iff_not, h3, hps, and_true]
  omega
theorem xd {s : Nat → Int} {l : List Opt} {ps : List ak} {a b : Int} (h : aO s l ps a b = true) {lost : List Int} (hs : lr ps lost = true) : ∀ o ∈ l, kd o ps lost = true := fun o ho => by
  obtain ⟨_, hr, _, _, hp, hf, _⟩ := aS.1 h
  obtain ⟨_, _, hfit⟩ := qL.of h
  have h1 := hfit o ho
  unfold kd
  rw [hs, Bool.and_true]
  exact qb hp (by have := h1.shot; omega) (hf o ho).1
theorem tY {s : Nat → Int} {l : List Opt} {ps : List ak} {a b : Int} (h : aO s l ps a b = true) {lost : List Int} (hs : lr ps lost = true) (hlo : lost.length ≤ 1000000) : ae Tryz.prog 122 [.agg (flA s l ps a b), aq lost] (.tup [.agg (js l lost), .bool true]) := by
  obtain ⟨hl, _, _, _, hp, _, _⟩ := aS.1 h
  obtain ⟨_, _, hfit⟩ := qL.of h
  exact BN s l ps a b lost hl (fun o ho => (hfit o ho).len.2) (by have := (rp hp).2; omega) hlo (xd h hs) (fun o ho => (hfit o ho).can)
def Da : Fnd := ⟨0, 0, [], false⟩
def dj (m : List Int → Int × Int) (L : List (List Int)) : Fnd := L.foldl (fun x y => si x ⟨(m y).1, (m y).2, y, true⟩) Da
theorem xN (m : List Int → Int × Int) (L : List (List Int)) (y : List Int) : dj m (L ++ [y]) = si (dj m L) ⟨(m y).1, (m y).2, y, true⟩ := by rw [dj, List.foldl_append]; rfl
set_option maxHeartbeats 8000000 in
theorem qf (s : Nat → Int) (l : List Opt) (ps : List ak) (k a b : Int) (g : FuncId) (m : List Int → Int × Int) (hl : l.length ≤ 1000000) (hs : slens l) (hps : ps.length ≤ 1000000) (hv : ei s l ps k a b = true)
    (hw : ∀ lost ∈ aY (aw l) ps k, ae Tryz.prog 122 [.agg (flA s l ps a b), aq lost] (.tup [.agg (js l lost), .bool true]))
    (hg : ∀ lost ∈ aY (aw l) ps k, ae Tryz.prog g [.agg (flA s l ps a b), .agg (js l lost)] (.tup [.int .i64 (m lost).1, .int .i64 (m lost).2, .bool true])) :
    ae Tryz.prog 126 [.agg (aX s), aM l, am ps, .int .i64 k, .agg (aF a b), .fn g] (.tup [.agg (uE (dj m (aY (aw l) ps k))), .int .i64 0]) := by
  have cV := io s l ps k a b hl hs hps
  rw [hv] at cV
  have hf6 : (aw l).length ≤ 6 := by
    simp only [ei, Bool.and_eq_true, decide_eq_true_eq] at hv; omega
  have hseq := nE (aw l) ps k hf6 hps
  refine ag aa Tryz.func126 rfl (by kernel_rfl) af (Nat.le_of_ble_eq_true rfl) ?_
  intro F n' w0 m0 hG hro h1
  repeat' first|refine Q1 ?_|refine Q2 ?_|refine Q3 hG aa dE (by kernel_rfl) ?_|refine Q4 hG aa dE (by kernel_rfl) ?_|refine Q5 hG aa ?_|refine Q6 hG aa ?_|refine Q7 hG aa ?_|refine Q8 hG aa ?_|refine Q9 rfl ?_|refine QF rfl ?_|refine QC rfl (And.intro (fun h => ?_) (fun h => ?_))|((conv => whnf); first|refine anF ?_|refine anT ?_|refine And.intro (by kernel_rfl) ?_|refine Exists.intro _ (And.intro (cV) ?_)|refine Exists.intro _ (And.intro (gN l hl hs) ?_)|refine Exists.intro _ (And.intro (tZ _ _ _) ?_)|refine And.intro (fun h => ?_) (fun h => ?_)|refine Or.inl ?_|fail)
  generalize aY (aw l) ps k = items at hseq hw hg
  refine SPB.unown 12 2 1012002 0 1 rfl rfl ?_
  conv => whnf
  refine ⟨SP.rangeM2 hG hro h1 (α := List Int) (fun l => [aq l]) (f := 191) (cap := [.ref [aq (aw l)], .ref [am ps], .ref [.int .i64 k]]) (items := items) rfl hseq (fun _ => rfl) (fun _ => [(14, .loc 14 0), (13, .loc 13 0), (12, .loc 12 0), (11, .loc 11 0)]) [14, 13, 12, 11] (fun _ => rfl)
    (fun p => [(14, flA s l ps a b), (13, [.int .i64 0]), (12, uE (dj m p)), (11, [.fn g])]) (ah ?_ ?_) (by kernel_rfl) (by decide) ?_ ?_⟩
  · repeat' (first | exact trivial | refine And.intro rfl ?_)
  · repeat' (first | exact trivial | refine And.intro rfl ?_)
  · intro F' n'' m' hG' _ _ pre x rest hx
    clear hG
    have hG := hG'
    have hxm : x ∈ items := by rw [hx]; simp
    have cW := hw x hxm
    have cM := hg x hxm
    have hb := xN m pre x
    generalize dj m pre = z at hb
    refine SPB.out (Q4 hG aa dE (by kernel_rfl) ?_)
    conv => whnf
    refine And.intro rfl (And.intro (ah ?_ ?_) ?_)
    · repeat' (first | exact trivial | refine And.intro rfl ?_)
    · repeat' (first | exact trivial | refine And.intro rfl ?_)
    refine SPB.out ?_
    repeat' first|refine Q1 ?_|refine Q2 ?_|refine Q3 hG aa dE (by kernel_rfl) ?_|refine Q4 hG aa dE (by kernel_rfl) ?_|refine Q5 hG aa ?_|refine Q6 hG aa ?_|refine Q7 hG aa ?_|refine Q8 hG aa ?_|refine Q9 rfl ?_|refine QF rfl ?_|refine QC rfl (And.intro (fun h => ?_) (fun h => ?_))|((conv => whnf); first|refine anF ?_|refine anT ?_|refine And.intro (by kernel_rfl) ?_|refine Exists.intro _ (And.intro (cW) ?_)|refine Exists.intro _ (And.intro (cM) ?_)|refine Exists.intro _ (And.intro (wT z ⟨(m x).1, (m x).2, x, true⟩) ?_)|refine And.intro (fun h => ?_) (fun h => ?_)|refine Or.inl ?_|fail)
    refine ah ?_ ?_
    · repeat' (first | exact trivial | refine And.intro rfl ?_)
    · dsimp only; rw [hb]; repeat' (first | exact trivial | refine And.intro rfl ?_)
  · conv => whnf
    repeat' first|refine Q1 ?_|refine Q2 ?_|refine Q3 hG aa dE (by kernel_rfl) ?_|refine Q4 hG aa dE (by kernel_rfl) ?_|refine Q5 hG aa ?_|refine Q6 hG aa ?_|refine Q7 hG aa ?_|refine Q8 hG aa ?_|refine Q9 rfl ?_|refine QF rfl ?_|refine QC rfl (And.intro (fun h => ?_) (fun h => ?_))|((conv => whnf); first|refine anF ?_|refine anT ?_|refine And.intro (by kernel_rfl) ?_|refine And.intro (fun h => ?_) (fun h => ?_)|refine Or.inl ?_|fail)
    all_goals exact Ends.mk (Or.inl rfl) (ac rfl)
end Go.Proofs
namespace Go.Proofs
open Go Go.AI
set_option maxRecDepth 10000
theorem lf {s : Nat → Int} {l : List Opt} {ps : List ak} {a b : Int} (h : aO s l ps a b = true) (k : Opt → Nat) : ∀ o ∈ l, (pq o (k o)).i = o.id ∧ (pq o (k o)).u = o.size ∧ (pq o (k o)).a = o.a ∧ o.a < (pq o (k o)).b ∧ (pq o (k o)).b ≤ fc o := fun o ho => by
  obtain ⟨_, _, hfit⟩ := qL.of h
  have hf := hfit o ho
  have hs := hf.shot
  have hla := hf.last
  have hc := hf.can
  simp only [pz, Bool.and_eq_true] at hc
  have hge := tK _ _ hc.1
  unfold pq
  split
  · rename_i hk
    have h1 := hge _ (ym hk)
    have h2 := hf.slot _ (ym hk)
    exact ⟨rfl, rfl, rfl, by show _ < (dx _ _).b; omega, h2.2.2⟩
  · exact ⟨rfl, rfl, rfl, by show _ < fc _; omega, Int.le_refl _⟩
theorem mj {s : Nat → Int} {l : List Opt} {ps : List ak} {a b : Int} (h : aO s l ps a b = true) (k : Opt → Nat) : ew (l.map fun o => pq o (k o)) = true := by
  obtain ⟨hl, hr, _, hsat, _, _, hids⟩ := aS.1 h
  obtain ⟨_, _, hfit⟩ := qL.of h
  have hq := yr hsat
  have himg := lf h k
  rw [ew, Bool.and_eq_true]
  refine ⟨(rv _ []).2 ⟨fun x hx => ?_, ?_, fun p hp => nomatch hp⟩, by simp; omega⟩
  · obtain ⟨o, ho, rfl⟩ := List.mem_map.1 hx
    obtain ⟨e1, e2, e3, e4, e5⟩ := himg o ho
    have hf := hfit o ho
    have f1 := hf.id; have f2 := hf.size; have f3 := hf.shot; have f4 := hf.last
    rw [e1, e2, e3]
    refine ⟨f1, ⟨f2.1, by omega⟩, f3.1, e4, by omega⟩
  · rw [List.pairwise_map]
    refine List.Pairwise.imp_of_mem (fun {x y} hx hy hxy => ?_) hids
    rw [(himg x hx).1, (himg y hy).1]; exact hxy
theorem eH {s : Nat → Int} {l : List Opt} {ps : List ak} {a b : Int} (h : aO s l ps a b = true) (k : Opt → Nat) : cY (l.map fun o => sT o (k o)) := by
  obtain ⟨_, hg, _⟩ := qL.of h
  refine ⟨by have := hg.n; simpa using this, fun o ho => ?_, fun o ho x hx => ?_⟩
  · obtain ⟨p, hp, rfl⟩ := List.mem_map.1 ho
    have := hg.shot p hp
    unfold sT
    split
    · exact ⟨this.1, this.2.1, this.2.2.1, by show (List.take _ _).length ≤ 6; rw [List.length_take]; omega⟩
    · exact this
  · obtain ⟨p, hp, rfl⟩ := List.mem_map.1 ho
    refine hg.slot p hp x ?_
    unfold sT at hx
    split at hx
    · exact List.mem_of_mem_take hx
    · exact hx
theorem pY {s : Nat → Int} {l : List Opt} {ps : List ak} {a b : Int} (h : aO s l ps a b = true) {D : List Opt} (hg : cY D) : ip s (au D) a b = true := by
  obtain ⟨_, hr, hab, hsat, _, _, _⟩ := aS.1 h
  have hw : w64 (b - a) = b - a := ap (by omega) (by omega)
  simp only [ip, Bool.and_eq_true, decide_eq_true_eq, hg.proper, hsat, and_true, gn, hw]
  omega
theorem pZ (c : Int) : ∀ (pre : List (Int × Int)) (r : Int × List Int), (pre.foldl (fW c) r).2.length = r.2.length + pre.length
  | [], r => by simp
  | p :: pre, r => by rw [List.foldl_cons, pZ c pre]; simp [fW]; omega
theorem qR (s : Nat → Int) (D : List ar) (a b : Int) : (lvL s D a b).length = (b - a).toNat := by
  rw [lvL, dM, pZ]; simp [fA, gA]
def pkM (l : List Opt) (lost : List Int) : Int × Int := de (aW (bK l lost))
def ph (l : List Int) : Int := match l with | [] => 0 | x :: r => dY x r
def loM (s : Nat → Int) (l : List Opt) (a b : Int) (lost : List Int) : Int × Int := (w64 (0 - ph (lvL s (au (bn l lost)) a b)), w64 (a + bM (fun y => ph (lvL s (au (bn l lost)) a b) == y) (lvL s (au (bn l lost)) a b) 0))
def pkS (l : List Opt) (ps : List ak) (k : Int) : Fnd := dj (pkM l) (aY (aw l) ps k)
def loS (s : Nat → Int) (l : List Opt) (ps : List ak) (k a b : Int) : Fnd := dj (loM s l a b) (aY (aw l) ps k)
theorem kb {f : List Int} {ps : List ak} {k : Int} {x : List Int} (h : x ∈ aY f ps k) : bN ps x k = true ∧ ∃ b, b < 2 ^ f.length ∧ x = dK f b := by
  obtain ⟨h1, h2⟩ := List.mem_filter.1 h
  obtain ⟨b, hb, rfl⟩ := List.mem_map.1 h1
  exact ⟨h2, b, List.mem_range.1 hb, rfl⟩
theorem Ac {ps : List ak} {x : List Int} {k : Int} (h : bN ps x k = true) : lr ps x = true := by
  simp only [bN, Bool.and_eq_true] at h; exact h.1.2
theorem gU {s : Nat → Int} {l : List Opt} {ps : List ak} {k a b : Int} (hv : ei s l ps k a b = true) : aO s l ps a b = true ∧ (aw l).length ≤ 6 ∧ 0 ≤ k ∧ k ≤ 3 := by
  simp only [ei, rD, Bool.and_eq_true, decide_eq_true_eq] at hv
  exact ⟨hv.1.2, by omega, hv.1.1⟩
theorem dm {s : Nat → Int} {l : List Opt} {ps : List ak} {a b : Int} (h : aO s l ps a b = true) : l.length ≤ 1000000 ∧ slens l ∧ ps.length ≤ 1000000 := by
  obtain ⟨hl, _, _, _, hp, _, _⟩ := aS.1 h
  obtain ⟨hk, _, _⟩ := qL.of h
  have := (rp hp).2
  exact ⟨by omega, hk.sl, by omega⟩
theorem qN {f : List Int} {b : Nat} (hf : f.length ≤ 6) : (dK f b).length ≤ 1000000 := Nat.le_trans (o5 f b f.length) (by omega)
theorem t7 {s : Nat → Int} {l : List Opt} {ps : List ak} {k a b : Int} (hv : ei s l ps k a b = true) : ∀ lost ∈ aY (aw l) ps k, ae Tryz.prog 122 [.agg (flA s l ps a b), aq lost] (.tup [.agg (js l lost), .bool true]) := fun lost hm => by
  obtain ⟨ht, hf, _⟩ := gU hv
  obtain ⟨ha, bb, _, rfl⟩ := kb hm
  exact tY ht (Ac ha) (qN hf)
theorem x7 {s : Nat → Int} {l : List Opt} {ps : List ak} {a b : Int} (ht : aO s l ps a b = true) (lost : List Int) : ae Tryz.prog 127 [.agg (flA s l ps a b), .agg (js l lost)] (.tup [.int .i64 (pkM l lost).1, .int .i64 (pkM l lost).2, .bool true]) :=
  Am s l ps a b lost _ _ _ rfl rfl (by have := (aS.1 ht).1; simp [bK]; omega) (mj ht _)
theorem wF {s : Nat → Int} {l : List Opt} {ps : List ak} {a b : Int} (ht : aO s l ps a b = true) (lost : List Int) : ae Tryz.prog 129 [.agg (flA s l ps a b), .agg (js l lost)] (.tup [.int .i64 (loM s l a b lost).1, .int .i64 (loM s l a b lost).2, .bool true]) := by
  obtain ⟨_, hr, hab, _⟩ := aS.1 ht
  have hg : cY (bn l lost) := eH ht _
  have hlen := qR s (au (bn l lost)) a b
  have hd := jH hg
  have hv := pY ht hg
  unfold loM
  generalize hlv : lvL s (au (bn l lost)) a b = lv at hlen
  cases lv with
  | nil => simp at hlen; omega
  | cons x r => exact x9 s l ps a b lost _ x r rfl hlv (by omega) hv (by simp at hlen; omega)
theorem d3 {s : Nat → Int} {l : List Opt} {ps : List ak} {k a b : Int} (hv : ei s l ps k a b = true) : ae Tryz.prog 56 [.agg (aX s), aM l, am ps, .int .i64 k, .agg (aF a b)] (.tup [.int .i64 (pkS l ps k).n, .int .i64 (pkS l ps k).at_, aq (pkS l ps k).what, .int .i64 0]) := by
  obtain ⟨ht, hf, _⟩ := gU hv
  obtain ⟨hl, hs, hp⟩ := dm ht
  have c := qf s l ps k a b 127 (pkM l) hl hs hp hv (t7 hv) (fun lost _ => x7 ht lost)
  have e : dj (pkM l) (aY (aw l) ps k) = pkS l ps k := rfl
  rw [e] at c
  generalize pkS l ps k = z at c
  refine ag aa Tryz.func56 rfl (by kernel_rfl) af (Nat.le_of_ble_eq_true rfl) ?_
  intro F n' w0 m0 hG hro h1
  repeat' first|refine Q1 ?_|refine Q2 ?_|refine Q3 hG aa qw (by kernel_rfl) ?_|refine Q4 hG aa qw (by kernel_rfl) ?_|refine Q5 hG aa ?_|refine Q6 hG aa ?_|refine Q7 hG aa ?_|refine Q8 hG aa ?_|refine Q9 rfl ?_|refine QF rfl ?_|refine QC rfl (And.intro (fun h => ?_) (fun h => ?_))|((conv => whnf); first|refine anF ?_|refine anT ?_|refine And.intro (by kernel_rfl) ?_|refine Exists.intro _ (And.intro (c) ?_)|refine And.intro (fun h => ?_) (fun h => ?_)|refine Or.inl ?_|fail)
  all_goals exact Ends.mk (Or.inl rfl) (ac rfl)
theorem fm {s : Nat → Int} {l : List Opt} {ps : List ak} {k a b : Int} (hv : ei s l ps k a b = true) : ae Tryz.prog 58 [.agg (aX s), aM l, am ps, .int .i64 k, .agg (aF a b)] (.tup [.int .i64 (w64 (0 - (loS s l ps k a b).n)), .int .i64 (loS s l ps k a b).at_, aq (loS s l ps k a b).what, .int .i64 0]) := by
  obtain ⟨ht, hf, _⟩ := gU hv
  obtain ⟨hl, hs, hp⟩ := dm ht
  have c := qf s l ps k a b 129 (loM s l a b) hl hs hp hv (t7 hv) (fun lost _ => wF ht lost)
  have e : dj (loM s l a b) (aY (aw l) ps k) = loS s l ps k a b := rfl
  rw [e] at c
  generalize loS s l ps k a b = z at c
  refine ag aa Tryz.func58 rfl (by kernel_rfl) af (Nat.le_of_ble_eq_true rfl) ?_
  intro F n' w0 m0 hG hro h1
  repeat' first|refine Q1 ?_|refine Q2 ?_|refine Q3 hG aa qv (by kernel_rfl) ?_|refine Q4 hG aa qv (by kernel_rfl) ?_|refine Q5 hG aa ?_|refine Q6 hG aa ?_|refine Q7 hG aa ?_|refine Q8 hG aa ?_|refine Q9 rfl ?_|refine QF rfl ?_|refine QC rfl (And.intro (fun h => ?_) (fun h => ?_))|((conv => whnf); first|refine anF ?_|refine anT ?_|refine And.intro (by kernel_rfl) ?_|refine Exists.intro _ (And.intro (c) ?_)|refine And.intro (fun h => ?_) (fun h => ?_)|refine Or.inl ?_|fail)
  all_goals exact Ends.mk (Or.inl rfl) (ac rfl)
theorem mD {s : Nat → Int} {l : List Opt} {ps : List ak} {k a b : Int} (hv : ei s l ps k a b = true) : ae Tryz.prog 60 [.agg (aX s), aM l, am ps, .int .i64 k, .agg (aF a b)] (.bool (decide ((pkS l ps k).n ≤ s 10) && decide (w64 (0 - (loS s l ps k a b).n) ≥ 0))) := by
  have c1 := d3 hv
  have c2 := fm hv
  generalize pkS l ps k = z at *
  generalize w64 (0 - (loS s l ps k a b).n) = m at *
  generalize loS s l ps k a b = z2 at *
  refine ag aa Tryz.func60 rfl (by kernel_rfl) af (Nat.le_of_ble_eq_true rfl) ?_
  intro F n' w0 m0 hG hro h1
  repeat' first|refine Q1 ?_|refine Q2 ?_|refine Q3 hG aa qu (by kernel_rfl) ?_|refine Q4 hG aa qu (by kernel_rfl) ?_|refine Q5 hG aa ?_|refine Q6 hG aa ?_|refine Q7 hG aa ?_|refine Q8 hG aa ?_|refine Q9 rfl ?_|refine QF rfl ?_|refine QC rfl (And.intro (fun h => ?_) (fun h => ?_))|((conv => whnf); first|refine anF ?_|refine anT ?_|refine And.intro (by kernel_rfl) ?_|refine Exists.intro _ (And.intro (c1) ?_)|refine Exists.intro _ (And.intro (c2) ?_)|refine And.intro (fun h => ?_) (fun h => ?_)|refine Or.inl ?_|fail)
  all_goals refine Ends.mk (Or.inl rfl) (ac (congrArg AV.bool ?_))
  all_goals (clear hG c1 c2; first | grind | (simp_all; done) | (simp_all; omega))
def mo (f l : List Int) (i : Nat) : Bool := inP f (aQ l i) && (decide (i = 0) || decide (aQ l (i - 1) < aQ l i))
def fP (f l : List Int) : Bool := (List.range l.length).all (mo f l)
theorem zM {f l : List Int} {i : Nat} (hi : i < l.length) (h : mo f l i = false) : fP f l = false := by
  unfold fP
  rw [List.all_eq_false]
  exact ⟨i, List.mem_range.2 hi, by rw [h]; simp⟩
theorem vT {s : Nat → Int} {l : List Opt} {ps : List ak} {a b : Int} (h : aO s l ps a b = true) {lost : List Int} (hf : fP (aw l) lost = true) : lr ps lost = true := by
  obtain ⟨_, hr, _, _, hp, hft, _⟩ := aS.1 h
  have hpl := (rp hp).2
  have hin : ∀ x ∈ aw l, 0 ≤ x ∧ x < (ps.length : Int) := fun x hx => by
    rw [pi, sR, List.mem_flatMap] at hx
    obtain ⟨o, ho, hx⟩ := hx
    obtain ⟨y, hy, rfl⟩ := List.mem_map.1 hx
    have hfo := (hft o (List.mem_of_mem_take ho)).1
    simp only [dh, Bool.and_eq_true] at hfo
    have hall : ∀ (sl : List a8) (t : Int), bq s ps o.size t sl = true → ∀ z ∈ sl, 0 ≤ z.p ∧ z.p < (ps.length : Int) := fun sl => by
      induction sl with
      | nil => intro _ _ z hz; cases hz
      | cons x r ih =>
        intro t ht z hz
        simp only [bq, fe, Bool.and_eq_true, inS, decide_eq_true_eq] at ht
        rcases List.mem_cons.1 hz with e | hz
        · subst e
          have := ht.1.1
          rw [ap (by omega) (by omega)] at this
          omega
        · exact ih _ ht.2 z hz
    exact hall o.sl o.b hfo.2 y (List.mem_of_mem_take hy)
  unfold lr
  rw [hp, Bool.and_true, List.all_eq_true]
  intro i hi
  unfold fP at hf
  rw [List.all_eq_true] at hf
  have h1 := hf i hi
  simp only [mo, inP, Bool.and_eq_true, List.any_eq_true, beq_iff_eq] at h1
  obtain ⟨⟨y, hy, e⟩, h2⟩ := h1
  have h3 := hin y hy
  simp only [pm, Bool.and_eq_true, decide_eq_true_eq]
  rw [e]
  rw [e] at h2
  exact ⟨h3, h2⟩
def qZ (s : Nat → Int) (l : List Opt) (ps : List ak) (a b : Int) (lost : List Int) : AV := .tup (if (ei s l ps 0 a b && fP (aw l) lost) = true then [.agg (js l lost), .int .i64 0] else [.agg [.sl .full 0 [], .sl .full 0 [], .sl .full 0 [], .sl .full 0 []], .int .i64 210])
set_option maxHeartbeats 4000000 in
theorem iP (s : Nat → Int) (l : List Opt) (ps : List ak) (a b : Int) (lost : List Int) (hl : l.length ≤ 1000000) (hs : slens l) (hps : ps.length ≤ 1000000) (hlo : lost.length ≤ 1000000) : ae Tryz.prog 53 [.agg (aX s), aM l, am ps, .agg (aF a b), aq lost] (qZ s l ps a b lost) := by
  have cV := io s l ps 0 a b hl hs hps
  have cFk := gN l hl hs
  cases hv : ei s l ps 0 a b with
  | false =>
    rw [hv] at cV
    rw [qZ, hv, Bool.false_and, if_neg (by decide)]
    refine ag aa Tryz.func53 rfl (by kernel_rfl) af (Nat.le_of_ble_eq_true rfl) ?_
    intro F n' w0 m0 hG hro h1
    repeat' first|refine Q1 ?_|refine Q2 ?_|refine Q3 hG aa dv (by kernel_rfl) ?_|refine Q4 hG aa dv (by kernel_rfl) ?_|refine Q5 hG aa ?_|refine Q6 hG aa ?_|refine Q7 hG aa ?_|refine Q8 hG aa ?_|refine Q9 rfl ?_|refine QF rfl ?_|refine QC rfl (And.intro (fun h => ?_) (fun h => ?_))|((conv => whnf); first|refine anF ?_|refine anT ?_|refine And.intro (by kernel_rfl) ?_|refine Exists.intro _ (And.intro (cV) ?_)|refine And.intro (fun h => ?_) (fun h => ?_)|refine Or.inl ?_|fail)
    all_goals exact Ends.mk (Or.inl rfl) (ac rfl)
  | true =>
    rw [hv] at cV
    obtain ⟨ht, hf6, _⟩ := gU hv
    have cC := fun x => kU (aw l) x (by omega)
    have cW := fun h : fP (aw l) lost = true => tY ht (vT ht h) hlo
    rw [qZ, hv, Bool.true_and]
    generalize hfk : aw l = f at *
    refine ag aa Tryz.func53 rfl (by kernel_rfl) af (Nat.le_of_ble_eq_true rfl) ?_
    intro F n' w0 m0 hG hro h1
    repeat' first|refine Q1 ?_|refine Q2 ?_|refine Q3 hG aa dv (by kernel_rfl) ?_|refine Q4 hG aa dv (by kernel_rfl) ?_|refine Q5 hG aa ?_|refine Q6 hG aa ?_|refine Q7 hG aa ?_|refine Q8 hG aa ?_|refine Q9 rfl ?_|refine QF rfl ?_|refine QC rfl (And.intro (fun h => ?_) (fun h => ?_))|((conv => whnf); first|refine anF ?_|refine anT ?_|refine And.intro (by kernel_rfl) ?_|refine Exists.intro _ (And.intro (cV) ?_)|refine Exists.intro _ (And.intro (cFk) ?_)|refine And.intro (fun h => ?_) (fun h => ?_)|refine Or.inl ?_|fail)
    refine az (X := Nat) (fun x => ⟨[(28, .int .i64 x), (27, .int .i64 (lost.map fun h => [AV.int .i64 h]).length), (26, aq lost), (12, aq f), (10, .loc 10 0), (8, .loc 8 0), (5, .loc 5 0), (4, aq lost), (2, am ps), (1, aM l)], [(10, [.sl (.id 1010000) 0 [], .sl (.id 1010001) 0 [], .sl (.id 1010002) 0 [], .sl (.id 1010003) 0 []]), (8, aF a b), (5, aX s)]⟩) (fun x => x ≤ lost.length ∧ (List.range x).all (mo f lost) = true) (fun x => lost.length - x) 0 ⟨Nat.zero_le _, rfl⟩ (ah ?_ ?_) (fun x hx => ?_)
    · repeat' (first | exact trivial | refine And.intro rfl ?_)
    · repeat' (first | exact trivial | refine And.intro rfl ?_)
    · rename Nat => i
      obtain ⟨hi, hall⟩ := hx
      by_cases hlt_i : i < lost.length
      · have bbk : decide ((i : Int) < ((lost.map fun h => [AV.int .i64 h]).length : Int)) = false → False := fun h => by have := of_decide_eq_false h; simp at this; omega
        have hx := ld hlt_i
        have hw : (i : Int) > 0 → IntKind.i64.wrap ((i : Int) - 1) = ((i - 1 : Nat) : Int) := fun h => (ap (by omega) (by omega)).trans (by omega)
        have hp0 : decide ((i : Int) > 0) = true → 0 ≤ IntKind.i64.wrap ((i : Int) - 1) := fun h => by rw [hw (of_decide_eq_true h)]; omega
        have hp : decide ((i : Int) > 0) = true → (lost.map fun h => [AV.int .i64 h])[(IntKind.i64.wrap ((i : Int) - 1)).toNat]? = some [.int .i64 (aQ lost (i - 1))] := fun h => by rw [hw (of_decide_eq_true h)]; exact ld (by omega)
        have hok : mo f lost i = (inP f (aQ lost i) && (decide (i = 0) || decide (aQ lost (i - 1) < aQ lost i))) := rfl
        have cCi := cC (aQ lost i)
        generalize aQ lost (i - 1) = v at hp hok
        generalize aQ lost i = u at hx hok cCi
        repeat' first|exact (bbk (by assumption)).elim|refine Q1 ?_|refine Q2 ?_|refine Q3 hG aa dv (by kernel_rfl) ?_|refine Q4 hG aa dv (by kernel_rfl) ?_|refine Q5 hG aa ?_|refine Q6 hG aa ?_|refine Q7 hG aa ?_|refine Q8 hG aa ?_|refine Q9 rfl ?_|refine QF rfl ?_|refine QC rfl (And.intro (fun h => ?_) (fun h => ?_))|((conv => whnf); first|refine anF ?_|refine anT ?_|refine And.intro (by kernel_rfl) ?_|refine And.intro (Int.natCast_nonneg i) (Exists.intro _ (And.intro hx ?_))|refine Exists.intro _ (And.intro (cCi) ?_)|refine And.intro (hp0 (by assumption)) (Exists.intro _ (And.intro (hp (by assumption)) ?_))|refine And.intro (fun h => ?_) (fun h => ?_)|refine Or.inl ?_|fail)
        all_goals first
          | ((try dsimp only)
             refine Ends.mk (Or.inl rfl) (ac ?_)
             rw [if_neg (by rw [zM hlt_i (by rw [hok]; clear hG; grind)]; decide)]
             rfl)
          | skip
        all_goals (refine Exists.intro (i + 1) (And.intro ?_ (And.intro (by omega) (ah ?_ ?_))))
        all_goals first
          | (refine And.intro (congrArg some (ax (by omega))) ?_
             repeat' (first | exact trivial | refine And.intro rfl ?_))
          | ((repeat' (first | exact trivial | refine And.intro rfl ?_)); done)
          | (exact ⟨hlt_i, by rw [ww, hall, hok]; clear hG; grind⟩)
      · have bbk : decide ((i : Int) < ((lost.map fun h => [AV.int .i64 h]).length : Int)) = true → False := fun h => by have := of_decide_eq_true h; simp at this; omega
        have he : i = lost.length := by omega
        rw [he] at hall
        have hfs : fP f lost = true := hall
        have cWl := cW hfs
        rw [if_pos hfs]
        repeat' first|exact (bbk (by assumption)).elim|refine Q1 ?_|refine Q2 ?_|refine Q3 hG aa dv (by kernel_rfl) ?_|refine Q4 hG aa dv (by kernel_rfl) ?_|refine Q5 hG aa ?_|refine Q6 hG aa ?_|refine Q7 hG aa ?_|refine Q8 hG aa ?_|refine Q9 rfl ?_|refine QF rfl ?_|refine QC rfl (And.intro (fun h => ?_) (fun h => ?_))|((conv => whnf); first|refine anF ?_|refine anT ?_|refine And.intro (by kernel_rfl) ?_|refine Exists.intro _ (And.intro (cWl) ?_)|refine And.intro (fun h => ?_) (fun h => ?_)|refine Or.inl ?_|fail)
        exact Ends.mk (Or.inl rfl) (ac rfl)
end Go.Proofs
namespace Go.Proofs
open Go Go.AI
def BP (m : List Int → Int × Int) (L : List (List Int)) (x : Fnd) : Prop := (L = [] ∧ x = Da) ∨ (x.is = true ∧ x.what ∈ L ∧ x.n = (m x.what).1 ∧ x.at_ = (m x.what).2 ∧ ∀ y ∈ L, (m y).1 ≤ x.n)
theorem BP.step {m : List Int → Int × Int} {L : List (List Int)} {x : Fnd} (h : BP m L x) (y : List Int) : BP m (L ++ [y]) (si x ⟨(m y).1, (m y).2, y, true⟩) := by
  refine .inr ?_
  rcases h with ⟨rfl, rfl⟩ | ⟨h1, h2, h3, h4, h5⟩
  · refine ⟨rfl, by simp [si, Da], rfl, rfl, fun z hz => ?_⟩
    simp only [List.nil_append, List.mem_singleton] at hz
    subst hz
    exact Int.le_refl _
  · unfold si
    simp only [h1, Bool.not_true, Bool.false_or, Bool.true_and]
    split
    · rename_i hg
      have hg := of_decide_eq_true hg
      refine ⟨rfl, by simp, rfl, rfl, fun z hz => ?_⟩
      show _ ≤ (m y).1
      rcases List.mem_append.1 hz with hz | hz
      · have := h5 z hz; omega
      · rw [List.mem_singleton.1 hz]; exact Int.le_refl _
    · rename_i hg
      have hg : ¬ (m y).1 > x.n := fun h => hg (decide_eq_true h)
      refine ⟨h1, List.mem_append_left _ h2, h3, h4, fun z hz => ?_⟩
      rcases List.mem_append.1 hz with hz | hz
      · exact h5 z hz
      · rw [List.mem_singleton.1 hz]; omega
theorem BP.fold {m : List Int → Int × Int} : ∀ (L pre : List (List Int)) (x : Fnd), BP m pre x → BP m (pre ++ L) (L.foldl (fun x y => si x ⟨(m y).1, (m y).2, y, true⟩) x)
  | [], pre, x, h => by simpa using h
  | y :: L, pre, x, h => by
    have := BP.fold L (pre ++ [y]) _ (h.step y)
    simpa using this
theorem zZ (m : List Int → Int × Int) (L : List (List Int)) : BP m L (dj m L) := by
  have := BP.fold (m := m) L [] Da (.inl ⟨rfl, rfl⟩)
  rw [List.nil_append] at this; exact this
theorem ic {m : List Int → Int × Int} {L : List (List Int)} (h : L ≠ []) : (dj m L).what ∈ L ∧ (dj m L).n = (m (dj m L).what).1 ∧ (dj m L).at_ = (m (dj m L).what).2 ∧ ∀ y ∈ L, (m y).1 ≤ (dj m L).n := by
  rcases zZ m L with ⟨h1, _⟩ | ⟨_, h1⟩
  · exact absurd h1 h
  · exact h1
theorem BC {m : List Int → Int × Int} {L L' : List (List Int)} (h : L ≠ []) (hs : ∀ y ∈ L, y ∈ L') : (dj m L).n ≤ (dj m L').n := by
  obtain ⟨h1, h2, _, _⟩ := ic (m := m) h
  have hne : L' ≠ [] := fun e => by have := hs _ h1; rw [e] at this; cases this
  obtain ⟨_, _, _, h3⟩ := ic (m := m) hne
  rw [h2]; exact h3 _ (hs _ h1)
theorem xR {ps : List ak} {x : List Int} {k k' : Int} (hk : k ≤ k') (h3 : k' ≤ 3) (h : bN ps x k = true) : bN ps x k' = true := by
  simp only [bN, rD, Bool.and_eq_true, decide_eq_true_eq] at h ⊢
  obtain ⟨⟨⟨h1, h2⟩, h4⟩, h5⟩ := h
  exact ⟨⟨⟨by omega, by omega⟩, h4⟩, by omega⟩
theorem AH (f : List Int) (ps : List ak) {k k' : Int} (hk : k ≤ k') (h3 : k' ≤ 3) : (aY f ps k).Sublist (aY f ps k') := by
  unfold aY dy
  generalize (List.range (2 ^ f.length)).map (dK f) = L
  have e : L.filter (fun l => bN ps l k) = (L.filter fun l => bN ps l k').filter fun l => bN ps l k := by
    rw [List.filter_filter]
    congr 1
    funext l
    cases h : bN ps l k with
    | false => simp
    | true => simp [xR hk h3 h]
  rw [e]
  exact List.filter_sublist
theorem AJ {f : List Int} {ps : List ak} {k : Int} (hp : bP ps = true) (h0 : 0 ≤ k) (h3 : k ≤ 3) : [] ∈ aY f ps k := by
  unfold aY dy
  rw [List.mem_filter, List.mem_map]
  refine ⟨⟨0, List.mem_range.2 (Nat.two_pow_pos _), ?_⟩, ?_⟩
  · unfold dK ck
    rw [List.filterMap_eq_nil_iff]
    intro i _
    simp [pE]
  · simp only [bN, rD, lr, ry, tB, hp, Bool.and_eq_true, decide_eq_true_eq]
    simp; omega
theorem jA {f : List Int} {ps : List ak} {k : Int} (hp : bP ps = true) (h0 : 0 ≤ k) (h3 : k ≤ 3) : aY f ps k ≠ [] := fun e => by
  have := AJ (f := f) hp h0 h3
  rw [e] at this; cases this
theorem ws : ∀ (l : List Int) (a b : Int), asc l → (∀ x ∈ l, a ≤ x ∧ x < b) → a ≤ b → (l.length : Int) ≤ b - a
  | [], a, b, _, _, h => by simp; omega
  | x :: l, a, b, hl, hx, h => by
    obtain ⟨h1, h2⟩ := List.pairwise_cons.1 hl
    have hx0 := hx x List.mem_cons_self
    have := ws l (x + 1) b h2 (fun y hy => ⟨by have := h1 y hy; omega, (hx y (List.mem_cons_of_mem _ hy)).2⟩) (by omega)
    rw [List.length_cons]; omega
theorem Bk {s : Nat → Int} {l : List Opt} {ps : List ak} {a b : Int} (h : aO s l ps a b = true) : ∀ x ∈ aw l, 0 ≤ x ∧ x < (ps.length : Int) := fun x hx => by
  have hf : fP (aw l) [x] = true := by
    unfold fP
    rw [List.all_eq_true]
    intro i hi
    have : i = 0 := by have := List.mem_range.1 hi; simp at this; omega
    subst this
    simp [mo, inP, aQ, hx]
  have hs := vT h hf
  have := yn hs (i := 0) (by simp)
  simpa [aQ] using this
theorem iI {s : Nat → Int} {l : List Opt} {ps : List ak} {a b : Int} (h : aO s l ps a b = true) : (aw l).length ≤ ps.length := by
  have := ws (aw l) 0 ps.length (iJ l) (Bk h) (by omega)
  omega
theorem dV {s : Nat → Int} {l : List Opt} {ps : List ak} {a b k : Int} (h : aO s l ps a b = true) (h6 : ps.length ≤ 6) (h0 : 0 ≤ k) (h3 : k ≤ 3) : ei s l ps k a b = true := by
  have := iI h
  simp only [ei, rD, h, Bool.and_eq_true, decide_eq_true_eq, and_true]
  omega
theorem qO {s : Nat → Int} {l : List Opt} {ps : List ak} {a b k : Int} (h : aO s l ps a b = true) (h6 : ps.length ≤ 6) (h0 : 0 ≤ k) (h3 : k ≤ 3) : fq l ps k = false := by
  have hf := iI h
  obtain ⟨hl, _, _, _, hp, hft, _⟩ := aS.1 h
  obtain ⟨_, _, hfit⟩ := qL.of h
  have hlv : (l.any fun o => !eU o ps) = false := by
    rw [List.any_eq_false]
    intro o ho
    have h1 := hfit o ho
    rw [qb hp (by have := h1.shot; omega) (hft o ho).1]; simp
  simp only [fq, nA, hlv, hp, Bool.not_true, Bool.or_false, Bool.or_eq_false_iff, decide_eq_false_iff_not]
  omega
end Go.Proofs
namespace Go.Proofs
open Go Go.AI
set_option maxRecDepth 10000
set_option maxHeartbeats 4000000 in
theorem eR (l m : List Int) (hl : l.length ≤ 1000000) : ae Tryz.prog 46 [aq l, aq m] (.bool (decide (l = m))) := by
  have hlm : ((l.map (fun h => [AV.int .i64 h])).length : Int) = (l.length : Int) := by rw [List.length_map]
  have hmm : ((m.map (fun h => [AV.int .i64 h])).length : Int) = (m.length : Int) := by rw [List.length_map]
  refine ag aa Tryz.func46 rfl (by kernel_rfl) af (Nat.le_of_ble_eq_true rfl) ?_
  intro F n' w0 m0 hG hro h1
  repeat' first|refine Q1 ?_|refine Q2 ?_|refine Q3 hG aa eO (by kernel_rfl) ?_|refine Q4 hG aa eO (by kernel_rfl) ?_|refine Q5 hG aa ?_|refine Q6 hG aa ?_|refine Q7 hG aa ?_|refine Q8 hG aa ?_|refine Q9 rfl ?_|refine QF rfl ?_|refine QC rfl (And.intro (fun h => ?_) (fun h => ?_))|((conv => whnf); first|refine anF ?_|refine anT ?_|refine And.intro (by kernel_rfl) ?_|refine And.intro (fun h => ?_) (fun h => ?_)|refine Or.inl ?_|fail)
  all_goals first
    | (refine Ends.mk (Or.inl rfl) (ac (congrArg AV.bool ?_))
       have h := (by assumption : (((l.map (fun h => [AV.int .i64 h])).length : Int) != ((m.map (fun h => [AV.int .i64 h])).length : Int)) = true)
       rw [hlm, hmm] at h
       exact (decide_eq_false fun e => by rw [e] at h; simp at h).symm)
    | skip
  have hll : l.length = m.length := by
    have h := (by assumption : (((l.map (fun h => [AV.int .i64 h])).length : Int) != ((m.map (fun h => [AV.int .i64 h])).length : Int)) = false)
    rw [hlm, hmm] at h
    simp at h; omega
  refine az (X := Nat) (fun x => ⟨[(5, .int .i64 x), (1, aq m), (0, aq l)], []⟩) (fun x => x ≤ l.length ∧ l.take x = m.take x) (fun x => l.length - x) 0 ⟨Nat.zero_le _, rfl⟩ (ah ?_ ?_) (fun x hx => ?_)
  · repeat' (first | exact trivial | refine And.intro rfl ?_)
  · repeat' (first | exact trivial | refine And.intro rfl ?_)
  · rename Nat => i
    obtain ⟨hi, ht⟩ := hx
    by_cases hlt_i : i < l.length
    · have bbk : decide ((i : Int) < ((l.map (fun h => [AV.int .i64 h])).length : Int)) = false → False := fun h => by have := of_decide_eq_false h; simp at this; omega
      have hx := kf (f := (fun h => [AV.int .i64 h])) 0 hlt_i
      have hy := kf (f := (fun h => [AV.int .i64 h])) 0 (show i < m.length by omega)
      have hn1 := ix 0 hlt_i
      have hn2 := ix 0 (show i < m.length by omega)
      have hne : l.getD i 0 ≠ m.getD i 0 → decide (l = m) = false := fun h => decide_eq_false fun e => h (by rw [e])
      generalize l.getD i 0 = u at *
      generalize m.getD i 0 = v at *
      repeat' first|exact (bbk (by assumption)).elim|refine Q1 ?_|refine Q2 ?_|refine Q3 hG aa eO (by kernel_rfl) ?_|refine Q4 hG aa eO (by kernel_rfl) ?_|refine Q5 hG aa ?_|refine Q6 hG aa ?_|refine Q7 hG aa ?_|refine Q8 hG aa ?_|refine Q9 rfl ?_|refine QF rfl ?_|refine QC rfl (And.intro (fun h => ?_) (fun h => ?_))|((conv => whnf); first|refine anF ?_|refine anT ?_|refine And.intro (by kernel_rfl) ?_|refine And.intro (Int.natCast_nonneg i) (Exists.intro _ (And.intro hx ?_))|refine And.intro (Int.natCast_nonneg i) (Exists.intro _ (And.intro hy ?_))|refine And.intro (fun h => ?_) (fun h => ?_)|refine Or.inl ?_|fail)
      all_goals first
        | (refine Ends.mk (Or.inl rfl) (ac (congrArg AV.bool ?_))
           exact (hne fun e => by subst e; have h := (by assumption : (u != u) = true); simp at h).symm)
        | skip
      refine Exists.intro (i + 1) (And.intro ⟨hlt_i, ?_⟩ (And.intro (by omega) (ah ?_ ?_)))
      · rw [hn1, hn2, ht]
        have e : u = v := by
          have h := (by assumption : (u != v) = false)
          simpa using h
        rw [e]
      · refine And.intro (congrArg some (ax (by omega))) ?_
        repeat' (first | exact trivial | refine And.intro rfl ?_)
      · repeat' (first | exact trivial | refine And.intro rfl ?_)
    · have bbk : decide ((i : Int) < ((l.map (fun h => [AV.int .i64 h])).length : Int)) = true → False := fun h => by have := of_decide_eq_true h; simp at this; omega
      have he : l.take i = l := List.take_of_length_le (by omega)
      have he2 : m.take i = m := List.take_of_length_le (by omega)
      rw [he, he2] at ht
      repeat' first|exact (bbk (by assumption)).elim|refine Q1 ?_|refine Q2 ?_|refine Q3 hG aa eO (by kernel_rfl) ?_|refine Q4 hG aa eO (by kernel_rfl) ?_|refine Q5 hG aa ?_|refine Q6 hG aa ?_|refine Q7 hG aa ?_|refine Q8 hG aa ?_|refine Q9 rfl ?_|refine QF rfl ?_|refine QC rfl (And.intro (fun h => ?_) (fun h => ?_))|((conv => whnf); first|refine anF ?_|refine anT ?_|refine And.intro (by kernel_rfl) ?_|refine And.intro (fun h => ?_) (fun h => ?_)|refine Or.inl ?_|fail)
      exact Ends.mk (Or.inl rfl) (ac (congrArg AV.bool (decide_eq_true ht).symm))
set_option maxHeartbeats 4000000 in
theorem wy (l m : List (List Int)) (hl : l.length ≤ 1000000) (hin : ∀ i, i < l.length → (l.getD i []).length ≤ 1000000) : ae Tryz.prog 50 [eh l, eh m] (.bool (decide (l = m))) := by
  have hlm : ((l.map (fun x => [aq x])).length : Int) = (l.length : Int) := by rw [List.length_map]
  have hmm : ((m.map (fun x => [aq x])).length : Int) = (m.length : Int) := by rw [List.length_map]
  refine ag aa Tryz.func50 rfl (by kernel_rfl) af (Nat.le_of_ble_eq_true rfl) ?_
  intro F n' w0 m0 hG hro h1
  repeat' first|refine Q1 ?_|refine Q2 ?_|refine Q3 hG aa eN (by kernel_rfl) ?_|refine Q4 hG aa eN (by kernel_rfl) ?_|refine Q5 hG aa ?_|refine Q6 hG aa ?_|refine Q7 hG aa ?_|refine Q8 hG aa ?_|refine Q9 rfl ?_|refine QF rfl ?_|refine QC rfl (And.intro (fun h => ?_) (fun h => ?_))|((conv => whnf); first|refine anF ?_|refine anT ?_|refine And.intro (by kernel_rfl) ?_|refine And.intro (fun h => ?_) (fun h => ?_)|refine Or.inl ?_|fail)
  all_goals first
    | (refine Ends.mk (Or.inl rfl) (ac (congrArg AV.bool ?_))
       have h := (by assumption : (((l.map (fun x => [aq x])).length : Int) != ((m.map (fun x => [aq x])).length : Int)) = true)
       rw [hlm, hmm] at h
       exact (decide_eq_false fun e => by rw [e] at h; simp at h).symm)
    | skip
  have hll : l.length = m.length := by
    have h := (by assumption : (((l.map (fun x => [aq x])).length : Int) != ((m.map (fun x => [aq x])).length : Int)) = false)
    rw [hlm, hmm] at h
    simp at h; omega
  refine az (X := Nat) (fun x => ⟨[(5, .int .i64 x), (1, eh m), (0, eh l)], []⟩) (fun x => x ≤ l.length ∧ l.take x = m.take x) (fun x => l.length - x) 0 ⟨Nat.zero_le _, rfl⟩ (ah ?_ ?_) (fun x hx => ?_)
  · repeat' (first | exact trivial | refine And.intro rfl ?_)
  · repeat' (first | exact trivial | refine And.intro rfl ?_)
  · rename Nat => i
    obtain ⟨hi, ht⟩ := hx
    by_cases hlt_i : i < l.length
    · have bbk : decide ((i : Int) < ((l.map (fun x => [aq x])).length : Int)) = false → False := fun h => by have := of_decide_eq_false h; simp at this; omega
      have hx := kf (f := (fun x => [aq x])) [] hlt_i
      have hy := kf (f := (fun x => [aq x])) [] (show i < m.length by omega)
      have hn1 := ix [] hlt_i
      have hn2 := ix [] (show i < m.length by omega)
      have hne : l.getD i [] ≠ m.getD i [] → decide (l = m) = false := fun h => decide_eq_false fun e => h (by rw [e])
      have cI := eR (l.getD i []) (m.getD i []) (hin i hlt_i)
      generalize l.getD i [] = u at *
      generalize m.getD i [] = v at *
      repeat' first|exact (bbk (by assumption)).elim|refine Q1 ?_|refine Q2 ?_|refine Q3 hG aa eN (by kernel_rfl) ?_|refine Q4 hG aa eN (by kernel_rfl) ?_|refine Q5 hG aa ?_|refine Q6 hG aa ?_|refine Q7 hG aa ?_|refine Q8 hG aa ?_|refine Q9 rfl ?_|refine QF rfl ?_|refine QC rfl (And.intro (fun h => ?_) (fun h => ?_))|((conv => whnf); first|refine anF ?_|refine anT ?_|refine And.intro (by kernel_rfl) ?_|refine And.intro (Int.natCast_nonneg i) (Exists.intro _ (And.intro hx ?_))|refine And.intro (Int.natCast_nonneg i) (Exists.intro _ (And.intro hy ?_))|refine Exists.intro _ (And.intro (cI) ?_)|refine And.intro (fun h => ?_) (fun h => ?_)|refine Or.inl ?_|fail)
      all_goals first
        | (refine Ends.mk (Or.inl rfl) (ac (congrArg AV.bool ?_))
           exact (hne fun e => by subst e; have h := (by assumption : (!decide (u = u)) = true); simp at h).symm)
        | skip
      refine Exists.intro (i + 1) (And.intro ⟨hlt_i, ?_⟩ (And.intro (by omega) (ah ?_ ?_)))
      · rw [hn1, hn2, ht]
        have e : u = v := by
          have h := (by assumption : (!decide (u = v)) = false)
          simpa using h
        rw [e]
      · refine And.intro (congrArg some (ax (by omega))) ?_
        repeat' (first | exact trivial | refine And.intro rfl ?_)
      · repeat' (first | exact trivial | refine And.intro rfl ?_)
    · have bbk : decide ((i : Int) < ((l.map (fun x => [aq x])).length : Int)) = true → False := fun h => by have := of_decide_eq_true h; simp at this; omega
      have he : l.take i = l := List.take_of_length_le (by omega)
      have he2 : m.take i = m := List.take_of_length_le (by omega)
      rw [he, he2] at ht
      repeat' first|exact (bbk (by assumption)).elim|refine Q1 ?_|refine Q2 ?_|refine Q3 hG aa eN (by kernel_rfl) ?_|refine Q4 hG aa eN (by kernel_rfl) ?_|refine Q5 hG aa ?_|refine Q6 hG aa ?_|refine Q7 hG aa ?_|refine Q8 hG aa ?_|refine Q9 rfl ?_|refine QF rfl ?_|refine QC rfl (And.intro (fun h => ?_) (fun h => ?_))|((conv => whnf); first|refine anF ?_|refine anT ?_|refine And.intro (by kernel_rfl) ?_|refine And.intro (fun h => ?_) (fun h => ?_)|refine Or.inl ?_|fail)
      exact Ends.mk (Or.inl rfl) (ac (congrArg AV.bool (decide_eq_true ht).symm))
theorem yc (p a b : Int) : ae Tryz.prog 187 [.int .i64 p, .int .i64 a, .int .i64 b] (.agg (aG ⟨p, a, b⟩)) := by
  refine ag aa Tryz.func187 rfl (by kernel_rfl) af (Nat.le_of_ble_eq_true rfl) ?_
  intro F n' w0 m0 hG hro h1
  repeat' first|refine Q1 ?_|refine Q2 ?_|refine Q3 hG aa n8 (by kernel_rfl) ?_|refine Q4 hG aa n8 (by kernel_rfl) ?_|refine Q5 hG aa ?_|refine Q6 hG aa ?_|refine Q7 hG aa ?_|refine Q8 hG aa ?_|refine Q9 rfl ?_|refine QF rfl ?_|refine QC rfl (And.intro (fun h => ?_) (fun h => ?_))|((conv => whnf); first|refine anF ?_|refine anT ?_|refine And.intro (by kernel_rfl) ?_|refine And.intro (fun h => ?_) (fun h => ?_)|refine Or.inl ?_|fail)
  all_goals exact Ends.mk (Or.inl rfl) (ac rfl)
theorem yd (a b : Int) : ae Tryz.prog 188 [.int .i64 a, .int .i64 b] (.agg (aP ⟨3, 0, a, b, a, b⟩)) := by
  refine ag aa Tryz.func188 rfl (by kernel_rfl) af (Nat.le_of_ble_eq_true rfl) ?_
  intro F n' w0 m0 hG hro h1
  repeat' first|refine Q1 ?_|refine Q2 ?_|refine Q3 hG aa n7 (by kernel_rfl) ?_|refine Q4 hG aa n7 (by kernel_rfl) ?_|refine Q5 hG aa ?_|refine Q6 hG aa ?_|refine Q7 hG aa ?_|refine Q8 hG aa ?_|refine Q9 rfl ?_|refine QF rfl ?_|refine QC rfl (And.intro (fun h => ?_) (fun h => ?_))|((conv => whnf); first|refine anF ?_|refine anT ?_|refine And.intro (by kernel_rfl) ?_|refine And.intro (fun h => ?_) (fun h => ?_)|refine Or.inl ?_|fail)
  all_goals exact Ends.mk (Or.inl rfl) (ac rfl)
def bxS (i : Nat) : Int := match i with
  | 0 => 3 | 2 => 96 | 4 => 4000 | 5 => 20000 | 10 => 10 | 11 => 100 | 13 => 1 | 18 => 100 | 20 => 3 | _ => 0
def bxP : List ak := [⟨3, 0, 18, 26, 18, 26⟩, ⟨3, 0, 38, 50, 38, 50⟩]
def bx1 : Opt := ⟨1, 0, 0, 3, 10, 12, 0, 6, [⟨0, 20, 22⟩, ⟨1, 40, 42⟩]⟩
def bx2 : Opt := ⟨2, 0, 0, 3, 30, 31, 0, 5, [⟨1, 44, 46⟩]⟩
def bxL : List Opt := [bx1, bx2]
theorem vB (o : Opt) (ow : Go.AI.Own) : ig [.int .i64 o.id, .int .i64 o.ord, .int .i64 o.cl, .int .i64 o.sat, .int .i64 o.a, .int .i64 o.b, .int .i64 o.look, .int .i64 o.size, .sl ow 3 (o.sl.map aG)] (aK o) :=
  .cons (.refl _) (.cons (.refl _) (.cons (.refl _) (.cons (.refl _) (.cons (.refl _) (.cons (.refl _) (.cons (.refl _) (.cons (.refl _) (.cons AV.weak.sl .nil))))))))
theorem Dd : ∀ y ∈ bxL.map aK, ∀ c ∈ y, AV.isCell c = true := by
  intro y hy c hc
  obtain ⟨o, _, rfl⟩ := List.mem_map.1 hy
  simp only [aK, List.mem_cons, List.not_mem_nil, or_false] at hc
  rcases hc with h | h | h | h | h | h | h | h | h <;> subst h <;> rfl
theorem tc : ae Tryz.prog 112 [] (.tup [.agg (aX bxS), aM bxL, am bxP, .agg (aF 0 60)]) := by
  refine ag aa Tryz.func112 rfl (by kernel_rfl) af (Nat.le_of_ble_eq_true rfl) ?_
  intro F n' w0 m0 hG hro h1
  repeat' first|refine Q1 ?_|refine Q2 ?_|refine Q3 hG aa oN (by kernel_rfl) ?_|refine Q4 hG aa oN (by kernel_rfl) ?_|refine Q5 hG aa ?_|refine Q6 hG aa ?_|refine Q7 hG aa ?_|refine Q8 hG aa ?_|refine Q9 rfl ?_|refine QF rfl ?_|refine QC rfl (And.intro (fun h => ?_) (fun h => ?_))|((conv => whnf); first|refine anF ?_|refine anT ?_|refine And.intro (by kernel_rfl) ?_|refine Exists.intro _ (And.intro (yc _ _ _) ?_)|refine Exists.intro _ (And.intro (yd _ _) ?_)|refine And.intro (fun h => ?_) (fun h => ?_)|refine Or.inl ?_|fail)
  all_goals exact Ends.mk (Or.inl rfl) (AV.weak.tup (.cons (.refl _) (.cons (AV.weak.rows (ys := bxL.map aK) (.cons (vB bx1 .full) (.cons (vB bx2 .full) .nil)) Dd) (.cons AV.weak.sl (.cons (.refl _) .nil)))))
theorem sg : aO bxS bxL bxP 0 60 = true := by kernel_rfl
theorem By : aw bxL = [0, 1] := (zg bxL).symm.trans (by kernel_rfl)
theorem El : aY (aw bxL) bxP 1 = [[], [0], [1]] := by rw [By]; kernel_rfl
theorem Ek : aY (aw bxL) bxP 0 = [[]] := by rw [By]; kernel_rfl
end Go.Proofs
namespace Go.Proofs
open Go Go.AI
def MP (L : List (Int × Int)) (r : Int × Int) : Prop := (∀ p ∈ L, p.2 ≤ r.1) ∧ ((r = (0, -1)) ∨ (0 < r.1 ∧ (r.2, r.1) ∈ L))
theorem MP.fold : ∀ (L pre : List (Int × Int)) (r : Int × Int), MP pre r → MP (pre ++ L) (L.foldl (fun r x => if x.2 > r.1 then (x.2, x.1) else r) r)
  | [], pre, r, h => by simpa using h
  | x :: L, pre, r, h => by
    have := MP.fold L (pre ++ [x]) (if x.2 > r.1 then (x.2, x.1) else r) ?_
    · simpa using this
    · obtain ⟨h1, h2⟩ := h
      have h0 : 0 ≤ r.1 := by
        rcases h2 with h2 | h2
        · rw [h2]; exact Int.le_refl _
        · omega
      split
      · rename_i hg
        refine ⟨fun p hp => ?_, .inr ⟨by show 0 < x.2; omega, by simp⟩⟩
        show p.2 ≤ x.2
        rcases List.mem_append.1 hp with hp | hp
        · have := h1 p hp; omega
        · rw [List.mem_singleton.1 hp]; exact Int.le_refl _
      · rename_i hg
        refine ⟨fun p hp => ?_, ?_⟩
        · rcases List.mem_append.1 hp with hp | hp
          · exact h1 p hp
          · rw [List.mem_singleton.1 hp]; omega
        · rcases h2 with h2 | ⟨h2, h3⟩
          · exact .inl h2
          · exact .inr ⟨h2, List.mem_append_left _ h3⟩
theorem qQ (L : List (Int × Int)) : MP L (de L) := by
  have := MP.fold L [] (0, -1) ⟨fun _ h => (nomatch h), .inl rfl⟩
  rw [List.nil_append] at this; exact this
theorem pV (L : List (Int × Int)) : 0 ≤ (de L).1 := by
  rcases (qQ L).2 with h | h
  · rw [h]; exact Int.le_refl _
  · omega
theorem tA {I : List Img} (h : ∀ x ∈ I, x.a < x.b) (t : Int) : dS t I ≤ (de (aW I)).1 := by
  obtain ⟨h1, _⟩ := qQ (aW I)
  rcases tM h t with h2 | ⟨p, hp, _, h3⟩
  · rw [h2]; exact pV _
  · rw [← h3]; exact h1 p hp
theorem yE {I : List Img} (h : ∀ x ∈ I, x.a < x.b) (h0 : 0 < (de (aW I)).1) : dS (de (aW I)).2 I = (de (aW I)).1 := by
  rcases (qQ (aW I)).2 with h1 | ⟨_, h2⟩
  · rw [h1] at h0; exact absurd h0 (by decide)
  · exact ((iK h _).1 h2).2.symm
theorem CW {I J : List Img} (hI : ∀ x ∈ I, x.a < x.b) (hJ : ∀ x ∈ J, x.a < x.b) (hf : ∀ t, dS t I ≤ dS t J) : (de (aW I)).1 ≤ (de (aW J)).1 := by
  by_cases h0 : 0 < (de (aW I)).1
  · rw [← yE hI h0]
    exact Int.le_trans (hf _) (tA hJ _)
  · have := pV (aW J); omega
theorem A0 {I : List Img} (h : ∀ x ∈ I, x.a < x.b ∧ 1 ≤ x.u) (hne : I ≠ []) : 0 < (de (aW I)).1 := by
  obtain ⟨x, r, rfl⟩ : ∃ x r, I = x :: r := by
    cases I with
    | nil => exact absurd rfl hne
    | cons x r => exact ⟨x, r, rfl⟩
  have h1 := tA (I := x :: r) (fun y hy => (h y hy).1) x.a
  have h2 : 0 ≤ dS x.a r := nj _ _ fun y hy => by have := (h y (List.mem_cons_of_mem _ hy)).2; omega
  have h3 := h x List.mem_cons_self
  simp only [dS] at h1
  rw [if_pos ⟨Int.le_refl _, h3.1⟩] at h1
  omega
end Go.Proofs
namespace Go.Proofs
open Go Go.AI
theorem xy (x : Int) : ∀ r : List Int, dY x r ∈ x :: r ∧ ∀ y ∈ x :: r, dY x r ≤ y := by
  intro r
  induction r generalizing x with
  | nil => exact ⟨by simp [dY], fun y hy => by simp at hy; rw [hy]; exact Int.le_refl _⟩
  | cons z r ih =>
    obtain ⟨h1, h2⟩ := ih (min x z)
    have e : dY x (z :: r) = dY (min x z) r := rfl
    rw [e]
    have h3 := h2 (min x z) List.mem_cons_self
    refine ⟨?_, fun y hy => ?_⟩
    · rcases List.mem_cons.1 h1 with h | h
      · rw [h]
        rcases Int.le_total x z with h4 | h4
        · rw [Int.min_eq_left h4]; exact List.mem_cons_self
        · rw [Int.min_eq_right h4]; exact List.mem_cons_of_mem _ List.mem_cons_self
      · exact List.mem_cons_of_mem _ (List.mem_cons_of_mem _ h)
    · rcases List.mem_cons.1 hy with h | h
      · subst h; omega
      · rcases List.mem_cons.1 h with h | h
        · subst h; omega
        · exact h2 y (List.mem_cons_of_mem _ h)
theorem iG {l : List Int} (h : l ≠ []) : ph l ∈ l ∧ ∀ y ∈ l, ph l ≤ y := by
  cases l with
  | nil => exact absurd rfl h
  | cons x r => exact xy x r
def nb (s : Nat → Int) (D : List ar) (a : Int) (i : Nat) : Int := uw s D (a + (i : Int))
theorem uA {s : Nat → Int} {l : List Opt} {ps : List ak} {a b : Int} (h : aO s l ps a b = true) {D : List Opt} (hg : cY D) :
    lvL s (au D) a b = (List.range (b - a).toNat).map (fun i => mb (s 11) (nb s (au D) a) (i + 1)) ∧ (∀ i, -1000000 ≤ nb s (au D) a i ∧ nb s (au D) a i ≤ 1000000) := by
  obtain ⟨_, hr, hab, hsat, _⟩ := aS.1 h
  have hq := yr hsat
  have hfed := rl hsat
  have hd := jH hg
  have hn : ∀ i, -1000000 ≤ nb s (au D) a i ∧ nb s (au D) a i ≤ 1000000 := fun i => by
    obtain ⟨e, h1, h2⟩ := uv hfed (a + (i : Int)) (au D) (uB (gQ s) (a + (i : Int))) (by omega)
    unfold nb uw
    rw [e]; omega
  refine ⟨?_, hn⟩
  have h1 := A6 (c := s 11) (f := nb s (au D) a) (by omega) hn a (b - a).toNat (by omega)
  unfold lvL
  rw [show fA s (au D) a b = gA a (nb s (au D) a) (b - a).toNat from rfl, h1]
theorem pk {s : Nat → Int} {l : List Opt} {ps : List ak} {a b : Int} (h : aO s l ps a b = true) {D : List Opt} (hg : cY D) : lvL s (au D) a b ≠ [] ∧ ∀ x ∈ lvL s (au D) a b, -4000000000 ≤ x ∧ x ≤ s 11 ∧ s 11 ≤ 1000000 := by
  obtain ⟨_, hr, hab, hsat, _⟩ := aS.1 h
  have hq := yr hsat
  obtain ⟨h1, h2⟩ := uA h hg
  rw [h1]
  refine ⟨fun e => ?_, fun x hx => ?_⟩
  · have := congrArg List.length e
    simp at this; omega
  · obtain ⟨i, hi, rfl⟩ := List.mem_map.1 hx
    have := rF (c := s 11) h2 (i + 1)
    have := List.mem_range.1 hi
    omega
def kk (s : Nat → Int) (l : List Opt) (a b : Int) (lost : List Int) : Int := ph (lvL s (au (bn l lost)) a b)
theorem A5 {s : Nat → Int} {l : List Opt} {ps : List ak} {a b : Int} (h : aO s l ps a b = true) (lost : List Int) : (loM s l a b lost).1 = -(kk s l a b lost) ∧ -4000000000 ≤ kk s l a b lost ∧ kk s l a b lost ≤ 1000000 := by
  obtain ⟨h1, h2⟩ := pk h (eH h fun o => kS o lost)
  have h3 := iG h1
  have h4 := h2 _ h3.1
  have e : kk s l a b lost = ph (lvL s (au (l.map fun o => sT o (kS o lost))) a b) := rfl
  rw [← e] at h4
  refine ⟨?_, by omega, by omega⟩
  show w64 (0 - kk s l a b lost) = _
  rw [ap (by omega) (by omega)]; omega
def lowV (s : Nat → Int) (l : List Opt) (ps : List ak) (k a b : Int) : Int := w64 (0 - (loS s l ps k a b).n)
theorem jJ {s : Nat → Int} {l : List Opt} {ps : List ak} {a b k : Int} (h : aO s l ps a b = true) (h0 : 0 ≤ k) (h3 : k ≤ 3) :
    (loS s l ps k a b).what ∈ aY (aw l) ps k ∧ lowV s l ps k a b = kk s l a b (loS s l ps k a b).what ∧ (loS s l ps k a b).n = -(lowV s l ps k a b) ∧ ∀ y ∈ aY (aw l) ps k, lowV s l ps k a b ≤ kk s l a b y := by
  obtain ⟨_, _, _, _, hp, _⟩ := aS.1 h
  obtain ⟨h1, h2, _, h4⟩ := ic (m := loM s l a b) (jA (f := aw l) hp h0 h3)
  have e : dj (loM s l a b) (aY (aw l) ps k) = loS s l ps k a b := rfl
  rw [e] at h1 h2 h4
  obtain ⟨v1, v2, v3⟩ := A5 h (loS s l ps k a b).what
  rw [v1] at h2
  have e2 : lowV s l ps k a b = kk s l a b (loS s l ps k a b).what := by
    unfold lowV
    rw [h2, ap (by omega) (by omega)]; omega
  refine ⟨h1, e2, by rw [h2, e2], fun y hy => ?_⟩
  have h5 := h4 y hy
  obtain ⟨u1, _, _⟩ := A5 h y
  rw [u1, h2] at h5
  omega
end Go.Proofs
namespace Go.Proofs
open Go Go.AI
set_option maxRecDepth 10000
def De : List Img := [⟨1, 6, 10, 22⟩, ⟨2, 5, 30, 46⟩]
def D4 : List Img := [⟨1, 6, 10, 42⟩, ⟨2, 5, 30, 46⟩]
theorem Bx : bK bxL [] = De := by kernel_rfl
theorem DB : bK bxL [0] = D4 := by kernel_rfl
theorem Ep : bK bxL [1] = De := by kernel_rfl
theorem DA : de (aW De) = (6, 10) := by
  rw [← rY (l := De) (s := [(10, 6), (22, -6), (30, 5), (46, -5)]) (.refl _) (by simp [List.pairwise_cons])]
  kernel_rfl
theorem Em : de (aW D4) = (11, 30) := by
  rw [← rY (l := D4) (s := [(10, 6), (30, 5), (42, -6), (46, -5)]) (.cons _ (.swap _ _ _)) (by simp [List.pairwise_cons])]
  kernel_rfl
theorem Dz : pkS bxL bxP 0 = ⟨6, 10, [], true⟩ := by
  unfold pkS; rw [Ek, dj, List.foldl_cons, List.foldl_nil, pkM, Bx, DA]; rfl
theorem Dy : pkS bxL bxP 1 = ⟨11, 30, [0], true⟩ := by
  unfold pkS; rw [El, dj, List.foldl_cons, List.foldl_cons, List.foldl_cons, List.foldl_nil, pkM, pkM, pkM, Bx, DB, Ep, DA, Em]; rfl
theorem Bz (t : Int) : ∀ D : List ar, jS bxS t D = 0
  | [] => rfl
  | x :: D => by
    rw [jS, Bz t D]
    simp [ru, r9, bxS]
theorem En {D : List Opt} (hg : cY D) : ∀ x ∈ lvL bxS (au D) 0 60, 0 ≤ x := fun x hx => by
  have h1 := (uA sg hg).1
  have hf := rl (aS.1 sg).2.2.2.1
  have hd := jH hg
  have hn : nb bxS (au D) 0 = fun _ => 1 := funext fun i => by
    unfold nb uw
    rw [(uv hf _ _ _ (by omega)).1, zq, Bz]
    simp [bxS]
  rw [h1, hn] at hx
  obtain ⟨i, hi, rfl⟩ := List.mem_map.1 hx
  have hall : ((List.range 60).all fun i => decide (0 ≤ mb (bxS 11) (fun _ => 1) (i + 1))) = true := by kernel_rfl
  exact of_decide_eq_true (List.all_eq_true.1 hall i hi)
theorem Eo (k : Int) (h0 : 0 ≤ k) (h3 : k ≤ 3) : 0 ≤ lowV bxS bxL bxP k 0 60 ∧ lowV bxS bxL bxP k 0 60 ≤ 100 := by
  obtain ⟨_, h2, _⟩ := jJ sg h0 h3
  rw [h2]
  generalize (loS bxS bxL bxP k 0 60).what = w
  have hg : cY (bn bxL w) := eH sg fun o => kS o w
  obtain ⟨h4, h5⟩ := pk sg hg
  obtain ⟨h6, _⟩ := iG h4
  exact ⟨En hg _ h6, by have := h5 _ h6; have e : bxS 11 = 100 := rfl; unfold kk; omega⟩
theorem Ej (lost : List Int) (h : fP [0, 1] lost = true) : qZ bxS bxL bxP 0 60 lost = .tup [.agg (js bxL lost), .int .i64 0] := by
  rw [qZ, dV sg (by decide) (by decide) (by decide), By, h]; rfl
theorem Ei : qZ bxS bxL bxP 0 60 [2] = .tup [.agg [.sl .full 0 [], .sl .full 0 [], .sl .full 0 [], .sl .full 0 []], .int .i64 210] := by
  rw [qZ, dV sg (by decide) (by decide) (by decide), By, show fP [0, 1] [2] = false from by kernel_rfl]; rfl
set_option maxHeartbeats 8000000 in
theorem ii : ae Tryz.prog 41 [] (.bool true) := by
  have hs := (dm sg).2.1
  have L6 : bxL.length ≤ 1000000 := Nat.le_of_ble_eq_true rfl
  have P6 : bxP.length ≤ 1000000 := Nat.le_of_ble_eq_true rfl
  have v0 := dV (k := 0) sg (by decide) (by decide) (by decide)
  have v1 := dV (k := 1) sg (by decide) (by decide) (by decide)
  have v4 : ei bxS bxL bxP 4 0 60 = false := by
    unfold ei
    rw [show rD 4 = false from by decide]; rfl
  have q1 := gM bxL bxP 1 L6 hs P6
  rw [pP, qO sg (by decide) (by decide) (by decide), if_neg (by decide), El] at q1
  have q2 := gM bxL bxP 4 L6 hs P6
  rw [pP, show fq bxL bxP 4 = true from by unfold fq; rw [show nA bxL bxP 4 = true from by kernel_rfl]; rfl, if_pos rfl] at q2
  have q3 : ae Tryz.prog 53 [.agg (aX bxS), aM bxL, am bxP, .agg (aF 0 60), .sl .full 0 []] _ := (iP bxS bxL bxP 0 60 [] L6 hs P6 (Nat.zero_le _)).weak (.cons (.refl _) (.cons (.refl _) (.cons (.refl _) (.cons (.refl _) (.cons AV.weak.slnil (.refl _))))))
  rw [Ej [] rfl, js, show fM bxL [] = [0, 0] from by kernel_rfl, Bx] at q3
  have q4 : ae Tryz.prog 53 [.agg (aX bxS), aM bxL, am bxP, .agg (aF 0 60), .sl .full 1 [[.int .i64 0]]] _ := (iP bxS bxL bxP 0 60 [0] L6 hs P6 (Nat.le_of_ble_eq_true rfl)).weak (.cons (.refl _) (.cons (.refl _) (.cons (.refl _) (.cons (.refl _) (.cons AV.weak.sl (.refl _))))))
  rw [Ej [0] (by kernel_rfl), js, show fM bxL [0] = [1, 0] from by kernel_rfl, DB] at q4
  have q5 : ae Tryz.prog 53 [.agg (aX bxS), aM bxL, am bxP, .agg (aF 0 60), .sl .full 1 [[.int .i64 2]]] _ := (iP bxS bxL bxP 0 60 [2] L6 hs P6 (Nat.le_of_ble_eq_true rfl)).weak (.cons (.refl _) (.cons (.refl _) (.cons (.refl _) (.cons (.refl _) (.cons AV.weak.sl (.refl _))))))
  rw [Ei] at q5
  have q6 := d3 v0
  rw [Dz] at q6
  have q7 := d3 v1
  rw [Dy] at q7
  have q8 := fm v1
  have l1 := Eo 1 (by decide) (by decide)
  have l0 := Eo 0 (by decide) (by decide)
  have q9 := mD v0
  rw [Dz, show (decide ((⟨6, 10, [], true⟩ : Fnd).n ≤ bxS 10) && decide (w64 (0 - (loS bxS bxL bxP 0 0 60).n) ≥ 0)) = true from by rw [decide_eq_true (show w64 (0 - (loS bxS bxL bxP 0 0 60).n) ≥ 0 from l0.1)]; rfl] at q9
  have q10 := mD v1
  rw [Dy, show (decide ((⟨11, 30, [0], true⟩ : Fnd).n ≤ bxS 10) && decide (w64 (0 - (loS bxS bxL bxP 1 0 60).n) ≥ 0)) = false from rfl] at q10
  have q11 := gN bxL L6 hs
  rw [By] at q11
  have q12 := io bxS bxL bxP 1 0 60 L6 hs P6
  rw [v1] at q12
  have q13 := io bxS bxL bxP 4 0 60 L6 hs P6
  rw [v4] at q13
  have i1 : ae Tryz.prog 46 [aq [0, 0], .sl .full 1 [[.int .i64 0], [.int .i64 0]]] (.bool true) := by
    have h := (eR [0, 0] [0, 0] (by decide)).sl1 (o := .full)
    rw [decide_eq_true rfl] at h; exact h
  have i2 : ae Tryz.prog 46 [aq [1, 0], .sl .full 1 [[.int .i64 1], [.int .i64 0]]] (.bool true) := by
    have h := (eR [1, 0] [1, 0] (by decide)).sl1 (o := .full)
    rw [decide_eq_true rfl] at h; exact h
  have i3 : ae Tryz.prog 46 [aq [0], .sl .full 1 [[.int .i64 0]]] (.bool true) := by
    have h := (eR [0] [0] (by decide)).sl1 (o := .full)
    rw [decide_eq_true rfl] at h; exact h
  have i4 : ae Tryz.prog 46 [aq [0, 1], .sl .full 1 [[.int .i64 0], [.int .i64 1]]] (.bool true) := by
    have h := (eR [0, 1] [0, 1] (by decide)).sl1 (o := .full)
    rw [decide_eq_true rfl] at h; exact h
  have i5 : ae Tryz.prog 50 [eh [[], [0], [1]], .sl .full 1 [[.sl .full 0 []], [.sl .full 1 [[.int .i64 0]]], [.sl .full 1 [[.int .i64 1]]]]] (.bool true) := by
    have h := (wy [[], [0], [1]] [[], [0], [1]] (by decide) (fun i hi => by
      match i, hi with
      | 0, _ | 1, _ | 2, _ => decide)).weak (us := [eh [[], [0], [1]], .sl .full 1 [[.sl .full 0 []], [.sl .full 1 [[.int .i64 0]]], [.sl .full 1 [[.int .i64 1]]]]]) (.cons (.refl _) (.cons (AV.weak.rows (.cons (.cons AV.weak.slnil (.refl _)) (.cons (.cons AV.weak.sl (.refl _)) (.cons (.cons AV.weak.sl (.refl _)) .nil))) (by decide)) (.refl _)))
    rw [decide_eq_true rfl] at h; exact h
  have bl : decide (w64 (0 - (loS bxS bxL bxP 1 0 60).n) ≤ 100) = false → False := fun h => by have := of_decide_eq_false h; exact this l1.2
  generalize au (bn bxL []) = D0 at *
  generalize au (bn bxL [0]) = D1 at *
  generalize w64 (0 - (loS bxS bxL bxP 1 0 60).n) = lo at *
  generalize (loS bxS bxL bxP 1 0 60).at_ = lt at *
  generalize (loS bxS bxL bxP 1 0 60).what = lw at *
  refine ag aa Tryz.func41 rfl (by kernel_rfl) af (Nat.le_of_ble_eq_true rfl) ?_
  intro F n' w0 m0 hG hro h1
  repeat' first|exact (bl (by assumption)).elim|refine Q1 ?_|refine Q2 ?_|refine Q3 hG aa qA (by kernel_rfl) ?_|refine Q4 hG aa qA (by kernel_rfl) ?_|refine Q5 hG aa ?_|refine Q6 hG aa ?_|refine Q7 hG aa ?_|refine Q8 hG aa ?_|refine Q9 rfl ?_|refine QF rfl ?_|refine QC rfl (And.intro (fun h => ?_) (fun h => ?_))|((conv => whnf); first|refine anF ?_|refine anT ?_|refine And.intro (by kernel_rfl) ?_|refine And.intro (of_decide_eq_true (Eq.refl true)) (Exists.intro _ (And.intro rfl ?_))|refine Exists.intro _ (And.intro (tc) ?_)|refine Exists.intro _ (And.intro (q1) ?_)|refine Exists.intro _ (And.intro (q2) ?_)|refine Exists.intro _ (And.intro (q3) ?_)|refine Exists.intro _ (And.intro (q4) ?_)|refine Exists.intro _ (And.intro (q5) ?_)|refine Exists.intro _ (And.intro (q6) ?_)|refine Exists.intro _ (And.intro (q7) ?_)|refine Exists.intro _ (And.intro (q8) ?_)|refine Exists.intro _ (And.intro (q9) ?_)|refine Exists.intro _ (And.intro (q10) ?_)|refine Exists.intro _ (And.intro (q11) ?_)|refine Exists.intro _ (And.intro (q12) ?_)|refine Exists.intro _ (And.intro (q13) ?_)|refine Exists.intro _ (And.intro (i1) ?_)|refine Exists.intro _ (And.intro (i2) ?_)|refine Exists.intro _ (And.intro (i3) ?_)|refine Exists.intro _ (And.intro (i4) ?_)|refine Exists.intro _ (And.intro (i5) ?_)|refine And.intro (fun h => ?_) (fun h => ?_)|refine Or.inl ?_|fail)
  all_goals exact Ends.mk (Or.inl rfl) (ac rfl)
end Go.Proofs
