/- TrackMatchesReference answers true, whatever the input; no condition. -/
import Derived.Test.YtehdegggapeihaaGreatMConE
import Derived.Test.YtehdegggapeihaaGreatRows
set_option linter.unusedSectionVars false
set_option linter.unusedVariables false
set_option linter.unusedSimpArgs false
namespace Go.Proofs
open Go Go.AI
set_option maxRecDepth 10000
theorem rD (s : Nat → Int) (l : List Opt) (ps : List aG) (a b : Int) (hl : l.length ≤ 1000000) (hsl : gV l) (hps : ps.length ≤ 1000000) (hv : bD s l ps a b = false) : ae Tryz.prog 22 [.agg (aJ s), ay l, aB ps, .agg (ar a b)] (.tup [hU [], .int .i64 190]) := by
 have cV := kq s l ps a b hl hsl hps
 rw [hv] at cV
 refine ah aa Tryz.func22 rfl (by kernel_rfl) af (Nat.le_of_ble_eq_true rfl) ?_
 intro F n' w0 m0 hG hro h1
 repeat' first|refine Q1 ?_|refine Q2 ?_|refine Q3 hG aa aA ?_|refine Q4 hG aa aA ?_|refine Q5 hG aa ?_|refine Q6 hG aa ?_|refine Q7 hG aa ?_|refine Q8 hG aa ?_|refine Q9 rfl ?_|refine QF rfl ?_|refine QC rfl ⟨fun h => ?_,fun h => ?_⟩|((conv => whnf); first|refine anF ?_|refine anT ?_|refine anK ?_|refine Exists.intro _ (And.intro (cV) ?_)|refine And.intro (fun h => ?_) (fun h => ?_)|refine Or.inl ?_)
 all_goals exact Ends.mk (Or.inl rfl) (ac rfl)
def ey : Code → Code
 | .seq _ b => b
 | c => c
theorem Dl {α : Type} {f : α → List AV} {Q : α → Prop} {a b c d e g : α} (ha : Q a) (hb : Q b) (hc : Q c) (hd : Q d) (he : Q e) (hg : Q g) : ∀ {j : Nat}, j < 6 → ∃ x, Q x ∧ [f a, f b, f c, f d, f e, f g][(j : Int).toNat]? = some (f x)
 | 0, _ => ⟨a, ha, rfl⟩
 | 1, _ => ⟨b, hb, rfl⟩
 | 2, _ => ⟨c, hc, rfl⟩
 | 3, _ => ⟨d, hd, rfl⟩
 | 4, _ => ⟨e, he, rfl⟩
 | 5, _ => ⟨g, hg, rfl⟩
def gN (l : List Opt) : Prop := l.length ≤ 10 ∧ ∀ o ∈ l, o.sl.length ≤ 7
theorem gN.sent {l : List Opt} (h : gN l) : l.length ≤ 1000000 ∧ gV l ∧ (bf l).length ≤ 900000 := by
 have h1 := h.1
 have h2 := ke 7 l h.2
 rw [mf, List.length_map] at h2
 exact ⟨by omega, fun o ho => by have := h.2 o ho; omega, by omega⟩
theorem tn (l : List Opt) (h : gN l) : (aC l).length ≤ 1000000 := by
 unfold aC
 split
 ·simp
 ·refine Nat.le_trans (lI _) ?_
  have h1 := h.1
  have h2 := ke 7 l h.2
  rw [jc, List.length_append, gw, List.length_map]
  omega
theorem AF (s : Nat → Int) (l : List Opt) (ps : List aG) (a b : Int) (hl : gN l) (hps : ps.length ≤ 1000000) : ∃ (F : List Flt) (e : Int), F.length ≤ 1000000 ∧ ae Tryz.prog 21 [.agg (aJ s), ay l, aB ps, .agg (ar a b)] (.tup [hU F, .int .i64 e]) ∧ ae Tryz.prog 22 [.agg (aJ s), ay l, aB ps, .agg (ar a b)] (.tup [hU F, .int .i64 e]) := by
 obtain ⟨h1, h2, _⟩ := hl.sent
 cases hv : bD s l ps a b with
 | true => exact ⟨ew s l a b, 0, by have : (ew s l a b).length ≤ 5 := bK s l a b 5; omega, jx s l ps a b hps hv, vL s l ps a b hps hv⟩
 | false => exact ⟨[], 190, by simp, ld s l ps a b h1 h2 hps hv, rD s l ps a b h1 h2 hps hv⟩
set_option maxHeartbeats 16000000 in
theorem Ch (s odd : Nat → Int) (l be so : List Opt) (ps ot : List aG) (a b p q : Int) (hl : gN l) (hbe : gN be) (hso : gN so) (hps : ps.length ≤ 1000000) (hot : ot.length ≤ 1000000)
  {F' : Fence} {n' : Nat} {w0 : World} {m0 : Mem} (hG : aK.OK ⟨Tryz.prog, F', n', w0, m0, Tryz.f3.ntmps⟩) : SPB ⟨Tryz.prog, F', n', w0, m0, Tryz.f3.ntmps⟩ ⟨[(22, aB ot), (20, ay so), (19, ay be), (18, .loc 18 0), (17, ay l), (16, aB ps), (15, .loc 15 0), (12, .loc 12 0), (10, .loc 10 0)], [(18, ar a b), (15, aJ s), (12, ar p q), (10, aJ odd)]⟩ (match Tryz.f3.body with | some c => ey (ey (ey (ey (ey (ey (ey (ey (ey (ey (c)))))))))) | none => .skip) (Go.AI.Ends kO Tryz.f3.results.toList (.bool true)) := by
 repeat' first|refine Q1 ?_|refine Q2 ?_|refine Q3 hG aa aF ?_|refine Q4 hG aa aF ?_|refine Q5 hG aa ?_|refine Q6 hG aa ?_|refine Q7 hG aa ?_|refine Q8 hG aa ?_|refine Q9 rfl ?_|refine QF rfl ?_|refine QC rfl ⟨fun h => ?_,fun h => ?_⟩|((conv => whnf); first|refine anF ?_|refine anT ?_|refine anK ?_|refine And.intro (fun h => ?_) (fun h => ?_)|refine Or.inl ?_)
 refine ap (X := Nat) (fun j => ⟨[(23, .int .i64 j), (22, aB ot), (20, ay so), (19, ay be), (18, .loc 18 0), (17, ay l), (16, aB ps), (15, .loc 15 0), (12, .loc 12 0), (10, .loc 10 0)], [(18, ar a b), (15, aJ s), (12, ar p q), (10, aJ odd)]⟩) (fun j => j ≤ 6) (fun j => 6 - j) 0 (Nat.zero_le _) (ag ?_ ?_) (fun j hj => ?_)
 ·repeat' (first | exact trivial | refine And.intro rfl ?_)
 ·repeat' (first | exact trivial | refine And.intro rfl ?_)
 ·by_cases hlt_j : j < 6
  ·have b6 : decide ((j : Int) < 6) = false → False := fun h => by have := of_decide_eq_false h; omega
   obtain ⟨S, _, h20⟩ := Dl (f := aJ) (Q := fun _ => True) (a := s) (b := s) (c := s) (d := odd) (e := s) (g := s) trivial trivial trivial trivial trivial trivial hlt_j
   obtain ⟨B, hB, h21⟩ := Dl (f := fun B => [ay B]) (Q := gN) (a := l) (b := be) (c := so) (d := l) (e := l) (g := l) hl hbe hso hl hl hl hlt_j
   obtain ⟨P, hP, h22⟩ := Dl (f := fun P => [aB P]) (Q := fun P => P.length ≤ 1000000) (a := ps) (b := ps) (c := ps) (d := ps) (e := ot) (g := ps) hps hps hps hps hot hps hlt_j
   obtain ⟨w, _, h23⟩ := Dl (f := fun w : Int × Int => ar w.1 w.2) (Q := fun _ => True) (a := (a, b)) (b := (a, b)) (c := (a, b)) (d := (a, b)) (e := (a, b)) (g := (p, q)) trivial trivial trivial trivial trivial trivial hlt_j
   obtain ⟨w1, w2⟩ := w
   obtain ⟨F, e, hF, cC, cR⟩ := AF S B P w1 w2 hB hP
   obtain ⟨g1, g2, g3⟩ := hB.sent
   have cV := gM S B P w1 w2 g1 g2 hP
   have cW := kq S B P w1 w2 g1 g2 hP
   generalize bD S B P w1 w2 = v at cV cW
   have cF := jH F F hF
   rw [decide_eq_true rfl] at cF
   have cL := lK B g1 g2 g3
   have cM := pn B g1 g2
   have cD := kp (aC B) (aC B) (tn B hB)
   rw [decide_eq_true rfl] at cD
   have cA := iO B g1
   generalize aC B = D at cL cM cD
   have hal : ((aR B).map bP).length = (B.map aD).length := by simp [aR]
   have b1 : (v != v) = true → False := fun h => by simp at h
   have b2 : (e != e) = true → False := fun h => by simp at h
   have b3 : ((((aR B).map bP).length : Int) != ((B.map aD).length : Int)) = true → False := fun h => by rw [hal] at h; simp at h
   repeat' first|exact (b6 (by assumption)).elim|exact (b1 (by assumption)).elim|exact (b2 (by assumption)).elim|exact (b3 (by assumption)).elim|refine Q1 ?_|refine Q2 ?_|refine Q3 hG aa aF ?_|refine Q4 hG aa aF ?_|refine Q5 hG aa ?_|refine Q6 hG aa ?_|refine Q7 hG aa ?_|refine Q8 hG aa ?_|refine Q9 rfl ?_|refine QF rfl ?_|refine QC rfl ⟨fun h => ?_,fun h => ?_⟩|((conv => whnf); first|refine anF ?_|refine anT ?_|refine anK ?_|refine And.intro (Int.natCast_nonneg j) (Exists.intro _ (And.intro h20 ?_))|refine And.intro (Int.natCast_nonneg j) (Exists.intro _ (And.intro h21 ?_))|refine And.intro (Int.natCast_nonneg j) (Exists.intro _ (And.intro h22 ?_))|refine And.intro (Int.natCast_nonneg j) (Exists.intro _ (And.intro h23 ?_))|refine Exists.intro _ (And.intro (cC) ?_)|refine Exists.intro _ (And.intro (cR) ?_)|refine Exists.intro _ (And.intro (cV) ?_)|refine Exists.intro _ (And.intro (cW) ?_)|refine Exists.intro _ (And.intro (cF) ?_)|refine Exists.intro _ (And.intro (cL) ?_)|refine Exists.intro _ (And.intro (cM) ?_)|refine Exists.intro _ (And.intro (cD) ?_)|refine Exists.intro _ (And.intro (cA) ?_)|refine And.intro (fun h => ?_) (fun h => ?_)|refine Or.inl ?_)
   refine ap (X := Nat) (fun x => ⟨[(33, .int .i64 x), (32, da (aR B)), (26, aB P), (25, ay B), (24, .loc 24 0), (23, .int .i64 j), (22, aB ot), (20, ay so), (19, ay be), (18, .loc 18 0), (17, ay l), (16, aB ps), (15, .loc 15 0), (12, .loc 12 0), (10, .loc 10 0)], [(24, aJ S), (18, ar a b), (15, aJ s), (12, ar p q), (10, aJ odd)]⟩) (fun x => x ≤ B.length) (fun x => B.length - x) 0 (Nat.zero_le _) (ag ?_ ?_) (fun x hx => ?_)
   ·repeat' (first | exact trivial | refine And.intro rfl ?_)
   ·repeat' (first | exact trivial | refine And.intro rfl ?_)
   ·rename Nat => i
    have hi := hx
    by_cases hlt_i : i < B.length
    ·have bbk : decide ((i : Int) < ((B.map aD).length : Int)) = false → False := fun h => by have := of_decide_eq_false h; simp at this; omega
     have hx := c8 hlt_i
     have hy : ((aR B).map bP)[(i : Int).toNat]? = some (bP ⟨(au B i).a, (au B i).b, (au B i).look⟩) := by simp [aR, au, List.getElem?_eq_getElem hlt_i]
     have hms : (au B i).sl.length ≤ 1000000 := g2 _ (by rw [bj hlt_i]; exact List.getElem_mem hlt_i)
     have c1 := ku S (au B i) P hms hP
     have c2 := jt S (au B i) P hms hP
     generalize (dR S && dq P && cu S (au B i) P) = v at c1 c2
     generalize au B i = u at *
     have b1 : (v != v) = true → False := fun h => by simp at h
     have b2 : (!(u.a == u.a && (u.b == u.b && true))) = true → False := fun h => by simp at h
     have b3 : (u.look != u.look) = true → False := fun h => by simp at h
     repeat' first|exact (bbk (by assumption)).elim|refine Q1 ?_|refine Q2 ?_|refine Q3 hG aa aF ?_|refine Q4 hG aa aF ?_|refine Q5 hG aa ?_|refine Q6 hG aa ?_|refine Q7 hG aa ?_|refine Q8 hG aa ?_|refine Q9 rfl ?_|refine QF rfl ?_|refine QC rfl ⟨fun h => ?_,fun h => ?_⟩|((conv => whnf); first|refine anF ?_|refine anT ?_|refine anK ?_|refine And.intro (Int.natCast_nonneg i) (Exists.intro _ (And.intro hx ?_))|refine And.intro (Int.natCast_nonneg i) (Exists.intro _ (And.intro hy ?_))|refine Exists.intro _ (And.intro (c1) ?_)|refine Exists.intro _ (And.intro (c2) ?_)|refine And.intro (fun h => ?_) (fun h => ?_)|refine Or.inl ?_)
     all_goals first
      | exact (b1 (by assumption)).elim
      | exact (b2 (by assumption)).elim
      | exact (b3 (by assumption)).elim
      |(refine Exists.intro (i + 1) (And.intro hlt_i (And.intro (by omega) (ag ?_ ?_)))
        ·refine And.intro (congrArg some (am (by omega))) ?_
         repeat' (first | exact trivial | refine And.intro rfl ?_)
        ·repeat' (first | exact trivial | refine And.intro rfl ?_))
    ·have bbk : decide ((i : Int) < ((B.map aD).length : Int)) = true → False := fun h => by have := of_decide_eq_true h; simp at this; omega
     repeat' first|exact (bbk (by assumption)).elim|refine Q1 ?_|refine Q2 ?_|refine Q3 hG aa aF ?_|refine Q4 hG aa aF ?_|refine Q5 hG aa ?_|refine Q6 hG aa ?_|refine Q7 hG aa ?_|refine Q8 hG aa ?_|refine Q9 rfl ?_|refine QF rfl ?_|refine QC rfl ⟨fun h => ?_,fun h => ?_⟩|((conv => whnf); first|refine anF ?_|refine anT ?_|refine anK ?_|refine And.intro (fun h => ?_) (fun h => ?_)|refine Or.inl ?_)
     conv => whnf
     refine Exists.intro (j + 1) (And.intro hlt_j (And.intro (by omega) (ag ?_ ?_)))
     ·refine And.intro (congrArg some (am (by omega))) ?_
      repeat' (first | exact trivial | refine And.intro rfl ?_)
     ·repeat' (first | exact trivial | refine And.intro rfl ?_)
  ·have b6 : decide ((j : Int) < 6) = true → False := fun h => by have := of_decide_eq_true h; omega
   repeat' first|exact (b6 (by assumption)).elim|refine Q1 ?_|refine Q2 ?_|refine Q3 hG aa aF ?_|refine Q4 hG aa aF ?_|refine Q5 hG aa ?_|refine Q6 hG aa ?_|refine Q7 hG aa ?_|refine Q8 hG aa ?_|refine Q9 rfl ?_|refine QF rfl ?_|refine QC rfl ⟨fun h => ?_,fun h => ?_⟩|((conv => whnf); first|refine anF ?_|refine anT ?_|refine anK ?_|refine And.intro (fun h => ?_) (fun h => ?_)|refine Or.inl ?_)
   exact Ends.mk (Or.inl rfl) (ac rfl)
end Go.Proofs
namespace Go.Proofs
open Go Go.AI
set_option maxRecDepth 10000
def cO (t : Int) (o : Opt) : Bool := decide (t ≥ o.a) && decide (t < o.b)
def cS (t : Int) (x : bl) : Bool := decide (t ≥ x.a) && decide (t < x.b)
def cL (t k : Int) (x : aq) : Bool := decide (x.k = k) && (decide (t ≥ x.a) && decide (t < x.b))
theorem vy {a b : Bool} (h : a = true ↔ b = true) : a = b := Bool.eq_iff_iff.2 h
theorem y6 (c : bR) : (c.l.length ≤ 8 ∧ (aC c.l).length ≤ 100) ∧ (∀ i, i < (aC c.l).length → ((aC c.l).getD i ld0).a < ((aC c.l).getD i ld0).b ∧ (((aC c.l).getD i ld0).k = 1 ∨ ((aC c.l).getD i ld0).k = 2) ∧ (0 < i → kl ((aC c.l).getD (i - 1) ld0) ((aC c.l).getD i ld0))) ∧ (∀ t, c.l.any (cO t) = (aC c.l).any (cL t 1)) ∧ (∀ t, (c.l.any fun o => o.sl.any (cS t)) = (aC c.l).any (cL t 2)) := by
 have hln := c.len
 have hT := wk.of c.valid
 obtain ⟨hc, hv⟩ := hT.good.can
 have hk := hT.good.kinds
 have hlen := x5 hT.good
 refine ⟨⟨by omega, by omega⟩, fun i hi => ?_, fun t => vy ?_, fun t => vy ?_⟩
 ·have e : (aC c.l).getD i ld0 = (aC c.l)[i] := by rw [List.getD_eq_getElem?_getD, List.getElem?_eq_getElem hi]; rfl
  rw [e]
  refine ⟨hc.ok _ (List.getElem_mem hi), hk _ (List.getElem_mem hi), fun h0 => ?_⟩
  have e2 : (aC c.l).getD (i - 1) ld0 = (aC c.l)[i - 1] := by rw [List.getD_eq_getElem?_getD, List.getElem?_eq_getElem (by omega)]; rfl
  rw [e2]
  exact List.pairwise_iff_getElem.1 hc.sep (i - 1) i (by omega) hi (by omega)
 ·have h1 : (aC c.l).any (cL t 1) = true ↔ el (jc c.l) 1 t := by
   rw [← hv, List.any_eq_true]
   simp only [cL, el, Bool.and_eq_true, decide_eq_true_eq, ge_iff_le]
  rw [h1, List.any_eq_true]
  simp only [cO, Bool.and_eq_true, decide_eq_true_eq, ge_iff_le]
  constructor
  ·rintro ⟨o, ho, h⟩
   exact ⟨_, jZ.2 (.inl ⟨o, ho, rfl⟩), rfl, h⟩
  ·rintro ⟨x, hx, h2, h3⟩
   rcases jZ.1 hx with ⟨o, ho, rfl⟩ | ⟨o, ho, y, hy, rfl⟩
   ·exact ⟨o, ho, h3⟩
   ·exact absurd h2 (by simp)
 ·have h1 : (aC c.l).any (cL t 2) = true ↔ el (jc c.l) 2 t := by
   rw [← hv, List.any_eq_true]
   simp only [cL, el, Bool.and_eq_true, decide_eq_true_eq, ge_iff_le]
  rw [h1, List.any_eq_true]
  simp only [List.any_eq_true, cS, Bool.and_eq_true, decide_eq_true_eq, ge_iff_le]
  constructor
  ·rintro ⟨o, ho, y, hy, h⟩
   exact ⟨_, jZ.2 (.inr ⟨o, ho, y, hy, rfl⟩), rfl, h⟩
  ·rintro ⟨x, hx, h2, h3⟩
   rcases jZ.1 hx with ⟨o, ho, rfl⟩ | ⟨o, ho, y, hy, rfl⟩
   ·exact absurd h2 (by simp)
   ·exact ⟨o, ho, y, hy, h3⟩
end Go.Proofs
namespace Go.Proofs
open Go Go.AI
set_option maxRecDepth 10000
theorem ox {α β : Type} (f : α → β) : ∀ (l : List α) (n : Nat) (v : α), bQ (l.map f) n (f v) = (bQ l n v).map f
 | [], _, _ => rfl
 | _ :: _, 0, _ => rfl
 | x :: r, n + 1, v => by simp only [List.map_cons, bQ, ox f r n v]
theorem de {α : Type} : ∀ (l : List α) (n : Nat) (v : α), (bQ l n v).length = l.length
 | [], _, _ => rfl
 | _ :: _, 0, _ => rfl
 | _ :: r, n + 1, v => congrArg (· + 1) (de r n v)
theorem DL (raw : List Opt) {i : Nat} (hi : i ≤ 10) : gN ((raw.take i).map kg) := by
 refine ⟨by simp only [List.length_map, List.length_take]; omega, fun o ho => ?_⟩
 obtain ⟨u, _, rfl⟩ := List.mem_map.1 ho
 simp only [kg, List.length_take]; omega
set_option maxHeartbeats 8000000 in
theorem vO (s odd : Nat → Int) (l be so : List Opt) (ps : List aG) (ot : List aG) (pp : aG) (a b p q : Int) (hl : gN l) (hbe : gN be) (hso : gN so) (hps : ps.length ≤ 1000000) (hot : ot.length ≤ 1000000)
  {F' : Fence} {n' : Nat} {w0 : World} {m0 : Mem} (hG : aK.OK ⟨Tryz.prog, F', n', w0, m0, Tryz.f3.ntmps⟩) : SPB ⟨Tryz.prog, F', n', w0, m0, Tryz.f3.ntmps⟩ ⟨[(22, aB ot), (20, ay so), (19, ay be), (18, .loc 18 0), (17, ay l), (16, aB ps), (15, .loc 15 0), (12, .loc 12 0), (11, .loc 11 0), (10, .loc 10 0)], [(18, ar a b), (15, aJ s), (12, ar p q), (11, aI pp), (10, aJ odd)]⟩ (match Tryz.f3.body with | some c => ey (ey (ey (ey (ey (ey (ey (ey (ey (c))))))))) | none => .skip) (Go.AI.Ends kO Tryz.f3.results.toList (.bool true)) := by
 refine Q1 ?_
 refine SPB.cut (X := Int) (fun q' => ⟨[(22, aB ot), (20, ay so), (19, ay be), (18, .loc 18 0), (17, ay l), (16, aB ps), (15, .loc 15 0), (12, .loc 12 0), (11, .loc 11 0), (10, .loc 10 0)], [(18, ar a b), (15, aJ s), (12, ar p q'), (11, aI pp), (10, aJ odd)]⟩) (fun _ => True) ?_ (fun q' _ => SPB.le (ag ?_ ?_) (Ch s odd l be so ps ot a b p q' hl hbe hso hps hot hG))
 ·repeat' first|refine Q1 ?_|refine Q2 ?_|refine Q3 hG aa aF ?_|refine Q4 hG aa aF ?_|refine Q5 hG aa ?_|refine Q6 hG aa ?_|refine Q7 hG aa ?_|refine Q8 hG aa ?_|refine Q9 rfl ?_|refine QF rfl ?_|refine QC rfl ⟨fun h => ?_,fun h => ?_⟩|((conv => whnf); first|refine anF ?_|refine anT ?_|refine anK ?_|refine And.intro (fun h => ?_) (fun h => ?_)|refine Or.inl ?_)
  all_goals first
   |(refine Exists.intro q (And.intro trivial (ag ?_ ?_))
     ·repeat' (first | exact trivial | refine And.intro rfl ?_)
     ·repeat' (first | exact trivial | refine And.intro rfl ?_))
   |(refine Exists.intro (IntKind.i64.wrap (p + 300)) (And.intro trivial (ag ?_ ?_))
     ·repeat' (first | exact trivial | refine And.intro rfl ?_)
     ·repeat' (first | exact trivial | refine And.intro rfl ?_))
 ·repeat' (first | exact trivial | refine And.intro rfl ?_)
 ·repeat' (first | exact trivial | refine And.intro rfl ?_)
set_option maxHeartbeats 8000000 in
theorem Cg (s odd : Nat → Int) (l be so : List Opt) (ps : List aG) (pp : aG) (a b p q seed : Int) (hl : gN l) (hbe : gN be) (hso : gN so) (hps : ps.length ≤ 1000000) (hsd : inI seed)
  {F' : Fence} {n' : Nat} {w0 : World} {m0 : Mem} (hG : aK.OK ⟨Tryz.prog, F', n', w0, m0, Tryz.f3.ntmps⟩) : SPB ⟨Tryz.prog, F', n', w0, m0, Tryz.f3.ntmps⟩ ⟨[(20, ay so), (19, ay be), (18, .loc 18 0), (17, ay l), (16, aB ps), (15, .loc 15 0), (12, .loc 12 0), (11, .loc 11 0), (10, .loc 10 0), (6, .int .i64 seed)], [(18, ar a b), (15, aJ s), (12, ar p q), (11, aI pp), (10, aJ odd)]⟩ (match Tryz.f3.body with | some c => ey (ey (ey (ey (ey (ey (ey (c))))))) | none => .skip) (Go.AI.Ends kO Tryz.f3.results.toList (.bool true)) := by
 rcases ps with _ | ⟨p0, ps0⟩
 ·refine Q1 ?_
  refine Q4 hG aa aF ?_
  conv => whnf
  refine Or.inl ?_
  conv => whnf
  refine And.intro (show _ * 48 ≤ 70368744177664 by simp) (And.intro (show _ + _ ≤ 4611686018427387904 by simp) ?_)
  refine Q1 ?_
  refine SPB.cut (X := Unit) (fun _ => ⟨[(22, .sl (.id 77) 6 []), (20, ay so), (19, ay be), (18, .loc 18 0), (17, ay l), (16, aB []), (15, .loc 15 0), (12, .loc 12 0), (11, .loc 11 0), (10, .loc 10 0), (6, .int .i64 seed)], [(18, ar a b), (15, aJ s), (12, ar p q), (11, aI pp), (10, aJ odd)]⟩) (fun _ => True) ?_ (fun _ _ => SPB.demT 77 (SPB.le (ag ?_ ?_) (vO s odd l be so [] [] pp a b p q hl hbe hso hps (by simp) hG)))
  ·repeat' first|refine Q1 ?_|refine Q2 ?_|refine Q3 hG aa aF ?_|refine Q4 hG aa aF ?_|refine Q5 hG aa ?_|refine Q6 hG aa ?_|refine Q7 hG aa ?_|refine Q8 hG aa ?_|refine Q9 rfl ?_|refine QF rfl ?_|refine QC rfl ⟨fun h => ?_,fun h => ?_⟩|((conv => whnf); first|refine anF ?_|refine anT ?_|refine anK ?_|refine And.intro (fun h => ?_) (fun h => ?_)|refine Or.inl ?_)
   refine Exists.intro () (And.intro trivial (ag ?_ ?_))
   ·repeat' (first | exact trivial | refine And.intro rfl ?_)
   ·repeat' (first | exact trivial | refine And.intro rfl ?_)
  ·repeat' (first | exact trivial | refine And.intro rfl ?_)
  ·repeat' (first | exact trivial | refine And.intro rfl ?_)
 ·have hL0 : 0 < ((p0 :: ps0).map aI).length := by simp
  have hL1 : ((p0 :: ps0).map aI).length = (p0 :: ps0).length := by rw [List.length_map]
  have kwh := lJ seed (((p0 :: ps0).map aI).length : Int) (by omega)
  have pwh := aM hsd (n := (((p0 :: ps0).map aI).length : Int)) (by omega)
  have hidx : ((p0 :: ps0).map aI)[(al seed (((p0 :: ps0).map aI).length : Int)).toNat]? = some (aI (aO (p0 :: ps0) (al seed (((p0 :: ps0).map aI).length : Int)).toNat)) := by
   have h := j6 (l := p0 :: ps0) (i := (al seed (((p0 :: ps0).map aI).length : Int)).toNat) (by omega)
   rw [Int.toNat_natCast] at h; exact h
  refine Q1 ?_
  refine Q4 hG aa aF ?_
  conv => whnf
  refine Or.inr (And.intro rfl ?_)
  conv => whnf
  refine And.intro hL0 (And.intro (show _ * 48 ≤ 70368744177664 by simp at hps ⊢; omega) (And.intro (show _ ≤ 4611686018427387904 by simp at hps ⊢; omega) ?_))
  generalize hLL : p0 :: ps0 = ps at *
  refine Q1 ?_
  refine SPB.cut (X := List aG) (fun B => ⟨[(22, .me .sl 77 (ps.map aI).length []), (xk 77, .me .arr 77 6 (B.map aI)), (20, ay so), (19, ay be), (18, .loc 18 0), (17, ay l), (16, aB ps), (15, .loc 15 0), (12, .loc 12 0), (11, .loc 11 0), (10, .loc 10 0), (6, .int .i64 seed)], [(18, ar a b), (15, aJ s), (12, ar p q), (11, aI pp), (10, aJ odd)]⟩) (fun B => B.length ≤ 1000000) ?_ (fun B hB => ?_)
  ·repeat' first|refine Q1 ?_|refine Q2 ?_|refine Q3 hG aa aF ?_|refine Q4 hG aa aF ?_|refine Q5 hG aa ?_|refine Q6 hG aa ?_|refine Q7 hG aa ?_|refine Q8 hG aa ?_|refine Q9 rfl ?_|refine QF rfl ?_|refine QC rfl ⟨fun h => ?_,fun h => ?_⟩|((conv => whnf); first|refine anF ?_|refine anT ?_|refine anK ?_|refine And.intro pwh.1 (And.intro pwh.2 ?_)|refine Exists.intro _ (And.intro hidx ?_)|refine Exists.intro _ (And.intro (kwh) ?_)|refine And.intro (fun h => ?_) (fun h => ?_)|refine Or.inl ?_)
   ·refine Exists.intro (bQ ps (al seed ((ps.map aI).length : Int)).toNat pp) (And.intro (show _ ≤ _ by rw [de]; omega) (ag ?_ ?_))
    ·refine And.intro rfl (And.intro (congrArg (fun z => some (AV.me .arr 77 6 z)) (ox aI _ _ _)) ?_)
     repeat' (first | exact trivial | refine And.intro rfl ?_)
    ·repeat' (first | exact trivial | refine And.intro rfl ?_)
   ·refine Exists.intro ps (And.intro (show _ ≤ _ by omega) (ag ?_ ?_))
    ·repeat' (first | exact trivial | refine And.intro rfl ?_)
    ·repeat' (first | exact trivial | refine And.intro rfl ?_)
  ·refine SPB.frz [.tmp 22] ?_
   conv => whnf
   refine SPB.le (ag ?_ ?_) (vO s odd l be so ps B pp a b p q hl hbe hso hps hB hG)
   ·repeat' (first | exact trivial | refine And.intro rfl ?_)
   ·repeat' (first | exact trivial | refine And.intro rfl ?_)
set_option maxHeartbeats 8000000 in
theorem vP (s odd : Nat → Int) (l be raw : List Opt) (ps : List aG) (pp : aG) (a b p q seed : Int) (hl : gN l) (hbe : gN be) (hps : ps.length ≤ 1000000) (hsd : inI seed)
  {F' : Fence} {n' : Nat} {w0 : World} {m0 : Mem} (hG : aK.OK ⟨Tryz.prog, F', n', w0, m0, Tryz.f3.ntmps⟩) : SPB ⟨Tryz.prog, F', n', w0, m0, Tryz.f3.ntmps⟩ ⟨[(19, ay be), (18, .loc 18 0), (17, ay l), (16, aB ps), (15, .loc 15 0), (12, .loc 12 0), (11, .loc 11 0), (10, .loc 10 0), (6, .int .i64 seed), (2, ay raw)], [(18, ar a b), (15, aJ s), (12, ar p q), (11, aI pp), (10, aJ odd)]⟩ (match Tryz.f3.body with | some c => ey (ey (ey (ey (ey (c))))) | none => .skip) (Go.AI.Ends kO Tryz.f3.results.toList (.bool true)) := by
 have hlm : ((raw.map aD).length : Int) = (raw.length : Int) := by rw [List.length_map]
 refine Q1 ?_
 refine Q4 hG aa aF ?_
 conv => whnf
 refine Q1 ?_
 refine SPB.cut (X := Nat) (fun i => ⟨[(20, .sl (.id 20) 9 (((raw.take i).map kg).map aD)), (19, ay be), (18, .loc 18 0), (17, ay l), (16, aB ps), (15, .loc 15 0), (12, .loc 12 0), (11, .loc 11 0), (10, .loc 10 0), (6, .int .i64 seed)], [(18, ar a b), (15, aJ s), (12, ar p q), (11, aI pp), (10, aJ odd)]⟩) (fun i => i ≤ 10) ?_ (fun i hi => SPB.demT 20 (SPB.le (ag ?_ ?_) (Cg s odd l be _ ps pp a b p q seed hl hbe (DL raw hi) hps hsd hG)))
 ·repeat' first|refine Q1 ?_|refine Q2 ?_|refine Q3 hG aa aF ?_|refine Q4 hG aa aF ?_|refine Q5 hG aa ?_|refine Q6 hG aa ?_|refine Q7 hG aa ?_|refine Q8 hG aa ?_|refine Q9 rfl ?_|refine QF rfl ?_|refine QC rfl ⟨fun h => ?_,fun h => ?_⟩|((conv => whnf); first|refine anF ?_|refine anT ?_|refine anK ?_|refine And.intro (fun h => ?_) (fun h => ?_)|refine Or.inl ?_)
  refine ap (X := Nat) (fun i => ⟨[(21, .int .i64 i), (20, .sl (.id 20) 9 (((raw.take i).map kg).map aD)), (19, ay be), (18, .loc 18 0), (17, ay l), (16, aB ps), (15, .loc 15 0), (12, .loc 12 0), (11, .loc 11 0), (10, .loc 10 0), (6, .int .i64 seed), (2, ay raw)], [(18, ar a b), (15, aJ s), (12, ar p q), (11, aI pp), (10, aJ odd)]⟩) (fun i => i ≤ raw.length ∧ i ≤ 10) (fun i => raw.length - i) 0 ⟨Nat.zero_le _, Nat.zero_le _⟩ (ag ?_ ?_) (fun i hi => ?_)
  ·repeat' (first | exact trivial | refine And.intro rfl ?_)
  ·repeat' (first | exact trivial | refine And.intro rfl ?_)
  ·obtain ⟨hi, h6⟩ := hi
   by_cases hlt_i : i < raw.length
   ·by_cases h5 : i < 10
    ·have b1 : decide ((i : Int) < ((raw.map aD).length : Int)) = false → False := fun h => by have := of_decide_eq_false h; omega
     have b2 : decide ((i : Int) < 10) = false → False := fun h => by have := of_decide_eq_false h; omega
     have hx := c8 hlt_i
     have cf := vS (au raw i)
     have hon : (raw.take (i + 1)).map kg = (raw.take i).map kg ++ [kg (au raw i)] := by rw [show raw.take (i + 1) = raw.take i ++ [au raw i] from bM oB hlt_i, List.map_append]; rfl
     generalize au raw i = u at *
     repeat' first|exact (b1 (by assumption)).elim|exact (b2 (by assumption)).elim|refine Q1 ?_|refine Q2 ?_|refine Q3 hG aa aF ?_|refine Q4 hG aa aF ?_|refine Q5 hG aa ?_|refine Q6 hG aa ?_|refine Q7 hG aa ?_|refine Q8 hG aa ?_|refine Q9 rfl ?_|refine QF rfl ?_|refine QC rfl ⟨fun h => ?_,fun h => ?_⟩|((conv => whnf); first|refine anF ?_|refine anT ?_|refine anK ?_|refine And.intro (Int.natCast_nonneg i) (Exists.intro _ (And.intro hx ?_))|refine Exists.intro _ (And.intro (cf) ?_)|refine And.intro (show ((((raw.take i).map kg).map aD).length + 1) * 88 ≤ 70368744177664 by simp only [List.length_map, List.length_take]; omega) (And.intro (show (((raw.take i).map kg).map aD).length + 1 ≤ 4611686018427387904 by simp only [List.length_map, List.length_take]; omega) ?_)|refine And.intro (fun h => ?_) (fun h => ?_)|refine Or.inl ?_)
     conv => whnf
     refine Exists.intro (i + 1) (And.intro ⟨hlt_i, h5⟩ (And.intro (by show raw.length - (i + 1) < raw.length - i; omega) (ag ?_ ?_)))
     ·refine And.intro (congrArg some (am (by omega))) (And.intro (congrArg (fun z => some (AV.sl (.id 20) 9 z)) ?_) ?_)
      ·rw [hon, List.map_append]; rfl
      ·repeat' (first | exact trivial | refine And.intro rfl ?_)
     ·repeat' (first | exact trivial | refine And.intro rfl ?_)
    ·have b1 : decide ((i : Int) < ((raw.map aD).length : Int)) = false → False := fun h => by have := of_decide_eq_false h; omega
     have b2 : decide ((i : Int) < 10) = true → False := fun h => by have := of_decide_eq_true h; omega
     repeat' first|exact (b1 (by assumption)).elim|exact (b2 (by assumption)).elim|refine Q1 ?_|refine Q2 ?_|refine Q3 hG aa aF ?_|refine Q4 hG aa aF ?_|refine Q5 hG aa ?_|refine Q6 hG aa ?_|refine Q7 hG aa ?_|refine Q8 hG aa ?_|refine Q9 rfl ?_|refine QF rfl ?_|refine QC rfl ⟨fun h => ?_,fun h => ?_⟩|((conv => whnf); first|refine anF ?_|refine anT ?_|refine anK ?_|refine And.intro (fun h => ?_) (fun h => ?_)|refine Or.inl ?_)
     refine Exists.intro i (And.intro h6 (ag ?_ ?_))
     ·repeat' (first | exact trivial | refine And.intro rfl ?_)
     ·repeat' (first | exact trivial | refine And.intro rfl ?_)
   ·have b1 : decide ((i : Int) < ((raw.map aD).length : Int)) = true → False := fun h => by have := of_decide_eq_true h; omega
    repeat' first|exact (b1 (by assumption)).elim|refine Q1 ?_|refine Q2 ?_|refine Q3 hG aa aF ?_|refine Q4 hG aa aF ?_|refine Q5 hG aa ?_|refine Q6 hG aa ?_|refine Q7 hG aa ?_|refine Q8 hG aa ?_|refine Q9 rfl ?_|refine QF rfl ?_|refine QC rfl ⟨fun h => ?_,fun h => ?_⟩|((conv => whnf); first|refine anF ?_|refine anT ?_|refine anK ?_|refine And.intro (fun h => ?_) (fun h => ?_)|refine Or.inl ?_)
    refine Exists.intro i (And.intro h6 (ag ?_ ?_))
    ·repeat' (first | exact trivial | refine And.intro rfl ?_)
    ·repeat' (first | exact trivial | refine And.intro rfl ?_)
 ·repeat' (first | exact trivial | refine And.intro rfl ?_)
 ·repeat' (first | exact trivial | refine And.intro rfl ?_)
end Go.Proofs
namespace Go.Proofs
open Go Go.AI
set_option maxRecDepth 10000
theorem gN.set {l : List Opt} (h : gN l) (n : Nat) (o : Opt) : gN (bQ l n (kg o)) := by
 refine ⟨by rw [de]; exact h.1, fun x hx => ?_⟩
 have : ∀ (l : List Opt) (n : Nat), x ∈ bQ l n (kg o) → x ∈ l ∨ x = kg o := by
  intro l
  induction l with
  | nil => intro n h; exact .inl h
  | cons y r ih =>
   intro n h
   cases n with
   | zero =>
    rcases List.mem_cons.1 h with h | h
    ·exact .inr h
    ·exact .inl (List.mem_cons_of_mem _ h)
   | succ n =>
    rcases List.mem_cons.1 h with h | h
    ·exact .inl (h ▸ List.mem_cons_self)
    ·rcases ih n h with h | h
     ·exact .inl (List.mem_cons_of_mem _ h)
     ·exact .inr h
 rcases this l n hx with h2 | rfl
 ·exact h.2 x h2
 ·simp only [kg, List.length_take]; omega
set_option maxHeartbeats 8000000 in
theorem DS (c : bR) (o1 : Opt) (s odd : Nat → Int) (l raw : List Opt) (ps : List aG) (pp : aG) (a b p q seed : Int) (hl : gN l) (hps : ps.length ≤ 1000000) (hsd : inI seed)
  (k18 : ae Tryz.prog 18 [.agg (vv c)] (.tup [.agg (aJ s), aB ps, ay l, .agg (ar a b)])) :
  ae Tryz.prog 3 [.agg (vv c), .agg (aD o1), ay raw, .agg (aJ odd), .agg (aI pp), .agg (ar p q), .int .i64 seed] (.bool true) := by
 have cf := vS o1
 refine ah aa Tryz.func3 rfl (by kernel_rfl) af (Nat.le_of_ble_eq_true rfl) ?_
 intro F n' w0 m0 hG hro h1
 repeat' first|refine Q1 ?_|refine Q2 ?_|refine Q3 hG aa aF ?_|refine Q4 hG aa aF ?_|refine Q5 hG aa ?_|refine Q6 hG aa ?_|refine Q7 hG aa ?_|refine Q8 hG aa ?_|refine Q9 rfl ?_|refine QF rfl ?_|refine QC rfl ⟨fun h => ?_,fun h => ?_⟩|((conv => whnf); first|refine anF ?_|refine anT ?_|refine anK ?_|refine And.intro (fun h => ?_) (fun h => ?_)|refine Or.inl ?_)
 conv => whnf
 refine Exists.intro _ (And.intro (vG) ?_)
 repeat' first|refine Q1 ?_|refine Q2 ?_|refine Q3 hG aa aF ?_|refine Q4 hG aa aF ?_|refine Q5 hG aa ?_|refine Q6 hG aa ?_|refine Q7 hG aa ?_|refine Q8 hG aa ?_|refine Q9 rfl ?_|refine QF rfl ?_|refine QC rfl ⟨fun h => ?_,fun h => ?_⟩|((conv => whnf); first|refine anF ?_|refine anT ?_|refine anK ?_|refine And.intro (fun h => ?_) (fun h => ?_)|refine Or.inl ?_)
 conv => whnf
 refine Exists.intro _ (And.intro (k18) ?_)
 rcases l with _ | ⟨x0, l0⟩
 ·refine Q1 ?_
  refine Q4 hG aa aF ?_
  conv => whnf
  refine Or.inl ?_
  conv => whnf
  refine And.intro (show _ * 88 ≤ 70368744177664 by simp) (And.intro (show _ + _ ≤ 4611686018427387904 by simp) ?_)
  refine Q1 ?_
  refine SPB.cut (X := Unit) (fun _ => ⟨[(19, .sl (.id 45) 9 []), (18, .loc 18 0), (17, ay []), (16, aB ps), (15, .loc 15 0), (12, .loc 12 0), (11, .loc 11 0), (10, .loc 10 0), (6, .int .i64 seed), (2, ay raw)], [(18, ar a b), (15, aJ s), (12, ar p q), (11, aI pp), (10, aJ odd)]⟩) (fun _ => True) ?_ (fun _ _ => SPB.demT 45 (SPB.le (ag ?_ ?_) (vP s odd [] [] raw ps pp a b p q seed hl hl hps hsd hG)))
  ·repeat' first|refine Q1 ?_|refine Q2 ?_|refine Q3 hG aa aF ?_|refine Q4 hG aa aF ?_|refine Q5 hG aa ?_|refine Q6 hG aa ?_|refine Q7 hG aa ?_|refine Q8 hG aa ?_|refine Q9 rfl ?_|refine QF rfl ?_|refine QC rfl ⟨fun h => ?_,fun h => ?_⟩|((conv => whnf); first|refine anF ?_|refine anT ?_|refine anK ?_|refine And.intro (fun h => ?_) (fun h => ?_)|refine Or.inl ?_)
   refine Exists.intro () (And.intro trivial (ag ?_ ?_))
   ·repeat' (first | exact trivial | refine And.intro rfl ?_)
   ·repeat' (first | exact trivial | refine And.intro rfl ?_)
  ·repeat' (first | exact trivial | refine And.intro rfl ?_)
  ·repeat' (first | exact trivial | refine And.intro rfl ?_)
 ·have hL0 : 0 < ((x0 :: l0).map aD).length := by simp
  have hL1 : ((x0 :: l0).map aD).length = (x0 :: l0).length := by rw [List.length_map]
  have hl1 := hl.1
  have kwh := lJ seed (((x0 :: l0).map aD).length : Int) (by omega)
  have pwh := aM hsd (n := (((x0 :: l0).map aD).length : Int)) (by omega)
  have hidx : ((x0 :: l0).map aD)[(al seed (((x0 :: l0).map aD).length : Int)).toNat]? = some (aD (au (x0 :: l0) (al seed (((x0 :: l0).map aD).length : Int)).toNat)) := by
   have h := c8 (l := x0 :: l0) (i := (al seed (((x0 :: l0).map aD).length : Int)).toNat) (by omega)
   rw [Int.toNat_natCast] at h; exact h
  refine Q1 ?_
  refine Q4 hG aa aF ?_
  conv => whnf
  refine Or.inr (And.intro rfl ?_)
  conv => whnf
  refine And.intro hL0 (And.intro (show _ * 88 ≤ 70368744177664 by simp at hl1 ⊢; omega) (And.intro (show _ ≤ 4611686018427387904 by simp at hl1 ⊢; omega) ?_))
  generalize hLL : x0 :: l0 = l at *
  refine Q1 ?_
  refine SPB.cut (X := List Opt) (fun B => ⟨[(19, .me .sl 45 (l.map aD).length []), (xk 45, .me .arr 45 9 (B.map aD)), (18, .loc 18 0), (17, ay l), (16, aB ps), (15, .loc 15 0), (12, .loc 12 0), (11, .loc 11 0), (10, .loc 10 0), (6, .int .i64 seed), (2, ay raw)], [(18, ar a b), (15, aJ s), (12, ar p q), (11, aI pp), (10, aJ odd)]⟩) (fun B => gN B) ?_ (fun B hB => ?_)
  ·repeat' first|refine Q1 ?_|refine Q2 ?_|refine Q3 hG aa aF ?_|refine Q4 hG aa aF ?_|refine Q5 hG aa ?_|refine Q6 hG aa ?_|refine Q7 hG aa ?_|refine Q8 hG aa ?_|refine Q9 rfl ?_|refine QF rfl ?_|refine QC rfl ⟨fun h => ?_,fun h => ?_⟩|((conv => whnf); first|refine anF ?_|refine anT ?_|refine anK ?_|refine And.intro pwh.1 (And.intro pwh.2 ?_)|refine Exists.intro _ (And.intro hidx ?_)|refine Exists.intro _ (And.intro (kwh) ?_)|refine Exists.intro _ (And.intro (cf) ?_)|refine And.intro (fun h => ?_) (fun h => ?_)|refine Or.inl ?_)
   ·refine Exists.intro (bQ l (al seed ((l.map aD).length : Int)).toNat (kg o1)) (And.intro (hl.set _ _) (ag ?_ ?_))
    ·refine And.intro rfl (And.intro (congrArg (fun z => some (AV.me .arr 45 9 z)) (ox aD _ _ _)) ?_)
     repeat' (first | exact trivial | refine And.intro rfl ?_)
    ·repeat' (first | exact trivial | refine And.intro rfl ?_)
   ·refine Exists.intro l (And.intro hl (ag ?_ ?_))
    ·repeat' (first | exact trivial | refine And.intro rfl ?_)
    ·repeat' (first | exact trivial | refine And.intro rfl ?_)
  ·refine SPB.frz [.tmp 19] ?_
   conv => whnf
   refine SPB.le (ag ?_ ?_) (vP s odd l B raw ps pp a b p q seed hl hB hps hsd hG)
   ·repeat' (first | exact trivial | refine And.intro rfl ?_)
   ·repeat' (first | exact trivial | refine And.intro rfl ?_)
theorem bR.few (c : bR) : gN c.l := by
 obtain ⟨⟨h1, _⟩, _⟩ := y6 c
 refine ⟨by omega, fun o ho => ?_⟩
 have := (wk.of c.valid).good.shot o ho
 omega
theorem Fc (c : bR) (o1 : Opt) (odd : Nat → Int) (raw : List Opt) (pp : aG) (p q seed : Int) (hsd : inI seed) :
  ae Tryz.prog 3 [.agg (vv c), .agg (aD o1), ay raw, .agg (aJ odd), .agg (aI pp), .agg (ar p q), .int .i64 seed] (.bool true) :=
 DS c o1 c.s odd c.l raw c.ps pp c.a c.b p q seed c.few (by have := c.passes.2.1; omega) hsd (Ah c)
end Go.Proofs
namespace Go.Proofs
open Go Go.AI Go.Proofs.YtehdegggapeihaaGreat
set_option maxRecDepth 100000
theorem Ce : ownKnob Tryz.prog.godebug = none := by kernel_rfl
theorem t6 : laidOutB Tryz.prog = true := by kernel_rfl
def uQ : List Sh := [.int .i64, .int .i64, .int .i64, .int .i64, .int .i64, .int .i64, .int .i64, .int .i64, .sl [.int .i64, .int .i64, .int .i64]]
def D1 : List Sh := [.int .i64, .int .i64, .int .i64, .int .i64, .int .i64, .int .i64, .int .i64, .int .i64, .int .i64, .int .i64, .int .i64, .int .i64, .int .i64, .int .i64, .int .i64, .int .i64, .int .i64, .int .i64, .int .i64, .int .i64, .int .i64]
def Bi : List Sh := [.int .i64, .int .i64, .int .i64, .int .i64, .int .i64, .int .i64]
def xN : List Sh := [.int .i64, .int .i64]
theorem vK : (Tryz.prog.readableRec 3 && Nat.blt 3 Tryz.prog.types.size) = true := by kernel_rfl
theorem tW : (Tryz.prog.readableRec 27 && Nat.blt 27 Tryz.prog.types.size) = true := by kernel_rfl
theorem tV : (Tryz.prog.readableRec 29 && Nat.blt 29 Tryz.prog.types.size) = true := by kernel_rfl
theorem tU : (Tryz.prog.readableRec 32 && Nat.blt 32 Tryz.prog.types.size) = true := by kernel_rfl
theorem tT : (Tryz.prog.readableRec 33 && Nat.blt 33 Tryz.prog.types.size) = true := by kernel_rfl
theorem tS : (Tryz.prog.readableRec 37 && Nat.blt 37 Tryz.prog.types.size) = true := by kernel_rfl
theorem tR : (Tryz.prog.readableRec 39 && Nat.blt 39 Tryz.prog.types.size) = true := by kernel_rfl
def BU : List Sh := [.int .i64, .int .i64, .int .i64, .int .i64, .int .i64, .int .i64, .int .i64, .int .i64, .int .i64, .int .i64, .int .i64, .sl [.int .i64, .int .i64, .int .i64], .sl [.int .i64, .int .i64, .int .i64, .int .i64, .int .i64], .int .i64]
def Bw : List (Bool × List Sh) := [(true, BU), (true, uQ), (false, [.sl uQ]), (true, D1), (true, Bi), (true, xN), (false, [.int .i64])]
theorem B8 : je Tryz.prog 8 [27, 32, 33, 37, 39, 29, 3] = some Bw := by kernel_rfl
theorem vQ (law : ∀ avs, iP 8 Bw avs → ae Tryz.prog 3 avs (.bool true)) (os : Os) (started : os.Started) (H : Type) (enc : TypeId × Value → H) :
  ReturnsInHanded {} Tryz.checked os 3 .any (Rows.trackMatchesReferenceSpec.pre6 enc Tryz.prog Tryz.f3 Rows.trackMatchesReferenceRow.domain false) (Rows.trackMatchesReferenceSpec.post enc Tryz.prog Tryz.f3 false true false false) :=
 wU (C := Tryz.checked) (tb := 4) Ce started (by kernel_rfl) Tryz.func3
  (ChangeSpec.witness6 (enc := enc) (C := Tryz.checked) false ⟨#[], #[.agg #[.int .i64 0, .int .i64 0, .int .i64 0, .int .i64 0, .int .i64 0, .int .i64 0, .int .i64 0, .int .i64 0, .int .i64 0, .int .i64 0, .int .i64 0, .slice none 0 0, .slice none 0 0, .int .i64 0], .agg #[.int .i64 0, .int .i64 0, .int .i64 0, .int .i64 0, .int .i64 0, .int .i64 0, .int .i64 0, .int .i64 0, .slice none 0 0], .slice none 0 0, .agg #[.int .i64 0, .int .i64 0, .int .i64 0, .int .i64 0, .int .i64 0, .int .i64 0, .int .i64 0, .int .i64 0, .int .i64 0, .int .i64 0, .int .i64 0, .int .i64 0, .int .i64 0, .int .i64 0, .int .i64 0, .int .i64 0, .int .i64 0, .int .i64 0, .int .i64 0, .int .i64 0, .int .i64 0], .agg #[.int .i64 0, .int .i64 0, .int .i64 0, .int .i64 0, .int .i64 0, .int .i64 0], .agg #[.int .i64 0, .int .i64 0], .int .i64 0], []⟩ 8 (by kernel_rfl) (by kernel_rfl) (by kernel_rfl) (by kernel_rfl))
  rfl (by kernel_rfl) (by kernel_rfl) (fun ds h => by
   match ds, h with
   | [d0, d1, d2, d3, d4, d5, d6], _ => rfl) B8 t6 (fun t ht => by
   have e : Tryz.f3.params.toList = [27, 32, 33, 37, 39, 29, 3] := by kernel_rfl
   rw [e] at ht
   simp only [List.mem_cons, List.not_mem_nil, or_false] at ht
   have h3 := vK
   have h27 := tW
   have h29 := tV
   have h32 := tU
   have h33 := tT
   have h37 := tS
   have h39 := tR
   simp only [Bool.and_eq_true] at h3 h27 h29 h32 h33 h37 h39
   rcases ht with h | h | h | h | h | h | h <;> subst h <;> first | exact ⟨h3.1, Nat.le_of_ble_eq_true h3.2⟩ | exact ⟨h27.1, Nat.le_of_ble_eq_true h27.2⟩ | exact ⟨h29.1, Nat.le_of_ble_eq_true h29.2⟩ | exact ⟨h32.1, Nat.le_of_ble_eq_true h32.2⟩ | exact ⟨h33.1, Nat.le_of_ble_eq_true h33.2⟩ | exact ⟨h37.1, Nat.le_of_ble_eq_true h37.2⟩ | exact ⟨h39.1, Nat.le_of_ble_eq_true h39.2⟩) law
theorem Cr : (Rows.trackMatchesReferenceRow.wf (OpenSpec.ofChange Rows.trackMatchesReferenceSpec) : Bool) = true := by kernel_rfl
theorem Cq : (laidOutB Tryz.pinned.checked.prog : Bool) = true := by kernel_rfl
theorem Cp : (mapsRowed Tryz.pinned.checked.prog : Bool) = true := by kernel_rfl
theorem Co : (Tryz.f3.params.all (Tryz.pinned.checked.prog.readableRec ·) : Bool) = true := by kernel_rfl
theorem Cn : (namedTie Tryz.pinned.checked.prog Rows.trackMatchesReferenceRow.named Rows.trackMatchesReferenceSpec.vars : Bool) = true := by kernel_rfl
theorem Cm : ((Rows.trackMatchesReferenceRow.stops == []) : Bool) = true := by kernel_rfl
theorem Cl : ((Tryz.pinned.checked.prog.stops == []) : Bool) = true := by kernel_rfl
theorem Ck : ((Rows.trackMatchesReferenceRow.knobs == []) : Bool) = true := by kernel_rfl
theorem Cj : ((Tryz.pinned.checked.prog.stopKnobs == []) : Bool) = true := by kernel_rfl
theorem Ci : ((Rows.trackMatchesReferenceRow.inPlace == Tryz.pinned.checked.prog.inPlace 3) : Bool) = true := by kernel_rfl
theorem AD : ((Rows.trackMatchesReferenceRow.unfollowed == Tryz.pinned.checked.prog.unfollowed 3) : Bool) = true := by kernel_rfl
theorem AC : ((Rows.trackMatchesReferenceRow.recurses == Tryz.pinned.checked.prog.recurses 3) : Bool) = true := by kernel_rfl
theorem AB : ((Rows.trackMatchesReferenceRow.named == Tryz.pinned.checked.prog.varsNamed 3) : Bool) = true := by kernel_rfl
theorem AA : ((Rows.trackMatchesReferenceRow.maps == (Tryz.f3.params.toList ++ Rows.trackMatchesReferenceSpec.plain.varTypes Tryz.pinned.checked.prog).any (Tryz.pinned.checked.prog.mapsRec ·)) : Bool) = true := by kernel_rfl
theorem Az : ((Rows.trackMatchesReferenceRow.ifaces == (Tryz.f3.params.toList ++ Rows.trackMatchesReferenceSpec.plain.varTypes Tryz.pinned.checked.prog).any (Tryz.pinned.checked.prog.ifacesRec ·)) : Bool) = true := by kernel_rfl
theorem Ay : ((Rows.trackMatchesReferenceRow.mapsOut == Tryz.pinned.checked.prog.mapsAmong Tryz.f3.resultTypes.toList) : Bool) = true := by kernel_rfl
theorem Ax : ((Rows.trackMatchesReferenceRow.loops == (Tryz.f3.params.toList ++ Rows.trackMatchesReferenceSpec.plain.varTypes Tryz.pinned.checked.prog).any (Tryz.pinned.checked.prog.loopsFrom ·)) : Bool) = true := by kernel_rfl
theorem Aw : ((Rows.trackMatchesReferenceRow.wideKeys == (Tryz.f3.params.toList ++ Rows.trackMatchesReferenceSpec.plain.varTypes Tryz.pinned.checked.prog ++ Tryz.f3.resultTypes.toList).any (Tryz.pinned.checked.prog.wideKeysFrom ·)) : Bool) = true := by kernel_rfl
theorem Av : (Rows.trackMatchesReferenceSpec.vars.all (Tryz.pinned.checked.prog.varReadable ·) : Bool) = true := by kernel_rfl
theorem Au : (Tryz.f3.resultTypes.all (fun t => Tryz.pinned.checked.prog.readableRec t && decide (t < Tryz.pinned.checked.prog.types.size)) : Bool) = true := by kernel_rfl
theorem At : ((Rows.trackMatchesReferenceRow.ifacesOut == Tryz.f3.resultTypes.toList.any (Tryz.pinned.checked.prog.ifacesRec ·)) : Bool) = true := by kernel_rfl
theorem As : ((Rows.trackMatchesReferenceRow.loopsOut == Tryz.f3.resultTypes.toList.any (Tryz.pinned.checked.prog.loopsFrom ·)) : Bool) = true := by kernel_rfl
theorem Ar : ((Rows.trackMatchesReferenceRow.plainKeys == Tryz.pinned.checked.prog.plainKeys) : Bool) = true := by kernel_rfl
theorem Aq : (Rows.trackMatchesReferenceRow.shortTexts.isNone : Bool) = true := by kernel_rfl
theorem Ap : (Tryz.pinned.checked.prog.stopsHeard : Bool) = true := by kernel_rfl
theorem Ao : (Tryz.pinned.checked.prog.mayEnter : Bool) = true := by kernel_rfl
theorem An : ((Rows.trackMatchesReferenceRow.lifted == Tryz.pinned.checked.prog.liftsFinal) : Bool) = true := by kernel_rfl
theorem Am : ((Tryz.pinned.checked.prog.make == some Rows.trackMatchesReferenceRow.make) : Bool) = true := by kernel_rfl
theorem Al : ((Rows.trackMatchesReferenceRow.kinds == (if Rows.trackMatchesReferenceRow.domain.isEmpty then [] else Tryz.f3.params.toList.map fun t => match Tryz.pinned.checked.prog.underlying t with | some (.int k) => some k | _ => none)) : Bool) = true := by kernel_rfl
theorem Ak : ((Rows.trackMatchesReferenceRow.pinned == Rows.trackMatchesReferenceRow.pinnedBy) : Bool) = true := by kernel_rfl
theorem Aj : ((Rows.trackMatchesReferenceRow.veiled == (Tryz.f3.params.toList ++ Rows.trackMatchesReferenceSpec.plain.varTypes Tryz.pinned.checked.prog ++ Tryz.f3.resultTypes.toList).any (Tryz.pinned.checked.prog.veiledRec ·)) : Bool) = true := by kernel_rfl
theorem Ai : (Rows.trackMatchesReferenceRow.veiledFits Tryz.pinned.checked.prog Tryz.f3.params.toList (Tryz.f3.params.toList ++ Rows.trackMatchesReferenceSpec.plain.varTypes Tryz.pinned.checked.prog ++ Tryz.f3.resultTypes.toList) : Bool) = true := by kernel_rfl
theorem cn {a b : Bool} (h : a = true) (k : b = true) : (a && b) = true := by rw [h, k]; rfl
theorem DT : joinedFacts Tryz.pinned.checked.prog 3 Tryz.f3 Rows.trackMatchesReferenceSpec Rows.trackMatchesReferenceRow = true := by
 unfold joinedFacts
 exact cn (cn (cn (cn (cn (cn (cn (cn (cn (cn (cn (cn (cn (cn (cn (cn (cn (cn (cn (cn (cn (cn (cn (cn (cn (cn (cn (cn (cn (cn (cn (Cr) Cq) Cp) Co) Cn) Cm) Cl) Ck) Cj) Ci) AD) AC) AB) AA) Az) Ay) Ax) Aw) Av) Au) At) As) Ar) Aq) Ap) Ao) An) Am) Al) Ak) Aj) Ai
theorem Cb (law : ∀ avs, iP 8 Bw avs → ae Tryz.prog 3 avs (.bool true)) : Rows.TrackMatchesReferenceSaid :=
 OpenClaim.holds_of_wide (p := Tryz.pinned) (s := Rows.trackMatchesReferenceSpec) (c := Rows.trackMatchesReferenceRow) 3 Tryz.f3 rfl rfl rfl rfl rfl rfl rfl ⟨rfl, rfl, rfl, rfl, rfl⟩ rfl rfl rfl rfl rfl (by kernel_rfl) Tryz.func3 DT
  (of_decide_eq_true (by kernel_rfl)) (by unfold Func.isWrapper; first | (rw [if_pos (by decide +kernel)]; kernel_rfl) | (rw [if_neg (by decide +kernel)]; exact ⟨rfl, rfl⟩))
  (fun os started H enc _ => vQ law os started H enc)
theorem iC {n : Nat} {L : List Sh} {r : List (Bool × List Sh)} {avs : List AV} (h : iP n ((true, L) :: r) avs) : ∃ cs q, avs = .agg cs :: q ∧ Fa (dQ n) L cs ∧ iP n r q := by
 match avs, h with
 | _ :: q, h =>
  obtain ⟨⟨cs, rfl, h1⟩, h2⟩ := h
  exact ⟨cs, q, rfl, h1, h2⟩
 | [], h => exact h.elim
theorem yN {n : Nat} {r : List (Bool × List Sh)} {avs : List AV} (h : iP (n + 1) ((false, [.int .i64]) :: r) avs) : ∃ z q, avs = .int .i64 z :: q ∧ inI z ∧ iP (n + 1) r q := by
 match avs, h with
 | _ :: q, h =>
  obtain ⟨⟨s, e, h1⟩, h2⟩ := h
  cases e
  obtain ⟨z, rfl, hz⟩ := az h1
  exact ⟨z, q, rfl, hz, h2⟩
 | [], h => exact h.elim
theorem Bk {n : Nat} {e : List Sh} {r : List (Bool × List Sh)} {avs : List AV} (h : iP n ((false, [.sl e]) :: r) avs) : ∃ z q, avs = z :: q ∧ dQ n (.sl e) z ∧ iP n r q := by
 match avs, h with
 | _ :: q, h =>
  obtain ⟨⟨s, e, h1⟩, h2⟩ := h
  cases e
  exact ⟨_, q, rfl, h1, h2⟩
 | [], h => exact h.elim
theorem yM {n : Nat} {avs : List AV} (h : iP n [] avs) : avs = [] := by
 match avs, h with
 | [], _ => rfl
 | _ :: _, h => exact h.elim
theorem E1 {n : Nat} {a : AV} (h : dQ (n + 2) (.sl [.int .i64]) a) : ∃ z : List Int, (∀ x ∈ z, inI x) ∧ a = kX z := by
 obtain ⟨xs, rfl, h2⟩ := h
 suffices hs : ∀ l : List (List AV), (∀ x ∈ l, Fa (dQ (n + 1)) [.int .i64] x) → ∃ z : List Int, (∀ x ∈ z, inI x) ∧ l = z.map fun h => [AV.int .i64 h] by
  obtain ⟨z, g1, g2⟩ := hs xs h2
  exact ⟨z, g1, congrArg (AV.sl .no 1) g2⟩
 intro l
 induction l with
 | nil => exact fun _ => ⟨[], by simp, rfl⟩
 | cons y r ih =>
  intro h
  obtain ⟨z, g1, rfl⟩ := ih (fun x hx => h x (List.mem_cons_of_mem _ hx))
  obtain ⟨b, q, rfl, h0, h'⟩ := aj (h y List.mem_cons_self)
  obtain rfl := dE h'
  obtain ⟨w, rfl, hw⟩ := az h0
  exact ⟨w :: z, fun v hv => by rcases List.mem_cons.1 hv with rfl | hv; exact hw; exact g1 v hv, rfl⟩
theorem Be {n : Nat} {a : AV} (h : dQ (n + 2) (.sl [.int .i64, .int .i64, .int .i64, .int .i64, .int .i64]) a) : ∃ z : List R5, (∀ x ∈ z, u8 x) ∧ a = .sl .no 5 (z.map jA) := by
 obtain ⟨xs, rfl, h2⟩ := h
 suffices hs : ∀ l : List (List AV), (∀ x ∈ l, Fa (dQ (n + 1)) [.int .i64, .int .i64, .int .i64, .int .i64, .int .i64] x) → ∃ z : List R5, (∀ x ∈ z, u8 x) ∧ l = z.map jA by
  obtain ⟨z, g1, g2⟩ := hs xs h2
  exact ⟨z, g1, congrArg (AV.sl .no 5) g2⟩
 intro l
 induction l with
 | nil => exact fun _ => ⟨[], by simp, rfl⟩
 | cons y r ih =>
  intro h
  obtain ⟨z, g1, rfl⟩ := ih (fun x hx => h x (List.mem_cons_of_mem _ hx))
  obtain ⟨b0, q, rfl, h0, h'⟩ := aj (h y List.mem_cons_self)
  obtain ⟨b1, q, rfl, h1, h'⟩ := aj h'
  obtain ⟨b2, q, rfl, h2, h'⟩ := aj h'
  obtain ⟨b3, q, rfl, h3, h'⟩ := aj h'
  obtain ⟨b4, q, rfl, h4, h'⟩ := aj h'
  obtain rfl := dE h'
  obtain ⟨z0, rfl, i0⟩ := az h0
  obtain ⟨z1, rfl, i1⟩ := az h1
  obtain ⟨z2, rfl, i2⟩ := az h2
  obtain ⟨z3, rfl, i3⟩ := az h3
  obtain ⟨z4, rfl, i4⟩ := az h4
  exact ⟨⟨z0, z1, z2, z3, z4⟩ :: z, fun w hw => by rcases List.mem_cons.1 hw with rfl | hw; exact ⟨i0, i1, i2, i3, i4⟩; exact g1 w hw, rfl⟩
theorem vc {l : List Int} (h : ∀ y ∈ l, inI y) (i : Nat) : inI (l.getD i 0) := by
 rw [List.getD_eq_getElem?_getD]
 cases hi : l[i]? with
 | none => show inI 0; unfold inI; omega
 | some y => exact h y (List.mem_of_getElem? hi)
theorem DO {n : Nat} {cs : List AV} (h : Fa (dQ (n + 2)) BU cs) : ∃ c : bR, cs = vv c := by
 obtain ⟨b0, q, rfl, h0, h⟩ := aj h
 obtain ⟨b1, q, rfl, h1, h⟩ := aj h
 obtain ⟨b2, q, rfl, h2, h⟩ := aj h
 obtain ⟨b3, q, rfl, h3, h⟩ := aj h
 obtain ⟨b4, q, rfl, h4, h⟩ := aj h
 obtain ⟨b5, q, rfl, h5, h⟩ := aj h
 obtain ⟨b6, q, rfl, h6, h⟩ := aj h
 obtain ⟨b7, q, rfl, h7, h⟩ := aj h
 obtain ⟨b8, q, rfl, h8, h⟩ := aj h
 obtain ⟨b9, q, rfl, h9, h⟩ := aj h
 obtain ⟨b10, q, rfl, h10, h⟩ := aj h
 obtain ⟨b11, q, rfl, h11, h⟩ := aj h
 obtain ⟨b12, q, rfl, h12, h⟩ := aj h
 obtain ⟨b13, q, rfl, h13, h⟩ := aj h
 obtain rfl := dE h
 obtain ⟨z0, rfl, i0⟩ := az h0
 obtain ⟨z1, rfl, i1⟩ := az h1
 obtain ⟨z2, rfl, i2⟩ := az h2
 obtain ⟨z3, rfl, i3⟩ := az h3
 obtain ⟨z4, rfl, i4⟩ := az h4
 obtain ⟨z5, rfl, i5⟩ := az h5
 obtain ⟨z6, rfl, i6⟩ := az h6
 obtain ⟨z7, rfl, i7⟩ := az h7
 obtain ⟨z8, rfl, i8⟩ := az h8
 obtain ⟨z9, rfl, i9⟩ := az h9
 obtain ⟨z10, rfl, i10⟩ := az h10
 obtain ⟨z, hz, rfl⟩ := Do h11
 obtain ⟨v, hv, rfl⟩ := Be h12
 obtain ⟨f, rfl, hf⟩ := az h13
 exact ⟨⟨fun i => [z0, z1, z2, z3, z4, z5, z6].getD i 0, fun i => [z7, z8, z9, z10].getD i 0, z, v, f, vc (by simp [*]), vc (by simp [*]), hz, hv, hf⟩, rfl⟩
theorem A3 {n : Nat} {a : AV} (h : dQ (n + 2) (.sl [.int .i64, .int .i64, .int .i64]) a) : ∃ z : List bl, a = td z := by
 obtain ⟨xs, rfl, h2⟩ := h
 suffices hs : ∀ l : List (List AV), (∀ x ∈ l, Fa (dQ (n + 1)) [.int .i64, .int .i64, .int .i64] x) → ∃ z : List bl, l = z.map aL by
  obtain ⟨z, g2⟩ := hs xs h2
  exact ⟨z, congrArg (AV.sl .no 3) g2⟩
 intro l
 induction l with
 | nil => exact fun _ => ⟨[], rfl⟩
 | cons y r ih =>
  intro h
  obtain ⟨z, rfl⟩ := ih (fun x hx => h x (List.mem_cons_of_mem _ hx))
  obtain ⟨b0, q, rfl, h0, h'⟩ := aj (h y List.mem_cons_self)
  obtain ⟨b1, q, rfl, h1, h'⟩ := aj h'
  obtain ⟨b2, q, rfl, h2, h'⟩ := aj h'
  obtain rfl := dE h'
  obtain ⟨z0, rfl, _⟩ := az h0
  obtain ⟨z1, rfl, _⟩ := az h1
  obtain ⟨z2, rfl, _⟩ := az h2
  exact ⟨⟨z0, z1, z2⟩ :: z, rfl⟩
theorem Bm {n : Nat} {cs : List AV} (h : Fa (dQ (n + 2)) uQ cs) : ∃ o : Opt, cs = aD o := by
 obtain ⟨b0, q, rfl, h0, h⟩ := aj h
 obtain ⟨b1, q, rfl, h1, h⟩ := aj h
 obtain ⟨b2, q, rfl, h2, h⟩ := aj h
 obtain ⟨b3, q, rfl, h3, h⟩ := aj h
 obtain ⟨b4, q, rfl, h4, h⟩ := aj h
 obtain ⟨b5, q, rfl, h5, h⟩ := aj h
 obtain ⟨b6, q, rfl, h6, h⟩ := aj h
 obtain ⟨b7, q, rfl, h7, h⟩ := aj h
 obtain ⟨b, q, rfl, hs, h⟩ := aj h
 obtain rfl := dE h
 obtain ⟨z0, rfl, _⟩ := az h0
 obtain ⟨z1, rfl, _⟩ := az h1
 obtain ⟨z2, rfl, _⟩ := az h2
 obtain ⟨z3, rfl, _⟩ := az h3
 obtain ⟨z4, rfl, _⟩ := az h4
 obtain ⟨z5, rfl, _⟩ := az h5
 obtain ⟨z6, rfl, _⟩ := az h6
 obtain ⟨z7, rfl, _⟩ := az h7
 obtain ⟨sl, rfl⟩ := A3 hs
 exact ⟨⟨z0, z1, z2, z3, z4, z5, z6, z7, sl⟩, rfl⟩
theorem Ei {n : Nat} {cs : List AV} (h : Fa (dQ (n + 2)) D1 cs) : ∃ s : Nat → Int, cs = aJ s := by
 obtain ⟨b0, q, rfl, h0, h⟩ := aj h
 obtain ⟨b1, q, rfl, h1, h⟩ := aj h
 obtain ⟨b2, q, rfl, h2, h⟩ := aj h
 obtain ⟨b3, q, rfl, h3, h⟩ := aj h
 obtain ⟨b4, q, rfl, h4, h⟩ := aj h
 obtain ⟨b5, q, rfl, h5, h⟩ := aj h
 obtain ⟨b6, q, rfl, h6, h⟩ := aj h
 obtain ⟨b7, q, rfl, h7, h⟩ := aj h
 obtain ⟨b8, q, rfl, h8, h⟩ := aj h
 obtain ⟨b9, q, rfl, h9, h⟩ := aj h
 obtain ⟨b10, q, rfl, h10, h⟩ := aj h
 obtain ⟨b11, q, rfl, h11, h⟩ := aj h
 obtain ⟨b12, q, rfl, h12, h⟩ := aj h
 obtain ⟨b13, q, rfl, h13, h⟩ := aj h
 obtain ⟨b14, q, rfl, h14, h⟩ := aj h
 obtain ⟨b15, q, rfl, h15, h⟩ := aj h
 obtain ⟨b16, q, rfl, h16, h⟩ := aj h
 obtain ⟨b17, q, rfl, h17, h⟩ := aj h
 obtain ⟨b18, q, rfl, h18, h⟩ := aj h
 obtain ⟨b19, q, rfl, h19, h⟩ := aj h
 obtain ⟨b20, q, rfl, h20, h⟩ := aj h
 obtain rfl := dE h
 obtain ⟨z0, rfl, _⟩ := az h0
 obtain ⟨z1, rfl, _⟩ := az h1
 obtain ⟨z2, rfl, _⟩ := az h2
 obtain ⟨z3, rfl, _⟩ := az h3
 obtain ⟨z4, rfl, _⟩ := az h4
 obtain ⟨z5, rfl, _⟩ := az h5
 obtain ⟨z6, rfl, _⟩ := az h6
 obtain ⟨z7, rfl, _⟩ := az h7
 obtain ⟨z8, rfl, _⟩ := az h8
 obtain ⟨z9, rfl, _⟩ := az h9
 obtain ⟨z10, rfl, _⟩ := az h10
 obtain ⟨z11, rfl, _⟩ := az h11
 obtain ⟨z12, rfl, _⟩ := az h12
 obtain ⟨z13, rfl, _⟩ := az h13
 obtain ⟨z14, rfl, _⟩ := az h14
 obtain ⟨z15, rfl, _⟩ := az h15
 obtain ⟨z16, rfl, _⟩ := az h16
 obtain ⟨z17, rfl, _⟩ := az h17
 obtain ⟨z18, rfl, _⟩ := az h18
 obtain ⟨z19, rfl, _⟩ := az h19
 obtain ⟨z20, rfl, _⟩ := az h20
 exact ⟨fun i => [z0, z1, z2, z3, z4, z5, z6, z7, z8, z9, z10, z11, z12, z13, z14, z15, z16, z17, z18, z19, z20].getD i 0, rfl⟩
theorem Dv {n : Nat} {cs : List AV} (h : Fa (dQ (n + 2)) Bi cs) : ∃ p : aG, cs = aI p := by
 obtain ⟨b0, q, rfl, h0, h⟩ := aj h
 obtain ⟨b1, q, rfl, h1, h⟩ := aj h
 obtain ⟨b2, q, rfl, h2, h⟩ := aj h
 obtain ⟨b3, q, rfl, h3, h⟩ := aj h
 obtain ⟨b4, q, rfl, h4, h⟩ := aj h
 obtain ⟨b5, q, rfl, h5, h⟩ := aj h
 obtain rfl := dE h
 obtain ⟨z0, rfl, _⟩ := az h0
 obtain ⟨z1, rfl, _⟩ := az h1
 obtain ⟨z2, rfl, _⟩ := az h2
 obtain ⟨z3, rfl, _⟩ := az h3
 obtain ⟨z4, rfl, _⟩ := az h4
 obtain ⟨z5, rfl, _⟩ := az h5
 exact ⟨⟨z0, z1, z2, z3, z4, z5⟩, rfl⟩
theorem A0 {n : Nat} {cs : List AV} (h : Fa (dQ (n + 2)) xN cs) : ∃ p q : Int, cs = ar p q := by
 obtain ⟨b0, q, rfl, h0, h⟩ := aj h
 obtain ⟨b1, q, rfl, h1, h⟩ := aj h
 obtain rfl := dE h
 obtain ⟨z0, rfl, _⟩ := az h0
 obtain ⟨z1, rfl, _⟩ := az h1
 exact ⟨z0, z1, rfl⟩
theorem Dx {n : Nat} {a : AV} (h : dQ (n + 3) (.sl uQ) a) : ∃ z : List Opt, a = ay z := by
 obtain ⟨xs, rfl, h2⟩ := h
 suffices hs : ∀ l : List (List AV), (∀ x ∈ l, Fa (dQ (n + 2)) uQ x) → ∃ z : List Opt, l = z.map aD by
  obtain ⟨z, g2⟩ := hs xs h2
  exact ⟨z, congrArg (AV.sl .no 9) g2⟩
 intro l
 induction l with
 | nil => exact fun _ => ⟨[], rfl⟩
 | cons y r ih =>
  intro h
  obtain ⟨z, rfl⟩ := ih (fun x hx => h x (List.mem_cons_of_mem _ hx))
  obtain ⟨o, rfl⟩ := Bm (h y List.mem_cons_self)
  exact ⟨o :: z, rfl⟩
end Go.Proofs
namespace Go.Proofs.YtehdegggapeihaaGreat
open Go Go.AI
theorem trackMatchesReference : Rows.TrackMatchesReferenceSaid := Cb fun avs h => by
 obtain ⟨cs, q, rfl, h1, h⟩ := iC h
 obtain ⟨os, q, rfl, h2, h⟩ := iC h
 obtain ⟨rs, q, rfl, h3, h⟩ := Bk h
 obtain ⟨ss, q, rfl, h4, h⟩ := iC h
 obtain ⟨ts, q, rfl, h5, h⟩ := iC h
 obtain ⟨us, q, rfl, h6, h⟩ := iC h
 obtain ⟨seed, q, rfl, h7, h⟩ := yN h
 obtain rfl := yM h
 obtain ⟨c, rfl⟩ := DO h1
 obtain ⟨o, rfl⟩ := Bm h2
 obtain ⟨raw, rfl⟩ := Dx h3
 obtain ⟨odd, rfl⟩ := Ei h4
 obtain ⟨pp, rfl⟩ := Dv h5
 obtain ⟨x, y, rfl⟩ := A0 h6
 exact Go.Proofs.Fc c o odd raw pp x y seed h7
end Go.Proofs.YtehdegggapeihaaGreat
