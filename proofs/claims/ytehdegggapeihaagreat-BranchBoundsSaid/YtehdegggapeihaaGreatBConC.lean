/- Contracts of the functions and plain facts about what they reckon, part 3: called with arguments that read so, each hands back what is typed. The conditions are those typed. -/
import Derived.Test.YtehdegggapeihaaGreatBConB
set_option linter.unusedSectionVars false
set_option linter.unusedVariables false
set_option linter.unusedSimpArgs false
namespace Go.Proofs
open Go Go.AI
set_option maxRecDepth 10000
def inM (x lo hi : Int) : Bool := decide (lo ≤ x) && decide (x ≤ hi)
def spM (a b : Int) : Bool := decide (0 ≤ a) && (decide (a < b) && decide (b ≤ 1000001))
theorem jn (x lo hi : Int) : ae Tryz.prog 104 [.int .i64 x, .int .i64 lo, .int .i64 hi] (.bool (inM x lo hi)) := by
  refine ag aa Tryz.func104 rfl (by kernel_rfl) af (Nat.le_of_ble_eq_true rfl) ?_
  intro F n' w0 m0 hG hro h1
  repeat' first|refine Q1 ?_|refine Q2 ?_|refine Q3 hG aa gi (by kernel_rfl) ?_|refine Q4 hG aa gi (by kernel_rfl) ?_|refine Q5 hG aa ?_|refine Q6 hG aa ?_|refine Q7 hG aa ?_|refine Q8 hG aa ?_|refine Q9 rfl ?_|refine QF rfl ?_|refine QC rfl (And.intro (fun h => ?_) (fun h => ?_))|((conv => whnf); first|refine anF ?_|refine anT ?_|refine And.intro (by kernel_rfl) ?_|refine And.intro (fun h => ?_) (fun h => ?_)|refine Or.inl ?_|fail)
  all_goals refine Ends.mk (Or.inl rfl) (ac (congrArg AV.bool ?_))
  all_goals simp only [inM, *, Bool.true_and, Bool.and_true, Bool.false_and, Bool.and_false, Bool.true_or, Bool.or_true, Bool.false_or, Bool.or_false, Bool.not_true, Bool.not_false]
theorem oU (a b : Int) : ae Tryz.prog 170 [.agg [.int .i64 a, .int .i64 b]] (.bool (spM a b)) := by
  refine ag aa Tryz.func170 rfl (by kernel_rfl) af (Nat.le_of_ble_eq_true rfl) ?_
  intro F n' w0 m0 hG hro h1
  repeat' first|refine Q1 ?_|refine Q2 ?_|refine Q3 hG aa gf (by kernel_rfl) ?_|refine Q4 hG aa gf (by kernel_rfl) ?_|refine Q5 hG aa ?_|refine Q6 hG aa ?_|refine Q7 hG aa ?_|refine Q8 hG aa ?_|refine Q9 rfl ?_|refine QF rfl ?_|refine QC rfl (And.intro (fun h => ?_) (fun h => ?_))|((conv => whnf); first|refine anF ?_|refine anT ?_|refine And.intro (by kernel_rfl) ?_|refine And.intro (fun h => ?_) (fun h => ?_)|refine Or.inl ?_|fail)
  all_goals refine Ends.mk (Or.inl rfl) (ac (congrArg AV.bool ?_))
  all_goals simp only [spM, *, Bool.true_and, Bool.and_true, Bool.false_and, Bool.and_false, Bool.true_or, Bool.or_true, Bool.false_or, Bool.or_false, Bool.not_true, Bool.not_false]
def jV (l : List Img) : List Bool := (List.range 64).map fun (k : Nat) => l.any fun x => x.i == (k : Int)
def lS (l : List Img) (i : Int) : Bool := l.any fun x => x.i == i
def m8 (pre : List Img) (x : Img) : Bool := inM x.i 0 63 && (!lS pre x.i && (inM x.u 1 1000000 && spM x.a x.b))
def eT : List Img → List Img → Bool
  | _, [] => true
  | pre, x :: r => m8 pre x && eT (pre ++ [x]) r
def ew (l : List Img) : Bool := eT [] l && decide (l.length ≤ 24)
theorem Ed (m : List Img) (h : m = []) : (jV m).map AV.bool = List.replicate 64 (.bool false) := by
  subst h
  simp only [jV, List.map_map, List.any_nil, Function.comp_def, List.map_const', List.length_range, List.map_replicate]
theorem zy {i : TI} {cs : List AV} {n : Nat} {x : AV} {r : List AV} {K : AV → Prop} (h : cs.drop n = x :: r) (hK : (match ek i (x :: r) with | some v => K v | none => False)) : (match ek i (cs.drop n) with | some v => K v | none => False) := by rw [h]; exact hK
theorem xf {s : St} {d n : Nat} {vs : List AV} {b' : List (Nat × List AV)} {K : List (Nat × List AV) → Prop} (h : lR s.b d n vs = some b') (hK : K b') : (match lR s.b d n vs with | some b => K b | none => False) := by rw [h]; exact hK
theorem y9 {bx : List (Nat × List AV)} {d n : Nat} {cs : List AV} {v : AV} (h1 : get bx d = some cs) (h2 : n < cs.length) : lR bx d n [v] = some ((d, mQ cs n [v]) :: bx) := by
  unfold lR
  rw [h1]
  simp only [List.length_cons, List.length_nil, Nat.zero_add]
  rw [Nat.ble_eq_true_of_le h2]; rfl
theorem zd {l : List Img} {i : Int} (h : inM i 0 63 = true) : ∃ r, ((jV l).map AV.bool).drop (0 + i.toNat * 1) = .bool (lS l i) :: r := by
  simp only [inM, Bool.and_eq_true, decide_eq_true_eq] at h
  have hlt : 0 + i.toNat * 1 < ((jV l).map AV.bool).length := by simp [jV]; omega
  refine ⟨_, (List.drop_eq_getElem_cons hlt).trans (congrArg (· :: _) ?_)⟩
  simp only [jV, List.map_map, List.getElem_map, List.getElem_range, Function.comp, lS]
  congr 3
  funext x
  rw [Nat.zero_add, Nat.mul_one, Int.toNat_of_nonneg h.1]
theorem AM {l : List Img} {x : Img} (h : inM x.i 0 63 = true) : mQ ((jV l).map AV.bool) (0 + x.i.toNat * 1) [.bool true] = (jV (l ++ [x])).map AV.bool := by
  simp only [inM, Bool.and_eq_true, decide_eq_true_eq] at h
  rw [jC]
  apply List.ext_getElem?
  intro j
  show (dn ((jV l).map AV.bool) (0 + x.i.toNat * 1) (.bool true))[j]? = _
  rw [dH]
  simp only [jV, List.length_map, List.length_range, List.getElem?_map, Nat.zero_add, Nat.mul_one, List.any_append, List.any_cons, List.any_nil, Bool.or_false]
  by_cases hj : j < 64
  · rw [List.getElem?_range hj]
    simp only [Option.map_some]
    by_cases he : j = x.i.toNat
    · rw [if_pos (by omega)]
      have : (x.i == (j : Int)) = true := by rw [beq_iff_eq]; omega
      rw [this, Bool.or_true]
    · rw [if_neg (by omega)]
      have : (x.i == (j : Int)) = false := by rw [beq_eq_false_iff_ne]; omega
      rw [this, Bool.or_false]
  · rw [if_neg (by omega), List.getElem?_eq_none (by simp; omega)]; rfl
set_option maxHeartbeats 8000000 in
theorem lL (l : List Img) (hl : l.length ≤ 1000000) : ae Tryz.prog 105 [bV l] (.bool (ew l)) := by
  refine ag aa Tryz.func105 rfl (by kernel_rfl) af (Nat.le_of_ble_eq_true rfl) ?_
  intro F n' w0 m0 hG hro h1
  repeat' first|refine Q1 ?_|refine Q2 ?_|refine Q3 hG aa cU (by kernel_rfl) ?_|refine Q4 hG aa cU (by kernel_rfl) ?_|refine Q5 hG aa ?_|refine Q6 hG aa ?_|refine Q7 hG aa ?_|refine Q8 hG aa ?_|refine Q9 rfl ?_|refine QF rfl ?_|refine QC rfl (And.intro (fun h => ?_) (fun h => ?_))|((conv => whnf); first|refine anF ?_|refine anT ?_|refine And.intro (by kernel_rfl) ?_|refine And.intro (fun h => ?_) (fun h => ?_)|refine Or.inl ?_|fail)
  refine az (X := Nat × List AV) (fun x => ⟨[(8, .int .i64 x.1), (7, .int .i64 (l.map gE).length), (6, bV l), (0, bV l), (3, .loc 3 0)], [(3, x.2)]⟩) (fun x => x.1 ≤ l.length ∧ eT (l.take x.1) (l.drop x.1) = eT [] l ∧ x.2 = (jV (l.take x.1)).map AV.bool) (fun x => l.length - x.1) (0, List.replicate 64 (.bool false)) ⟨Nat.zero_le _, by simp, (Ed _ rfl).symm⟩ (ah ?_ ?_) (fun x hi => ?_)
  · repeat' (first | exact trivial | refine And.intro rfl ?_)
  · repeat' (first | exact trivial | refine And.intro rfl ?_)
  · obtain ⟨i, cs⟩ := x
    obtain ⟨hi, hok, hcs⟩ := hi
    simp only at hi hok hcs ⊢
    by_cases hlt : i < l.length
    · have bbk : decide ((i : Int) < ((l.map gE).length : Int)) = false → False := fun h => by have := of_decide_eq_false h; simp at this; omega
      have hx := Bd hlt
      have htk : l.take (i + 1) = l.take i ++ [l.getD i rT] := by rw [List.take_add_one, List.getD_eq_getElem?_getD, List.getElem?_eq_getElem hlt]; rfl
      have hdr : l.drop i = l.getD i rT :: l.drop (i + 1) := by rw [List.getD_eq_getElem?_getD, List.getElem?_eq_getElem hlt]; exact List.drop_eq_getElem_cons hlt
      rw [hdr, eT, ← htk] at hok
      generalize l.getD i rT = x at hx htk hok
      have hln : cs.length = 64 := by rw [hcs]; simp [jV]
      cases hin : inM x.i 0 63 with
      | false =>
        have cIn : ae Tryz.prog 104 [.int .i64 x.i, .int .i64 0, .int .i64 63] (.bool false) := by rw [← hin]; exact jn _ _ _
        clear hcs
        repeat' first|exact (bbk (by assumption)).elim|refine Q1 ?_|refine Q2 ?_|refine Q3 hG aa cU (by kernel_rfl) ?_|refine Q4 hG aa cU (by kernel_rfl) ?_|refine Q5 hG aa ?_|refine Q6 hG aa ?_|refine Q7 hG aa ?_|refine Q8 hG aa ?_|refine Q9 rfl ?_|refine QF rfl ?_|refine QC rfl (And.intro (fun h => ?_) (fun h => ?_))|((conv => whnf); first|refine anF ?_|refine anT ?_|refine And.intro (by kernel_rfl) ?_|refine And.intro (Int.natCast_nonneg i) (Exists.intro _ (And.intro hx ?_))|refine Exists.intro _ (And.intro (cIn) ?_)|refine Exists.intro _ (And.intro (jn _ _ _) ?_)|refine Exists.intro _ (And.intro (oU _ _) ?_)|refine Eq.mpr (gF cs _) ?_|refine And.intro (fun h => ?_) (fun h => ?_)|refine Or.inl ?_|fail)
        refine Ends.mk (Or.inl rfl) (ac (congrArg AV.bool ?_))
        rw [ew, ← hok, m8, hin]
        (try simp only [Bool.not_eq_true', Bool.not_eq_false'] at *)
        simp only [*, Bool.true_and, Bool.and_true, Bool.false_and, Bool.and_false, Bool.true_or, Bool.or_true, Bool.false_or, Bool.or_false, Bool.not_true, Bool.not_false]
      | true =>
        have cIn : ae Tryz.prog 104 [.int .i64 x.i, .int .i64 0, .int .i64 63] (.bool true) := by rw [← hin]; exact jn _ _ _
        have hst := AM (l := l.take i) hin
        rw [← htk] at hst
        obtain ⟨r, hse⟩ := zd (l := l.take i) hin
        have hx0 : 0 ≤ x.i := by have := hin; simp only [inM, Bool.and_eq_true, decide_eq_true_eq] at this; exact this.1
        have hx1 : x.i < ((64 : Nat) : Int) := by have := hin; simp only [inM, Bool.and_eq_true, decide_eq_true_eq] at this; omega
        rw [← hcs] at hst hse
        clear hcs
        obtain ⟨sb, hsb⟩ : ∃ sb, sb = lS (l.take i) x.i := ⟨_, rfl⟩
        rw [← hsb] at hse
        have hsl : 0 + x.i.toNat * 1 < cs.length := by rw [hln]; omega
        repeat' first|exact (bbk (by assumption)).elim|refine Q1 ?_|refine Q2 ?_|refine Q3 hG aa cU (by kernel_rfl) ?_|refine Q4 hG aa cU (by kernel_rfl) ?_|refine Q5 hG aa ?_|refine Q6 hG aa ?_|refine Q7 hG aa ?_|refine Q8 hG aa ?_|refine Q9 rfl ?_|refine QF rfl ?_|refine QC rfl (And.intro (fun h => ?_) (fun h => ?_))|((conv => whnf); first|refine anF ?_|refine anT ?_|refine And.intro (by kernel_rfl) ?_|refine And.intro (Int.natCast_nonneg i) (Exists.intro _ (And.intro hx ?_))|refine Exists.intro _ (And.intro (cIn) ?_)|refine Exists.intro _ (And.intro (jn _ _ _) ?_)|refine Exists.intro _ (And.intro (oU _ _) ?_)|refine zy hse ?_|refine xf (y9 (cs := cs) rfl hsl) ?_|refine Eq.mpr (gF (mQ cs _ _) _) ?_|refine And.intro hx0 (And.intro hx1 ?_)|refine Eq.mpr (gF cs _) ?_|refine And.intro (fun h => ?_) (fun h => ?_)|refine Or.inl ?_|fail)
        · refine Ends.mk (Or.inl rfl) (ac (congrArg AV.bool ?_))
          subst hsb
          rw [ew, ← hok, m8, hin]
          (try simp only [Bool.not_eq_true', Bool.not_eq_false'] at *)
          simp only [*, Bool.true_and, Bool.and_true, Bool.false_and, Bool.and_false, Bool.true_or, Bool.or_true, Bool.false_or, Bool.or_false, Bool.not_true, Bool.not_false]
        · refine Ends.mk (Or.inl rfl) (ac (congrArg AV.bool ?_))
          subst hsb
          rw [ew, ← hok, m8, hin]
          (try simp only [Bool.not_eq_true', Bool.not_eq_false'] at *)
          simp only [*, Bool.true_and, Bool.and_true, Bool.false_and, Bool.and_false, Bool.true_or, Bool.or_true, Bool.false_or, Bool.or_false, Bool.not_true, Bool.not_false]
        · refine Ends.mk (Or.inl rfl) (ac (congrArg AV.bool ?_))
          subst hsb
          rw [ew, ← hok, m8, hin]
          (try simp only [Bool.not_eq_true', Bool.not_eq_false'] at *)
          simp only [*, Bool.true_and, Bool.and_true, Bool.false_and, Bool.and_false, Bool.true_or, Bool.or_true, Bool.false_or, Bool.or_false, Bool.not_true, Bool.not_false]
        · conv => whnf
          refine Exists.intro (i + 1, mQ cs (0 + x.i.toNat * 1) [.bool true]) (And.intro ⟨hlt, ?_, hst⟩ (And.intro (show l.length - (i + 1) < l.length - i by omega) ?_))
          · subst hsb
            rw [← hok, m8, hin]
            (try simp only [Bool.not_eq_true', Bool.not_eq_false'] at *)
            simp only [*, Bool.true_and, Bool.and_true, Bool.false_and, Bool.and_false, Bool.true_or, Bool.or_true, Bool.false_or, Bool.or_false, Bool.not_true, Bool.not_false]
          · refine ah (And.intro (congrArg some (ax (by omega))) ?_) ?_
            · repeat' (first | exact trivial | refine And.intro rfl ?_)
            · repeat' (first | exact trivial | refine And.intro rfl ?_)
    · have bbk : decide ((i : Int) < ((l.map gE).length : Int)) = true → False := fun h => by have := of_decide_eq_true h; simp at this; omega
      repeat' first|exact (bbk (by assumption)).elim|refine Q1 ?_|refine Q2 ?_|refine Q3 hG aa cU (by kernel_rfl) ?_|refine Q4 hG aa cU (by kernel_rfl) ?_|refine Q5 hG aa ?_|refine Q6 hG aa ?_|refine Q7 hG aa ?_|refine Q8 hG aa ?_|refine Q9 rfl ?_|refine QF rfl ?_|refine QC rfl (And.intro (fun h => ?_) (fun h => ?_))|((conv => whnf); first|refine anF ?_|refine anT ?_|refine And.intro (by kernel_rfl) ?_|refine And.intro (fun h => ?_) (fun h => ?_)|refine Or.inl ?_|fail)
      refine Ends.mk (Or.inl rfl) (ac (congrArg AV.bool ?_))
      have hdn : l.drop i = [] := List.drop_of_length_le (by omega)
      rw [hdn, eT] at hok
      rw [ew, ← hok, List.length_map, Bool.true_and]
      exact decide_eq_decide.2 (by omega)
end Go.Proofs
namespace Go.Proofs
open Go Go.AI
set_option maxRecDepth 10000
theorem j6 : ∀ (l pre : List Img), eT pre l = true → ∀ x ∈ l, 0 ≤ x.u ∧ x.u ≤ 1000000
  | [], _, _, x, hx => nomatch hx
  | y :: r, pre, h, x, hx => by
    simp only [eT, Bool.and_eq_true] at h
    rcases List.mem_cons.1 hx with rfl | hx
    · have := h.1
      simp only [m8, inM, Bool.and_eq_true, decide_eq_true_eq] at this
      omega
    · exact j6 r _ h.2 x hx
end Go.Proofs
namespace Go.Proofs
open Go Go.AI
set_option maxRecDepth 10000
structure qL (s : Nat → Int) (l : List Opt) (a b : Int) : Prop where
  hl : l.length ≤ 1000000
  sl : slens l
  sp : (dp l).length ≤ 900000
  val : Eb s (BI l) = true
  span : Dn a b = true
  can : ∀ o ∈ l, pz o = true
  mem : ew (fK l) = true
  s10 : inM (s 10) 0 1000000 = true
  ll : (au l).length ≤ 1000000
  bat : ip s (au l) a b = true
end Go.Proofs
namespace Go.Proofs
open Go Go.AI
structure D8 (s : Nat → Int) (o : Opt) (b : Int) : Prop where
  id : 0 ≤ o.id ∧ o.id ≤ 63
  size : 1 ≤ o.size ∧ o.size ≤ s 10
  shot : 0 ≤ o.a ∧ o.a < o.b ∧ o.b ≤ 1000000 ∧ o.b - o.a ≤ 60
  look : inS o.look (w64 (0 - s 9)) (s 9) = true
  len : 1 ≤ o.sl.length ∧ o.sl.length ≤ 6
  slot : ∀ x ∈ o.sl, 0 ≤ x.a ∧ x.a < x.b ∧ x.b ≤ fc o
  last : o.b < fc o ∧ fc o ≤ b
  can : pz o = true
def jM (t : Int) : List a8 → Int
  | [] => t
  | x :: r => jM x.b r
theorem rH (t : Int) : ∀ (l : List a8), l ≠ [] → jM t l = (l.getD (l.length - 1) Do).b
  | [], h => absurd rfl h
  | [x], _ => rfl
  | x :: y :: r, _ => by
    rw [jM, rH _ (y :: r) (by simp)]
    simp
theorem yl {s : Nat → Int} {ps : List ak} {z : Int} (hps : ∀ p ∈ ps, p.sb ≤ 1000001) (hpl : ps.length ≤ 64) : ∀ (l : List a8) (t : Int), bq s ps z t l = true → 0 ≤ t →
    (∀ x ∈ l, t ≤ x.a ∧ x.a < x.b ∧ x.b ≤ jM t l) ∧ t ≤ jM t l ∧ (l ≠ [] → t < jM t l) ∧ fj t l = true
  | [], t, _, _ => ⟨fun _ h => (nomatch h), Int.le_refl _, fun h => absurd rfl h, rfl⟩
  | x :: r, t, h, ht => by
    simp only [bq, fe, Bool.and_eq_true, inS, decide_eq_true_eq, Bool.not_eq_true'] at h
    obtain ⟨⟨h01, ⟨⟨⟨_, h2⟩, h3⟩, h4⟩, _⟩, h5⟩ := h
    obtain ⟨h0, h1⟩ := h01
    have hxa : t ≤ x.a := by omega
    obtain ⟨g1, g2, _, g4⟩ := yl hps hpl r x.b h5 (by omega)
    have hp : (aJ ps x.p.toNat).sb ≤ 1000001 := by
      rw [ap (by omega) (by omega)] at h1
      have hlt : x.p.toNat < ps.length := by omega
      unfold aJ
      rw [List.getD_eq_getElem?_getD, List.getElem?_eq_getElem hlt]
      exact hps _ (List.getElem_mem hlt)
    refine ⟨fun y hy => ?_, ?_, fun _ => ?_, ?_⟩
    · rcases List.mem_cons.1 hy with rfl | hy
      · exact ⟨hxa, h4, g2⟩
      · have := g1 y hy
        exact ⟨by omega, this.2.1, this.2.2⟩
    · show t ≤ jM x.b r; omega
    · show t < jM x.b r; omega
    · simp only [fj, mg, Bool.and_eq_true, decide_eq_true_eq]
      exact ⟨⟨hxa, ⟨by omega, h4⟩, by omega⟩, g4⟩
theorem rp {ps : List ak} (h : bP ps = true) : (∀ p ∈ ps, p.sb ≤ 1000001) ∧ ps.length ≤ 64 := by
  simp only [bP, Bool.and_eq_true, decide_eq_true_eq, Bool.not_eq_true', List.any_eq_false] at h
  refine ⟨fun p hp => ?_, h.1.1⟩
  have := h.1.2 p hp
  simp only [cn, inS, Bool.and_eq_true, Bool.or_eq_true, decide_eq_true_eq, Bool.not_eq_true, Bool.not_eq_true', Bool.not_eq_false, beq_iff_eq] at this
  omega
theorem Dw {s : Nat → Int} {o : Opt} {ps : List ak} {b : Int} (hps : bP ps = true) (hs : s 10 ≤ 1000000) (h : dh s o ps = true) (hb : fc o ≤ b) : D8 s o b := by
  obtain ⟨hp1, hp2⟩ := rp hps
  simp only [dh, ne, pN, o3, vK, mg, Bool.and_eq_true, decide_eq_true_eq, beq_iff_eq] at h
  obtain ⟨⟨⟨⟨⟨⟨⟨hid, _⟩, _⟩, _⟩, hsz⟩, ⟨⟨⟨_, hsp⟩, _⟩, hlk⟩, hob⟩, hln⟩, hsl⟩ := h
  simp only [inS, Bool.and_eq_true, decide_eq_true_eq] at hid hsz hln
  have hspan : 0 ≤ o.a ∧ o.a < o.b ∧ o.b - o.a ≤ 60 := by
    obtain ⟨⟨⟨q1, q2⟩, q3⟩, q4⟩ := hsp
    rw [ap (by omega) (by omega)] at q4
    exact ⟨q1, q2, q4⟩
  obtain ⟨g1, g2, g3, g4⟩ := yl hp1 hp2 o.sl o.b hsl (by omega)
  have hne : o.sl ≠ [] := fun e => by rw [e] at hln; simp at hln
  have hlast : jM o.b o.sl = fc o := rH _ _ hne
  rw [hlast] at g1 g2 g3
  refine ⟨hid, hsz, ⟨hspan.1, hspan.2.1, hob, hspan.2.2⟩, hlk, by omega, fun x hx => ?_, ⟨g3 hne, hb⟩, ?_⟩
  · have := g1 x hx; omega
  · simp only [pz, Bool.and_eq_true, inS, mg, decide_eq_true_eq]
    exact ⟨g4, ⟨⟨hid, by omega, by omega⟩, ⟨by omega, by omega⟩, by omega⟩, by omega, by omega⟩
theorem lX {s : Nat → Int} {ps : List ak} {a b : Int} : ∀ (l pre : List Opt), ej s ps a b pre l = true → ∀ o ∈ l, dh s o ps = true ∧ a ≤ o.a ∧ fc o ≤ b
  | [], _, _, o, ho => nomatch ho
  | x :: r, pre, h, o, ho => by
    simp only [ej, Bool.and_eq_true] at h
    rcases List.mem_cons.1 ho with rfl | ho
    · have := h.1
      simp only [m6, Bool.and_eq_true, Bool.not_eq_true', decide_eq_false_iff_not] at this
      exact ⟨this.1.1.1, by omega, by omega⟩
    · exact lX r _ h.2 o ho
theorem yi {s : Nat → Int} {l : List Opt} {ps : List ak} {a b : Int} (h : aO s l ps a b = true) : l.length ≤ 8 ∧ (0 ≤ a ∧ a < b ∧ b ≤ 1000000) ∧ b - a ≤ 3000 ∧ gt s = true ∧ bP ps = true ∧ ej s ps a b [] l = true := by
  simp only [aO, Bool.and_eq_true, decide_eq_true_eq, Bool.not_eq_true', decide_eq_false_iff_not] at h
  obtain ⟨⟨⟨⟨⟨h1, h2⟩, h3⟩, h4⟩, h5⟩, h6⟩ := h
  have h2 := mU h2
  rw [ap (by omega) (by omega)] at h3
  exact ⟨h1, h2, by omega, h4, h5, h6⟩
theorem DJ {s : Nat → Int} (h : gt s = true) : 1 ≤ s 10 ∧ s 10 ≤ 1000000 := by
  simp only [gt, inS, Bool.and_eq_true, decide_eq_true_eq] at h
  omega
theorem Be {s : Nat → Int} {ps : List ak} {a b : Int} (hps : bP ps = true) (hs : s 10 ≤ 1000000) (hb : b ≤ 1000000) : ∀ (l pre : List Opt), ej s ps a b pre l = true → eT (fK pre) (fK l) = true
  | [], _, _ => rfl
  | x :: r, pre, h => by
    have hx := lX (x :: r) pre h x (.head _)
    have hf := Dw hps hs hx.1 hx.2.2
    simp only [ej, Bool.and_eq_true] at h
    have ih := Be hps hs hb r _ h.2
    have hid := h.1
    simp only [m6, Bool.and_eq_true, Bool.not_eq_true'] at hid
    have hid := hid.2
    rw [show fK (x :: r) = ⟨x.id, x.size, x.a, fc x⟩ :: fK r from rfl, eT, show fK pre ++ [⟨x.id, x.size, x.a, fc x⟩] = fK (pre ++ [x]) by simp [fK], ih, Bool.and_true]
    have hse : lS (fK pre) x.id = false := by
      rw [← hid]; unfold lS fK; rw [List.any_map]; rfl
    obtain ⟨q1, q2, q3, q4, q5, q6, q7, q8⟩ := hf
    simp only [m8, hse, inM, spM, Bool.and_eq_true, decide_eq_true_eq, Bool.not_false, true_and]
    exact ⟨q1, ⟨q2.1, by omega⟩, q3.1, by omega, by omega⟩
theorem qL.of {s : Nat → Int} {l : List Opt} {ps : List ak} {a b : Int} (h : aO s l ps a b = true) : qL s l a b ∧ cY l ∧ ∀ o ∈ l, D8 s o b := by
  obtain ⟨h1, h2, h3, h4, h5, h6⟩ := yi h
  have h10 := DJ h4
  have hm : ∀ o ∈ l, D8 s o b := fun o ho => by
    have := lX l [] h6 o ho
    exact Dw h5 h10.2 this.1 this.2.2
  have hg : cY l := ⟨h1, fun o ho => by
    obtain ⟨q1, q2, q3, q4, q5, q6, q7, q8⟩ := hm o ho
    omega, fun o ho x hx => by
    obtain ⟨q1, q2, q3, q4, q5, q6, q7, q8⟩ := hm o ho
    have := q6 x hx
    omega⟩
  have hlen := jH hg
  have hrl := hg.len
  refine ⟨⟨by omega, fun o ho => by have := (hm o ho).len; omega, ?_, ?_, ?_, fun o ho => (hm o ho).can, ?_, ?_, by omega, ?_⟩, hg, hm⟩
  · have := vn l; omega
  · rw [Eb, h4, Bool.and_true, Er, Bool.and_eq_true]
    refine ⟨List.all_eq_true.2 fun x hx => ?_, by simp [BI]; omega⟩
    obtain ⟨o, ho, rfl⟩ := List.mem_map.1 hx
    obtain ⟨q1, q2, q3, q4, q5, q6, q7, q8⟩ := hm o ho
    simp only [Es, Bool.and_eq_true, decide_eq_true_eq]
    rw [ap (by omega) (by omega)]
    exact ⟨⟨⟨⟨q3.1, q3.2.1⟩, q3.2.2.1⟩, q3.2.2.2⟩, q4⟩
  · simp only [Dn, Bool.and_eq_true, decide_eq_true_eq]
    rw [ap (by omega) (by omega)]
    omega
  · rw [ew, show eT [] (fK l) = true from Be h5 h10.2 h2.2.2 l [] h6, Bool.true_and]
    simp [fK]; omega
  · simp only [inM, Bool.and_eq_true, decide_eq_true_eq]; omega
  · rw [ip, h4, hg.proper, Bool.and_true, Bool.and_true, Bool.and_eq_true]
    refine ⟨gn.2 h2, ?_⟩
    rw [ap (by omega) (by omega)]
    exact decide_eq_true (by omega)
end Go.Proofs
namespace Go.Proofs
open Go Go.AI
set_option maxRecDepth 10000
theorem wB (n a b : Int) : ae Tryz.prog 99 [.int .i64 n, .int .i64 a, .int .i64 b] (.bool (inS n a b)) := by
  refine ag aa Tryz.func99 rfl (by kernel_rfl) af (Nat.le_of_ble_eq_true rfl) ?_
  intro F n' w0 m0 hG hro h1
  repeat' first|refine Q1 ?_|refine Q2 ?_|refine Q3 hG aa qi (by kernel_rfl) ?_|refine Q4 hG aa qi (by kernel_rfl) ?_|refine Q5 hG aa ?_|refine Q6 hG aa ?_|refine Q7 hG aa ?_|refine Q8 hG aa ?_|refine Q9 rfl ?_|refine QF rfl ?_|refine QC rfl (And.intro (fun h => ?_) (fun h => ?_))|((conv => whnf); first|refine anF ?_|refine anT ?_|refine And.intro (by kernel_rfl) ?_|refine And.intro (fun h => ?_) (fun h => ?_)|refine Or.inl ?_|fail)
  all_goals refine Ends.mk (Or.inl rfl) (ac (congrArg AV.bool ?_))
  all_goals (clear hG; grind [inS])
theorem wA (o : Nat → Int) (a b k : Int) : ae Tryz.prog 100 [.agg (ls o), .agg (aF a b), .int .i64 k] (.bool (o3 o a b k)) := by
  refine ag aa Tryz.func100 rfl (by kernel_rfl) af (Nat.le_of_ble_eq_true rfl) ?_
  intro F n' w0 m0 hG hro h1
  repeat' first|refine Q1 ?_|refine Q2 ?_|refine Q3 hG aa oS (by kernel_rfl) ?_|refine Q4 hG aa oS (by kernel_rfl) ?_|refine Q5 hG aa ?_|refine Q6 hG aa ?_|refine Q7 hG aa ?_|refine Q8 hG aa ?_|refine Q9 rfl ?_|refine QF rfl ?_|refine QC rfl (And.intro (fun h => ?_) (fun h => ?_))|((conv => whnf); first|refine anF ?_|refine anT ?_|refine And.intro (by kernel_rfl) ?_|refine Exists.intro _ (And.intro (wS o) ?_)|refine And.intro (fun h => ?_) (fun h => ?_)|refine Or.inl ?_|fail)
  all_goals refine Ends.mk (Or.inl rfl) (ac (congrArg AV.bool ?_))
  all_goals (clear hG; grind [o3, vK, mg, inS, w64])
theorem dB (c n : Int) (hn : n ≠ 0) : ae Tryz.prog 143 [.int .i64 c, .int .i64 n] (.int .i64 (al c n)) := by
  refine ag aa Tryz.func143 rfl (by kernel_rfl) af (Nat.le_of_ble_eq_true rfl) ?_
  intro F n' w0 m0 hG hro h1
  repeat' first|refine Q1 ?_|refine Q2 ?_|refine Q3 hG aa oD (by kernel_rfl) ?_|refine Q4 hG aa oD (by kernel_rfl) ?_|refine Q5 hG aa ?_|refine Q6 hG aa ?_|refine Q7 hG aa ?_|refine Q8 hG aa ?_|refine Q9 rfl ?_|refine QF rfl ?_|refine QC rfl (And.intro (fun h => ?_) (fun h => ?_))|((conv => whnf); first|refine anF ?_|refine anT ?_|refine And.intro (by kernel_rfl) ?_|refine And.intro hn ?_|refine And.intro (fun h => ?_) (fun h => ?_)|refine Or.inl ?_|fail)
  all_goals refine Ends.mk (Or.inl rfl) (ac (congrArg (AV.int .i64) ?_))
  all_goals (simp_all [al, w64] <;> omega)
end Go.Proofs
namespace Go.Proofs
open Go Go.AI
set_option maxRecDepth 10000
theorem nq {a b : Int} : el a b < 0 ↔ a < b := by unfold el; split <;> (try split) <;> omega
theorem uJ {a b : Int} : el a b = 0 ↔ a = b := by unfold el; split <;> (try split) <;> omega
theorem yQ (p q : ak) : decide (qK p q < 0) = if p.ca ≠ q.ca then decide (p.ca < q.ca) else if p.sat ≠ q.sat then decide (p.sat < q.sat) else if p.st ≠ q.st then decide (p.st < q.st) else if p.sa ≠ q.sa then decide (p.sa < q.sa) else decide (p.cb < q.cb) := by
  have e1 := nq (a := p.ca) (b := q.ca); have z1 := uJ (a := p.ca) (b := q.ca)
  have e2 := nq (a := p.sat) (b := q.sat); have z2 := uJ (a := p.sat) (b := q.sat)
  have e3 := nq (a := p.st) (b := q.st); have z3 := uJ (a := p.st) (b := q.st)
  have e4 := nq (a := p.sa) (b := q.sa); have z4 := uJ (a := p.sa) (b := q.sa)
  have e5 := nq (a := p.cb) (b := q.cb)
  unfold qK
  generalize el p.ca q.ca = c1 at *
  generalize el p.sat q.sat = c2 at *
  generalize el p.st q.st = c3 at *
  generalize el p.sa q.sa = c4 at *
  generalize el p.cb q.cb = c5 at *
  simp only [orS]
  grind
theorem uX (p q : ak) : ae Tryz.prog 165 [.agg (aP p), .agg (aP q)] (.bool (decide (qK p q < 0))) := by
  rw [yQ]
  refine ag aa Tryz.func165 rfl (by kernel_rfl) af (Nat.le_of_ble_eq_true rfl) ?_
  intro F n' w0 m0 hG hro h1
  repeat' first|refine Q1 ?_|refine Q2 ?_|refine Q3 hG aa oq (by kernel_rfl) ?_|refine Q4 hG aa oq (by kernel_rfl) ?_|refine Q5 hG aa ?_|refine Q6 hG aa ?_|refine Q7 hG aa ?_|refine Q8 hG aa ?_|refine Q9 rfl ?_|refine QF rfl ?_|refine QC rfl (And.intro (fun h => ?_) (fun h => ?_))|((conv => whnf); first|refine anF ?_|refine anT ?_|refine And.intro (by kernel_rfl) ?_|refine And.intro (fun h => ?_) (fun h => ?_)|refine Or.inl ?_|fail)
  all_goals refine Ends.mk (Or.inl rfl) (ac (congrArg AV.bool ?_))
  all_goals (clear hG; grind [])
theorem mX {l : List ak} {i : Nat} (h : i < l.length) : (l.map aP)[(i : Int).toNat]? = some (aP (aJ l i)) := by rw [Int.toNat_natCast]; exact ez h
theorem dX {l : List ak} {i : Nat} (h : i < l.length) : aJ l i = l[i] := by simp [aJ, List.getElem?_eq_getElem h]
theorem iD (l : List ak) : bP l = true ↔ l.length ≤ 64 ∧ (∀ j, j < l.length → cn (aJ l j) = true) ∧ ∀ j, j + 1 < l.length → decide (qK (aJ l (j + 1)) (aJ l j) < 0) = false := by
  simp only [bP, AE, Bool.and_eq_true, Bool.not_eq_true', List.any_eq_false, List.all_eq_true, List.mem_range, decide_eq_true_eq, Bool.not_eq_true', Bool.not_eq_false', Bool.not_eq_true, Bool.not_eq_false, and_assoc]
  refine and_congr Iff.rfl (and_congr ⟨fun h j hj => ?_, fun h x hx => ?_⟩ ⟨fun h j hj => h j (by omega), fun h j hj => h j (by omega)⟩)
  · rw [dX hj]; exact h _ (List.getElem_mem hj)
  · obtain ⟨j, hj, rfl⟩ := List.getElem_of_mem hx
    rw [← dX hj]; exact h j hj
set_option maxHeartbeats 8000000 in
theorem uW (l : List ak) (hl : l.length ≤ 1000000) : ae Tryz.prog 90 [am l] (.bool (bP l)) := by
  have hlm : ((l.map aP).length : Int) = (l.length : Int) := by rw [List.length_map]
  refine ag aa Tryz.func90 rfl (by kernel_rfl) af (Nat.le_of_ble_eq_true rfl) ?_
  intro F n' w0 m0 hG hro h1
  repeat' first|refine Q1 ?_|refine Q2 ?_|refine Q3 hG aa eL (by kernel_rfl) ?_|refine Q4 hG aa eL (by kernel_rfl) ?_|refine Q5 hG aa ?_|refine Q6 hG aa ?_|refine Q7 hG aa ?_|refine Q8 hG aa ?_|refine Q9 rfl ?_|refine QF rfl ?_|refine QC rfl (And.intro (fun h => ?_) (fun h => ?_))|((conv => whnf); first|refine anF ?_|refine anT ?_|refine And.intro (by kernel_rfl) ?_|refine And.intro (fun h => ?_) (fun h => ?_)|refine Or.inl ?_|fail)
  all_goals first
    | (refine Ends.mk (Or.inl rfl) (ac (congrArg AV.bool ?_))
       clear hG; rw [hlm] at *; rw [Bool.eq_iff_iff, iD]; grind)
    | skip
  have h64 : l.length ≤ 64 := by clear hG; rw [hlm] at *; grind
  refine az (X := Nat) (fun x => ⟨[(3, .int .i64 x), (0, am l)], []⟩) (fun x => x ≤ l.length ∧ (∀ j, j < x → cn (aJ l j) = true) ∧ ∀ j, j + 1 < x → decide (qK (aJ l (j + 1)) (aJ l j) < 0) = false) (fun x => l.length - x) 0 ⟨Nat.zero_le _, fun j h => absurd h (by omega), fun j h => absurd h (by omega)⟩ (ah ?_ ?_) (fun x hx => ?_)
  · repeat' (first | exact trivial | refine And.intro rfl ?_)
  · repeat' (first | exact trivial | refine And.intro rfl ?_)
  · rename Nat => i
    obtain ⟨hi, h1, h2⟩ := hx
    by_cases hlt_i : i < l.length
    · have bbk : decide ((i : Int) < ((l.map aP).length : Int)) = false → False := fun h => by have := of_decide_eq_false h; simp at this; omega
      have hx := mX hlt_i
      have hpr : decide ((i : Int) > 0) = true → 0 ≤ IntKind.i64.wrap ((i : Int) - 1) ∧ (l.map aP)[(IntKind.i64.wrap ((i : Int) - 1)).toNat]? = some (aP (aJ l (i - 1))) := fun h => by
        have h := of_decide_eq_true h
        have e : IntKind.i64.wrap ((i : Int) - 1) = ((i - 1 : Nat) : Int) := (ap (by omega) (by omega)).trans (by omega)
        rw [e]
        exact ⟨Int.natCast_nonneg _, mX (by omega)⟩
      have bad1 : cn (aJ l i) = false → false = bP l := fun h => by rw [Bool.eq_iff_iff, iD]; simp only [Bool.false_eq_true, false_iff]; exact fun ⟨_, g, _⟩ => tf (g i hlt_i) h
      have bad2 : decide ((i : Int) > 0) = true → decide (qK (aJ l i) (aJ l (i - 1)) < 0) = true → false = bP l := fun g0 h => by
        rw [Bool.eq_iff_iff, iD]; simp only [Bool.false_eq_true, false_iff]
        have g0 := of_decide_eq_true g0
        exact fun ⟨_, _, g⟩ => tf h (by have := g (i - 1) (by omega); rwa [show i - 1 + 1 = i by omega] at this)
      have hok : cn (aJ l i) = true → (decide ((i : Int) > 0) = true → decide (qK (aJ l i) (aJ l (i - 1)) < 0) = false) → i + 1 ≤ l.length ∧ (∀ j, j < i + 1 → cn (aJ l j) = true) ∧ ∀ j, j + 1 < i + 1 → decide (qK (aJ l (j + 1)) (aJ l j) < 0) = false := fun g1 g2 => by
        refine ⟨hlt_i, fun j hj => ?_, fun j hj => ?_⟩
        · rcases Nat.lt_or_ge j i with h | h
          · exact h1 j h
          · rw [show j = i by omega]; exact g1
        · rcases Nat.lt_or_ge (j + 1) i with h | h
          · exact h2 j h
          · have e : i - 1 = j := by omega
            have := g2 (decide_eq_true (by omega))
            rw [e] at this
            rwa [show j + 1 = i by omega]
      generalize aJ l i = p at hx bad1 bad2 hok
      generalize aJ l (i - 1) = q at hpr bad2 hok
      repeat' first|exact (bbk (by assumption)).elim|refine Q1 ?_|refine Q2 ?_|refine Q3 hG aa eL (by kernel_rfl) ?_|refine Q4 hG aa eL (by kernel_rfl) ?_|refine Q5 hG aa ?_|refine Q6 hG aa ?_|refine Q7 hG aa ?_|refine Q8 hG aa ?_|refine Q9 rfl ?_|refine QF rfl ?_|refine QC rfl (And.intro (fun h => ?_) (fun h => ?_))|((conv => whnf); first|refine anF ?_|refine anT ?_|refine And.intro (by kernel_rfl) ?_|refine And.intro (Int.natCast_nonneg i) (Exists.intro _ (And.intro hx ?_))|refine Exists.intro _ (And.intro (tW _ _ _) ?_)|refine Exists.intro _ (And.intro (uX _ _) ?_)|refine And.intro (hpr (by assumption)).1 (Exists.intro _ (And.intro (hpr (by assumption)).2 ?_))|refine And.intro (fun h => ?_) (fun h => ?_)|refine Or.inl ?_|fail)
      all_goals first
        | (refine Ends.mk (Or.inl rfl) (ac (congrArg AV.bool ?_))
           clear hG hpr hx h1 h2 hok; first | exact bad2 (by assumption) (by assumption) | (refine bad1 ?_; clear bad1 bad2; grind [cn, inS]))
        | skip
      all_goals (refine Exists.intro (i + 1) (And.intro (hok ?_ ?_) (And.intro (by omega) (ah ?_ ?_))))
      all_goals first
        | (clear hG hpr hx h1 h2 hok bad1 bad2; grind [cn, inS])
        | (refine And.intro (congrArg some (ax (by omega))) ?_; repeat' (first | exact trivial | refine And.intro rfl ?_))
        | (repeat' (first | exact trivial | refine And.intro rfl ?_))
    · have bbk : decide ((i : Int) < ((l.map aP).length : Int)) = true → False := fun h => by have := of_decide_eq_true h; simp at this; omega
      have he : i = l.length := by omega
      repeat' first|exact (bbk (by assumption)).elim|refine Q1 ?_|refine Q2 ?_|refine Q3 hG aa eL (by kernel_rfl) ?_|refine Q4 hG aa eL (by kernel_rfl) ?_|refine Q5 hG aa ?_|refine Q6 hG aa ?_|refine Q7 hG aa ?_|refine Q8 hG aa ?_|refine Q9 rfl ?_|refine QF rfl ?_|refine QC rfl (And.intro (fun h => ?_) (fun h => ?_))|((conv => whnf); first|refine anF ?_|refine anT ?_|refine And.intro (by kernel_rfl) ?_|refine And.intro (fun h => ?_) (fun h => ?_)|refine Or.inl ?_|fail)
      exact Ends.mk (Or.inl rfl) (ac (congrArg AV.bool (by symm; rw [iD, ← he]; exact ⟨by omega, h1, h2⟩)))
theorem vI {a b c : Int} : decide (c ≥ max a b) = (decide (a ≤ c) && decide (b ≤ c)) := by rw [Bool.eq_iff_iff]; simp; omega
set_option maxHeartbeats 16000000 in
theorem uV (s : Nat → Int) (o : Opt) (ps : List ak) (hl : o.sl.length ≤ 1000000) (hps : ps.length ≤ 1000000) : ae Tryz.prog 31 [.agg (aX s), .agg (aK o), am ps] (.bool (gt s && bP ps && dh s o ps)) := by
  have hlm : ((o.sl.map aG).length : Int) = (o.sl.length : Int) := by rw [List.length_map]
  have hpm : ((ps.map aP).length : Int) = (ps.length : Int) := by rw [List.length_map]
  refine ag aa Tryz.func31 rfl (by kernel_rfl) af (Nat.le_of_ble_eq_true rfl) ?_
  intro F n' w0 m0 hG hro h1
  repeat' first|refine Q1 ?_|refine Q2 ?_|refine Q3 hG aa eP (by kernel_rfl) ?_|refine Q4 hG aa eP (by kernel_rfl) ?_|refine Q5 hG aa ?_|refine Q6 hG aa ?_|refine Q7 hG aa ?_|refine Q8 hG aa ?_|refine Q9 rfl ?_|refine QF rfl ?_|refine QC rfl (And.intro (fun h => ?_) (fun h => ?_))|((conv => whnf); first|refine anF ?_|refine anT ?_|refine And.intro (by kernel_rfl) ?_|refine Exists.intro _ (And.intro (BJ s) ?_)|refine Exists.intro _ (And.intro (uW ps hps) ?_)|refine Exists.intro _ (And.intro (wB _ _ _) ?_)|refine Exists.intro _ (And.intro (wA (gQ s) _ _ _) ?_)|refine And.intro (fun h => ?_) (fun h => ?_)|refine Or.inl ?_|fail)
  all_goals first
    | (refine Ends.mk (Or.inl rfl) (ac (congrArg AV.bool ?_))
       clear hG; rw [hlm] at *; rw [Bool.eq_iff_iff]; simp only [dh, ne, pN, w64]; grind)
    | skip
  have hfit : (gt s && bP ps && dh s o ps) = bq s ps o.size o.b o.sl := by clear hG; rw [hlm] at *; simp only [dh, ne, pN, w64]; grind
  rw [hfit]
  refine az (X := Nat × Int) (fun x => ⟨[(8, .int .i64 x.1), (7, .int .i64 x.2), (4, .loc 4 0), (3, .loc 3 0), (2, am ps)], [(4, aK o), (3, aX s)]⟩) (fun x => x.1 ≤ o.sl.length ∧ bq s ps o.size x.2 (o.sl.drop x.1) = bq s ps o.size o.b o.sl) (fun x => o.sl.length - x.1) (0, o.b) ⟨Nat.zero_le _, rfl⟩ (ah ?_ ?_) (fun x hx => ?_)
  · repeat' (first | exact trivial | refine And.intro rfl ?_)
  · repeat' (first | exact trivial | refine And.intro rfl ?_)
  · obtain ⟨i, t⟩ := x
    obtain ⟨hi, hf⟩ := hx
    simp only at hi hf ⊢
    by_cases hlt_i : i < o.sl.length
    · have bbk : decide ((i : Int) < ((o.sl.map aG).length : Int)) = false → False := fun h => by have := of_decide_eq_false h; simp at this; omega
      have hx := fT hlt_i
      rw [mM hlt_i] at hf
      generalize o.sl.getD i ⟨0, 0, 0⟩ = x at hx hf
      have hin : (!inS x.p 0 (IntKind.i64.wrap (((ps.map aP).length : Int) - 1))) = false → 0 ≤ x.p ∧ (ps.map aP)[x.p.toNat]? = some (aP (aJ ps x.p.toNat)) := fun h => by
        have h := sU h
        rw [hpm, show IntKind.i64.wrap ((ps.length : Int) - 1) = (ps.length : Int) - 1 from ap (by omega) (by omega)] at h
        simp only [inS, Bool.and_eq_true, decide_eq_true_eq] at h
        exact ⟨h.1, ez (by omega)⟩
      have hpm' : w64 ((ps.length : Int) - 1) = IntKind.i64.wrap (((ps.map aP).length : Int) - 1) := by rw [hpm]; rfl
      repeat' first|exact (bbk (by assumption)).elim|refine Q1 ?_|refine Q2 ?_|refine Q3 hG aa eP (by kernel_rfl) ?_|refine Q4 hG aa eP (by kernel_rfl) ?_|refine Q5 hG aa ?_|refine Q6 hG aa ?_|refine Q7 hG aa ?_|refine Q8 hG aa ?_|refine Q9 rfl ?_|refine QF rfl ?_|refine QC rfl (And.intro (fun h => ?_) (fun h => ?_))|((conv => whnf); first|refine anF ?_|refine anT ?_|refine And.intro (by kernel_rfl) ?_|refine And.intro (Int.natCast_nonneg i) (Exists.intro _ (And.intro hx ?_))|refine Exists.intro _ (And.intro (wB _ _ _) ?_)|refine And.intro (hin (by assumption)).1 (Exists.intro _ (And.intro (hin (by assumption)).2 ?_))|refine And.intro (fun h => ?_) (fun h => ?_)|refine Or.inl ?_|fail)
      all_goals first
        | (refine Ends.mk (Or.inl rfl) (ac (congrArg AV.bool ?_))
           clear hG hx hin; rw [← hf, fe, hpm', vI]; clear hpm' hf hfit; unfold w64; grind)
        | skip
      refine Exists.intro (i + 1, x.b) (And.intro ⟨hlt_i, ?_⟩ (And.intro (by show o.sl.length - (i + 1) < o.sl.length - i; omega) (ah ?_ ?_)))
      · clear hG hx hin
        rw [← hf]
        have hk : fe s ps o.size t x = true := by rw [fe, hpm', vI]; clear hpm' hf hfit; unfold w64; grind
        rw [hk, Bool.true_and]
      · refine And.intro (congrArg some (ax (by omega))) ?_
        repeat' (first | exact trivial | refine And.intro rfl ?_)
      · repeat' (first | exact trivial | refine And.intro rfl ?_)
    · have bbk : decide ((i : Int) < ((o.sl.map aG).length : Int)) = true → False := fun h => by have := of_decide_eq_true h; simp at this; omega
      rw [List.drop_of_length_le (by omega)] at hf
      repeat' first|exact (bbk (by assumption)).elim|refine Q1 ?_|refine Q2 ?_|refine Q3 hG aa eP (by kernel_rfl) ?_|refine Q4 hG aa eP (by kernel_rfl) ?_|refine Q5 hG aa ?_|refine Q6 hG aa ?_|refine Q7 hG aa ?_|refine Q8 hG aa ?_|refine Q9 rfl ?_|refine QF rfl ?_|refine QC rfl (And.intro (fun h => ?_) (fun h => ?_))|((conv => whnf); first|refine anF ?_|refine anT ?_|refine And.intro (by kernel_rfl) ?_|refine And.intro (fun h => ?_) (fun h => ?_)|refine Or.inl ?_|fail)
      exact Ends.mk (Or.inl rfl) (ac (congrArg AV.bool hf))
end Go.Proofs
namespace Go.Proofs
open Go Go.AI
set_option maxRecDepth 10000
theorem ix {α : Type} {l : List α} {i : Nat} (d : α) (h : i < l.length) : l.take (i + 1) = l.take i ++ [l.getD i d] := by rw [List.take_add_one, List.getD_eq_getElem?_getD, List.getElem?_eq_getElem h]; rfl
theorem kf {α : Type} {l : List α} {i : Nat} {f : α → List AV} (d : α) (h : i < l.length) : (l.map f)[(i : Int).toNat]? = some (f (l.getD i d)) := by simp [List.getElem?_eq_getElem h]
end Go.Proofs
namespace Go.Proofs
open Go Go.AI
set_option maxRecDepth 10000
def gz (sat : Int) (r : Int × List ak) (x : Int × Int × Int) : Int × List ak :=
  let cf := r.1 + 4 + al x.1 12
  let sf := cf + al (w64 (x.2.2.tdiv 3)) 2
  let st := sf + 3 + al x.2.1 12
  let ct := st + al (w64 (x.2.2.tdiv 3)) 2
  (ct, r.2 ++ [⟨sat, al x.2.2 3, sf, st, cf, ct⟩])
def gX (sat from_ : Int) (z : List (Int × Int × Int)) : Int × List ak := z.foldl (gz sat) (from_, [])
def fU (sat from_ : Int) (z : List (Int × Int × Int)) : List ak := (gX sat from_ (z.take 6)).2
structure oZ (sat from_ : Int) (n : Nat) (r : Int × List ak) : Prop where
  at_ : from_ ≤ r.1 ∧ r.1 ≤ from_ + 31 * (n : Int)
  len : r.2.length = n
  all : ∀ p ∈ r.2, cn p = true ∧ from_ ≤ p.sa ∧ p.sa < p.sb ∧ p.sb ≤ r.1 ∧ p.ca < r.1
  srt : r.2.Pairwise fun p q => p.ca < q.ca
theorem oZ.step {sat from_ : Int} {n : Nat} {r : Int × List ak} {x : Int × Int × Int} (h : oZ sat from_ n r) (hs : 0 ≤ sat ∧ sat ≤ 23) (hf : 0 ≤ from_ ∧ from_ ≤ 900000) (hn : n ≤ 100) (hx : rS x) : oZ sat from_ (n + 1) (gz sat r x) := by
  obtain ⟨h1, h2, h3, h4⟩ := h
  have p1 := aI hx.1 (n := 12) (by omega)
  have p2 := aI (mG (x.2.2.tdiv 3)) (n := 2) (by omega)
  have p3 := aI hx.2.1 (n := 12) (by omega)
  have p4 := aI hx.2.2 (n := 3) (by omega)
  unfold gz
  simp only
  generalize al x.1 12 = q1 at *
  generalize al (w64 (x.2.2.tdiv 3)) 2 = q2 at *
  generalize al x.2.1 12 = q3 at *
  generalize al x.2.2 3 = q4 at *
  refine ⟨by simp only; omega, by simp [h2], fun p hp => ?_, List.pairwise_append.2 ⟨h4, by simp, fun p hp q hq => ?_⟩⟩
  · rcases List.mem_append.1 hp with hp | hp
    · have := h3 p hp
      refine ⟨this.1, this.2.1, this.2.2.1, ?_, ?_⟩ <;> (simp only; omega)
    · rw [List.mem_singleton.1 hp]
      simp only [cn, inS, Bool.and_eq_true, Bool.or_eq_true, decide_eq_true_eq]
      refine ⟨⟨⟨by omega, ⟨by omega, by omega⟩, trivial⟩, ⟨⟨by omega, by omega⟩, by omega⟩, .inr ⟨⟨by omega, by omega⟩, by omega⟩⟩, by omega, by omega, by omega, by omega⟩
  · rw [List.mem_singleton.1 hq]
    have := h3 p hp
    simp only
    omega
theorem oZ.run {sat from_ : Int} (hs : 0 ≤ sat ∧ sat ≤ 23) (hf : 0 ≤ from_ ∧ from_ ≤ 900000) : ∀ (z : List (Int × Int × Int)) (n : Nat) (r : Int × List ak), n + z.length ≤ 100 → (∀ x ∈ z, rS x) → oZ sat from_ n r → oZ sat from_ (n + z.length) (z.foldl (gz sat) r)
  | [], n, r, _, _, h => h
  | x :: z, n, r, hn, hz, h => by
    rw [List.length_cons] at hn ⊢
    have := oZ.run hs hf z (n + 1) (gz sat r x) (by omega) (fun y hy => hz y (.tail _ hy)) (h.step hs hf (by omega) (hz x (.head _)))
    rwa [show n + (z.length + 1) = n + 1 + z.length by omega]
theorem oZ.of {sat from_ : Int} (hs : 0 ≤ sat ∧ sat ≤ 23) (hf : 0 ≤ from_ ∧ from_ ≤ 900000) {z : List (Int × Int × Int)} (hz : ∀ x ∈ z, rS x) (hl : z.length ≤ 100) : oZ sat from_ z.length (gX sat from_ z) := by
  have := oZ.run hs hf z 0 (from_, []) (by omega) hz ⟨by simp, rfl, by simp, by simp⟩
  simpa [gX] using this
theorem uq (sat from_ : Int) (z : List (Int × Int × Int)) (x : Int × Int × Int) : gX sat from_ (z ++ [x]) = gz sat (gX sat from_ z) x := by simp [gX, List.foldl_append]
theorem oZ.proper {sat from_ : Int} {n : Nat} {r : Int × List ak} (h : oZ sat from_ n r) (hn : n ≤ 64) : bP r.2 = true := by
  rw [iD]
  have hl := h.len
  refine ⟨by omega, fun j hj => ?_, fun j hj => ?_⟩
  · rw [dX hj]; exact (h.all _ (List.getElem_mem hj)).1
  · rw [yQ, dX hj, dX (show j < r.2.length by omega)]
    have := (List.pairwise_iff_getElem.1 h.srt) j (j + 1) (by omega) hj (by omega)
    rw [if_pos (by omega)]
    exact decide_eq_false (by omega)
theorem zj {sat from_ : Int} (hs : 0 ≤ sat ∧ sat ≤ 23) (hf : 0 ≤ from_ ∧ from_ ≤ 900000) {z : List (Int × Int × Int)} (hz : ∀ x ∈ z, rS x) : bP (fU sat from_ z) = true ∧ (fU sat from_ z).length ≤ 6 ∧ ∀ p ∈ fU sat from_ z, from_ ≤ p.sa ∧ p.sa < p.sb ∧ p.sb ≤ from_ + 186 := by
  have hl : (z.take 6).length ≤ 6 := List.length_take_le _ _
  have h := oZ.of hs hf (z := z.take 6) (fun x hx => hz x (List.mem_of_mem_take hx)) (by omega)
  refine ⟨h.proper (by omega), by rw [fU, h.len]; exact hl, fun p hp => ?_⟩
  have h1 := h.all p hp
  have h2 := h.at_
  omega
set_option maxHeartbeats 8000000 in
theorem wC (sat from_ : Int) (z : List (Int × Int × Int)) (hs : 0 ≤ sat ∧ sat ≤ 23) (hf : 0 ≤ from_ ∧ from_ ≤ 900000) (hz : ∀ x ∈ z, rS x) : ae Tryz.prog 70 [.int .i64 sat, .int .i64 from_, .sl .no 3 (z.map jX)] (am (fU sat from_ z)) := by
  have hlm : ((z.map jX).length : Int) = (z.length : Int) := by rw [List.length_map]
  refine ag aa Tryz.func70 rfl (by kernel_rfl) af (Nat.le_of_ble_eq_true rfl) ?_
  intro F n' w0 m0 hG hro h1
  repeat' first|refine Q1 ?_|refine Q2 ?_|refine Q3 hG aa dt (by kernel_rfl) ?_|refine Q4 hG aa dt (by kernel_rfl) ?_|refine Q5 hG aa ?_|refine Q6 hG aa ?_|refine Q7 hG aa ?_|refine Q8 hG aa ?_|refine Q9 rfl ?_|refine QF rfl ?_|refine QC rfl (And.intro (fun h => ?_) (fun h => ?_))|((conv => whnf); first|refine anF ?_|refine anT ?_|refine And.intro (by kernel_rfl) ?_|refine And.intro (fun h => ?_) (fun h => ?_)|refine Or.inl ?_|fail)
  refine az (X := Nat × Int × List ak) (fun x => ⟨[(9, .int .i64 x.1), (8, .int .i64 x.2.1), (7, .sl (.id 7) 6 (x.2.2.map aP)), (2, .sl .no 3 (z.map jX)), (0, .int .i64 sat)], []⟩) (fun x => x.1 ≤ z.length ∧ x.1 ≤ 6 ∧ x.2 = gX sat from_ (z.take x.1)) (fun x => z.length - x.1) (0, from_, []) ⟨Nat.zero_le _, Nat.zero_le _, rfl⟩ (ah ?_ ?_) (fun x hx => ?_)
  · repeat' (first | exact trivial | refine And.intro rfl ?_)
  · repeat' (first | exact trivial | refine And.intro rfl ?_)
  · obtain ⟨i, at_, out⟩ := x
    obtain ⟨hi, h6, hr⟩ := hx
    simp only at hi h6 hr ⊢
    have hP := oZ.of hs hf (z := z.take i) (fun x hx => hz x (List.mem_of_mem_take hx)) (by rw [List.length_take]; omega)
    rw [← hr, List.length_take, Nat.min_eq_left hi] at hP
    have hat := hP.at_
    have hol := hP.len
    simp only at hat hol
    by_cases hlt_i : i < z.length
    · by_cases h5 : i < 6
      · have b1 : decide ((i : Int) < ((z.map jX).length : Int)) = false → False := fun h => by have := of_decide_eq_false h; omega
        have b2 : decide ((i : Int) < 6) = false → False := fun h => by have := of_decide_eq_false h; omega
        have hx := kf (f := jX) ((0 : Int), (0 : Int), (0 : Int)) hlt_i
        have hsn := uq sat from_ (z.take i) (z.getD i ((0 : Int), (0 : Int), (0 : Int)))
        rw [← ix ((0 : Int), (0 : Int), (0 : Int)) hlt_i, ← hr] at hsn
        have hxi : rS (z.getD i ((0 : Int), (0 : Int), (0 : Int))) := hz _ (by rw [List.getD_eq_getElem?_getD, List.getElem?_eq_getElem hlt_i]; exact List.getElem_mem hlt_i)
        generalize z.getD i ((0 : Int), (0 : Int), (0 : Int)) = x at hx hsn hxi
        have p1 := aI hxi.1 (n := 12) (by omega)
        have p2 := aI (mG (x.2.2.tdiv 3)) (n := 2) (by omega)
        have p3 := aI hxi.2.1 (n := 12) (by omega)
        have c2 := dB (w64 (x.2.2.tdiv 3)) 2 (by decide)
        have hol2 : (out.map aP).length ≤ 6 := by rw [List.length_map]; omega
        simp only [gz] at hsn
        obtain ⟨q2, hq2⟩ : ∃ q, q = al (w64 (x.2.2.tdiv 3)) 2 := ⟨_, rfl⟩
        rw [← hq2] at c2 p2 hsn
        have w1 : IntKind.i64.wrap (at_ + 4) = at_ + 4 := ap (by omega) (by omega)
        have w2 : IntKind.i64.wrap (at_ + 4 + al x.1 12) = at_ + 4 + al x.1 12 := ap (by omega) (by omega)
        have w3 : IntKind.i64.wrap (at_ + 4 + al x.1 12 + q2) = at_ + 4 + al x.1 12 + q2 := ap (by omega) (by omega)
        have w4 : IntKind.i64.wrap (at_ + 4 + al x.1 12 + q2 + 3) = at_ + 4 + al x.1 12 + q2 + 3 := ap (by omega) (by omega)
        have w5 : IntKind.i64.wrap (at_ + 4 + al x.1 12 + q2 + 3 + al x.2.1 12) = at_ + 4 + al x.1 12 + q2 + 3 + al x.2.1 12 := ap (by omega) (by omega)
        have w6 : IntKind.i64.wrap (at_ + 4 + al x.1 12 + q2 + 3 + al x.2.1 12 + q2) = at_ + 4 + al x.1 12 + q2 + 3 + al x.2.1 12 + q2 := ap (by omega) (by omega)
        repeat' first|exact (b1 (by assumption)).elim|exact (b2 (by assumption)).elim|refine Q1 ?_|refine Q2 ?_|refine Q3 hG aa dt (by kernel_rfl) ?_|refine Q4 hG aa dt (by kernel_rfl) ?_|refine Q5 hG aa ?_|refine Q6 hG aa ?_|refine Q7 hG aa ?_|refine Q8 hG aa ?_|refine Q9 rfl ?_|refine QF rfl ?_|refine QC rfl (And.intro (fun h => ?_) (fun h => ?_))|((conv => whnf); first|refine anF ?_|refine anT ?_|refine And.intro (by kernel_rfl) ?_|refine And.intro (Int.natCast_nonneg i) (Exists.intro _ (And.intro hx ?_))|refine Exists.intro _ (And.intro (c2) ?_)|refine Exists.intro _ (And.intro (dB _ _ (by decide)) ?_)|refine And.intro (by decide) ?_|refine And.intro (show ((out.map aP).length + 1) * 48 ≤ 70368744177664 by omega) (And.intro (show (out.map aP).length + 1 ≤ 4611686018427387904 by omega) ?_)|refine And.intro (fun h => ?_) (fun h => ?_)|refine Or.inl ?_|fail)
        refine Exists.intro (i + 1, gX sat from_ (z.take (i + 1))) (And.intro ⟨hlt_i, h5, rfl⟩ (And.intro (by show z.length - (i + 1) < z.length - i; omega) ?_))
        rw [hsn]
        refine ah (And.intro (congrArg some (ax (by omega))) (And.intro (congrArg (fun z => some (AV.int .i64 z)) ?_) (And.intro (congrArg (fun z => some (AV.sl (.id 7) 6 z)) ?_) ?_))) ?_
        · rw [w1, w2, w3, w4, w5, w6]
        · rw [List.map_append]
          refine congrArg (out.map aP ++ ·) ?_
          rw [w1, w2, w3, w4, w5, w6]; rfl
        · repeat' (first | exact trivial | refine And.intro rfl ?_)
        · repeat' (first | exact trivial | refine And.intro rfl ?_)
      · have b2 : decide ((i : Int) < 6) = true → False := fun h => by have := of_decide_eq_true h; omega
        have b1 : decide ((i : Int) < ((z.map jX).length : Int)) = false → False := fun h => by have := of_decide_eq_false h; omega
        have he : i = 6 := by omega
        subst he
        repeat' first|exact (b1 (by assumption)).elim|exact (b2 (by assumption)).elim|refine Q1 ?_|refine Q2 ?_|refine Q3 hG aa dt (by kernel_rfl) ?_|refine Q4 hG aa dt (by kernel_rfl) ?_|refine Q5 hG aa ?_|refine Q6 hG aa ?_|refine Q7 hG aa ?_|refine Q8 hG aa ?_|refine Q9 rfl ?_|refine QF rfl ?_|refine QC rfl (And.intro (fun h => ?_) (fun h => ?_))|((conv => whnf); first|refine anF ?_|refine anT ?_|refine And.intro (by kernel_rfl) ?_|refine And.intro (fun h => ?_) (fun h => ?_)|refine Or.inl ?_|fail)
        exact Ends.mk (Or.inl rfl) (ac (by rw [fU, ← hr]; rfl))
    · have b1 : decide ((i : Int) < ((z.map jX).length : Int)) = true → False := fun h => by have := of_decide_eq_true h; omega
      rw [List.take_of_length_le (by omega)] at hr
      repeat' first|exact (b1 (by assumption)).elim|refine Q1 ?_|refine Q2 ?_|refine Q3 hG aa dt (by kernel_rfl) ?_|refine Q4 hG aa dt (by kernel_rfl) ?_|refine Q5 hG aa ?_|refine Q6 hG aa ?_|refine Q7 hG aa ?_|refine Q8 hG aa ?_|refine Q9 rfl ?_|refine QF rfl ?_|refine QC rfl (And.intro (fun h => ?_) (fun h => ?_))|((conv => whnf); first|refine anF ?_|refine anT ?_|refine And.intro (by kernel_rfl) ?_|refine And.intro (fun h => ?_) (fun h => ?_)|refine Or.inl ?_|fail)
      exact Ends.mk (Or.inl rfl) (ac (by rw [fU, List.take_of_length_le (by omega), ← hr]; rfl))
end Go.Proofs
namespace Go.Proofs
open Go Go.AI
set_option maxRecDepth 10000
structure R5 where
  a : Int
  b : Int
  c : Int
  d : Int
  e : Int
def fO (x : R5) : List AV := [.int .i64 x.a, .int .i64 x.b, .int .i64 x.c, .int .i64 x.d, .int .i64 x.e]
def r50 : R5 := ⟨0, 0, 0, 0, 0⟩
def qI (x : R5) : Prop := inI x.a ∧ inI x.b ∧ inI x.c ∧ inI x.d ∧ inI x.e
def mN (s0 m d n : Int) (ps : List ak) (r : Int × List a8) (k : Nat) : Int × List a8 :=
  if (r.2.length : Int) < n ∧ (aJ ps k).sat = s0 ∧ max r.1 ((aJ ps k).sa + d) + m ≤ (aJ ps k).sb then
    (max r.1 ((aJ ps k).sa + d) + m, r.2 ++ [⟨(k : Int), max r.1 ((aJ ps k).sa + d), max r.1 ((aJ ps k).sa + d) + m⟩]) else r
def er (s0 m d n : Int) (ps : List ak) (t0 : Int) (k : Nat) : Int × List a8 := (List.range k).foldl (mN s0 m d n ps) (t0, [])
theorem jy (s0 m d n : Int) (ps : List ak) (t0 : Int) (k : Nat) : er s0 m d n ps t0 (k + 1) = mN s0 m d n ps (er s0 m d n ps t0 k) k := by simp [er, List.range_succ, List.foldl_append]
theorem mP {s0 m d n : Int} {ps : List ak} {t0 : Int} {k : Nat} (h : ¬ ((er s0 m d n ps t0 k).2.length : Int) < n) : ∀ j, er s0 m d n ps t0 (k + j) = er s0 m d n ps t0 k
  | 0 => rfl
  | j + 1 => by
    rw [show k + (j + 1) = (k + j) + 1 from rfl, jy, mP h j]
    exact if_neg fun g => h g.1
theorem mO {s0 m d n : Int} {ps : List ak} {t0 : Int} {k : Nat} (hk : k ≤ ps.length) (h : ¬ ((er s0 m d n ps t0 k).2.length : Int) < n) : er s0 m d n ps t0 ps.length = er s0 m d n ps t0 k := by
  have := mP h (ps.length - k)
  rwa [show k + (ps.length - k) = ps.length by omega] at this
def m4 (s : Nat → Int) (ps : List ak) (from_ id : Int) (x : R5) : Opt :=
  ⟨id, al x.e 4, 0, s 0, from_ + al x.a 40, from_ + al x.a 40 + 1 + al x.b 5, al x.c (2 * s 9 + 1) - s 9, min (s 10) ((1 + al x.d 4) * s 20),
    (er (s 0) (1 + al x.d 4) (al (w64 (x.d.tdiv 4)) 3) (1 + al (w64 (x.e.tdiv 4)) 3) ps (from_ + al x.a 40 + 1 + al x.b 5) ps.length).2⟩
def fz (s : Nat → Int) (ps : List ak) (o : Opt) : Bool := gt s && bP ps && dh s o ps
def dc (s : Nat → Int) (ps : List ak) (from_ id : Int) (z : List R5) : Nat → List Opt
  | 0 => []
  | i + 1 => dc s ps from_ id z i ++ if fz s ps (m4 s ps from_ (id + i) (z.getD i r50)) then [m4 s ps from_ (id + i) (z.getD i r50)] else []
def yB (s : Nat → Int) (ps : List ak) (from_ id : Int) (z : List R5) : List Opt := dc s ps from_ id z (min z.length 5)
theorem lW (s : Nat → Int) (ps : List ak) (from_ id : Int) (z : List R5) : ∀ i, (dc s ps from_ id z i).length ≤ i
  | 0 => Nat.le_refl _
  | i + 1 => by
    have := lW s ps from_ id z i
    simp only [dc, List.length_append]
    split <;> simp <;> omega
theorem AV.weak.agg {cs ds : List AV} (h : ig cs ds) (hd : ∀ x ∈ ds, x.isCell = true) : (AV.agg cs).weak (.agg ds) := by
  intro m v hv
  cases hv with
  | agg _ vs hl hc hr =>
    obtain ⟨h1, h2⟩ := h.spec
    refine .agg ds vs (by omega) hd fun i x u g1 g2 => ?_
    have hi : i < cs.length := by rw [h1]; exact (List.getElem?_eq_some_iff.1 g1).1
    exact h2 i _ x (List.getElem?_eq_getElem hi) g1 m u (hr i _ u (List.getElem?_eq_getElem hi) g2)
structure Ex (s : Nat → Int) (ps : List ak) (from_ id : Int) : Prop where
  w : 0 ≤ s 9 ∧ s 9 ≤ 4
  st : 1 ≤ s 10 ∧ s 10 ≤ 1000000
  rt : 1 ≤ s 20 ∧ s 20 ≤ 1000
  f : 0 ≤ from_ ∧ from_ ≤ 900000
  id : 0 ≤ id ∧ id ≤ 50
  pl : ps.length ≤ 64
  p : ∀ p ∈ ps, 0 ≤ p.sa ∧ p.sa ≤ 1000001 ∧ 0 ≤ p.sb ∧ p.sb ≤ 1000001
theorem vq {s : Nat → Int} {ps : List ak} {p : Int} {a b c d e f g : Int} : fz s ps ⟨p, a, b, c, d, e, f, g, []⟩ = false := by
  have : inS (([] : List a8).length : Int) 1 6 = false := by decide
  simp only [fz, dh, this, Bool.and_false, Bool.false_and]
set_option maxHeartbeats 16000000 in
theorem uY (s : Nat → Int) (ps : List ak) (from_ id : Int) (z : List R5) (hH : Ex s ps from_ id) (hz : ∀ x ∈ z, qI x) : ae Tryz.prog 71 [.agg (aX s), am ps, .int .i64 from_, .int .i64 id, .sl .no 5 (z.map fO)] (aM (yB s ps from_ id z)) := by
  have hlm : ((z.map fO).length : Int) = (z.length : Int) := by rw [List.length_map]
  have hw := hH.w; have hst := hH.st; have hrt := hH.rt; have hf := hH.f; have hid := hH.id; have hpl := hH.pl
  refine ag aa Tryz.func71 rfl (by kernel_rfl) af (Nat.le_of_ble_eq_true rfl) ?_
  intro F n' w0 m0 hG hro h1
  repeat' first|refine Q1 ?_|refine Q2 ?_|refine Q3 hG aa aZ (by kernel_rfl) ?_|refine Q4 hG aa aZ (by kernel_rfl) ?_|refine Q5 hG aa ?_|refine Q6 hG aa ?_|refine Q7 hG aa ?_|refine Q8 hG aa ?_|refine Q9 rfl ?_|refine QF rfl ?_|refine QC rfl (And.intro (fun h => ?_) (fun h => ?_))|((conv => whnf); first|refine anF ?_|refine anT ?_|refine And.intro (by kernel_rfl) ?_|refine And.intro (fun h => ?_) (fun h => ?_)|refine Or.inl ?_|fail)
  refine az (X := Nat) (fun i => ⟨[(12, .int .i64 i), (11, (.sl (.id 11) 9 ((dc s ps from_ id z i).map aK))), (5, .loc 5 0), (4, .sl .no 5 (z.map fO)), (3, .int .i64 id), (2, .int .i64 from_), (1, am ps)], [(5, aX s)]⟩) (fun i => i ≤ z.length ∧ i ≤ 5) (fun i => z.length - i) 0 ⟨Nat.zero_le _, Nat.zero_le _⟩ (ah ?_ ?_) (fun i hx => ?_)
  · repeat' (first | exact trivial | refine And.intro rfl ?_)
  · repeat' (first | exact trivial | refine And.intro rfl ?_)
  · obtain ⟨hi, h6⟩ := hx
    have hol := lW s ps from_ id z i
    by_cases hlt_i : i < z.length
    · by_cases h5 : i < 5
      · have b1 : decide ((i : Int) < ((z.map fO).length : Int)) = false → False := fun h => by have := of_decide_eq_false h; omega
        have b2 : decide ((i : Int) < 5) = false → False := fun h => by have := of_decide_eq_false h; omega
        have hx := kf (f := fO) r50 hlt_i
        have hxi : qI (z.getD i r50) := hz _ (by rw [List.getD_eq_getElem?_getD, List.getElem?_eq_getElem hlt_i]; exact List.getElem_mem hlt_i)
        have hon : dc s ps from_ id z (i + 1) = dc s ps from_ id z i ++ if fz s ps (m4 s ps from_ (id + i) (z.getD i r50)) then [m4 s ps from_ (id + i) (z.getD i r50)] else [] := rfl
        generalize z.getD i r50 = x at hx hxi hon
        have p1 := aI hxi.1 (n := 40) (by omega)
        have p2 := aI hxi.2.1 (n := 5) (by omega)
        have p3 := aI hxi.2.2.1 (n := 2 * s 9 + 1) (by omega)
        have p4 := aI hxi.2.2.2.1 (n := 4) (by omega)
        have p5 := aI (mG (x.d.tdiv 4)) (n := 3) (by omega)
        have p6 := aI (mG (x.e.tdiv 4)) (n := 3) (by omega)
        have cE := dB (w64 (x.e.tdiv 4)) 3 (by decide)
        have cD := dB (w64 (x.d.tdiv 4)) 3 (by decide)
        have wc : IntKind.i64.wrap (IntKind.i64.wrap (2 * s 9) + 1) = 2 * s 9 + 1 := by rw [show IntKind.i64.wrap (2 * s 9) = 2 * s 9 from ap (by omega) (by omega)]; exact ap (by omega) (by omega)
        have cC : ae Tryz.prog 143 [.int .i64 x.c, .int .i64 (IntKind.i64.wrap (IntKind.i64.wrap (2 * s 9) + 1))] (.int .i64 (al x.c (2 * s 9 + 1))) := by
          have h := dB x.c (IntKind.i64.wrap (IntKind.i64.wrap (2 * s 9) + 1)) (by rw [wc]; omega)
          rw [wc] at h ⊢
          exact h
        have c1 := dB x.a 40 (by decide)
        have c2 := dB x.b 5 (by decide)
        have c4 := dB x.d 4 (by decide)
        have hmkv : m4 s ps from_ (id + i) x = ⟨id + i, al x.e 4, 0, s 0, from_ + al x.a 40, from_ + al x.a 40 + 1 + al x.b 5, al x.c (2 * s 9 + 1) - s 9, min (s 10) ((1 + al x.d 4) * s 20),
    (er (s 0) (1 + al x.d 4) (al (w64 (x.d.tdiv 4)) 3) (1 + al (w64 (x.e.tdiv 4)) 3) ps (from_ + al x.a 40 + 1 + al x.b 5) ps.length).2⟩ := rfl
        generalize al x.a 40 = pa at *
        generalize al x.b 5 = pb at *
        generalize al x.c (2 * s 9 + 1) = pc at *
        generalize al x.d 4 = pd at *
        generalize al (w64 (x.d.tdiv 4)) 3 = dd at *
        generalize al (w64 (x.e.tdiv 4)) 3 = nn at *
        have hm0 : 0 ≤ (1 + pd) * s 20 := Int.mul_nonneg (by omega) (by omega)
        have hm1 : (1 + pd) * s 20 ≤ 4 * 1000 := Int.mul_le_mul (by omega) (by omega) (by omega) (by omega)
        have w1 : IntKind.i64.wrap (id + (i : Int)) = id + i := ap (by omega) (by omega)
        have w2 : IntKind.i64.wrap (from_ + pa) = from_ + pa := ap (by omega) (by omega)
        have w3 : IntKind.i64.wrap (from_ + pa + 1) = from_ + pa + 1 := ap (by omega) (by omega)
        have w4 : IntKind.i64.wrap (from_ + pa + 1 + pb) = from_ + pa + 1 + pb := ap (by omega) (by omega)
        have w5 : IntKind.i64.wrap (pc - s 9) = pc - s 9 := ap (by omega) (by omega)
        have w6 : IntKind.i64.wrap (1 + pd) = 1 + pd := ap (by omega) (by omega)
        have w7 : IntKind.i64.wrap ((1 + pd) * s 20) = (1 + pd) * s 20 := ap (by omega) (by omega)
        have w8 : IntKind.i64.wrap (1 + nn) = 1 + nn := ap (by omega) (by omega)
        have hcell : ([.int .i64 (IntKind.i64.wrap (id + (i : Int))), .int .i64 (al x.e 4), .int .i64 0, .int .i64 (s 0), .int .i64 (IntKind.i64.wrap (from_ + pa)), .int .i64 (IntKind.i64.wrap (IntKind.i64.wrap (IntKind.i64.wrap (from_ + pa) + 1) + pb)), .int .i64 (IntKind.i64.wrap (pc - s 9)), .int .i64 (min (s 10) (IntKind.i64.wrap (IntKind.i64.wrap (1 + pd) * s 20))), .sl .full 0 []] : List AV) = [.int .i64 (id + (i : Int)), .int .i64 (al x.e 4), .int .i64 0, .int .i64 (s 0), .int .i64 (from_ + pa), .int .i64 (from_ + pa + 1 + pb), .int .i64 (pc - s 9), .int .i64 (min (s 10) ((1 + pd) * s 20)), .sl .full 0 []] := by rw [w1, w2, w3, w4, w5, w6, w7]
        have h15 : 0 ≤ from_ + pa + 1 + pb ∧ from_ + pa + 1 + pb ≤ 1900000 := by omega
        have he15 : IntKind.i64.wrap (IntKind.i64.wrap (IntKind.i64.wrap (from_ + pa) + 1) + pb) = from_ + pa + 1 + pb := by rw [w2, w3, w4]
        repeat' first|exact (b1 (by assumption)).elim|exact (b2 (by assumption)).elim|refine Q1 ?_|refine Q2 ?_|refine Q3 hG aa aZ (by kernel_rfl) ?_|refine Q4 hG aa aZ (by kernel_rfl) ?_|refine Q5 hG aa ?_|refine Q6 hG aa ?_|refine Q7 hG aa ?_|refine Q8 hG aa ?_|refine Q9 rfl ?_|refine QF rfl ?_|refine QC rfl (And.intro (fun h => ?_) (fun h => ?_))|((conv => whnf); first|refine anF ?_|refine anT ?_|refine And.intro (by kernel_rfl) ?_|refine And.intro (Int.natCast_nonneg i) (Exists.intro _ (And.intro hx ?_))|refine Exists.intro _ (And.intro (cC) ?_)|refine Exists.intro _ (And.intro (c1) ?_)|refine Exists.intro _ (And.intro (c2) ?_)|refine Exists.intro _ (And.intro (c4) ?_)|refine Exists.intro _ (And.intro (dB _ _ (by decide)) ?_)|refine And.intro (by decide) ?_|refine And.intro (fun h => ?_) (fun h => ?_)|refine Or.inl ?_|fail)
        have cPf : ∀ sl : List a8, sl.length ≤ 64 → ae Tryz.prog 31 [.agg (aX s), .agg [.int .i64 (id + (i : Int)), .int .i64 (al x.e 4), .int .i64 0, .int .i64 (s 0), .int .i64 (from_ + pa), .int .i64 (from_ + pa + 1 + pb), .int .i64 (pc - s 9), .int .i64 (min (s 10) ((1 + pd) * s 20)), xh sl], am ps] (.bool (fz s ps ⟨id + i, al x.e 4, 0, s 0, from_ + pa, from_ + pa + 1 + pb, pc - s 9, min (s 10) ((1 + pd) * s 20), sl⟩)) := fun sl h => uV s ⟨id + (i : Int), al x.e 4, 0, s 0, from_ + pa, from_ + pa + 1 + pb, pc - s 9, min (s 10) ((1 + pd) * s 20), sl⟩ ps (Nat.le_trans h (by decide)) (by omega)
        refine az (X := Nat × Int × List a8 × AV) (fun y => ⟨[(16, .int .i64 y.1), (15, .int .i64 y.2.1), (14, .int .i64 (1 + pd)), (13, .loc 13 0), (12, .int .i64 i), (11, (.sl (.id 11) 9 ((dc s ps from_ id z i).map aK))), (5, .loc 5 0), (4, .sl .no 5 (z.map fO)), (3, .int .i64 id), (2, .int .i64 from_), (1, am ps)], [(13, [.int .i64 (id + (i : Int)), .int .i64 (al x.e 4), .int .i64 0, .int .i64 (s 0), .int .i64 (from_ + pa), .int .i64 (from_ + pa + 1 + pb), .int .i64 (pc - s 9), .int .i64 (min (s 10) ((1 + pd) * s 20)), y.2.2.2]), (5, aX s)]⟩) (fun y => y.1 ≤ ps.length ∧ (y.2.1, y.2.2.1) = er (s 0) (1 + pd) dd (1 + nn) ps (from_ + pa + 1 + pb) y.1 ∧ (0 ≤ y.2.1 ∧ y.2.1 ≤ 1900000) ∧ y.2.2.1.length ≤ y.1 ∧ ((y.2.2.1 = [] ∧ y.2.2.2 = .sl .full 0 []) ∨ y.2.2.2 = .sl (.id 160) 3 (y.2.2.1.map aG))) (fun y => ps.length - y.1) (0, from_ + pa + 1 + pb, [], .sl .full 0 []) ⟨Nat.zero_le _, rfl, h15, Nat.le_refl _, .inl ⟨rfl, rfl⟩⟩ (ah ?_ ?_) (fun y hy => ?_)
        · refine And.intro rfl (And.intro (congrArg (fun z => some (AV.int .i64 z)) he15) (And.intro (congrArg (fun z => some (AV.int .i64 z)) w6) ?_))
          repeat' (first | exact trivial | refine And.intro rfl ?_)
        · refine And.intro (congrArg some hcell) ?_
          repeat' (first | exact trivial | refine And.intro rfl ?_)
        · obtain ⟨k, en, sl, cell⟩ := y
          obtain ⟨hk, hr, hen, hsl, hc⟩ := hy
          simp only at hk hr hen hsl hc ⊢
          rcases hc with ⟨rfl, rfl⟩ | rfl
          · have cP : ae Tryz.prog 31 [.agg (aX s), .agg [.int .i64 (id + (i : Int)), .int .i64 (al x.e 4), .int .i64 0, .int .i64 (s 0), .int .i64 (from_ + pa), .int .i64 (from_ + pa + 1 + pb), .int .i64 (pc - s 9), .int .i64 (min (s 10) ((1 + pd) * s 20)), .sl .full 0 []], am ps] (.bool (fz s ps ⟨id + (i : Int), al x.e 4, 0, s 0, from_ + pa, from_ + pa + 1 + pb, pc - s 9, min (s 10) ((1 + pd) * s 20), ([] : List a8)⟩)) := (cPf [] (by simp)).weak (.cons (.refl _) (.cons (AV.weak.agg (.cons (.refl _) (.cons (.refl _) (.cons (.refl _) (.cons (.refl _) (.cons (.refl _) (.cons (.refl _) (.cons (.refl _) (.cons (.refl _) (.cons AV.weak.slnil .nil))))))))) (by intro y hy; simp at hy; rcases hy with rfl | rfl | rfl | rfl | rfl | rfl | rfl | rfl | rfl <;> rfl)) (.refl _)))
            by_cases hlt_k : k < ps.length
            · have bbk : decide ((k : Int) < ((ps.map aP).length : Int)) = false → False := fun h => by have := of_decide_eq_false h; simp at this; omega
              have hy := mX hlt_k
              have hqb := hH.p (aJ ps k) (by rw [dX hlt_k]; exact List.getElem_mem hlt_k)
              have hrn := jy (s 0) (1 + pd) dd (1 + nn) ps (from_ + pa + 1 + pb) k
              rw [← hr, mN] at hrn
              simp only at hrn
              have hstop : ¬ ((([] : List a8) : List a8).length : Int) < 1 + nn → m4 s ps from_ (id + i) x = ⟨id + (i : Int), al x.e 4, 0, s 0, from_ + pa, from_ + pa + 1 + pb, pc - s 9, min (s 10) ((1 + pd) * s 20), ([] : List a8)⟩ := fun h => by
                have h2 := mO hk (s0 := s 0) (m := 1 + pd) (d := dd) (n := 1 + nn) (t0 := from_ + pa + 1 + pb) (by rw [← hr]; exact h)
                rw [hmkv, h2, ← hr]
              generalize aJ ps k = q at hy hqb hrn
              have v1 : IntKind.i64.wrap (q.sa + dd) = q.sa + dd := ap (by omega) (by omega)
              have v2 : IntKind.i64.wrap (max en (q.sa + dd) + (1 + pd)) = max en (q.sa + dd) + (1 + pd) := ap (by omega) (by omega)
              have e15 : IntKind.i64.wrap (max en (IntKind.i64.wrap (q.sa + dd)) + (1 + pd)) = max en (q.sa + dd) + (1 + pd) := by rw [v1, v2]
              have e13 : ([] : List (List AV)) ++ [[.int .i64 (k : Int), .int .i64 (max en (IntKind.i64.wrap (q.sa + dd))), .int .i64 (IntKind.i64.wrap (max en (IntKind.i64.wrap (q.sa + dd)) + (1 + pd)))]] = (([] : List a8) ++ [(⟨(k : Int), max en (q.sa + dd), max en (q.sa + dd) + (1 + pd)⟩ : a8)]).map aG := by rw [v1, v2]; simp [aG]
              repeat' first|exact (bbk (by assumption)).elim|refine Q1 ?_|refine Q2 ?_|refine Q3 hG aa aZ (by kernel_rfl) ?_|refine Q4 hG aa aZ (by kernel_rfl) ?_|refine Q5 hG aa ?_|refine Q6 hG aa ?_|refine Q7 hG aa ?_|refine Q8 hG aa ?_|refine Q9 rfl ?_|refine QF rfl ?_|refine QC rfl (And.intro (fun h => ?_) (fun h => ?_))|((conv => whnf); first|refine anF ?_|refine anT ?_|refine And.intro (by kernel_rfl) ?_|refine And.intro (Int.natCast_nonneg k) (Exists.intro _ (And.intro hy ?_))|refine And.intro (Int.natCast_nonneg i) (Exists.intro _ (And.intro hx ?_))|refine Exists.intro _ (And.intro (cE) ?_)|refine Exists.intro _ (And.intro (cD) ?_)|refine And.intro (by decide) ?_|refine And.intro (Nat.le_of_ble_eq_true rfl) (And.intro (Nat.le_of_ble_eq_true rfl) ?_)|refine Exists.intro _ (And.intro (cP) ?_)|refine And.intro (show (((dc s ps from_ id z i).map aK).length + 1) * 88 ≤ 70368744177664 by rw [List.length_map]; omega) (And.intro (show ((dc s ps from_ id z i).map aK).length + 1 ≤ 4611686018427387904 by rw [List.length_map]; omega) ?_)|refine And.intro (fun h => ?_) (fun h => ?_)|refine Or.inl ?_|fail)
              all_goals first
                | (conv => whnf
                   refine Exists.intro (k + 1, max en (q.sa + dd) + (1 + pd), ([] : List a8) ++ [(⟨(k : Int), max en (q.sa + dd), max en (q.sa + dd) + (1 + pd)⟩ : a8)], AV.sl (.id 160) 3 ((([] : List a8) ++ [(⟨(k : Int), max en (q.sa + dd), max en (q.sa + dd) + (1 + pd)⟩ : a8)]).map aG)) (And.intro ⟨hlt_k, ?_, ?_, ?_, .inr rfl⟩ (And.intro (by show ps.length - (k + 1) < ps.length - k; omega) (ah ?_ ?_)))
                   · rw [hrn]; symm; apply if_pos; clear hG hcell hmkv hon hx hy cP cPf hstop e13 cE cD cC c1 c2 c4 w1 w2 w3 w4 w5 w6 w7 wc he15 hm0 hm1 hH hz hxi hlm; (try simp only [cond_true, cond_false] at *); grind
                   · clear hG hcell hmkv hon hx hy cP cPf hstop e13 cE cD cC c1 c2 c4 w1 w2 w3 w4 w5 w6 w7 wc he15 hm0 hm1 hH hz hxi hlm; (try simp only [cond_true, cond_false] at *); grind
                   · simp <;> omega
                   · refine And.intro (congrArg some (ax (by omega))) (And.intro (congrArg (fun z => some (AV.int .i64 z)) e15) ?_)
                     repeat' (first | exact trivial | refine And.intro rfl ?_)
                   · refine And.intro (congrArg (fun z => some ([.int .i64 (id + (i : Int)), .int .i64 (al x.e 4), .int .i64 0, .int .i64 (s 0), .int .i64 (from_ + pa), .int .i64 (from_ + pa + 1 + pb), .int .i64 (pc - s 9), .int .i64 (min (s 10) ((1 + pd) * s 20)), AV.sl (.id 160) 3 z] : List AV)) e13) ?_
                     repeat' (first | exact trivial | refine And.intro rfl ?_))
                | (conv => whnf
                   refine Exists.intro (k + 1, en, ([] : List a8), .sl .full 0 []) (And.intro ⟨hlt_k, ?_, hen, ?_, .inl ⟨rfl, rfl⟩⟩ (And.intro (by show ps.length - (k + 1) < ps.length - k; omega) (ah ?_ ?_)))
                   · rw [hrn]; symm; apply if_neg; clear hG hcell hmkv hon hx hy cP cPf hstop e13 cE cD cC c1 c2 c4 w1 w2 w3 w4 w5 w6 w7 wc he15 hm0 hm1 hH hz hxi hlm; (try simp only [cond_true, cond_false] at *); grind
                   · exact Nat.le_succ_of_le hsl
                   · refine And.intro (congrArg some (ax (by omega))) ?_
                     repeat' (first | exact trivial | refine And.intro rfl ?_)
                   · repeat' (first | exact trivial | refine And.intro rfl ?_))
                | skip
              all_goals have hmk := hstop (by clear hG hcell hmkv hon hx hy cP cPf hstop e13 cE cD cC c1 c2 c4 w1 w2 w3 w4 w5 w6 w7 wc he15 hm0 hm1 hH hz hxi hlm; (try simp only [cond_true, cond_false] at *); grind)
              all_goals first
                | (exact absurd (by assumption : fz s ps _ = true) (by rw [vq]; simp))
                | (have hpr := (by assumption : fz s ps _ = false)
                   conv => whnf
                   refine Exists.intro (i + 1) (And.intro ⟨hlt_i, h5⟩ (And.intro (by omega) (ah ?_ ?_)))
                   · refine And.intro (congrArg some (ax (by omega))) (And.intro (congrArg (fun z => some (AV.sl (.id 11) 9 z)) ?_) ?_)
                     · rw [hon, hmk, if_neg (by rw [hpr]; simp), List.append_nil]
                     · repeat' (first | exact trivial | refine And.intro rfl ?_)
                   · repeat' (first | exact trivial | refine And.intro rfl ?_))
            · have bbk : decide ((k : Int) < ((ps.map aP).length : Int)) = true → False := fun h => by have := of_decide_eq_true h; simp at this; omega
              have he : k = ps.length := by omega
              have hmk : m4 s ps from_ (id + i) x = ⟨id + (i : Int), al x.e 4, 0, s 0, from_ + pa, from_ + pa + 1 + pb, pc - s 9, min (s 10) ((1 + pd) * s 20), ([] : List a8)⟩ := by rw [hmkv, ← he, ← hr]
              repeat' first|exact (bbk (by assumption)).elim|refine Q1 ?_|refine Q2 ?_|refine Q3 hG aa aZ (by kernel_rfl) ?_|refine Q4 hG aa aZ (by kernel_rfl) ?_|refine Q5 hG aa ?_|refine Q6 hG aa ?_|refine Q7 hG aa ?_|refine Q8 hG aa ?_|refine Q9 rfl ?_|refine QF rfl ?_|refine QC rfl (And.intro (fun h => ?_) (fun h => ?_))|((conv => whnf); first|refine anF ?_|refine anT ?_|refine And.intro (by kernel_rfl) ?_|refine Exists.intro _ (And.intro (cP) ?_)|refine And.intro (show (((dc s ps from_ id z i).map aK).length + 1) * 88 ≤ 70368744177664 by rw [List.length_map]; omega) (And.intro (show ((dc s ps from_ id z i).map aK).length + 1 ≤ 4611686018427387904 by rw [List.length_map]; omega) ?_)|refine And.intro (fun h => ?_) (fun h => ?_)|refine Or.inl ?_|fail)
              all_goals first
                | (exact absurd (by assumption : fz s ps _ = true) (by rw [vq]; simp))
                | (have hpr := (by assumption : fz s ps _ = false)
                   conv => whnf
                   refine Exists.intro (i + 1) (And.intro ⟨hlt_i, h5⟩ (And.intro (by omega) (ah ?_ ?_)))
                   · refine And.intro (congrArg some (ax (by omega))) (And.intro (congrArg (fun z => some (AV.sl (.id 11) 9 z)) ?_) ?_)
                     · rw [hon, hmk, if_neg (by rw [hpr]; simp), List.append_nil]
                     · repeat' (first | exact trivial | refine And.intro rfl ?_)
                   · repeat' (first | exact trivial | refine And.intro rfl ?_))
          · have cP : ae Tryz.prog 31 [.agg (aX s), .agg [.int .i64 (id + (i : Int)), .int .i64 (al x.e 4), .int .i64 0, .int .i64 (s 0), .int .i64 (from_ + pa), .int .i64 (from_ + pa + 1 + pb), .int .i64 (pc - s 9), .int .i64 (min (s 10) ((1 + pd) * s 20)), .sl .no 3 (sl.map aG)], am ps] (.bool (fz s ps ⟨id + (i : Int), al x.e 4, 0, s 0, from_ + pa, from_ + pa + 1 + pb, pc - s 9, min (s 10) ((1 + pd) * s 20), sl⟩)) := cPf sl (by omega)
            by_cases hlt_k : k < ps.length
            · have bbk : decide ((k : Int) < ((ps.map aP).length : Int)) = false → False := fun h => by have := of_decide_eq_false h; simp at this; omega
              have hy := mX hlt_k
              have hqb := hH.p (aJ ps k) (by rw [dX hlt_k]; exact List.getElem_mem hlt_k)
              have hrn := jy (s 0) (1 + pd) dd (1 + nn) ps (from_ + pa + 1 + pb) k
              rw [← hr, mN] at hrn
              simp only at hrn
              have hstop : ¬ ((sl : List a8).length : Int) < 1 + nn → m4 s ps from_ (id + i) x = ⟨id + (i : Int), al x.e 4, 0, s 0, from_ + pa, from_ + pa + 1 + pb, pc - s 9, min (s 10) ((1 + pd) * s 20), sl⟩ := fun h => by
                have h2 := mO hk (s0 := s 0) (m := 1 + pd) (d := dd) (n := 1 + nn) (t0 := from_ + pa + 1 + pb) (by rw [← hr]; exact h)
                rw [hmkv, h2, ← hr]
              generalize aJ ps k = q at hy hqb hrn
              have v1 : IntKind.i64.wrap (q.sa + dd) = q.sa + dd := ap (by omega) (by omega)
              have v2 : IntKind.i64.wrap (max en (q.sa + dd) + (1 + pd)) = max en (q.sa + dd) + (1 + pd) := ap (by omega) (by omega)
              have e15 : IntKind.i64.wrap (max en (IntKind.i64.wrap (q.sa + dd)) + (1 + pd)) = max en (q.sa + dd) + (1 + pd) := by rw [v1, v2]
              have e13 : sl.map aG ++ [[.int .i64 (k : Int), .int .i64 (max en (IntKind.i64.wrap (q.sa + dd))), .int .i64 (IntKind.i64.wrap (max en (IntKind.i64.wrap (q.sa + dd)) + (1 + pd)))]] = (sl ++ [(⟨(k : Int), max en (q.sa + dd), max en (q.sa + dd) + (1 + pd)⟩ : a8)]).map aG := by rw [v1, v2]; simp [aG]
              repeat' first|exact (bbk (by assumption)).elim|refine Q1 ?_|refine Q2 ?_|refine Q3 hG aa aZ (by kernel_rfl) ?_|refine Q4 hG aa aZ (by kernel_rfl) ?_|refine Q5 hG aa ?_|refine Q6 hG aa ?_|refine Q7 hG aa ?_|refine Q8 hG aa ?_|refine Q9 rfl ?_|refine QF rfl ?_|refine QC rfl (And.intro (fun h => ?_) (fun h => ?_))|((conv => whnf); first|refine anF ?_|refine anT ?_|refine And.intro (by kernel_rfl) ?_|refine And.intro (Int.natCast_nonneg k) (Exists.intro _ (And.intro hy ?_))|refine And.intro (Int.natCast_nonneg i) (Exists.intro _ (And.intro hx ?_))|refine Exists.intro _ (And.intro (cE) ?_)|refine Exists.intro _ (And.intro (cD) ?_)|refine And.intro (by decide) ?_|refine And.intro (show ((sl.map aG).length + 1) * 24 ≤ 70368744177664 by rw [List.length_map]; omega) (And.intro (show (sl.map aG).length + 1 ≤ 4611686018427387904 by rw [List.length_map]; omega) ?_)|refine Exists.intro _ (And.intro (cP) ?_)|refine And.intro (show (((dc s ps from_ id z i).map aK).length + 1) * 88 ≤ 70368744177664 by rw [List.length_map]; omega) (And.intro (show ((dc s ps from_ id z i).map aK).length + 1 ≤ 4611686018427387904 by rw [List.length_map]; omega) ?_)|refine And.intro (fun h => ?_) (fun h => ?_)|refine Or.inl ?_|fail)
              all_goals first
                | (conv => whnf
                   refine Exists.intro (k + 1, max en (q.sa + dd) + (1 + pd), sl ++ [(⟨(k : Int), max en (q.sa + dd), max en (q.sa + dd) + (1 + pd)⟩ : a8)], AV.sl (.id 160) 3 ((sl ++ [(⟨(k : Int), max en (q.sa + dd), max en (q.sa + dd) + (1 + pd)⟩ : a8)]).map aG)) (And.intro ⟨hlt_k, ?_, ?_, ?_, .inr rfl⟩ (And.intro (by show ps.length - (k + 1) < ps.length - k; omega) (ah ?_ ?_)))
                   · rw [hrn]; symm; apply if_pos; clear hG hcell hmkv hon hx hy cP cPf hstop e13 cE cD cC c1 c2 c4 w1 w2 w3 w4 w5 w6 w7 wc he15 hm0 hm1 hH hz hxi hlm; (try simp only [cond_true, cond_false] at *); grind
                   · clear hG hcell hmkv hon hx hy cP cPf hstop e13 cE cD cC c1 c2 c4 w1 w2 w3 w4 w5 w6 w7 wc he15 hm0 hm1 hH hz hxi hlm; (try simp only [cond_true, cond_false] at *); grind
                   · simp <;> omega
                   · refine And.intro (congrArg some (ax (by omega))) (And.intro (congrArg (fun z => some (AV.int .i64 z)) e15) ?_)
                     repeat' (first | exact trivial | refine And.intro rfl ?_)
                   · refine And.intro (congrArg (fun z => some ([.int .i64 (id + (i : Int)), .int .i64 (al x.e 4), .int .i64 0, .int .i64 (s 0), .int .i64 (from_ + pa), .int .i64 (from_ + pa + 1 + pb), .int .i64 (pc - s 9), .int .i64 (min (s 10) ((1 + pd) * s 20)), AV.sl (.id 160) 3 z] : List AV)) e13) ?_
                     repeat' (first | exact trivial | refine And.intro rfl ?_))
                | (conv => whnf
                   refine Exists.intro (k + 1, en, sl, .sl (.id 160) 3 (sl.map aG)) (And.intro ⟨hlt_k, ?_, hen, ?_, .inr rfl⟩ (And.intro (by show ps.length - (k + 1) < ps.length - k; omega) (ah ?_ ?_)))
                   · rw [hrn]; symm; apply if_neg; clear hG hcell hmkv hon hx hy cP cPf hstop e13 cE cD cC c1 c2 c4 w1 w2 w3 w4 w5 w6 w7 wc he15 hm0 hm1 hH hz hxi hlm; (try simp only [cond_true, cond_false] at *); grind
                   · exact Nat.le_succ_of_le hsl
                   · refine And.intro (congrArg some (ax (by omega))) ?_
                     repeat' (first | exact trivial | refine And.intro rfl ?_)
                   · repeat' (first | exact trivial | refine And.intro rfl ?_))
                | skip
              all_goals have hmk := hstop (by clear hG hcell hmkv hon hx hy cP cPf hstop e13 cE cD cC c1 c2 c4 w1 w2 w3 w4 w5 w6 w7 wc he15 hm0 hm1 hH hz hxi hlm; (try simp only [cond_true, cond_false] at *); grind)
              all_goals first
                | (have hpr := (by assumption : fz s ps ⟨id + (i : Int), al x.e 4, 0, s 0, from_ + pa, from_ + pa + 1 + pb, pc - s 9, min (s 10) ((1 + pd) * s 20), sl⟩ = true)
                   conv => whnf
                   refine Exists.intro (i + 1) (And.intro ⟨hlt_i, h5⟩ (And.intro (by omega) (ah ?_ ?_)))
                   · refine And.intro (congrArg some (ax (by omega))) (And.intro (congrArg (fun z => some (AV.sl (.id 11) 9 z)) ?_) ?_)
                     · rw [hon, hmk, if_pos hpr, List.map_append]; rfl
                     · repeat' (first | exact trivial | refine And.intro rfl ?_)
                   · repeat' (first | exact trivial | refine And.intro rfl ?_))
                | (have hpr := (by assumption : fz s ps _ = false)
                   conv => whnf
                   refine Exists.intro (i + 1) (And.intro ⟨hlt_i, h5⟩ (And.intro (by omega) (ah ?_ ?_)))
                   · refine And.intro (congrArg some (ax (by omega))) (And.intro (congrArg (fun z => some (AV.sl (.id 11) 9 z)) ?_) ?_)
                     · rw [hon, hmk, if_neg (by rw [hpr]; simp), List.append_nil]
                     · repeat' (first | exact trivial | refine And.intro rfl ?_)
                   · repeat' (first | exact trivial | refine And.intro rfl ?_))
            · have bbk : decide ((k : Int) < ((ps.map aP).length : Int)) = true → False := fun h => by have := of_decide_eq_true h; simp at this; omega
              have he : k = ps.length := by omega
              have hmk : m4 s ps from_ (id + i) x = ⟨id + (i : Int), al x.e 4, 0, s 0, from_ + pa, from_ + pa + 1 + pb, pc - s 9, min (s 10) ((1 + pd) * s 20), sl⟩ := by rw [hmkv, ← he, ← hr]
              repeat' first|exact (bbk (by assumption)).elim|refine Q1 ?_|refine Q2 ?_|refine Q3 hG aa aZ (by kernel_rfl) ?_|refine Q4 hG aa aZ (by kernel_rfl) ?_|refine Q5 hG aa ?_|refine Q6 hG aa ?_|refine Q7 hG aa ?_|refine Q8 hG aa ?_|refine Q9 rfl ?_|refine QF rfl ?_|refine QC rfl (And.intro (fun h => ?_) (fun h => ?_))|((conv => whnf); first|refine anF ?_|refine anT ?_|refine And.intro (by kernel_rfl) ?_|refine Exists.intro _ (And.intro (cP) ?_)|refine And.intro (show (((dc s ps from_ id z i).map aK).length + 1) * 88 ≤ 70368744177664 by rw [List.length_map]; omega) (And.intro (show ((dc s ps from_ id z i).map aK).length + 1 ≤ 4611686018427387904 by rw [List.length_map]; omega) ?_)|refine And.intro (fun h => ?_) (fun h => ?_)|refine Or.inl ?_|fail)
              all_goals first
                | (have hpr := (by assumption : fz s ps ⟨id + (i : Int), al x.e 4, 0, s 0, from_ + pa, from_ + pa + 1 + pb, pc - s 9, min (s 10) ((1 + pd) * s 20), sl⟩ = true)
                   conv => whnf
                   refine Exists.intro (i + 1) (And.intro ⟨hlt_i, h5⟩ (And.intro (by omega) (ah ?_ ?_)))
                   · refine And.intro (congrArg some (ax (by omega))) (And.intro (congrArg (fun z => some (AV.sl (.id 11) 9 z)) ?_) ?_)
                     · rw [hon, hmk, if_pos hpr, List.map_append]; rfl
                     · repeat' (first | exact trivial | refine And.intro rfl ?_)
                   · repeat' (first | exact trivial | refine And.intro rfl ?_))
                | (have hpr := (by assumption : fz s ps _ = false)
                   conv => whnf
                   refine Exists.intro (i + 1) (And.intro ⟨hlt_i, h5⟩ (And.intro (by omega) (ah ?_ ?_)))
                   · refine And.intro (congrArg some (ax (by omega))) (And.intro (congrArg (fun z => some (AV.sl (.id 11) 9 z)) ?_) ?_)
                     · rw [hon, hmk, if_neg (by rw [hpr]; simp), List.append_nil]
                     · repeat' (first | exact trivial | refine And.intro rfl ?_)
                   · repeat' (first | exact trivial | refine And.intro rfl ?_))
      · have b2 : decide ((i : Int) < 5) = true → False := fun h => by have := of_decide_eq_true h; omega
        have b1 : decide ((i : Int) < ((z.map fO).length : Int)) = false → False := fun h => by have := of_decide_eq_false h; omega
        have he : i = 5 := by omega
        subst he
        repeat' first|exact (b1 (by assumption)).elim|exact (b2 (by assumption)).elim|refine Q1 ?_|refine Q2 ?_|refine Q3 hG aa aZ (by kernel_rfl) ?_|refine Q4 hG aa aZ (by kernel_rfl) ?_|refine Q5 hG aa ?_|refine Q6 hG aa ?_|refine Q7 hG aa ?_|refine Q8 hG aa ?_|refine Q9 rfl ?_|refine QF rfl ?_|refine QC rfl (And.intro (fun h => ?_) (fun h => ?_))|((conv => whnf); first|refine anF ?_|refine anT ?_|refine And.intro (by kernel_rfl) ?_|refine And.intro (fun h => ?_) (fun h => ?_)|refine Or.inl ?_|fail)
        exact Ends.mk (Or.inl rfl) (ac (by rw [yB, Nat.min_eq_right (by omega)]; rfl))
    · have b1 : decide ((i : Int) < ((z.map fO).length : Int)) = true → False := fun h => by have := of_decide_eq_true h; omega
      have he : i = z.length := by omega
      repeat' first|exact (b1 (by assumption)).elim|refine Q1 ?_|refine Q2 ?_|refine Q3 hG aa aZ (by kernel_rfl) ?_|refine Q4 hG aa aZ (by kernel_rfl) ?_|refine Q5 hG aa ?_|refine Q6 hG aa ?_|refine Q7 hG aa ?_|refine Q8 hG aa ?_|refine Q9 rfl ?_|refine QF rfl ?_|refine QC rfl (And.intro (fun h => ?_) (fun h => ?_))|((conv => whnf); first|refine anF ?_|refine anT ?_|refine And.intro (by kernel_rfl) ?_|refine And.intro (fun h => ?_) (fun h => ?_)|refine Or.inl ?_|fail)
      exact Ends.mk (Or.inl rfl) (ac (by rw [yB, Nat.min_eq_left (by omega), ← he]; rfl))
end Go.Proofs
namespace Go.Proofs
open Go Go.AI
structure bi where
  x : Nat → Int
  y : Nat → Int
  z : List (Int × Int × Int)
  v : List R5
  from_ : Int
  hx : ∀ i, inI (x i)
  hy : ∀ i, inI (y i)
  hz : ∀ r ∈ z, rS r
  hv : ∀ r ∈ v, qI r
  hf : inI from_
namespace bi
def s (c : bi) : Nat → Int := DK c.x c.y
def bc (c : bi) : jZ := ⟨c.x, c.y, [], c.from_, 0, c.hx, c.hy, by simp, c.hf, by unfold inI; omega⟩
end bi
theorem bi.sat (c : bi) : gt c.s = true := c.bc.sat
theorem bi.s0 (c : bi) : c.s 0 = 3 := by show al 3 24 = 3; decide
theorem yr {s : Nat → Int} (h : gt s = true) : (0 ≤ s 9 ∧ s 9 ≤ 4) ∧ (1 ≤ s 10 ∧ s 10 ≤ 1000000) ∧ (1 ≤ s 20 ∧ s 20 ≤ 1000) ∧ (0 ≤ s 19 ∧ s 19 ≤ 60) ∧ (1 ≤ s 11 ∧ s 11 ≤ 1000000) ∧ (1 ≤ s 18 ∧ s 18 ≤ 1000000) ∧ (0 ≤ s 17 ∧ s 17 ≤ 10000) ∧ (0 ≤ s 16 ∧ s 16 ≤ 10000) := by
  simp only [gt, inS, Bool.and_eq_true, decide_eq_true_eq] at h
  omega
theorem lY {s : Nat → Int} {ps : List ak} {a b : Int} : ∀ (l pre : List Opt), ej s ps a b pre l = true ↔ (∀ o ∈ l, dh s o ps = true ∧ a ≤ o.a ∧ fc o ≤ b) ∧ l.Pairwise (fun x y => x.id ≠ y.id) ∧ ∀ p ∈ pre, ∀ o ∈ l, p.id ≠ o.id
  | [], pre => by simp [ej]
  | x :: r, pre => by
    rw [ej, Bool.and_eq_true, lY r (pre ++ [x]), m6]
    simp only [Bool.and_eq_true, Bool.not_eq_true', decide_eq_false_iff_not, List.any_eq_false, beq_iff_eq, List.mem_cons, List.pairwise_cons, forall_eq_or_imp, List.mem_append, List.not_mem_nil, or_false]
    constructor
    · rintro ⟨⟨⟨⟨g1, g2⟩, g3⟩, g4⟩, g5, g6, g7⟩
      exact ⟨⟨⟨g1, by omega, by omega⟩, g5⟩, ⟨fun y hy => g7 x (.inr rfl) y hy, g6⟩, fun p hp => ⟨fun e => g4 p hp e, fun y hy => g7 p (.inl hp) y hy⟩⟩
    · rintro ⟨⟨⟨g1, g2, g3⟩, g5⟩, ⟨g6, g7⟩, g8⟩
      refine ⟨⟨⟨⟨g1, by omega⟩, by omega⟩, fun p hp e => (g8 p hp).1 e⟩, g5, g7, fun p hp y hy => ?_⟩
      rcases hp with hp | rfl
      · exact (g8 p hp).2 y hy
      · exact g6 y hy
theorem aS {s : Nat → Int} {l : List Opt} {ps : List ak} {a b : Int} : aO s l ps a b = true ↔ l.length ≤ 8 ∧ (0 ≤ a ∧ a < b ∧ b ≤ 1000000) ∧ b - a ≤ 3000 ∧ gt s = true ∧ bP ps = true ∧ (∀ o ∈ l, dh s o ps = true ∧ a ≤ o.a ∧ fc o ≤ b) ∧ l.Pairwise fun x y => x.id ≠ y.id := by
  constructor
  · intro h
    obtain ⟨h1, h2, h3, h4, h5, h6⟩ := yi h
    obtain ⟨g1, g2, _⟩ := (lY l []).1 h6
    exact ⟨h1, h2, h3, h4, h5, g1, g2⟩
  · rintro ⟨h1, h2, h3, h4, h5, h6, h7⟩
    simp only [aO, Bool.and_eq_true, decide_eq_true_eq, Bool.not_eq_true', decide_eq_false_iff_not]
    rw [ap (by omega) (by omega)]
    exact ⟨⟨⟨⟨⟨h1, gn.2 h2⟩, by omega⟩, h4⟩, h5⟩, (lY l []).2 ⟨h6, h7, fun p hp => nomatch hp⟩⟩
theorem o2 {s : Nat → Int} {l l' : List Opt} {ps : List ak} {a b : Int} (h : aO s l ps a b = true) (hs : l'.Sublist l) : aO s l' ps a b = true := by
  rw [aS] at *
  exact ⟨Nat.le_trans hs.length_le h.1, h.2.1, h.2.2.1, h.2.2.2.1, h.2.2.2.2.1, fun o ho => h.2.2.2.2.2.1 o (hs.subset ho), h.2.2.2.2.2.2.sublist hs⟩
theorem rj {s : Nat → Int} {ps : List ak} {z m : Int} (hp : ∀ p ∈ ps, p.sb ≤ m) (hl : ps.length ≤ 64) : ∀ (l : List a8) (t : Int), bq s ps z t l = true → ∀ x ∈ l, x.b ≤ m
  | [], _, _, x, hx => nomatch hx
  | y :: r, t, h, x, hx => by
    simp only [bq, fe, Bool.and_eq_true, inS, decide_eq_true_eq] at h
    rcases List.mem_cons.1 hx with rfl | hx
    · have h1 := h.1.1
      rw [ap (by omega) (by omega)] at h1
      have hlt : x.p.toNat < ps.length := by omega
      have h2 := h.1.2.1.1.2
      rw [dX hlt] at h2
      have := hp _ (List.getElem_mem hlt)
      omega
    · exact rj hp hl r _ h.2 x hx
theorem zN {s : Nat → Int} {o : Opt} {ps : List ak} {m : Int} (hp : ∀ p ∈ ps, p.sb ≤ m) (hl : ps.length ≤ 64) (h : dh s o ps = true) : fc o ≤ m := by
  have hn := vY h
  have hs : bq s ps o.size o.b o.sl = true := by simp only [dh, Bool.and_eq_true] at h; exact h.2
  refine rj hp hl o.sl _ hs _ ?_
  unfold dx
  rw [List.getD_eq_getElem?_getD, List.getElem?_eq_getElem (by omega)]
  exact List.getElem_mem _
theorem lV {s : Nat → Int} {ps : List ak} {from_ id : Int} {z : List R5} (hz : ∀ x ∈ z, qI x) : ∀ i, i ≤ z.length → ∀ o ∈ dc s ps from_ id z i, fz s ps o = true ∧ from_ ≤ o.a ∧ id ≤ o.id ∧ o.id < id + i
  | 0, _, o, ho => nomatch ho
  | i + 1, hi, o, ho => by
    rw [dc, List.mem_append] at ho
    rcases ho with ho | ho
    · have := lV hz i (by omega) o ho
      exact ⟨this.1, this.2.1, this.2.2.1, by omega⟩
    · split at ho
      · rename_i hp
        rw [List.mem_singleton.1 ho]
        have hx : qI (z.getD i r50) := hz _ (by rw [List.getD_eq_getElem?_getD, List.getElem?_eq_getElem (show i < z.length by omega)]; exact List.getElem_mem _)
        have p1 := aI hx.1 (n := 40) (by omega)
        exact ⟨hp, by show from_ ≤ from_ + _; omega, by show id ≤ id + (i : Int); omega, by show id + (i : Int) < _; omega⟩
      · cases ho
theorem rq {s : Nat → Int} {ps : List ak} {from_ id : Int} {z : List R5} (hz : ∀ x ∈ z, qI x) : ∀ i, i ≤ z.length → (dc s ps from_ id z i).Pairwise fun x y => x.id ≠ y.id
  | 0, _ => .nil
  | i + 1, hi => by
    rw [dc, List.pairwise_append]
    refine ⟨rq hz i (by omega), by split <;> simp, fun x hx y hy => ?_⟩
    have := lV hz i (by omega) x hx
    split at hy
    · rw [List.mem_singleton.1 hy]
      show x.id ≠ id + (i : Int)
      omega
    · cases hy
end Go.Proofs
namespace Go.Proofs
open Go Go.AI
set_option maxRecDepth 10000
def gL (c : bi) : List AV := [.int .i64 (c.x 0), .int .i64 (c.x 1), .int .i64 (c.x 2), .int .i64 (c.x 3), .int .i64 (c.x 4), .int .i64 (c.x 5), .int .i64 (c.x 6), .int .i64 (c.y 0), .int .i64 (c.y 1), .int .i64 (c.y 2), .int .i64 (c.y 3), .sl .no 3 (c.z.map jX), .sl .no 5 (c.v.map fO), .int .i64 c.from_]
theorem AV.weak.tup {cs ds : List AV} (h : ig cs ds) : (AV.tup cs).weak (.tup ds) := by
  intro m v hv
  cases hv with
  | tup _ vs hl hr =>
    obtain ⟨h1, h2⟩ := h.spec
    refine .tup ds vs (by omega) fun i x u g1 g2 => ?_
    have hi : i < cs.length := by rw [h1]; exact (List.getElem?_eq_some_iff.1 g1).1
    exact h2 i _ x (List.getElem?_eq_getElem hi) g1 m u (hr i _ u (List.getElem?_eq_getElem hi) g2)
inductive tU : List (List AV) → List (List AV) → Prop
  | nil : tU [] []
  | cons {x y : List AV} {xs ys : List (List AV)} (h : ig x y) (t : tU xs ys) : tU (x :: xs) (y :: ys)
theorem tU.spec {xs ys : List (List AV)} (h : tU xs ys) : xs.length = ys.length ∧ ∀ (i : Nat) (y : List AV), ys[i]? = some y → ∃ x, xs[i]? = some x ∧ ig x y := by
  induction h with
  | nil => exact ⟨rfl, by simp⟩
  | cons h t ih =>
    refine ⟨by simp [ih.1], fun i y hy => ?_⟩
    cases i with
    | zero => simp at hy; subst hy; exact ⟨_, rfl, h⟩
    | succ i => obtain ⟨x, h1, h2⟩ := ih.2 i y (by simpa using hy); exact ⟨x, by simpa using h1, h2⟩
theorem AV.weak.rows {o : Go.AI.Own} {sz : Nat} {xs ys : List (List AV)} (h : tU xs ys) (hc : ∀ y ∈ ys, ∀ c ∈ y, AV.isCell c = true) : (AV.sl o sz xs).weak (.sl .no sz ys) := by
  intro m v hv
  cases hv with
  | sl _ _ _ base len cap ho hf hl hcap hsz hcell b off hb g hm hr =>
    obtain ⟨e1, e2⟩ := h.spec
    have key : ∀ {i : Nat} {y : List AV} {j : Nat} {c : AV}, ys[i]? = some y → y[j]? = some c → ∃ x d, xs[i]? = some x ∧ x[j]? = some d ∧ d.weak c := by
      intro i y j c h1 h2
      obtain ⟨x, h3, h4⟩ := e2 i y h1
      obtain ⟨q1, q2⟩ := h4.spec
      have hj : j < x.length := by rw [q1]; exact (List.getElem?_eq_some_iff.1 h2).1
      exact ⟨x, _, h3, List.getElem?_eq_getElem hj, q2 j _ c (List.getElem?_eq_getElem hj) h2⟩
    refine .sl _ _ _ base len cap (by intro k hk; cases hk) (by intro hk; cases hk) (by omega) hcap (fun y hy => ?_) hc b off hb g (fun i y j c h1 h2 => ?_) (fun i y j c h1 h2 => ?_)
    · obtain ⟨i, hi⟩ := List.mem_iff_getElem?.1 hy
      obtain ⟨x, h3, h4⟩ := e2 i y hi
      rw [← h4.spec.1]
      exact hsz x (List.mem_of_getElem? h3)
    · obtain ⟨x, d, h3, h4, _⟩ := key h1 h2
      exact hm i x j d h3 h4
    · obtain ⟨x, d, h3, h4, h5⟩ := key h1 h2
      exact h5 m _ (hr i x j d h3 h4)
end Go.Proofs
