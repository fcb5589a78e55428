/- Contracts of the functions and plain facts about what they reckon, part 3: called with arguments that read so, each hands back what is typed. The conditions are those typed. -/
import Derived.Test.YtehdegggapeihaaGreatWConB
set_option linter.unusedSectionVars false
set_option linter.unusedVariables false
set_option linter.unusedSimpArgs false
namespace Go.Proofs
open Go Go.AI
set_option maxRecDepth 10000
def inM (x lo hi : Int) : Bool := decide (lo ≤ x) && decide (x ≤ hi)
def spM (a b : Int) : Bool := decide (0 ≤ a) && (decide (a < b) && decide (b ≤ 1000001))
theorem iA (x lo hi : Int) : ae Tryz.prog 104 [.int .i64 x, .int .i64 lo, .int .i64 hi] (.bool (inM x lo hi)) := by
 refine ag aa Tryz.func104 rfl (by kernel_rfl) af (Nat.le_of_ble_eq_true rfl) ?_
 intro F n' w0 m0 hG hro h1
 repeat' first|refine Q1 ?_|refine Q2 ?_|refine Q3 hG aa f8 ?_|refine Q4 hG aa f8 ?_|refine Q5 hG aa ?_|refine Q6 hG aa ?_|refine Q7 hG aa ?_|refine Q8 hG aa ?_|refine Q9 rfl ?_|refine QF rfl ?_|refine QC rfl ⟨fun h => ?_,fun h => ?_⟩|((conv => whnf); first|refine anF ?_|refine anT ?_|refine anK ?_|refine And.intro (fun h => ?_) (fun h => ?_)|refine Or.inl ?_)
 all_goals refine Ends.mk (Or.inl rfl) (ac (congrArg AV.bool ?_))
 all_goals simp only [inM, *, Bool.true_and, Bool.and_true, Bool.false_and, Bool.and_false, Bool.true_or, Bool.or_true, Bool.false_or, Bool.or_false, Bool.not_true, Bool.not_false]
theorem od (a b : Int) : ae Tryz.prog 170 [.agg [.int .i64 a, .int .i64 b]] (.bool (spM a b)) := by
 refine ag aa Tryz.func170 rfl (by kernel_rfl) af (Nat.le_of_ble_eq_true rfl) ?_
 intro F n' w0 m0 hG hro h1
 repeat' first|refine Q1 ?_|refine Q2 ?_|refine Q3 hG aa fY ?_|refine Q4 hG aa fY ?_|refine Q5 hG aa ?_|refine Q6 hG aa ?_|refine Q7 hG aa ?_|refine Q8 hG aa ?_|refine Q9 rfl ?_|refine QF rfl ?_|refine QC rfl ⟨fun h => ?_,fun h => ?_⟩|((conv => whnf); first|refine anF ?_|refine anT ?_|refine anK ?_|refine And.intro (fun h => ?_) (fun h => ?_)|refine Or.inl ?_)
 all_goals refine Ends.mk (Or.inl rfl) (ac (congrArg AV.bool ?_))
 all_goals simp only [spM, *, Bool.true_and, Bool.and_true, Bool.false_and, Bool.and_false, Bool.true_or, Bool.or_true, Bool.false_or, Bool.or_false, Bool.not_true, Bool.not_false]
def jm (l : List Img) : List Bool := (List.range 64).map fun (k : Nat) => l.any fun x => x.i == (k : Int)
def kW (l : List Img) (i : Int) : Bool := l.any fun x => x.i == i
def mj (pre : List Img) (x : Img) : Bool := inM x.i 0 63 && (!kW pre x.i && (inM x.u 1 1000000 && spM x.a x.b))
def eN : List Img → List Img → Bool
 | _, [] => true
 | pre, x :: r => mj pre x && eN (pre ++ [x]) r
def dZ (l : List Img) : Bool := eN [] l && decide (l.length ≤ 24)
theorem FG (m : List Img) (h : m = []) : (jm m).map AV.bool = List.replicate 64 (.bool false) := by
 subst h
 simp only [jm, List.map_map, List.any_nil, Function.comp_def, List.map_const', List.length_range, List.map_replicate]
theorem Ad {i : TI} {cs : List AV} {n : Nat} {x : AV} {r : List AV} {K : AV → Prop} (h : cs.drop n = x :: r) (hK : (match d6 i (x :: r) with | some v => K v | none => False)) : (match d6 i (cs.drop n) with | some v => K v | none => False) := by rw [h]; exact hK
theorem xu {s : St} {d n : Nat} {vs : List AV} {b' : List (Nat × List AV)} {K : List (Nat × List AV) → Prop} (h : kU s.b d n vs = some b') (hK : K b') : (match kU s.b d n vs with | some b => K b | none => False) := by rw [h]; exact hK
theorem zB {bx : List (Nat × List AV)} {d n : Nat} {cs : List AV} {v : AV} (h1 : get bx d = some cs) (h2 : n < cs.length) : kU bx d n [v] = some ((d, lO cs n [v]) :: bx) := by
 unfold kU
 rw [h1]
 simp only [List.length_cons, List.length_nil, Nat.zero_add]
 rw [Nat.ble_eq_true_of_le h2]; rfl
theorem zG {l : List Img} {i : Int} (h : inM i 0 63 = true) : ∃ r, ((jm l).map AV.bool).drop (0 + i.toNat * 1) = .bool (kW l i) :: r := by
 simp only [inM, Bool.and_eq_true, decide_eq_true_eq] at h
 have hlt : 0 + i.toNat * 1 < ((jm l).map AV.bool).length := by simp [jm]; omega
 refine ⟨_, (List.drop_eq_getElem_cons hlt).trans (congrArg (· :: _) ?_)⟩
 simp only [jm, List.map_map, List.getElem_map, List.getElem_range, Function.comp, kW]
 congr 3
 funext x
 rw [Nat.zero_add, Nat.mul_one, Int.toNat_of_nonneg h.1]
theorem BT {l : List Img} {x : Img} (h : inM x.i 0 63 = true) : lO ((jm l).map AV.bool) (0 + x.i.toNat * 1) [.bool true] = (jm (l ++ [x])).map AV.bool := by
 simp only [inM, Bool.and_eq_true, decide_eq_true_eq] at h
 rw [iP]
 apply List.ext_getElem?
 intro j
 show (de ((jm l).map AV.bool) (0 + x.i.toNat * 1) (.bool true))[j]? = _
 rw [dy]
 simp only [jm, List.length_map, List.length_range, List.getElem?_map, Nat.zero_add, Nat.mul_one, List.any_append, List.any_cons, List.any_nil, Bool.or_false]
 by_cases hj : j < 64
 ·rw [List.getElem?_range hj]
  simp only [Option.map_some]
  by_cases he : j = x.i.toNat
  ·rw [if_pos (by omega)]
   have : (x.i == (j : Int)) = true := by rw [beq_iff_eq]; omega
   rw [this, Bool.or_true]
  ·rw [if_neg (by omega)]
   have : (x.i == (j : Int)) = false := by rw [beq_eq_false_iff_ne]; omega
   rw [this, Bool.or_false]
 ·rw [if_neg (by omega), List.getElem?_eq_none (by simp; omega)]; rfl
set_option maxHeartbeats 8000000 in
theorem kK (l : List Img) (hl : l.length ≤ 1000000) : ae Tryz.prog 105 [gP l] (.bool (dZ l)) := by
 refine ag aa Tryz.func105 rfl (by kernel_rfl) af (Nat.le_of_ble_eq_true rfl) ?_
 intro F n' w0 m0 hG hro h1
 repeat' first|refine Q1 ?_|refine Q2 ?_|refine Q3 hG aa cT ?_|refine Q4 hG aa cT ?_|refine Q5 hG aa ?_|refine Q6 hG aa ?_|refine Q7 hG aa ?_|refine Q8 hG aa ?_|refine Q9 rfl ?_|refine QF rfl ?_|refine QC rfl ⟨fun h => ?_,fun h => ?_⟩|((conv => whnf); first|refine anF ?_|refine anT ?_|refine anK ?_|refine And.intro (fun h => ?_) (fun h => ?_)|refine Or.inl ?_)
 refine aw (X := Nat × List AV) (fun x => ⟨[(8, .int .i64 x.1), (7, .int .i64 (l.map gw).length), (6, gP l), (0, gP l), (3, .loc 3 0)], [(3, x.2)]⟩) (fun x => x.1 ≤ l.length ∧ eN (l.take x.1) (l.drop x.1) = eN [] l ∧ x.2 = (jm (l.take x.1)).map AV.bool) (fun x => l.length - x.1) (0, List.replicate 64 (.bool false)) ⟨Nat.zero_le _, by simp, (FG _ rfl).symm⟩ (ah ?_ ?_) (fun x hi => ?_)
 ·repeat' (first | exact trivial | refine And.intro rfl ?_)
 ·repeat' (first | exact trivial | refine And.intro rfl ?_)
 ·obtain ⟨i, cs⟩ := x
  obtain ⟨hi, hok, hcs⟩ := hi
  simp only at hi hok hcs ⊢
  by_cases hlt : i < l.length
  ·have bbk : decide ((i : Int) < ((l.map gw).length : Int)) = false → False := fun h => by have := of_decide_eq_false h; simp at this; omega
   have hx := Cj hlt
   have htk : l.take (i + 1) = l.take i ++ [l.getD i rh] := by rw [List.take_add_one, List.getD_eq_getElem?_getD, List.getElem?_eq_getElem hlt]; rfl
   have hdr : l.drop i = l.getD i rh :: l.drop (i + 1) := by rw [List.getD_eq_getElem?_getD, List.getElem?_eq_getElem hlt]; exact List.drop_eq_getElem_cons hlt
   rw [hdr, eN, ← htk] at hok
   generalize l.getD i rh = x at hx htk hok
   have hln : cs.length = 64 := by rw [hcs]; simp [jm]
   cases hin : inM x.i 0 63 with
   | false =>
    have cIn : ae Tryz.prog 104 [.int .i64 x.i, .int .i64 0, .int .i64 63] (.bool false) := by rw [← hin]; exact iA _ _ _
    clear hcs
    repeat' first|exact (bbk (by assumption)).elim|refine Q1 ?_|refine Q2 ?_|refine Q3 hG aa cT ?_|refine Q4 hG aa cT ?_|refine Q5 hG aa ?_|refine Q6 hG aa ?_|refine Q7 hG aa ?_|refine Q8 hG aa ?_|refine Q9 rfl ?_|refine QF rfl ?_|refine QC rfl ⟨fun h => ?_,fun h => ?_⟩|((conv => whnf); first|refine anF ?_|refine anT ?_|refine anK ?_|refine And.intro (Int.natCast_nonneg i) (Exists.intro _ (And.intro hx ?_))|refine Exists.intro _ (And.intro (cIn) ?_)|refine Exists.intro _ (And.intro (iA _ _ _) ?_)|refine Exists.intro _ (And.intro (od _ _) ?_)|refine Eq.mpr (gx cs _) ?_|refine And.intro (fun h => ?_) (fun h => ?_)|refine Or.inl ?_)
    refine Ends.mk (Or.inl rfl) (ac (congrArg AV.bool ?_))
    rw [dZ, ← hok, mj, hin]
    (try simp only [Bool.not_eq_true', Bool.not_eq_false'] at *)
    simp only [*, Bool.true_and, Bool.and_true, Bool.false_and, Bool.and_false, Bool.true_or, Bool.or_true, Bool.false_or, Bool.or_false, Bool.not_true, Bool.not_false]
   | true =>
    have cIn : ae Tryz.prog 104 [.int .i64 x.i, .int .i64 0, .int .i64 63] (.bool true) := by rw [← hin]; exact iA _ _ _
    have hst := BT (l := l.take i) hin
    rw [← htk] at hst
    obtain ⟨r, hse⟩ := zG (l := l.take i) hin
    have hx0 : 0 ≤ x.i := by have := hin; simp only [inM, Bool.and_eq_true, decide_eq_true_eq] at this; exact this.1
    have hx1 : x.i < ((64 : Nat) : Int) := by have := hin; simp only [inM, Bool.and_eq_true, decide_eq_true_eq] at this; omega
    rw [← hcs] at hst hse
    clear hcs
    obtain ⟨sb, hsb⟩ : ∃ sb, sb = kW (l.take i) x.i := ⟨_, rfl⟩
    rw [← hsb] at hse
    have hsl : 0 + x.i.toNat * 1 < cs.length := by rw [hln]; omega
    repeat' first|exact (bbk (by assumption)).elim|refine Q1 ?_|refine Q2 ?_|refine Q3 hG aa cT ?_|refine Q4 hG aa cT ?_|refine Q5 hG aa ?_|refine Q6 hG aa ?_|refine Q7 hG aa ?_|refine Q8 hG aa ?_|refine Q9 rfl ?_|refine QF rfl ?_|refine QC rfl ⟨fun h => ?_,fun h => ?_⟩|((conv => whnf); first|refine anF ?_|refine anT ?_|refine anK ?_|refine And.intro (Int.natCast_nonneg i) (Exists.intro _ (And.intro hx ?_))|refine Exists.intro _ (And.intro (cIn) ?_)|refine Exists.intro _ (And.intro (iA _ _ _) ?_)|refine Exists.intro _ (And.intro (od _ _) ?_)|refine Ad hse ?_|refine xu (zB (cs := cs) rfl hsl) ?_|refine Eq.mpr (gx (lO cs _ _) _) ?_|refine And.intro hx0 (And.intro hx1 ?_)|refine Eq.mpr (gx cs _) ?_|refine And.intro (fun h => ?_) (fun h => ?_)|refine Or.inl ?_)
    ·refine Ends.mk (Or.inl rfl) (ac (congrArg AV.bool ?_))
     subst hsb
     rw [dZ, ← hok, mj, hin]
     (try simp only [Bool.not_eq_true', Bool.not_eq_false'] at *)
     simp only [*, Bool.true_and, Bool.and_true, Bool.false_and, Bool.and_false, Bool.true_or, Bool.or_true, Bool.false_or, Bool.or_false, Bool.not_true, Bool.not_false]
    ·refine Ends.mk (Or.inl rfl) (ac (congrArg AV.bool ?_))
     subst hsb
     rw [dZ, ← hok, mj, hin]
     (try simp only [Bool.not_eq_true', Bool.not_eq_false'] at *)
     simp only [*, Bool.true_and, Bool.and_true, Bool.false_and, Bool.and_false, Bool.true_or, Bool.or_true, Bool.false_or, Bool.or_false, Bool.not_true, Bool.not_false]
    ·refine Ends.mk (Or.inl rfl) (ac (congrArg AV.bool ?_))
     subst hsb
     rw [dZ, ← hok, mj, hin]
     (try simp only [Bool.not_eq_true', Bool.not_eq_false'] at *)
     simp only [*, Bool.true_and, Bool.and_true, Bool.false_and, Bool.and_false, Bool.true_or, Bool.or_true, Bool.false_or, Bool.or_false, Bool.not_true, Bool.not_false]
    ·conv => whnf
     refine Exists.intro (i + 1, lO cs (0 + x.i.toNat * 1) [.bool true]) (And.intro ⟨hlt, ?_, hst⟩ (And.intro (show l.length - (i + 1) < l.length - i by omega) ?_))
     ·subst hsb
      rw [← hok, mj, hin]
      (try simp only [Bool.not_eq_true', Bool.not_eq_false'] at *)
      simp only [*, Bool.true_and, Bool.and_true, Bool.false_and, Bool.and_false, Bool.true_or, Bool.or_true, Bool.false_or, Bool.or_false, Bool.not_true, Bool.not_false]
     ·refine ah (And.intro (congrArg some (ap (by omega))) ?_) ?_
      ·repeat' (first | exact trivial | refine And.intro rfl ?_)
      ·repeat' (first | exact trivial | refine And.intro rfl ?_)
  ·have bbk : decide ((i : Int) < ((l.map gw).length : Int)) = true → False := fun h => by have := of_decide_eq_true h; simp at this; omega
   repeat' first|exact (bbk (by assumption)).elim|refine Q1 ?_|refine Q2 ?_|refine Q3 hG aa cT ?_|refine Q4 hG aa cT ?_|refine Q5 hG aa ?_|refine Q6 hG aa ?_|refine Q7 hG aa ?_|refine Q8 hG aa ?_|refine Q9 rfl ?_|refine QF rfl ?_|refine QC rfl ⟨fun h => ?_,fun h => ?_⟩|((conv => whnf); first|refine anF ?_|refine anT ?_|refine anK ?_|refine And.intro (fun h => ?_) (fun h => ?_)|refine Or.inl ?_)
   refine Ends.mk (Or.inl rfl) (ac (congrArg AV.bool ?_))
   have hdn : l.drop i = [] := List.drop_of_length_le (by omega)
   rw [hdn, eN] at hok
   rw [dZ, ← hok, List.length_map, Bool.true_and]
   exact decide_eq_decide.2 (by omega)
end Go.Proofs
namespace Go.Proofs
open Go Go.AI
set_option maxRecDepth 10000
theorem yV {store : Int} {x : Int × Int} {r : List (Int × Int)} (hx : x.2 > store) : ∀ (p : List (Int × Int)), (∀ q ∈ p, q.2 ≤ store) → gM store (p ++ x :: r) = x.1
 | [], _ => by simp only [List.nil_append, gM]; rw [if_pos hx]
 | q :: p, h => by
  have := h q (.head _)
  simp only [List.cons_append, gM]
  rw [if_neg (by omega)]
  exact yV hx p fun y hy => h y (.tail _ hy)
theorem sT {store : Int} : ∀ (p : List (Int × Int)), (∀ q ∈ p, q.2 ≤ store) → gM store p = -1
 | [], _ => rfl
 | q :: p, h => by
  have := h q (.head _)
  simp only [gM]
  rw [if_neg (by omega)]
  exact sT p fun y hy => h y (.tail _ hy)
theorem jy : ∀ (l pre : List Img), eN pre l = true → ∀ x ∈ l, 0 ≤ x.u ∧ x.u ≤ 1000000
 | [], _, _, x, hx => nomatch hx
 | y :: r, pre, h, x, hx => by
  simp only [eN, Bool.and_eq_true] at h
  rcases List.mem_cons.1 hx with rfl | hx
  ·have := h.1
   simp only [mj, inM, Bool.and_eq_true, decide_eq_true_eq] at this
   omega
  ·exact jy r _ h.2 x hx
set_option maxHeartbeats 4000000 in
theorem A3 (l : List Img) (store : Int) (hl : l.length ≤ 1000000) (hv : dZ l = true) (hs : inM store 0 1000000 = true) : ae Tryz.prog 37 [gP l, .int .i64 store] (.tup [.int .i64 (gM store (bf l)), .int .i64 0]) := by
 have cV : ae Tryz.prog 105 [gP l] (.bool true) := by rw [← hv]; exact kK l hl
 have cS : ae Tryz.prog 104 [.int .i64 store, .int .i64 0, .int .i64 1000000] (.bool true) := by rw [← hs]; exact iA _ _ _
 have hu : ∀ x ∈ l, 0 ≤ x.u ∧ x.u ≤ 1000000 := by
  simp only [dZ, Bool.and_eq_true] at hv
  exact jy l [] hv.1
 have hseq := kN l hl hu
 refine ag aa Tryz.func37 rfl (by kernel_rfl) af (Nat.le_of_ble_eq_true rfl) ?_
 intro F n' w0 m0 hG hro h1
 repeat' first|refine Q1 ?_|refine Q2 ?_|refine Q3 hG aa dl ?_|refine Q4 hG aa dl ?_|refine Q5 hG aa ?_|refine Q6 hG aa ?_|refine Q7 hG aa ?_|refine Q8 hG aa ?_|refine Q9 rfl ?_|refine QF rfl ?_|refine QC rfl ⟨fun h => ?_,fun h => ?_⟩|((conv => whnf); first|refine anF ?_|refine anT ?_|refine anK ?_|refine Exists.intro _ (And.intro (cV) ?_)|refine Exists.intro _ (And.intro (cS) ?_)|refine Exists.intro _ (And.intro (rW l) ?_)|refine And.intro (fun h => ?_) (fun h => ?_)|refine Or.inl ?_)
 generalize bf l = items at hseq
 refine ⟨SP.rangeM2I hG hro h1 (α := Int × Int) pA (f := 171) (cap := [.ref [gP l]]) (items := items) rfl hseq (fun _ => rfl) (fun _ => [(5, .loc 5 0), (4, .loc 4 0), (3, .loc 3 0)]) [5, 4, 3] (fun _ => rfl)
  (fun _ => [(5, [.int .i64 0]), (4, [.int .i64 0]), (3, [.int .i64 store])]) (ah ?_ ?_) (fun p => ∀ q ∈ p, q.2 ≤ store) (fun _ h => nomatch h) (by kernel_rfl) (by decide) ?_ ?_⟩
 ·repeat' (first | exact trivial | refine And.intro rfl ?_)
 ·repeat' (first | exact trivial | refine And.intro rfl ?_)
 ·intro F' n'' m' hG' _ _ pre x rest hx hI
  clear hG
  have hG := hG'
  refine SPB.out (Q1 ?_)
  repeat' first|refine Q1 ?_|refine Q2 ?_|refine Q3 hG aa dl ?_|refine Q4 hG aa dl ?_|refine Q5 hG aa ?_|refine Q6 hG aa ?_|refine Q7 hG aa ?_|refine Q8 hG aa ?_|refine Q9 rfl ?_|refine QF rfl ?_|refine QC rfl ⟨fun h => ?_,fun h => ?_⟩|((conv => whnf); first|refine anF ?_|refine anT ?_|refine anK ?_|refine And.intro (fun h => ?_) (fun h => ?_)|refine Or.inl ?_)
  refine And.intro (ah ?_ ?_) ?_
  ·repeat' (first | exact trivial | refine And.intro rfl ?_)
  ·repeat' (first | exact trivial | refine And.intro rfl ?_)
  refine SPB.out ?_
  repeat' first|refine Q1 ?_|refine Q2 ?_|refine Q3 hG aa dl ?_|refine Q4 hG aa dl ?_|refine Q5 hG aa ?_|refine Q6 hG aa ?_|refine Q7 hG aa ?_|refine Q8 hG aa ?_|refine Q9 rfl ?_|refine QF rfl ?_|refine QC rfl ⟨fun h => ?_,fun h => ?_⟩|((conv => whnf); first|refine anF ?_|refine anT ?_|refine anK ?_|refine And.intro (fun h => ?_) (fun h => ?_)|refine Or.inl ?_)
  ·have hgt : x.2 > store := of_decide_eq_true (by assumption)
   have ho := yV (r := rest) hgt pre hI
   rw [← hx] at ho
   conv => whnf
   refine And.intro (fun h => nomatch h) (Exists.intro [(5, [.int .i64 0]), (4, [.int .i64 x.1]), (3, [.int .i64 store])] (And.intro (ah ?_ ?_) (Ends.mk (Or.inl rfl) (ac (by rw [ho]; rfl)))))
   ·repeat' (first | exact trivial | refine And.intro rfl ?_)
   ·repeat' (first | exact trivial | refine And.intro rfl ?_)
  ·have hle : ¬ x.2 > store := of_decide_eq_false (by assumption)
   conv => whnf
   refine And.intro (fun _ q hq => ?_) (ah ?_ ?_)
   ·rcases List.mem_append.1 hq with h | h
    ·exact hI q h
    ·rw [List.mem_singleton.1 h]; omega
   ·repeat' (first | exact trivial | refine And.intro rfl ?_)
   ·repeat' (first | exact trivial | refine And.intro rfl ?_)
 ·intro hI
  conv => whnf
  repeat' first|refine Q1 ?_|refine Q2 ?_|refine Q3 hG aa dl ?_|refine Q4 hG aa dl ?_|refine Q5 hG aa ?_|refine Q6 hG aa ?_|refine Q7 hG aa ?_|refine Q8 hG aa ?_|refine Q9 rfl ?_|refine QF rfl ?_|refine QC rfl ⟨fun h => ?_,fun h => ?_⟩|((conv => whnf); first|refine anF ?_|refine anT ?_|refine anK ?_|refine And.intro (fun h => ?_) (fun h => ?_)|refine Or.inl ?_)
  rw [sT _ hI]
  exact Ends.mk (Or.inl rfl) (ac rfl)
end Go.Proofs
namespace Go.Proofs
open Go Go.AI
set_option maxRecDepth 10000
def Eu (s : Nat → Int) (t : Int) : AV := .tup [.agg (fI ⟨0, s 0, 0, t⟩), .bool (t != -1)]
theorem jW (s : Nat → Int) (t : Int) : ae Tryz.prog 145 [.agg (aX s), .int .i64 t] (Eu s t) := by
 refine ag aa Tryz.func145 rfl (by kernel_rfl) af (Nat.le_of_ble_eq_true rfl) ?_
 intro F n' w0 m0 hG hro h1
 repeat' first|refine Q1 ?_|refine Q2 ?_|refine Q3 hG aa nP ?_|refine Q4 hG aa nP ?_|refine Q5 hG aa ?_|refine Q6 hG aa ?_|refine Q7 hG aa ?_|refine Q8 hG aa ?_|refine Q9 rfl ?_|refine QF rfl ?_|refine QC rfl ⟨fun h => ?_,fun h => ?_⟩|((conv => whnf); first|refine anF ?_|refine anT ?_|refine anK ?_|refine And.intro (fun h => ?_) (fun h => ?_)|refine Or.inl ?_)
 all_goals exact Ends.mk (Or.inl rfl) (ac rfl)
theorem Bt (s : Nat → Int) (l : List Opt) (a b : Int) (hl : l.length ≤ 1000000) (hs : o5 a b = true) (hv : xq s (bP l) = true) : ae Tryz.prog 73 [.agg (aX s), aP l, .agg (aQ a b)] (Eu s (Cl s (bP l) a b)) := by
 refine ag aa Tryz.func73 rfl (by kernel_rfl) af (Nat.le_of_ble_eq_true rfl) ?_
 intro F n' w0 m0 hG hro h1
 repeat' first|refine Q1 ?_|refine Q2 ?_|refine Q3 hG aa pQ ?_|refine Q4 hG aa pQ ?_|refine Q5 hG aa ?_|refine Q6 hG aa ?_|refine Q7 hG aa ?_|refine Q8 hG aa ?_|refine Q9 rfl ?_|refine QF rfl ?_|refine QC rfl ⟨fun h => ?_,fun h => ?_⟩|((conv => whnf); first|refine anF ?_|refine anT ?_|refine anK ?_|refine Exists.intro _ (And.intro (oZ l hl) ?_)|refine Exists.intro _ (And.intro (A1 s (bP l) a b (by simpa [bP] using hl) hs hv) ?_)|refine Exists.intro _ (And.intro (jW _ _) ?_)|refine And.intro (fun h => ?_) (fun h => ?_)|refine Or.inl ?_)
 all_goals exact Ends.mk (Or.inl rfl) (ac rfl)
theorem wM (s : Nat → Int) (l : List Opt) (a b : Int) (hl : l.length ≤ 1000000) (hsl : ij l) (hsp : (bM l).length ≤ 900000) (hll : (aq l).length ≤ 1000000) (hv : fE s (aq l) a b = true) : ae Tryz.prog 75 [.agg (aX s), aP l, .agg (aQ a b)] (Eu s (oQ s (aq l) a b)) := by
 refine ag aa Tryz.func75 rfl (by kernel_rfl) af (Nat.le_of_ble_eq_true rfl) ?_
 intro F n' w0 m0 hG hro h1
 repeat' first|refine Q1 ?_|refine Q2 ?_|refine Q3 hG aa pP ?_|refine Q4 hG aa pP ?_|refine Q5 hG aa ?_|refine Q6 hG aa ?_|refine Q7 hG aa ?_|refine Q8 hG aa ?_|refine Q9 rfl ?_|refine QF rfl ?_|refine QC rfl ⟨fun h => ?_,fun h => ?_⟩|((conv => whnf); first|refine anF ?_|refine anT ?_|refine anK ?_|refine Exists.intro _ (And.intro (rR l hl hsl hsp) ?_)|refine Exists.intro _ (And.intro (DF s (aq l) a b hll hv) ?_)|refine Exists.intro _ (And.intro (jW _ _) ?_)|refine And.intro (fun h => ?_) (fun h => ?_)|refine Or.inl ?_)
 all_goals exact Ends.mk (Or.inl rfl) (ac rfl)
def FC (l : List Opt) : Option (Nat × Nat) → AV
 | none => .tup [.agg (fI ⟨0, 0, 0, 0⟩), .bool false]
 | some (i, k) => .tup [.agg (fI ⟨0, (aD l i).id, (aD l k).id, (aD l k).a⟩), .bool true]
theorem yl (s : Nat → Int) (l : List Opt) (a b : Int) (hl : l.length ≤ 1000000) (hv : xq s (bP l) = true) : ae Tryz.prog 72 [.agg (aX s), aP l, .agg (aQ a b)] (FC l (qx s (bP l))) := by
 have c := A2 s (bP l) (by simpa [bP] using hl) hv
 cases hs : qx s (bP l) with
 | none =>
  rw [hs] at c
  refine ag aa Tryz.func72 rfl (by kernel_rfl) af (Nat.le_of_ble_eq_true rfl) ?_
  intro F n' w0 m0 hG hro h1
  repeat' first|refine Q1 ?_|refine Q2 ?_|refine Q3 hG aa gW ?_|refine Q4 hG aa gW ?_|refine Q5 hG aa ?_|refine Q6 hG aa ?_|refine Q7 hG aa ?_|refine Q8 hG aa ?_|refine Q9 rfl ?_|refine QF rfl ?_|refine QC rfl ⟨fun h => ?_,fun h => ?_⟩|((conv => whnf); first|refine anF ?_|refine anT ?_|refine anK ?_|refine Exists.intro _ (And.intro (oZ l hl) ?_)|refine Exists.intro _ (And.intro (c) ?_)|refine And.intro (fun h => ?_) (fun h => ?_)|refine Or.inl ?_)
  all_goals exact Ends.mk (Or.inl rfl) (ac rfl)
 | some p =>
  obtain ⟨i, k⟩ := p
  rw [hs] at c
  obtain ⟨hi, hk⟩ : i < l.length ∧ k < l.length := by
   obtain ⟨k', hk', hs'⟩ := List.exists_of_findSome?_eq_some hs
   obtain ⟨i', hi', hs''⟩ := List.exists_of_findSome?_eq_some hs'
   simp only [List.mem_range] at hk' hi'
   rw [show (bP l).length = l.length by simp [bP]] at hk'
   have : (i', k') = (i, k) := by
    unfold vc at hs''
    split at hs'' <;> simp at hs'' ⊢
    exact hs''
   cases this
   exact ⟨by omega, hk'⟩
  have hx := gp hi
  have hy := gp hk
  refine ag aa Tryz.func72 rfl (by kernel_rfl) af (Nat.le_of_ble_eq_true rfl) ?_
  intro F n' w0 m0 hG hro h1
  repeat' first|refine Q1 ?_|refine Q2 ?_|refine Q3 hG aa gW ?_|refine Q4 hG aa gW ?_|refine Q5 hG aa ?_|refine Q6 hG aa ?_|refine Q7 hG aa ?_|refine Q8 hG aa ?_|refine Q9 rfl ?_|refine QF rfl ?_|refine QC rfl ⟨fun h => ?_,fun h => ?_⟩|((conv => whnf); first|refine anF ?_|refine anT ?_|refine anK ?_|refine Exists.intro _ (And.intro (oZ l hl) ?_)|refine Exists.intro _ (And.intro (c) ?_)|refine And.intro (Int.natCast_nonneg i) (Exists.intro _ (And.intro hx ?_))|refine And.intro (Int.natCast_nonneg k) (Exists.intro _ (And.intro hy ?_))|refine And.intro (fun h => ?_) (fun h => ?_)|refine Or.inl ?_)
  all_goals exact Ends.mk (Or.inl rfl) (ac rfl)
end Go.Proofs
namespace Go.Proofs
open Go Go.AI
set_option maxRecDepth 10000
theorem xl {l : List Opt} {i : Nat} (h : i < l.length) : ba (l.take (i + 1)) = ba (l.take i) ++ [⟨(aD l i).id, (aD l i).size, (aD l i).a, dY (aD l i)⟩] := by
 unfold ba
 rw [List.take_add_one, List.getElem?_eq_getElem h, bT h, List.map_append]; rfl
set_option maxHeartbeats 4000000 in
theorem yi (s : Nat → Int) (l : List Opt) (a b : Int) (hl : l.length ≤ 1000000) (hsl : ij l) (hc : ∀ o ∈ l, lu o = true) (hv : dZ (ba l) = true) (h10 : inM (s 10) 0 1000000 = true) : ae Tryz.prog 74 [.agg (aX s), aP l, .agg (aQ a b)] (Eu s (xw s l)) := by
 refine ag aa Tryz.func74 rfl (by kernel_rfl) af (Nat.le_of_ble_eq_true rfl) ?_
 intro F n' w0 m0 hG hro h1
 repeat' first|refine Q1 ?_|refine Q2 ?_|refine Q3 hG aa eD ?_|refine Q4 hG aa eD ?_|refine Q5 hG aa ?_|refine Q6 hG aa ?_|refine Q7 hG aa ?_|refine Q8 hG aa ?_|refine Q9 rfl ?_|refine QF rfl ?_|refine QC rfl ⟨fun h => ?_,fun h => ?_⟩|((conv => whnf); first|refine anF ?_|refine anT ?_|refine anK ?_|refine And.intro (fun h => ?_) (fun h => ?_)|refine Or.inl ?_)
 refine aw (X := Nat) (fun i => ⟨[(17, .int .i64 i), (16, .int .i64 (l.map aG).length), (15, aP l), (8, .sl (.id 8) 4 ((ba (l.take i)).map gw)), (7, .bool false), (6, .loc 6 0), (3, .loc 3 0)], [(6, fI ⟨0, 0, 0, 0⟩), (3, aX s)]⟩) (fun i => i ≤ l.length) (fun i => l.length - i) 0 (Nat.zero_le _) (ah ?_ ?_) (fun i hi => ?_)
 ·repeat' (first | exact trivial | refine And.intro rfl ?_)
 ·repeat' (first | exact trivial | refine And.intro rfl ?_)
 ·by_cases hlt : i < l.length
  ·have bbk : decide ((i : Int) < ((l.map aG).length : Int)) = false → False := fun h => by have := of_decide_eq_false h; simp at this; omega
   have hx := gp hlt
   have hcx : lu (aD l i) = true := hc _ (by rw [bT hlt]; exact List.getElem_mem hlt)
   have hsx : (aD l i).sl.length ≤ 1000000 := hsl _ (by rw [bT hlt]; exact List.getElem_mem hlt)
   have htk := xl hlt
   have hln : (ba (l.take i)).length = i := by simp [ba]; omega
   generalize aD l i = x at hx hcx hsx htk
   have hrow : (ba (l.take (i + 1))).map gw = (ba (l.take i)).map gw ++ [gw ⟨x.id, x.size, x.a, dY x⟩] := by rw [htk, List.map_append]; rfl
   have hlr : ((ba (l.take i)).map gw).length = i := by rw [List.length_map]; exact hln
   generalize (ba (l.take i)).map gw = row at hrow hlr
   repeat' first|exact (bbk (by assumption)).elim|refine Q1 ?_|refine Q2 ?_|refine Q3 hG aa eD ?_|refine Q4 hG aa eD ?_|refine Q5 hG aa ?_|refine Q6 hG aa ?_|refine Q7 hG aa ?_|refine Q8 hG aa ?_|refine Q9 rfl ?_|refine QF rfl ?_|refine QC rfl ⟨fun h => ?_,fun h => ?_⟩|((conv => whnf); first|refine anF ?_|refine anT ?_|refine anK ?_|refine And.intro (Int.natCast_nonneg i) (Exists.intro _ (And.intro hx ?_))|refine Exists.intro _ (And.intro (rH x hsx hcx) ?_)|refine And.intro (show (row.length + 1) * 32 ≤ 70368744177664 by omega) (And.intro (show row.length + 1 ≤ 4611686018427387904 by omega) ?_)|refine And.intro (fun h => ?_) (fun h => ?_)|refine Or.inl ?_)
   conv => whnf
   refine Exists.intro (i + 1) (And.intro hlt (And.intro (by omega) ?_))
   rw [hrow]
   refine ah (And.intro (congrArg some (ap (by omega))) ?_) ?_
   ·repeat' (first | exact trivial | refine And.intro rfl ?_)
   ·repeat' (first | exact trivial | refine And.intro rfl ?_)
  ·have bbk : decide ((i : Int) < ((l.map aG).length : Int)) = true → False := fun h => by have := of_decide_eq_true h; simp at this; omega
   have he : l.take i = l := List.take_of_length_le (by omega)
   rw [he]
   repeat' first|exact (bbk (by assumption)).elim|refine Q1 ?_|refine Q2 ?_|refine Q3 hG aa eD ?_|refine Q4 hG aa eD ?_|refine Q5 hG aa ?_|refine Q6 hG aa ?_|refine Q7 hG aa ?_|refine Q8 hG aa ?_|refine Q9 rfl ?_|refine QF rfl ?_|refine QC rfl ⟨fun h => ?_,fun h => ?_⟩|((conv => whnf); first|refine anF ?_|refine anT ?_|refine anK ?_|refine Exists.intro _ (And.intro (A3 (ba l) (s 10) (by simpa [ba] using hl) hv h10) ?_)|refine Exists.intro _ (And.intro (jW _ _) ?_)|refine And.intro (fun h => ?_) (fun h => ?_)|refine Or.inl ?_)
   exact Ends.mk (Or.inl rfl) (ac rfl)
end Go.Proofs
namespace Go.Proofs
open Go Go.AI
set_option maxRecDepth 10000
def FF (l : List Opt) : Option (Nat × Nat × Int) → AV
 | none => .tup [.agg (fI ⟨0, 0, 0, 0⟩), .bool false]
 | some (i, k, t) => .tup [.agg (fI ⟨0, (aD l i).id, (aD l k).id, t⟩), .bool true]
theorem lm {α : Type} {f : Nat → Option α} {r : α} : ∀ {n k : Nat}, (∀ j, j < k → f j = none) → k < n → f k = some r → (List.range n).findSome? f = some r
 | 0, _, _, h, _ => absurd h (by omega)
 | n + 1, k, h0, h, hf => by
  rw [List.range_succ, List.findSome?_append]
  rcases Nat.lt_or_ge k n with hk | hk
  ·rw [lm h0 hk hf]; rfl
  ·have : k = n := by omega
   subst this
   have h1 : (List.range k).findSome? f = none := List.findSome?_eq_none_iff.2 fun x hx => h0 x (List.mem_range.1 hx)
   rw [h1]
   simp [hf]
theorem jt {α : Type} {f : Nat → Option α} {n : Nat} (h0 : ∀ j, j < n → f j = none) : (List.range n).findSome? f = none := List.findSome?_eq_none_iff.2 fun x hx => h0 x (List.mem_range.1 hx)
def mIn (x : Int × Int) (ys : List (Int × Int)) (f : Int) : Int := ys.foldl (fun f y => mo f x y) f
def Ei (xs ys : List (Int × Int)) (f : Int) : Int := xs.foldl (fun f x => mIn x ys f) f
set_option maxHeartbeats 4000000 in
theorem ym (s : Nat → Int) (l : List Opt) (a b : Int) (hl : l.length ≤ 1000000) (hsl : ij l) : ae Tryz.prog 76 [.agg (aX s), aP l, .agg (aQ a b)] (FF l (vf l)) := by
 refine ae.ofBm aa Tryz.func76 rfl (by kernel_rfl) af (Nat.le_of_ble_eq_true rfl) ?_
 intro F n' w0 m0 hG hro h9 hm0
 repeat' first|refine Q1 ?_|refine Q2 ?_|refine Q3 hG aa aN ?_|refine Q4 hG aa aN ?_|refine Q5 hG aa ?_|refine Q6 hG aa ?_|refine Q7 hG aa ?_|refine Q8 hG aa ?_|refine Q9 rfl ?_|refine QF rfl ?_|refine QC rfl ⟨fun h => ?_,fun h => ?_⟩|((conv => whnf); first|refine anF ?_|refine anT ?_|refine anK ?_|refine And.intro (fun h => ?_) (fun h => ?_)|refine Or.inl ?_)
 refine ⟨SP.scope (SPB.out ?_)⟩
 repeat' first|refine Q1 ?_|refine Q2 ?_|refine Q3 hG aa aN ?_|refine Q4 hG aa aN ?_|refine Q5 hG aa ?_|refine Q6 hG aa ?_|refine Q7 hG aa ?_|refine Q8 hG aa ?_|refine Q9 rfl ?_|refine QF rfl ?_|refine QC rfl ⟨fun h => ?_,fun h => ?_⟩|((conv => whnf); first|refine anF ?_|refine anT ?_|refine anK ?_|refine And.intro (fun h => ?_) (fun h => ?_)|refine Or.inl ?_)
 refine aw (X := Nat) (fun k => ⟨[(20, .int .i64 k), (19, .int .i64 (l.map aG).length), (18, aP l), (1, aP l), (9, .bool false), (8, .loc 8 0), (7, .bool false), (6, .loc 6 0)], [(8, fI ⟨0, 0, 0, 0⟩), (6, fI ⟨0, 0, 0, 0⟩)]⟩) (fun k => k ≤ l.length ∧ ∀ j, j < k → BS l j = none) (fun k => l.length - k) 0 ⟨Nat.zero_le _, fun j h => absurd h (by omega)⟩ (ah ?_ ?_) (fun k hk => ?_)
 ·repeat' (first | exact trivial | refine And.intro rfl ?_)
 ·repeat' (first | exact trivial | refine And.intro rfl ?_)
 ·obtain ⟨hk, hnk⟩ := hk
  by_cases hlt : k < l.length
  ·have bbk : decide ((k : Int) < ((l.map aG).length : Int)) = false → False := fun h => by have := of_decide_eq_false h; simp at this; omega
   have hx := gp hlt
   have hsx : (aD l k).sl.length ≤ 1000000 := hsl _ (by rw [bT hlt]; exact List.getElem_mem hlt)
   have hk0 : 0 ≤ (k : Int) := Int.natCast_nonneg k
   have hkl : (k : Int).toNat ≤ (l.map aG).length := by simp; omega
   obtain ⟨x, hxe⟩ : ∃ x, x = aD l k := ⟨_, rfl⟩
   rw [← hxe] at hx hsx
   have hkc : (k : Int) ≤ ((l.map aG).length : Int) := by simp; omega
   repeat' first|exact (bbk (by assumption)).elim|refine Q1 ?_|refine Q2 ?_|refine Q3 hG aa aN ?_|refine Q4 hG aa aN ?_|refine Q5 hG aa ?_|refine Q6 hG aa ?_|refine Q7 hG aa ?_|refine Q8 hG aa ?_|refine Q9 rfl ?_|refine QF rfl ?_|refine QC rfl ⟨fun h => ?_,fun h => ?_⟩|((conv => whnf); first|refine anF ?_|refine anT ?_|refine anK ?_|refine And.intro (Int.natCast_nonneg k) (Exists.intro _ (And.intro hx ?_))|refine And.intro hk0 (And.intro (Nat.zero_le _) (And.intro hkl ?_))|refine And.intro (fun h => ?_) (fun h => ?_)|refine Or.inl ?_)
   obtain ⟨row, hrow⟩ : ∃ row, row = ((l.map aG).take (k : Int).toNat).drop 0 := ⟨_, rfl⟩
   have hrl : row.length = k := by rw [hrow]; simp; omega
   have hry : ∀ i, i < k → row[(i : Int).toNat]? = some (aG (aD l i)) := fun i hi => by
    rw [hrow, List.drop_zero, Int.toNat_natCast, List.getElem?_take, if_pos (by omega)]
    exact gp (by omega)
   rw [← hrow]
   refine aw (X := Nat) (fun i => ⟨[(29, .int .i64 i), (28, .int .i64 row.length), (27, .sl .no 9 row), (10, .int .i64 k), (11, .loc 11 0), (20, .int .i64 k), (19, .int .i64 (l.map aG).length), (18, aP l), (1, aP l), (9, .bool false), (8, .loc 8 0), (7, .bool false), (6, .loc 6 0)], [(11, aG x), (8, fI ⟨0, 0, 0, 0⟩), (6, fI ⟨0, 0, 0, 0⟩)]⟩) (fun i => i ≤ k ∧ ∀ j, j < i → yL l k j = none) (fun i => k - i) 0 ⟨Nat.zero_le _, fun j h => absurd h (by omega)⟩ (ah ?_ ?_) (fun i hi => ?_)
   ·repeat' (first | exact trivial | refine And.intro rfl ?_)
   ·repeat' (first | exact trivial | refine And.intro rfl ?_)
   ·obtain ⟨hi, hni⟩ := hi
    by_cases hil : i < k
    ·have bbi : decide ((i : Int) < (row.length : Int)) = false → False := fun h => by have := of_decide_eq_false h; omega
     have hy := hry i hil
     have hsy : (aD l i).sl.length ≤ 1000000 := hsl _ (by rw [bT (show i < l.length by omega)]; exact List.getElem_mem _)
     obtain ⟨y, hye⟩ : ∃ y, y = aD l i := ⟨_, rfl⟩
     rw [← hye] at hy hsy
     repeat' first|exact (bbi (by assumption)).elim|refine Q1 ?_|refine Q2 ?_|refine Q3 hG aa aN ?_|refine Q4 hG aa aN ?_|refine Q5 hG aa ?_|refine Q6 hG aa ?_|refine Q7 hG aa ?_|refine Q8 hG aa ?_|refine Q9 rfl ?_|refine QF rfl ?_|refine QC rfl ⟨fun h => ?_,fun h => ?_⟩|((conv => whnf); first|refine anF ?_|refine anT ?_|refine anK ?_|refine And.intro (Int.natCast_nonneg i) (Exists.intro _ (And.intro hy ?_))|refine Exists.intro _ (And.intro ((oW [y]).sl0) ?_)|refine And.intro (fun h => ?_) (fun h => ?_)|refine Or.inl ?_)
     have e1 : bM [y] = slP y := by simp [bM, slP]
     have e2 : bM [x] = slP x := by simp [bM, slP]
     refine ⟨SP.rangeM2 hG hro (Nat.le_trans (by decide) h9) (α := Int × Int) spA (f := 166) (cap := [.ref [aP [y]]]) (items := bM [y]) rfl (jg [y] (Nat.le_of_ble_eq_true rfl) (fun o ho => by rw [List.mem_singleton.1 ho]; exact hsy)) (fun _ => rfl) (fun _ => [(14, .loc 14 0), (13, .loc 13 0), (29, .int .i64 i), (28, .int .i64 row.length), (27, .sl .no 9 row), (10, .int .i64 k), (11, .loc 11 0), (20, .int .i64 k), (19, .int .i64 (l.map aG).length), (18, aP l), (1, aP l), (9, .bool false), (8, .loc 8 0), (7, .bool false), (6, .loc 6 0)]) [14, 13, 29, 28, 27, 10, 11, 20, 19, 18, 1, 9, 8, 7, 6] (fun _ => rfl)
      (fun pre => [(14, [.int .i64 (Ei pre (slP x) (-1))]), (13, aG y), (11, aG x), (8, fI ⟨0, 0, 0, 0⟩), (6, fI ⟨0, 0, 0, 0⟩)]) (ah ?_ ?_) (by kernel_rfl) (by decide) ?_ ?_⟩
     ·repeat' (first | exact trivial | refine And.intro rfl ?_)
     ·repeat' (first | exact trivial | refine And.intro rfl ?_)
     ·intro F' n'' m' hG' hr' hn'' pre u rest hpre
      obtain ⟨l0, hr'⟩ := hr'
      clear hG
      have hG := hG'
      refine SPB.out (Q4 hG aa aN ?_)
      conv => whnf
      refine And.intro rfl (And.intro (ah ?_ ?_) ?_)
      ·repeat' (first | exact trivial | refine And.intro rfl ?_)
      ·repeat' (first | exact trivial | refine And.intro rfl ?_)
      refine SPB.out ?_
      repeat' first|refine Q1 ?_|refine Q2 ?_|refine Q3 hG aa aN ?_|refine Q4 hG aa aN ?_|refine Q5 hG aa ?_|refine Q6 hG aa ?_|refine Q7 hG aa ?_|refine Q8 hG aa ?_|refine Q9 rfl ?_|refine QF rfl ?_|refine QC rfl ⟨fun h => ?_,fun h => ?_⟩|((conv => whnf); first|refine anF ?_|refine anT ?_|refine anK ?_|refine Exists.intro _ (And.intro ((oW [x]).sl0) ?_)|refine And.intro (fun h => ?_) (fun h => ?_)|refine Or.inl ?_)
      obtain ⟨f0, hf0⟩ : ∃ f0, f0 = Ei pre (slP x) (-1) := ⟨_, rfl⟩
      have hf1 : Ei (pre ++ [u]) (slP x) (-1) = mIn u (slP x) f0 := by rw [hf0]; simp [Ei]
      rw [← hf0]
      refine ⟨SP.rangeMi hG hr' (by rw [hn'']; show 1 ≤ n' - 1 - 1; omega) (α := Int × Int) spA (f := 166) (cap := [.ref [aP [x]]]) (items := bM [x]) rfl (jg [x] (Nat.le_of_ble_eq_true rfl) (fun o ho => by rw [List.mem_singleton.1 ho]; exact hsx)) (fun _ => rfl) (fun _ => [(15, .loc 15 0), (14, .loc 14 0), (13, .loc 13 0), (29, .int .i64 i), (28, .int .i64 row.length), (27, .sl .no 9 row), (10, .int .i64 k), (11, .loc 11 0), (20, .int .i64 k), (19, .int .i64 (l.map aG).length), (18, aP l), (1, aP l), (9, .bool false), (8, .loc 8 0), (7, .bool false), (6, .loc 6 0)]) [15, 14, 13, 29, 28, 27, 10, 11, 20, 19, 18, 1, 9, 8, 7, 6] (fun _ => rfl)
       (fun pre2 => [(14, [.int .i64 (mIn u pre2 f0)]), (15, [.int .i64 u.1, .int .i64 u.2]), (13, aG y), (11, aG x), (8, fI ⟨0, 0, 0, 0⟩), (6, fI ⟨0, 0, 0, 0⟩)]) (ah ?_ ?_) (by kernel_rfl) (by decide) ?_ ?_⟩
      ·repeat' (first | exact trivial | refine And.intro rfl ?_)
      ·repeat' (first | exact trivial | refine And.intro rfl ?_)
      ·intro F3 n3 m3 hG3 _ _ pre2 v rest2 hpre2
       clear hG
       have hG := hG3
       obtain ⟨g, hg⟩ : ∃ g, g = mIn u pre2 f0 := ⟨_, rfl⟩
       have hg1 : mIn u (pre2 ++ [v]) f0 = mo g u v := by rw [hg]; simp [mIn]
       rw [← hg]
       refine SPB.out (Q4 hG aa aN ?_)
       conv => whnf
       refine And.intro rfl (And.intro (ah ?_ ?_) ?_)
       ·repeat' (first | exact trivial | refine And.intro rfl ?_)
       ·repeat' (first | exact trivial | refine And.intro rfl ?_)
       refine SPB.out ?_
       repeat' first|refine Q1 ?_|refine Q2 ?_|refine Q3 hG aa aN ?_|refine Q4 hG aa aN ?_|refine Q5 hG aa ?_|refine Q6 hG aa ?_|refine Q7 hG aa ?_|refine Q8 hG aa ?_|refine Q9 rfl ?_|refine QF rfl ?_|refine QC rfl ⟨fun h => ?_,fun h => ?_⟩|((conv => whnf); first|refine anF ?_|refine anT ?_|refine anK ?_|refine And.intro (fun h => ?_) (fun h => ?_)|refine Or.inl ?_)
       all_goals conv => whnf
       all_goals refine ah ?_ ?_
       all_goals first
        |(refine And.intro (congrArg (fun z => some [AV.int .i64 z]) (by rw [hg1]; unfold mo; (try simp only [decide_eq_true_eq, decide_eq_false_iff_not, gt_iff_lt, cond_true, cond_false] at *); split <;> omega)) ?_; repeat' (first | exact trivial | refine And.intro rfl ?_))
        |(repeat' (first | exact trivial | refine And.intro rfl ?_))
      ·rw [e2]
       conv => whnf
       repeat' first|refine Q1 ?_|refine Q2 ?_|refine Q3 hG aa aN ?_|refine Q4 hG aa aN ?_|refine Q5 hG aa ?_|refine Q6 hG aa ?_|refine Q7 hG aa ?_|refine Q8 hG aa ?_|refine Q9 rfl ?_|refine QF rfl ?_|refine QC rfl ⟨fun h => ?_,fun h => ?_⟩|((conv => whnf); first|refine anF ?_|refine anT ?_|refine anK ?_|refine And.intro (fun h => ?_) (fun h => ?_)|refine Or.inl ?_)
       refine ah ?_ ?_
       ·repeat' (first | exact trivial | refine And.intro rfl ?_)
       ·refine And.intro (congrArg (fun z => some [AV.int .i64 z]) hf1.symm) ?_
        repeat' (first | exact trivial | refine And.intro rfl ?_)
     ·rw [e1]
      conv => whnf
      repeat' first|refine Q1 ?_|refine Q2 ?_|refine Q3 hG aa aN ?_|refine Q4 hG aa aN ?_|refine Q5 hG aa ?_|refine Q6 hG aa ?_|refine Q7 hG aa ?_|refine Q8 hG aa ?_|refine Q9 rfl ?_|refine QF rfl ?_|refine QC rfl ⟨fun h => ?_,fun h => ?_⟩|((conv => whnf); first|refine anF ?_|refine anT ?_|refine anK ?_|refine And.intro (fun h => ?_) (fun h => ?_)|refine Or.inl ?_)
      ·have hm : sZ (aD l i) (aD l k) ≥ 0 := by rw [← hxe, ← hye]; exact of_decide_eq_true (by assumption)
       have hI : yL l k i = some (i, k, sZ (aD l i) (aD l k)) := if_pos hm
       have hO : vf l = some (i, k, sZ (aD l i) (aD l k)) := lm hnk hlt (lm hni hil hI)
       rw [hO]
       exact And.intro (fun _ h => nomatch h) (Ends.mk (Or.inl rfl) (ac (by rw [hxe, hye]; rfl)))
      ·have hm : ¬ sZ (aD l i) (aD l k) ≥ 0 := by rw [← hxe, ← hye]; exact of_decide_eq_false (by assumption)
       have hI : yL l k i = none := if_neg hm
       conv => whnf
       refine Exists.intro (i + 1) (And.intro ⟨hil, fun j hj => ?_⟩ (And.intro (by omega) (ah (And.intro (congrArg some (ap (by omega))) ?_) ?_)))
       ·rcases Nat.lt_or_ge j i with h | h
        ·exact hni j h
        ·have : j = i := by omega
         rw [this]; exact hI
       ·repeat' (first | exact trivial | refine And.intro rfl ?_)
       ·repeat' (first | exact trivial | refine And.intro rfl ?_)
    ·have bbi : decide ((i : Int) < (row.length : Int)) = true → False := fun h => by have := of_decide_eq_true h; omega
     have hJ : BS l k = none := jt fun j hj => hni j (by omega)
     repeat' first|exact (bbi (by assumption)).elim|refine Q1 ?_|refine Q2 ?_|refine Q3 hG aa aN ?_|refine Q4 hG aa aN ?_|refine Q5 hG aa ?_|refine Q6 hG aa ?_|refine Q7 hG aa ?_|refine Q8 hG aa ?_|refine Q9 rfl ?_|refine QF rfl ?_|refine QC rfl ⟨fun h => ?_,fun h => ?_⟩|((conv => whnf); first|refine anF ?_|refine anT ?_|refine anK ?_|refine And.intro (fun h => ?_) (fun h => ?_)|refine Or.inl ?_)
     conv => whnf
     refine Exists.intro (k + 1) (And.intro ⟨hlt, fun j hj => ?_⟩ (And.intro (by omega) (ah (And.intro (congrArg some (ap (by omega))) ?_) ?_)))
     ·rcases Nat.lt_or_ge j k with h | h
      ·exact hnk j h
      ·have : j = k := by omega
       rw [this]; exact hJ
     ·repeat' (first | exact trivial | refine And.intro rfl ?_)
     ·repeat' (first | exact trivial | refine And.intro rfl ?_)
  ·have bbk : decide ((k : Int) < ((l.map aG).length : Int)) = true → False := fun h => by have := of_decide_eq_true h; simp at this; omega
   have hO : vf l = none := jt fun j hj => hnk j (by omega)
   rw [hO]
   repeat' first|exact (bbk (by assumption)).elim|refine Q1 ?_|refine Q2 ?_|refine Q3 hG aa aN ?_|refine Q4 hG aa aN ?_|refine Q5 hG aa ?_|refine Q6 hG aa ?_|refine Q7 hG aa ?_|refine Q8 hG aa ?_|refine Q9 rfl ?_|refine QF rfl ?_|refine QC rfl ⟨fun h => ?_,fun h => ?_⟩|((conv => whnf); first|refine anF ?_|refine anT ?_|refine anK ?_|refine And.intro (fun h => ?_) (fun h => ?_)|refine Or.inl ?_)
   exact And.intro (fun _ h => nomatch h) (Ends.mk (Or.inl rfl) (ac rfl))
end Go.Proofs
namespace Go.Proofs
open Go Go.AI
set_option maxRecDepth 10000
structure ku (s : Nat → Int) (l : List Opt) (a b : Int) : Prop where
 hl : l.length ≤ 1000000
 sl : ij l
 sp : (bM l).length ≤ 900000
 val : xq s (bP l) = true
 span : o5 a b = true
 can : ∀ o ∈ l, lu o = true
 mem : dZ (ba l) = true
 s10 : inM (s 10) 0 1000000 = true
 ll : (aq l).length ≤ 1000000
 bat : fE s (aq l) a b = true
def D4 (k : Int) (z : Flt) : Flt := ⟨k, z.a, z.b, z.t⟩
def xD : List (List AV) := [[.int .i64 2, .fn 72], [.int .i64 3, .fn 73], [.int .i64 4, .fn 74], [.int .i64 5, .fn 75], [.int .i64 6, .fn 76]]
def Fy (s : Nat → Int) (l : List Opt) (a b : Int) (i : Nat) : Prop := ∃ (kind : Int) (f : FuncId) (z : Flt) (ok : Bool), xD[(i : Int).toNat]? = some [.int .i64 kind, .fn f] ∧
 ae Tryz.prog f [.agg (aX s), aP l, .agg (aQ a b)] (.tup [.agg (fI z), .bool ok]) ∧ (pj s l a b)[i]? = some (if ok then some (D4 kind z) else none)
theorem ua (k sat t : Int) : ub k sat t = if (t != -1) = true then some (D4 k ⟨0, sat, 0, t⟩) else none := by
 unfold ub D4
 by_cases h : t = -1 <;> simp [h]
theorem BX {s : Nat → Int} {l : List Opt} {a b : Int} (h : ku s l a b) : ∀ i, i < 5 → Fy s l a b i
 | 0, _ => by
  have c := yl s l a b h.hl h.val
  have e : (pj s l a b)[0]? = some (lN s l) := rfl
  unfold lN at e
  cases hs : qx s (bP l) with
  | none => rw [hs] at c e; exact ⟨2, 72, ⟨0, 0, 0, 0⟩, false, rfl, c, e⟩
  | some p => obtain ⟨i, k⟩ := p; rw [hs] at c e; exact ⟨2, 72, _, true, rfl, c, e⟩
 | 1, _ => ⟨3, 73, _, _, rfl, Bt s l a b h.hl h.span h.val, congrArg some (ua _ _ _)⟩
 | 2, _ => ⟨4, 74, _, _, rfl, yi s l a b h.hl h.sl h.can h.mem h.s10, congrArg some (ua _ _ _)⟩
 | 3, _ => ⟨5, 75, _, _, rfl, wM s l a b h.hl h.sl h.sp h.ll h.bat, congrArg some (ua _ _ _)⟩
 | 4, _ => by
  have c := ym s l a b h.hl h.sl
  have e : (pj s l a b)[4]? = some (lQ l) := rfl
  unfold lQ at e
  cases hs : vf l with
  | none => rw [hs] at c e; exact ⟨6, 76, ⟨0, 0, 0, 0⟩, false, rfl, c, e⟩
  | some p => obtain ⟨i, k, t⟩ := p; rw [hs] at c e; exact ⟨6, 76, _, true, rfl, c, e⟩
def fh (s : Nat → Int) (l : List Opt) (a b : Int) (i : Nat) : List Flt := ((pj s l a b).take i).filterMap id
theorem ul {s : Nat → Int} {l : List Opt} {a b : Int} {i : Nat} {o : Option Flt} (h : (pj s l a b)[i]? = some o) : fh s l a b (i + 1) = fh s l a b i ++ o.toList := by
 unfold fh
 rw [List.take_add_one, h, List.filterMap_append]
 cases o <;> rfl
theorem vY (s : Nat → Int) (l : List Opt) (a b : Int) (i : Nat) : (fh s l a b i).length ≤ 5 := by
 unfold fh
 refine Nat.le_trans (List.length_filterMap_le _ _) ?_
 rw [List.length_take]; simp [pj]; omega
set_option maxHeartbeats 4000000 in
theorem yu (s : Nat → Int) (l : List Opt) (ps : List aj) (a b : Int) (hps : ps.length ≤ 1000000) (hv : aT s l ps a b = true) (h : ku s l a b) : ae Tryz.prog 21 [.agg (aX s), aP l, au ps, .agg (aQ a b)] (.tup [zf (fi s l a b), .int .i64 0]) := by
 have cV := rI s l ps a b h.hl h.sl hps
 rw [hv] at cV
 refine ag aa Tryz.func21 rfl (by kernel_rfl) af (Nat.le_of_ble_eq_true rfl) ?_
 intro F n' w0 m0 hG hro h1
 repeat' first|refine Q1 ?_|refine Q2 ?_|refine Q3 hG aa eJ ?_|refine Q4 hG aa eJ ?_|refine Q5 hG aa ?_|refine Q6 hG aa ?_|refine Q7 hG aa ?_|refine Q8 hG aa ?_|refine Q9 rfl ?_|refine QF rfl ?_|refine QC rfl ⟨fun h => ?_,fun h => ?_⟩|((conv => whnf); first|refine anF ?_|refine anT ?_|refine anK ?_|refine Exists.intro _ (And.intro (cV) ?_)|refine And.intro (fun h => ?_) (fun h => ?_)|refine Or.inl ?_)
 refine aw (X := Nat) (fun i => ⟨[(28, .int .i64 i), (27, .int .i64 5), (26, .sl .full 2 xD), (1, aP l), (10, .sl (.id 10) 4 ((fh s l a b i).map fI)), (4, .loc 4 0), (7, .loc 7 0)], [(7, aQ a b), (4, aX s)]⟩) (fun i => i ≤ 5) (fun i => 5 - i) 0 (Nat.zero_le _) (ah ?_ ?_) (fun i hi => ?_)
 ·repeat' (first | exact trivial | refine And.intro rfl ?_)
 ·repeat' (first | exact trivial | refine And.intro rfl ?_)
 ·by_cases hlt : i < 5
  ·have bbk : decide ((i : Int) < 5) = false → False := fun h => by have := of_decide_eq_false h; omega
   obtain ⟨kind, f, z, ok, hx, cR, hR⟩ := BX h i hlt
   have hst := ul hR
   have hln : ((fh s l a b i).map fI).length ≤ 5 := by rw [List.length_map]; exact vY s l a b i
   have hrow : (fh s l a b (i + 1)).map fI = (fh s l a b i).map fI ++ (if ok then [fI (D4 kind z)] else []) := by rw [hst, List.map_append]; cases ok <;> rfl
   generalize (fh s l a b i).map fI = row at hln hrow
   obtain ⟨rr, hrr⟩ : ∃ rr, rr = xD := ⟨_, rfl⟩
   rw [← hrr] at hx ⊢
   repeat' first|exact (bbk (by assumption)).elim|refine Q1 ?_|refine Q2 ?_|refine Q3 hG aa eJ ?_|refine Q4 hG aa eJ ?_|refine Q5 hG aa ?_|refine Q6 hG aa ?_|refine Q7 hG aa ?_|refine Q8 hG aa ?_|refine Q9 rfl ?_|refine QF rfl ?_|refine QC rfl ⟨fun h => ?_,fun h => ?_⟩|((conv => whnf); first|refine anF ?_|refine anT ?_|refine anK ?_|refine And.intro (Int.natCast_nonneg i) (Exists.intro _ (And.intro hx ?_))|refine Exists.intro _ (And.intro (cR) ?_)|refine And.intro (show (row.length + 1) * 32 ≤ 70368744177664 by omega) (And.intro (show row.length + 1 ≤ 4611686018427387904 by omega) ?_)|refine And.intro (fun h => ?_) (fun h => ?_)|refine Or.inl ?_)
   ·have hok := (by assumption : ok = true)
    conv => whnf
    refine Exists.intro (i + 1) (And.intro hlt (And.intro (by omega) ?_))
    rw [hrow, if_pos hok]
    refine ah (And.intro (congrArg some (ap (by omega))) ?_) ?_
    ·repeat' (first | exact trivial | refine And.intro rfl ?_)
    ·repeat' (first | exact trivial | refine And.intro rfl ?_)
   ·have hok := (by assumption : ok = false)
    conv => whnf
    refine Exists.intro (i + 1) (And.intro hlt (And.intro (by omega) ?_))
    rw [hrow, hok, if_neg (by decide), List.append_nil]
    refine ah (And.intro (congrArg some (ap (by omega))) ?_) ?_
    ·repeat' (first | exact trivial | refine And.intro rfl ?_)
    ·repeat' (first | exact trivial | refine And.intro rfl ?_)
  ·have bbk : decide ((i : Int) < 5) = true → False := fun h => by have := of_decide_eq_true h; omega
   have he : i = 5 := by omega
   subst he
   repeat' first|exact (bbk (by assumption)).elim|refine Q1 ?_|refine Q2 ?_|refine Q3 hG aa eJ ?_|refine Q4 hG aa eJ ?_|refine Q5 hG aa ?_|refine Q6 hG aa ?_|refine Q7 hG aa ?_|refine Q8 hG aa ?_|refine Q9 rfl ?_|refine QF rfl ?_|refine QC rfl ⟨fun h => ?_,fun h => ?_⟩|((conv => whnf); first|refine anF ?_|refine anT ?_|refine anK ?_|refine And.intro (fun h => ?_) (fun h => ?_)|refine Or.inl ?_)
   exact Ends.mk (Or.inl rfl) (ac rfl)
end Go.Proofs
namespace Go.Proofs
open Go Go.AI
structure EG (s : Nat → Int) (o : Opt) (b : Int) : Prop where
 id : 0 ≤ o.id ∧ o.id ≤ 63
 size : 1 ≤ o.size ∧ o.size ≤ s 10
 shot : 0 ≤ o.a ∧ o.a < o.b ∧ o.b ≤ 1000000 ∧ o.b - o.a ≤ 60
 look : inS o.look (w64 (0 - s 9)) (s 9) = true
 len : 1 ≤ o.sl.length ∧ o.sl.length ≤ 6
 slot : ∀ x ∈ o.sl, 0 ≤ x.a ∧ x.a < x.b ∧ x.b ≤ dY o
 last : o.b < dY o ∧ dY o ≤ b
 can : lu o = true
def iX (t : Int) : List aZ → Int
 | [] => t
 | x :: r => iX x.b r
theorem qS (t : Int) : ∀ (l : List aZ), l ≠ [] → iX t l = (l.getD (l.length - 1) EN).b
 | [], h => absurd rfl h
 | [x], _ => rfl
 | x :: y :: r, _ => by
  rw [iX, qS _ (y :: r) (by simp)]
  simp
theorem yF {s : Nat → Int} {ps : List aj} {z : Int} (hps : ∀ p ∈ ps, p.sb ≤ 1000001) (hpl : ps.length ≤ 64) : ∀ (l : List aZ) (t : Int), bn s ps z t l = true → 0 ≤ t →
  (∀ x ∈ l, t ≤ x.a ∧ x.a < x.b ∧ x.b ≤ iX t l) ∧ t ≤ iX t l ∧ (l ≠ [] → t < iX t l) ∧ fa t l = true
 | [], t, _, _ => ⟨fun _ h => (nomatch h), Int.le_refl _, fun h => absurd rfl h, rfl⟩
 | x :: r, t, h, ht => by
  simp only [bn, eX, Bool.and_eq_true, inS, decide_eq_true_eq, Bool.not_eq_true'] at h
  obtain ⟨⟨h01, ⟨⟨⟨_, h2⟩, h3⟩, h4⟩, _⟩, h5⟩ := h
  obtain ⟨h0, h1⟩ := h01
  have hxa : t ≤ x.a := by omega
  obtain ⟨g1, g2, _, g4⟩ := yF hps hpl r x.b h5 (by omega)
  have hp : (aF ps x.p.toNat).sb ≤ 1000001 := by
   rw [am (by omega) (by omega)] at h1
   have hlt : x.p.toNat < ps.length := by omega
   unfold aF
   rw [List.getD_eq_getElem?_getD, List.getElem?_eq_getElem hlt]
   exact hps _ (List.getElem_mem hlt)
  refine ⟨fun y hy => ?_, ?_, fun _ => ?_, ?_⟩
  ·rcases List.mem_cons.1 hy with rfl | hy
   ·exact ⟨hxa, h4, g2⟩
   ·have := g1 y hy
    exact ⟨by omega, this.2.1, this.2.2⟩
  ·show t ≤ iX x.b r; omega
  ·show t < iX x.b r; omega
  ·simp only [fa, lg, Bool.and_eq_true, decide_eq_true_eq]
   exact ⟨⟨hxa, ⟨by omega, h4⟩, by omega⟩, g4⟩
theorem qD {ps : List aj} (h : cc ps = true) : (∀ p ∈ ps, p.sb ≤ 1000001) ∧ ps.length ≤ 64 := by
 simp only [cc, Bool.and_eq_true, decide_eq_true_eq, Bool.not_eq_true', List.any_eq_false] at h
 refine ⟨fun p hp => ?_, h.1.1⟩
 have := h.1.2 p hp
 simp only [ck, inS, Bool.and_eq_true, Bool.or_eq_true, decide_eq_true_eq, Bool.not_eq_true, Bool.not_eq_true', Bool.not_eq_false, beq_iff_eq] at this
 omega
theorem EV {s : Nat → Int} {o : Opt} {ps : List aj} {b : Int} (hps : cc ps = true) (hs : s 10 ≤ 1000000) (h : db s o ps = true) (hb : dY o ≤ b) : EG s o b := by
 obtain ⟨hp1, hp2⟩ := qD hps
 simp only [db, mv, o8, oo, vI, lg, Bool.and_eq_true, decide_eq_true_eq, beq_iff_eq] at h
 obtain ⟨⟨⟨⟨⟨⟨⟨hid, _⟩, _⟩, _⟩, hsz⟩, ⟨⟨⟨_, hsp⟩, _⟩, hlk⟩, hob⟩, hln⟩, hsl⟩ := h
 simp only [inS, Bool.and_eq_true, decide_eq_true_eq] at hid hsz hln
 have hspan : 0 ≤ o.a ∧ o.a < o.b ∧ o.b - o.a ≤ 60 := by
  obtain ⟨⟨⟨q1, q2⟩, q3⟩, q4⟩ := hsp
  rw [am (by omega) (by omega)] at q4
  exact ⟨q1, q2, q4⟩
 obtain ⟨g1, g2, g3, g4⟩ := yF hp1 hp2 o.sl o.b hsl (by omega)
 have hne : o.sl ≠ [] := fun e => by rw [e] at hln; simp at hln
 have hlast : iX o.b o.sl = dY o := qS _ _ hne
 rw [hlast] at g1 g2 g3
 refine ⟨hid, hsz, ⟨hspan.1, hspan.2.1, hob, hspan.2.2⟩, hlk, by omega, fun x hx => ?_, ⟨g3 hne, hb⟩, ?_⟩
 ·have := g1 x hx; omega
 ·simp only [lu, Bool.and_eq_true, inS, lg, decide_eq_true_eq]
  exact ⟨g4, ⟨⟨hid, by omega, by omega⟩, ⟨by omega, by omega⟩, by omega⟩, by omega, by omega⟩
theorem k9 {s : Nat → Int} {ps : List aj} {a b : Int} : ∀ (l pre : List Opt), d4 s ps a b pre l = true → ∀ o ∈ l, db s o ps = true ∧ a ≤ o.a ∧ dY o ≤ b
 | [], _, _, o, ho => nomatch ho
 | x :: r, pre, h, o, ho => by
  simp only [d4, Bool.and_eq_true] at h
  rcases List.mem_cons.1 ho with rfl | ho
  ·have := h.1
   simp only [mf, Bool.and_eq_true, Bool.not_eq_true', decide_eq_false_iff_not] at this
   exact ⟨this.1.1.1, by omega, by omega⟩
  ·exact k9 r _ h.2 o ho
theorem tQ {s : Nat → Int} {l : List Opt} {ps : List aj} {a b : Int} (h : aT s l ps a b = true) : l.length ≤ 8 ∧ (0 ≤ a ∧ a < b ∧ b ≤ 1000000) ∧ b - a ≤ 3000 ∧ fF s = true ∧ cc ps = true ∧ d4 s ps a b [] l = true := by
 simp only [aT, Bool.and_eq_true, decide_eq_true_eq, Bool.not_eq_true', decide_eq_false_iff_not] at h
 obtain ⟨⟨⟨⟨⟨h1, h2⟩, h3⟩, h4⟩, h5⟩, h6⟩ := h
 have h2 := lU h2
 rw [am (by omega) (by omega)] at h3
 exact ⟨h1, h2, by omega, h4, h5, h6⟩
theorem E9 {s : Nat → Int} (h : fF s = true) : 1 ≤ s 10 ∧ s 10 ≤ 1000000 := by
 simp only [fF, inS, Bool.and_eq_true, decide_eq_true_eq] at h
 omega
theorem Ck {s : Nat → Int} {ps : List aj} {a b : Int} (hps : cc ps = true) (hs : s 10 ≤ 1000000) (hb : b ≤ 1000000) : ∀ (l pre : List Opt), d4 s ps a b pre l = true → eN (ba pre) (ba l) = true
 | [], _, _ => rfl
 | x :: r, pre, h => by
  have hx := k9 (x :: r) pre h x (.head _)
  have hf := EV hps hs hx.1 hx.2.2
  simp only [d4, Bool.and_eq_true] at h
  have ih := Ck hps hs hb r _ h.2
  have hid := h.1
  simp only [mf, Bool.and_eq_true, Bool.not_eq_true'] at hid
  have hid := hid.2
  rw [show ba (x :: r) = ⟨x.id, x.size, x.a, dY x⟩ :: ba r from rfl, eN, show ba pre ++ [⟨x.id, x.size, x.a, dY x⟩] = ba (pre ++ [x]) by simp [ba], ih, Bool.and_true]
  have hse : kW (ba pre) x.id = false := by
   rw [← hid]; unfold kW ba; rw [List.any_map]; rfl
  obtain ⟨q1, q2, q3, q4, q5, q6, q7, q8⟩ := hf
  simp only [mj, hse, inM, spM, Bool.and_eq_true, decide_eq_true_eq, Bool.not_false, true_and]
  exact ⟨q1, ⟨q2.1, by omega⟩, q3.1, by omega, by omega⟩
theorem ku.of {s : Nat → Int} {l : List Opt} {ps : List aj} {a b : Int} (h : aT s l ps a b = true) : ku s l a b ∧ c6 l ∧ ∀ o ∈ l, EG s o b := by
 obtain ⟨h1, h2, h3, h4, h5, h6⟩ := tQ h
 have h10 := E9 h4
 have hm : ∀ o ∈ l, EG s o b := fun o ho => by
  have := k9 l [] h6 o ho
  exact EV h5 h10.2 this.1 this.2.2
 have hg : c6 l := ⟨h1, fun o ho => by
  obtain ⟨q1, q2, q3, q4, q5, q6, q7, q8⟩ := hm o ho
  omega, fun o ho x hx => by
  obtain ⟨q1, q2, q3, q4, q5, q6, q7, q8⟩ := hm o ho
  have := q6 x hx
  omega⟩
 have hlen := iU hg
 have hrl := hg.len
 refine ⟨⟨by omega, fun o ho => by have := (hm o ho).len; omega, ?_, ?_, ?_, fun o ho => (hm o ho).can, ?_, ?_, by omega, ?_⟩, hg, hm⟩
 ·have := vk l; omega
 ·rw [xq, h4, Bool.and_true, ye, Bool.and_eq_true]
  refine ⟨List.all_eq_true.2 fun x hx => ?_, by simp [bP]; omega⟩
  obtain ⟨o, ho, rfl⟩ := List.mem_map.1 hx
  obtain ⟨q1, q2, q3, q4, q5, q6, q7, q8⟩ := hm o ho
  simp only [AJ, Bool.and_eq_true, decide_eq_true_eq]
  rw [am (by omega) (by omega)]
  exact ⟨⟨⟨⟨q3.1, q3.2.1⟩, q3.2.2.1⟩, q3.2.2.2⟩, q4⟩
 ·simp only [o5, Bool.and_eq_true, decide_eq_true_eq]
  rw [am (by omega) (by omega)]
  omega
 ·rw [dZ, show eN [] (ba l) = true from Ck h5 h10.2 h2.2.2 l [] h6, Bool.true_and]
  simp [ba]; omega
 ·simp only [inM, Bool.and_eq_true, decide_eq_true_eq]; omega
 ·rw [fE, h4, hg.proper, Bool.and_true, Bool.and_true, Bool.and_eq_true]
  refine ⟨gd.2 h2, ?_⟩
  rw [am (by omega) (by omega)]
  exact decide_eq_true (by omega)
end Go.Proofs
namespace Go.Proofs
open Go Go.AI
set_option maxRecDepth 10000
theorem uU (s : Nat → Int) (l : List Opt) (ps : List aj) (a b : Int) (hps : ps.length ≤ 1000000) (hv : aT s l ps a b = true) : ae Tryz.prog 21 [.agg (aX s), aP l, au ps, .agg (aQ a b)] (.tup [zf (fi s l a b), .int .i64 0]) :=
 yu s l ps a b hps hv (ku.of hv).1
end Go.Proofs
namespace Go.Proofs
open Go Go.AI
set_option maxRecDepth 10000
theorem wF (n a b : Int) : ae Tryz.prog 99 [.int .i64 n, .int .i64 a, .int .i64 b] (.bool (inS n a b)) := by
 refine ag aa Tryz.func99 rfl (by kernel_rfl) af (Nat.le_of_ble_eq_true rfl) ?_
 intro F n' w0 m0 hG hro h1
 repeat' first|refine Q1 ?_|refine Q2 ?_|refine Q3 hG aa pF ?_|refine Q4 hG aa pF ?_|refine Q5 hG aa ?_|refine Q6 hG aa ?_|refine Q7 hG aa ?_|refine Q8 hG aa ?_|refine Q9 rfl ?_|refine QF rfl ?_|refine QC rfl ⟨fun h => ?_,fun h => ?_⟩|((conv => whnf); first|refine anF ?_|refine anT ?_|refine anK ?_|refine And.intro (fun h => ?_) (fun h => ?_)|refine Or.inl ?_)
 all_goals refine Ends.mk (Or.inl rfl) (ac (congrArg AV.bool ?_))
 all_goals (clear hG; grind [inS])
theorem wE (o : Nat → Int) (a b k : Int) : ae Tryz.prog 100 [.agg (kl o), .agg (aQ a b), .int .i64 k] (.bool (oo o a b k)) := by
 refine ag aa Tryz.func100 rfl (by kernel_rfl) af (Nat.le_of_ble_eq_true rfl) ?_
 intro F n' w0 m0 hG hro h1
 repeat' first|refine Q1 ?_|refine Q2 ?_|refine Q3 hG aa oc ?_|refine Q4 hG aa oc ?_|refine Q5 hG aa ?_|refine Q6 hG aa ?_|refine Q7 hG aa ?_|refine Q8 hG aa ?_|refine Q9 rfl ?_|refine QF rfl ?_|refine QC rfl ⟨fun h => ?_,fun h => ?_⟩|((conv => whnf); first|refine anF ?_|refine anT ?_|refine anK ?_|refine Exists.intro _ (And.intro (wY o) ?_)|refine And.intro (fun h => ?_) (fun h => ?_)|refine Or.inl ?_)
 all_goals refine Ends.mk (Or.inl rfl) (ac (congrArg AV.bool ?_))
 all_goals (clear hG; grind [oo, vI, lg, inS, w64])
theorem dn (c n : Int) (hn : n ≠ 0) : ae Tryz.prog 143 [.int .i64 c, .int .i64 n] (.int .i64 (ak c n)) := by
 refine ag aa Tryz.func143 rfl (by kernel_rfl) af (Nat.le_of_ble_eq_true rfl) ?_
 intro F n' w0 m0 hG hro h1
 repeat' first|refine Q1 ?_|refine Q2 ?_|refine Q3 hG aa nQ ?_|refine Q4 hG aa nQ ?_|refine Q5 hG aa ?_|refine Q6 hG aa ?_|refine Q7 hG aa ?_|refine Q8 hG aa ?_|refine Q9 rfl ?_|refine QF rfl ?_|refine QC rfl ⟨fun h => ?_,fun h => ?_⟩|((conv => whnf); first|refine anF ?_|refine anT ?_|refine anK ?_|refine And.intro hn ?_|refine And.intro (fun h => ?_) (fun h => ?_)|refine Or.inl ?_)
 all_goals refine Ends.mk (Or.inl rfl) (ac (congrArg (AV.int .i64) ?_))
 all_goals (simp_all [ak, w64] <;> omega)
end Go.Proofs
namespace Go.Proofs
open Go Go.AI
set_option maxRecDepth 10000
theorem mF {a b : Int} : d7 a b < 0 ↔ a < b := by unfold d7; split <;> (try split) <;> omega
theorem uq {a b : Int} : d7 a b = 0 ↔ a = b := by unfold d7; split <;> (try split) <;> omega
theorem zk (p q : aj) : decide (qf p q < 0) = if p.ca ≠ q.ca then decide (p.ca < q.ca) else if p.sat ≠ q.sat then decide (p.sat < q.sat) else if p.st ≠ q.st then decide (p.st < q.st) else if p.sa ≠ q.sa then decide (p.sa < q.sa) else decide (p.cb < q.cb) := by
 have e1 := mF (a := p.ca) (b := q.ca); have z1 := uq (a := p.ca) (b := q.ca)
 have e2 := mF (a := p.sat) (b := q.sat); have z2 := uq (a := p.sat) (b := q.sat)
 have e3 := mF (a := p.st) (b := q.st); have z3 := uq (a := p.st) (b := q.st)
 have e4 := mF (a := p.sa) (b := q.sa); have z4 := uq (a := p.sa) (b := q.sa)
 have e5 := mF (a := p.cb) (b := q.cb)
 unfold qf
 generalize d7 p.ca q.ca = c1 at *
 generalize d7 p.sat q.sat = c2 at *
 generalize d7 p.st q.st = c3 at *
 generalize d7 p.sa q.sa = c4 at *
 generalize d7 p.cb q.cb = c5 at *
 simp only [orS]
 grind
theorem uE (p q : aj) : ae Tryz.prog 165 [.agg (aM p), .agg (aM q)] (.bool (decide (qf p q < 0))) := by
 rw [zk]
 refine ag aa Tryz.func165 rfl (by kernel_rfl) af (Nat.le_of_ble_eq_true rfl) ?_
 intro F n' w0 m0 hG hro h1
 repeat' first|refine Q1 ?_|refine Q2 ?_|refine Q3 hG aa nE ?_|refine Q4 hG aa nE ?_|refine Q5 hG aa ?_|refine Q6 hG aa ?_|refine Q7 hG aa ?_|refine Q8 hG aa ?_|refine Q9 rfl ?_|refine QF rfl ?_|refine QC rfl ⟨fun h => ?_,fun h => ?_⟩|((conv => whnf); first|refine anF ?_|refine anT ?_|refine anK ?_|refine And.intro (fun h => ?_) (fun h => ?_)|refine Or.inl ?_)
 all_goals refine Ends.mk (Or.inl rfl) (ac (congrArg AV.bool ?_))
 all_goals (clear hG; grind [])
theorem lX {l : List aj} {i : Nat} (h : i < l.length) : (l.map aM)[(i : Int).toNat]? = some (aM (aF l i)) := by rw [Int.toNat_natCast]; exact ek h
theorem dK {l : List aj} {i : Nat} (h : i < l.length) : aF l i = l[i] := by simp [aF, List.getElem?_eq_getElem h]
theorem ir (l : List aj) : cc l = true ↔ l.length ≤ 64 ∧ (∀ j, j < l.length → ck (aF l j) = true) ∧ ∀ j, j + 1 < l.length → decide (qf (aF l (j + 1)) (aF l j) < 0) = false := by
 simp only [cc, BK, Bool.and_eq_true, Bool.not_eq_true', List.any_eq_false, List.all_eq_true, List.mem_range, decide_eq_true_eq, Bool.not_eq_true', Bool.not_eq_false', Bool.not_eq_true, Bool.not_eq_false, and_assoc]
 refine and_congr Iff.rfl (and_congr ⟨fun h j hj => ?_, fun h x hx => ?_⟩ ⟨fun h j hj => h j (by omega), fun h j hj => h j (by omega)⟩)
 ·rw [dK hj]; exact h _ (List.getElem_mem hj)
 ·obtain ⟨j, hj, rfl⟩ := List.getElem_of_mem hx
  rw [← dK hj]; exact h j hj
set_option maxHeartbeats 8000000 in
theorem uC (l : List aj) (hl : l.length ≤ 1000000) : ae Tryz.prog 90 [au l] (.bool (cc l)) := by
 have hlm : ((l.map aM).length : Int) = (l.length : Int) := by rw [List.length_map]
 refine ag aa Tryz.func90 rfl (by kernel_rfl) af (Nat.le_of_ble_eq_true rfl) ?_
 intro F n' w0 m0 hG hro h1
 repeat' first|refine Q1 ?_|refine Q2 ?_|refine Q3 hG aa eC ?_|refine Q4 hG aa eC ?_|refine Q5 hG aa ?_|refine Q6 hG aa ?_|refine Q7 hG aa ?_|refine Q8 hG aa ?_|refine Q9 rfl ?_|refine QF rfl ?_|refine QC rfl ⟨fun h => ?_,fun h => ?_⟩|((conv => whnf); first|refine anF ?_|refine anT ?_|refine anK ?_|refine And.intro (fun h => ?_) (fun h => ?_)|refine Or.inl ?_)
 all_goals first
  |(refine Ends.mk (Or.inl rfl) (ac (congrArg AV.bool ?_))
    clear hG; rw [hlm] at *; rw [Bool.eq_iff_iff, ir]; grind)
  | skip
 have h64 : l.length ≤ 64 := by clear hG; rw [hlm] at *; grind
 refine aw (X := Nat) (fun x => ⟨[(3, .int .i64 x), (0, au l)], []⟩) (fun x => x ≤ l.length ∧ (∀ j, j < x → ck (aF l j) = true) ∧ ∀ j, j + 1 < x → decide (qf (aF l (j + 1)) (aF l j) < 0) = false) (fun x => l.length - x) 0 ⟨Nat.zero_le _, fun j h => absurd h (by omega), fun j h => absurd h (by omega)⟩ (ah ?_ ?_) (fun x hx => ?_)
 ·repeat' (first | exact trivial | refine And.intro rfl ?_)
 ·repeat' (first | exact trivial | refine And.intro rfl ?_)
 ·rename Nat => i
  obtain ⟨hi, h1, h2⟩ := hx
  by_cases hlt_i : i < l.length
  ·have bbk : decide ((i : Int) < ((l.map aM).length : Int)) = false → False := fun h => by have := of_decide_eq_false h; simp at this; omega
   have hx := lX hlt_i
   have hpr : decide ((i : Int) > 0) = true → 0 ≤ IntKind.i64.wrap ((i : Int) - 1) ∧ (l.map aM)[(IntKind.i64.wrap ((i : Int) - 1)).toNat]? = some (aM (aF l (i - 1))) := fun h => by
    have h := of_decide_eq_true h
    have e : IntKind.i64.wrap ((i : Int) - 1) = ((i - 1 : Nat) : Int) := (am (by omega) (by omega)).trans (by omega)
    rw [e]
    exact ⟨Int.natCast_nonneg _, lX (by omega)⟩
   have bad1 : ck (aF l i) = false → false = cc l := fun h => by rw [Bool.eq_iff_iff, ir]; simp only [Bool.false_eq_true, false_iff]; exact fun ⟨_, g, _⟩ => tf (g i hlt_i) h
   have bad2 : decide ((i : Int) > 0) = true → decide (qf (aF l i) (aF l (i - 1)) < 0) = true → false = cc l := fun g0 h => by
    rw [Bool.eq_iff_iff, ir]; simp only [Bool.false_eq_true, false_iff]
    have g0 := of_decide_eq_true g0
    exact fun ⟨_, _, g⟩ => tf h (by have := g (i - 1) (by omega); rwa [show i - 1 + 1 = i by omega] at this)
   have hok : ck (aF l i) = true → (decide ((i : Int) > 0) = true → decide (qf (aF l i) (aF l (i - 1)) < 0) = false) → i + 1 ≤ l.length ∧ (∀ j, j < i + 1 → ck (aF l j) = true) ∧ ∀ j, j + 1 < i + 1 → decide (qf (aF l (j + 1)) (aF l j) < 0) = false := fun g1 g2 => by
    refine ⟨hlt_i, fun j hj => ?_, fun j hj => ?_⟩
    ·rcases Nat.lt_or_ge j i with h | h
     ·exact h1 j h
     ·rw [show j = i by omega]; exact g1
    ·rcases Nat.lt_or_ge (j + 1) i with h | h
     ·exact h2 j h
     ·have e : i - 1 = j := by omega
      have := g2 (decide_eq_true (by omega))
      rw [e] at this
      rwa [show j + 1 = i by omega]
   generalize aF l i = p at hx bad1 bad2 hok
   generalize aF l (i - 1) = q at hpr bad2 hok
   repeat' first|exact (bbk (by assumption)).elim|refine Q1 ?_|refine Q2 ?_|refine Q3 hG aa eC ?_|refine Q4 hG aa eC ?_|refine Q5 hG aa ?_|refine Q6 hG aa ?_|refine Q7 hG aa ?_|refine Q8 hG aa ?_|refine Q9 rfl ?_|refine QF rfl ?_|refine QC rfl ⟨fun h => ?_,fun h => ?_⟩|((conv => whnf); first|refine anF ?_|refine anT ?_|refine anK ?_|refine And.intro (Int.natCast_nonneg i) (Exists.intro _ (And.intro hx ?_))|refine Exists.intro _ (And.intro (tz _ _ _) ?_)|refine Exists.intro _ (And.intro (uE _ _) ?_)|refine And.intro (hpr (by assumption)).1 (Exists.intro _ (And.intro (hpr (by assumption)).2 ?_))|refine And.intro (fun h => ?_) (fun h => ?_)|refine Or.inl ?_)
   all_goals first
    |(refine Ends.mk (Or.inl rfl) (ac (congrArg AV.bool ?_))
      clear hG hpr hx h1 h2 hok; first | exact bad2 (by assumption) (by assumption) | (refine bad1 ?_; clear bad1 bad2; grind [ck, inS]))
    | skip
   all_goals (refine Exists.intro (i + 1) (And.intro (hok ?_ ?_) (And.intro (by omega) (ah ?_ ?_))))
   all_goals first
    |(clear hG hpr hx h1 h2 hok bad1 bad2; grind [ck, inS])
    |(refine And.intro (congrArg some (ap (by omega))) ?_; repeat' (first | exact trivial | refine And.intro rfl ?_))
    |(repeat' (first | exact trivial | refine And.intro rfl ?_))
  ·have bbk : decide ((i : Int) < ((l.map aM).length : Int)) = true → False := fun h => by have := of_decide_eq_true h; simp at this; omega
   have he : i = l.length := by omega
   repeat' first|exact (bbk (by assumption)).elim|refine Q1 ?_|refine Q2 ?_|refine Q3 hG aa eC ?_|refine Q4 hG aa eC ?_|refine Q5 hG aa ?_|refine Q6 hG aa ?_|refine Q7 hG aa ?_|refine Q8 hG aa ?_|refine Q9 rfl ?_|refine QF rfl ?_|refine QC rfl ⟨fun h => ?_,fun h => ?_⟩|((conv => whnf); first|refine anF ?_|refine anT ?_|refine anK ?_|refine And.intro (fun h => ?_) (fun h => ?_)|refine Or.inl ?_)
   exact Ends.mk (Or.inl rfl) (ac (congrArg AV.bool (by symm; rw [ir, ← he]; exact ⟨by omega, h1, h2⟩)))
theorem vF {a b c : Int} : decide (c ≥ max a b) = (decide (a ≤ c) && decide (b ≤ c)) := by rw [Bool.eq_iff_iff]; simp; omega
set_option maxHeartbeats 16000000 in
theorem uB (s : Nat → Int) (o : Opt) (ps : List aj) (hl : o.sl.length ≤ 1000000) (hps : ps.length ≤ 1000000) : ae Tryz.prog 31 [.agg (aX s), .agg (aG o), au ps] (.bool (fF s && cc ps && db s o ps)) := by
 have hlm : ((o.sl.map aC).length : Int) = (o.sl.length : Int) := by rw [List.length_map]
 have hpm : ((ps.map aM).length : Int) = (ps.length : Int) := by rw [List.length_map]
 refine ag aa Tryz.func31 rfl (by kernel_rfl) af (Nat.le_of_ble_eq_true rfl) ?_
 intro F n' w0 m0 hG hro h1
 repeat' first|refine Q1 ?_|refine Q2 ?_|refine Q3 hG aa eG ?_|refine Q4 hG aa eG ?_|refine Q5 hG aa ?_|refine Q6 hG aa ?_|refine Q7 hG aa ?_|refine Q8 hG aa ?_|refine Q9 rfl ?_|refine QF rfl ?_|refine QC rfl ⟨fun h => ?_,fun h => ?_⟩|((conv => whnf); first|refine anF ?_|refine anT ?_|refine anK ?_|refine Exists.intro _ (And.intro (CQ s) ?_)|refine Exists.intro _ (And.intro (uC ps hps) ?_)|refine Exists.intro _ (And.intro (wF _ _ _) ?_)|refine Exists.intro _ (And.intro (wE (gn s) _ _ _) ?_)|refine And.intro (fun h => ?_) (fun h => ?_)|refine Or.inl ?_)
 all_goals first
  |(refine Ends.mk (Or.inl rfl) (ac (congrArg AV.bool ?_))
    clear hG; rw [hlm] at *; rw [Bool.eq_iff_iff]; simp only [db, mv, o8, w64]; grind)
  | skip
 have hfit : (fF s && cc ps && db s o ps) = bn s ps o.size o.b o.sl := by clear hG; rw [hlm] at *; simp only [db, mv, o8, w64]; grind
 rw [hfit]
 refine aw (X := Nat × Int) (fun x => ⟨[(8, .int .i64 x.1), (7, .int .i64 x.2), (4, .loc 4 0), (3, .loc 3 0), (2, au ps)], [(4, aG o), (3, aX s)]⟩) (fun x => x.1 ≤ o.sl.length ∧ bn s ps o.size x.2 (o.sl.drop x.1) = bn s ps o.size o.b o.sl) (fun x => o.sl.length - x.1) (0, o.b) ⟨Nat.zero_le _, rfl⟩ (ah ?_ ?_) (fun x hx => ?_)
 ·repeat' (first | exact trivial | refine And.intro rfl ?_)
 ·repeat' (first | exact trivial | refine And.intro rfl ?_)
 ·obtain ⟨i, t⟩ := x
  obtain ⟨hi, hf⟩ := hx
  simp only at hi hf ⊢
  by_cases hlt_i : i < o.sl.length
  ·have bbk : decide ((i : Int) < ((o.sl.map aC).length : Int)) = false → False := fun h => by have := of_decide_eq_false h; simp at this; omega
   have hx := fL hlt_i
   rw [lJ hlt_i] at hf
   generalize o.sl.getD i ⟨0, 0, 0⟩ = x at hx hf
   have hin : (!inS x.p 0 (IntKind.i64.wrap (((ps.map aM).length : Int) - 1))) = false → 0 ≤ x.p ∧ (ps.map aM)[x.p.toNat]? = some (aM (aF ps x.p.toNat)) := fun h => by
    have h := ml h
    rw [hpm, show IntKind.i64.wrap ((ps.length : Int) - 1) = (ps.length : Int) - 1 from am (by omega) (by omega)] at h
    simp only [inS, Bool.and_eq_true, decide_eq_true_eq] at h
    exact ⟨h.1, ek (by omega)⟩
   have hpm' : w64 ((ps.length : Int) - 1) = IntKind.i64.wrap (((ps.map aM).length : Int) - 1) := by rw [hpm]; rfl
   repeat' first|exact (bbk (by assumption)).elim|refine Q1 ?_|refine Q2 ?_|refine Q3 hG aa eG ?_|refine Q4 hG aa eG ?_|refine Q5 hG aa ?_|refine Q6 hG aa ?_|refine Q7 hG aa ?_|refine Q8 hG aa ?_|refine Q9 rfl ?_|refine QF rfl ?_|refine QC rfl ⟨fun h => ?_,fun h => ?_⟩|((conv => whnf); first|refine anF ?_|refine anT ?_|refine anK ?_|refine And.intro (Int.natCast_nonneg i) (Exists.intro _ (And.intro hx ?_))|refine Exists.intro _ (And.intro (wF _ _ _) ?_)|refine And.intro (hin (by assumption)).1 (Exists.intro _ (And.intro (hin (by assumption)).2 ?_))|refine And.intro (fun h => ?_) (fun h => ?_)|refine Or.inl ?_)
   all_goals first
    |(refine Ends.mk (Or.inl rfl) (ac (congrArg AV.bool ?_))
      clear hG hx hin; rw [← hf, eX, hpm', vF]; clear hpm' hf hfit; unfold w64; grind)
    | skip
   refine Exists.intro (i + 1, x.b) (And.intro ⟨hlt_i, ?_⟩ (And.intro (by show o.sl.length - (i + 1) < o.sl.length - i; omega) (ah ?_ ?_)))
   ·clear hG hx hin
    rw [← hf]
    have hk : eX s ps o.size t x = true := by rw [eX, hpm', vF]; clear hpm' hf hfit; unfold w64; grind
    rw [hk, Bool.true_and]
   ·refine And.intro (congrArg some (ap (by omega))) ?_
    repeat' (first | exact trivial | refine And.intro rfl ?_)
   ·repeat' (first | exact trivial | refine And.intro rfl ?_)
  ·have bbk : decide ((i : Int) < ((o.sl.map aC).length : Int)) = true → False := fun h => by have := of_decide_eq_true h; simp at this; omega
   rw [List.drop_of_length_le (by omega)] at hf
   repeat' first|exact (bbk (by assumption)).elim|refine Q1 ?_|refine Q2 ?_|refine Q3 hG aa eG ?_|refine Q4 hG aa eG ?_|refine Q5 hG aa ?_|refine Q6 hG aa ?_|refine Q7 hG aa ?_|refine Q8 hG aa ?_|refine Q9 rfl ?_|refine QF rfl ?_|refine QC rfl ⟨fun h => ?_,fun h => ?_⟩|((conv => whnf); first|refine anF ?_|refine anT ?_|refine anK ?_|refine And.intro (fun h => ?_) (fun h => ?_)|refine Or.inl ?_)
   exact Ends.mk (Or.inl rfl) (ac (congrArg AV.bool hf))
end Go.Proofs
namespace Go.Proofs
open Go Go.AI
set_option maxRecDepth 10000
theorem f9 {α : Type} {l : List α} {i : Nat} (d : α) (h : i < l.length) : l.take (i + 1) = l.take i ++ [l.getD i d] := by rw [List.take_add_one, List.getD_eq_getElem?_getD, List.getElem?_eq_getElem h]; rfl
theorem jG {α : Type} {l : List α} {i : Nat} {f : α → List AV} (d : α) (h : i < l.length) : (l.map f)[(i : Int).toNat]? = some (f (l.getD i d)) := by simp [List.getElem?_eq_getElem h]
def Cq : Flt := ⟨0, 0, 0, 0⟩
end Go.Proofs
namespace Go.Proofs
open Go Go.AI
set_option maxRecDepth 10000
def gm (sat : Int) (r : Int × List aj) (x : Int × Int × Int) : Int × List aj :=
 let cf := r.1 + 4 + ak x.1 12
 let sf := cf + ak (w64 (x.2.2.tdiv 3)) 2
 let st := sf + 3 + ak x.2.1 12
 let ct := st + ak (w64 (x.2.2.tdiv 3)) 2
 (ct, r.2 ++ [⟨sat, ak x.2.2 3, sf, st, cf, ct⟩])
def gL (sat from_ : Int) (z : List (Int × Int × Int)) : Int × List aj := z.foldl (gm sat) (from_, [])
def fM (sat from_ : Int) (z : List (Int × Int × Int)) : List aj := (gL sat from_ (z.take 6)).2
structure oj (sat from_ : Int) (n : Nat) (r : Int × List aj) : Prop where
 at_ : from_ ≤ r.1 ∧ r.1 ≤ from_ + 31 * (n : Int)
 len : r.2.length = n
 all : ∀ p ∈ r.2, ck p = true ∧ from_ ≤ p.sa ∧ p.sa < p.sb ∧ p.sb ≤ r.1 ∧ p.ca < r.1
 srt : r.2.Pairwise fun p q => p.ca < q.ca
theorem oj.step {sat from_ : Int} {n : Nat} {r : Int × List aj} {x : Int × Int × Int} (h : oj sat from_ n r) (hs : 0 ≤ sat ∧ sat ≤ 23) (hf : 0 ≤ from_ ∧ from_ ≤ 900000) (hn : n ≤ 100) (hx : rg x) : oj sat from_ (n + 1) (gm sat r x) := by
 obtain ⟨h1, h2, h3, h4⟩ := h
 have p1 := aJ hx.1 (n := 12) (by omega)
 have p2 := aJ (lE (x.2.2.tdiv 3)) (n := 2) (by omega)
 have p3 := aJ hx.2.1 (n := 12) (by omega)
 have p4 := aJ hx.2.2 (n := 3) (by omega)
 unfold gm
 simp only
 generalize ak x.1 12 = q1 at *
 generalize ak (w64 (x.2.2.tdiv 3)) 2 = q2 at *
 generalize ak x.2.1 12 = q3 at *
 generalize ak x.2.2 3 = q4 at *
 refine ⟨by simp only; omega, by simp [h2], fun p hp => ?_, List.pairwise_append.2 ⟨h4, by simp, fun p hp q hq => ?_⟩⟩
 ·rcases List.mem_append.1 hp with hp | hp
  ·have := h3 p hp
   refine ⟨this.1, this.2.1, this.2.2.1, ?_, ?_⟩ <;> (simp only; omega)
  ·rw [List.mem_singleton.1 hp]
   simp only [ck, inS, Bool.and_eq_true, Bool.or_eq_true, decide_eq_true_eq]
   refine ⟨⟨⟨by omega, ⟨by omega, by omega⟩, trivial⟩, ⟨⟨by omega, by omega⟩, by omega⟩, .inr ⟨⟨by omega, by omega⟩, by omega⟩⟩, by omega, by omega, by omega, by omega⟩
 ·rw [List.mem_singleton.1 hq]
  have := h3 p hp
  simp only
  omega
theorem oj.run {sat from_ : Int} (hs : 0 ≤ sat ∧ sat ≤ 23) (hf : 0 ≤ from_ ∧ from_ ≤ 900000) : ∀ (z : List (Int × Int × Int)) (n : Nat) (r : Int × List aj), n + z.length ≤ 100 → (∀ x ∈ z, rg x) → oj sat from_ n r → oj sat from_ (n + z.length) (z.foldl (gm sat) r)
 | [], n, r, _, _, h => h
 | x :: z, n, r, hn, hz, h => by
  rw [List.length_cons] at hn ⊢
  have := oj.run hs hf z (n + 1) (gm sat r x) (by omega) (fun y hy => hz y (.tail _ hy)) (h.step hs hf (by omega) (hz x (.head _)))
  rwa [show n + (z.length + 1) = n + 1 + z.length by omega]
theorem oj.of {sat from_ : Int} (hs : 0 ≤ sat ∧ sat ≤ 23) (hf : 0 ≤ from_ ∧ from_ ≤ 900000) {z : List (Int × Int × Int)} (hz : ∀ x ∈ z, rg x) (hl : z.length ≤ 100) : oj sat from_ z.length (gL sat from_ z) := by
 have := oj.run hs hf z 0 (from_, []) (by omega) hz ⟨by simp, rfl, by simp, by simp⟩
 simpa [gL] using this
theorem tW (sat from_ : Int) (z : List (Int × Int × Int)) (x : Int × Int × Int) : gL sat from_ (z ++ [x]) = gm sat (gL sat from_ z) x := by simp [gL, List.foldl_append]
theorem oj.proper {sat from_ : Int} {n : Nat} {r : Int × List aj} (h : oj sat from_ n r) (hn : n ≤ 64) : cc r.2 = true := by
 rw [ir]
 have hl := h.len
 refine ⟨by omega, fun j hj => ?_, fun j hj => ?_⟩
 ·rw [dK hj]; exact (h.all _ (List.getElem_mem hj)).1
 ·rw [zk, dK hj, dK (show j < r.2.length by omega)]
  have := (List.pairwise_iff_getElem.1 h.srt) j (j + 1) (by omega) hj (by omega)
  rw [if_pos (by omega)]
  exact decide_eq_false (by omega)
theorem zM {sat from_ : Int} (hs : 0 ≤ sat ∧ sat ≤ 23) (hf : 0 ≤ from_ ∧ from_ ≤ 900000) {z : List (Int × Int × Int)} (hz : ∀ x ∈ z, rg x) : cc (fM sat from_ z) = true ∧ (fM sat from_ z).length ≤ 6 ∧ ∀ p ∈ fM sat from_ z, from_ ≤ p.sa ∧ p.sa < p.sb ∧ p.sb ≤ from_ + 186 := by
 have hl : (z.take 6).length ≤ 6 := List.length_take_le _ _
 have h := oj.of hs hf (z := z.take 6) (fun x hx => hz x (List.mem_of_mem_take hx)) (by omega)
 refine ⟨h.proper (by omega), by rw [fM, h.len]; exact hl, fun p hp => ?_⟩
 have h1 := h.all p hp
 have h2 := h.at_
 omega
set_option maxHeartbeats 8000000 in
theorem wH (sat from_ : Int) (z : List (Int × Int × Int)) (hs : 0 ≤ sat ∧ sat ≤ 23) (hf : 0 ≤ from_ ∧ from_ ≤ 900000) (hz : ∀ x ∈ z, rg x) : ae Tryz.prog 70 [.int .i64 sat, .int .i64 from_, .sl .no 3 (z.map jp)] (au (fM sat from_ z)) := by
 have hlm : ((z.map jp).length : Int) = (z.length : Int) := by rw [List.length_map]
 refine ag aa Tryz.func70 rfl (by kernel_rfl) af (Nat.le_of_ble_eq_true rfl) ?_
 intro F n' w0 m0 hG hro h1
 repeat' first|refine Q1 ?_|refine Q2 ?_|refine Q3 hG aa dh ?_|refine Q4 hG aa dh ?_|refine Q5 hG aa ?_|refine Q6 hG aa ?_|refine Q7 hG aa ?_|refine Q8 hG aa ?_|refine Q9 rfl ?_|refine QF rfl ?_|refine QC rfl ⟨fun h => ?_,fun h => ?_⟩|((conv => whnf); first|refine anF ?_|refine anT ?_|refine anK ?_|refine And.intro (fun h => ?_) (fun h => ?_)|refine Or.inl ?_)
 refine aw (X := Nat × Int × List aj) (fun x => ⟨[(9, .int .i64 x.1), (8, .int .i64 x.2.1), (7, .sl (.id 7) 6 (x.2.2.map aM)), (2, .sl .no 3 (z.map jp)), (0, .int .i64 sat)], []⟩) (fun x => x.1 ≤ z.length ∧ x.1 ≤ 6 ∧ x.2 = gL sat from_ (z.take x.1)) (fun x => z.length - x.1) (0, from_, []) ⟨Nat.zero_le _, Nat.zero_le _, rfl⟩ (ah ?_ ?_) (fun x hx => ?_)
 ·repeat' (first | exact trivial | refine And.intro rfl ?_)
 ·repeat' (first | exact trivial | refine And.intro rfl ?_)
 ·obtain ⟨i, at_, out⟩ := x
  obtain ⟨hi, h6, hr⟩ := hx
  simp only at hi h6 hr ⊢
  have hP := oj.of hs hf (z := z.take i) (fun x hx => hz x (List.mem_of_mem_take hx)) (by rw [List.length_take]; omega)
  rw [← hr, List.length_take, Nat.min_eq_left hi] at hP
  have hat := hP.at_
  have hol := hP.len
  simp only at hat hol
  by_cases hlt_i : i < z.length
  ·by_cases h5 : i < 6
   ·have b1 : decide ((i : Int) < ((z.map jp).length : Int)) = false → False := fun h => by have := of_decide_eq_false h; omega
    have b2 : decide ((i : Int) < 6) = false → False := fun h => by have := of_decide_eq_false h; omega
    have hx := jG (f := jp) ((0 : Int), (0 : Int), (0 : Int)) hlt_i
    have hsn := tW sat from_ (z.take i) (z.getD i ((0 : Int), (0 : Int), (0 : Int)))
    rw [← f9 ((0 : Int), (0 : Int), (0 : Int)) hlt_i, ← hr] at hsn
    have hxi : rg (z.getD i ((0 : Int), (0 : Int), (0 : Int))) := hz _ (by rw [List.getD_eq_getElem?_getD, List.getElem?_eq_getElem hlt_i]; exact List.getElem_mem hlt_i)
    generalize z.getD i ((0 : Int), (0 : Int), (0 : Int)) = x at hx hsn hxi
    have p1 := aJ hxi.1 (n := 12) (by omega)
    have p2 := aJ (lE (x.2.2.tdiv 3)) (n := 2) (by omega)
    have p3 := aJ hxi.2.1 (n := 12) (by omega)
    have c2 := dn (w64 (x.2.2.tdiv 3)) 2 (by decide)
    have hol2 : (out.map aM).length ≤ 6 := by rw [List.length_map]; omega
    simp only [gm] at hsn
    obtain ⟨q2, hq2⟩ : ∃ q, q = ak (w64 (x.2.2.tdiv 3)) 2 := ⟨_, rfl⟩
    rw [← hq2] at c2 p2 hsn
    have w1 : IntKind.i64.wrap (at_ + 4) = at_ + 4 := am (by omega) (by omega)
    have w2 : IntKind.i64.wrap (at_ + 4 + ak x.1 12) = at_ + 4 + ak x.1 12 := am (by omega) (by omega)
    have w3 : IntKind.i64.wrap (at_ + 4 + ak x.1 12 + q2) = at_ + 4 + ak x.1 12 + q2 := am (by omega) (by omega)
    have w4 : IntKind.i64.wrap (at_ + 4 + ak x.1 12 + q2 + 3) = at_ + 4 + ak x.1 12 + q2 + 3 := am (by omega) (by omega)
    have w5 : IntKind.i64.wrap (at_ + 4 + ak x.1 12 + q2 + 3 + ak x.2.1 12) = at_ + 4 + ak x.1 12 + q2 + 3 + ak x.2.1 12 := am (by omega) (by omega)
    have w6 : IntKind.i64.wrap (at_ + 4 + ak x.1 12 + q2 + 3 + ak x.2.1 12 + q2) = at_ + 4 + ak x.1 12 + q2 + 3 + ak x.2.1 12 + q2 := am (by omega) (by omega)
    repeat' first|exact (b1 (by assumption)).elim|exact (b2 (by assumption)).elim|refine Q1 ?_|refine Q2 ?_|refine Q3 hG aa dh ?_|refine Q4 hG aa dh ?_|refine Q5 hG aa ?_|refine Q6 hG aa ?_|refine Q7 hG aa ?_|refine Q8 hG aa ?_|refine Q9 rfl ?_|refine QF rfl ?_|refine QC rfl ⟨fun h => ?_,fun h => ?_⟩|((conv => whnf); first|refine anF ?_|refine anT ?_|refine anK ?_|refine And.intro (Int.natCast_nonneg i) (Exists.intro _ (And.intro hx ?_))|refine Exists.intro _ (And.intro (c2) ?_)|refine Exists.intro _ (And.intro (dn _ _ (by decide)) ?_)|refine And.intro (by decide) ?_|refine And.intro (show ((out.map aM).length + 1) * 48 ≤ 70368744177664 by omega) (And.intro (show (out.map aM).length + 1 ≤ 4611686018427387904 by omega) ?_)|refine And.intro (fun h => ?_) (fun h => ?_)|refine Or.inl ?_)
    refine Exists.intro (i + 1, gL sat from_ (z.take (i + 1))) (And.intro ⟨hlt_i, h5, rfl⟩ (And.intro (by show z.length - (i + 1) < z.length - i; omega) ?_))
    rw [hsn]
    refine ah (And.intro (congrArg some (ap (by omega))) (And.intro (congrArg (fun z => some (AV.int .i64 z)) ?_) (And.intro (congrArg (fun z => some (AV.sl (.id 7) 6 z)) ?_) ?_))) ?_
    ·rw [w1, w2, w3, w4, w5, w6]
    ·rw [List.map_append]
     refine congrArg (out.map aM ++ ·) ?_
     rw [w1, w2, w3, w4, w5, w6]; rfl
    ·repeat' (first | exact trivial | refine And.intro rfl ?_)
    ·repeat' (first | exact trivial | refine And.intro rfl ?_)
   ·have b2 : decide ((i : Int) < 6) = true → False := fun h => by have := of_decide_eq_true h; omega
    have b1 : decide ((i : Int) < ((z.map jp).length : Int)) = false → False := fun h => by have := of_decide_eq_false h; omega
    have he : i = 6 := by omega
    subst he
    repeat' first|exact (b1 (by assumption)).elim|exact (b2 (by assumption)).elim|refine Q1 ?_|refine Q2 ?_|refine Q3 hG aa dh ?_|refine Q4 hG aa dh ?_|refine Q5 hG aa ?_|refine Q6 hG aa ?_|refine Q7 hG aa ?_|refine Q8 hG aa ?_|refine Q9 rfl ?_|refine QF rfl ?_|refine QC rfl ⟨fun h => ?_,fun h => ?_⟩|((conv => whnf); first|refine anF ?_|refine anT ?_|refine anK ?_|refine And.intro (fun h => ?_) (fun h => ?_)|refine Or.inl ?_)
    exact Ends.mk (Or.inl rfl) (ac (by rw [fM, ← hr]; rfl))
  ·have b1 : decide ((i : Int) < ((z.map jp).length : Int)) = true → False := fun h => by have := of_decide_eq_true h; omega
   rw [List.take_of_length_le (by omega)] at hr
   repeat' first|exact (b1 (by assumption)).elim|refine Q1 ?_|refine Q2 ?_|refine Q3 hG aa dh ?_|refine Q4 hG aa dh ?_|refine Q5 hG aa ?_|refine Q6 hG aa ?_|refine Q7 hG aa ?_|refine Q8 hG aa ?_|refine Q9 rfl ?_|refine QF rfl ?_|refine QC rfl ⟨fun h => ?_,fun h => ?_⟩|((conv => whnf); first|refine anF ?_|refine anT ?_|refine anK ?_|refine And.intro (fun h => ?_) (fun h => ?_)|refine Or.inl ?_)
   exact Ends.mk (Or.inl rfl) (ac (by rw [fM, List.take_of_length_le (by omega), ← hr]; rfl))
end Go.Proofs
namespace Go.Proofs
open Go Go.AI
set_option maxRecDepth 10000
structure R5 where
 a : Int
 b : Int
 c : Int
 d : Int
 e : Int
def jo (x : R5) : List AV := [.int .i64 x.a, .int .i64 x.b, .int .i64 x.c, .int .i64 x.d, .int .i64 x.e]
def r50 : R5 := ⟨0, 0, 0, 0, 0⟩
def vO (x : R5) : Prop := inI x.a ∧ inI x.b ∧ inI x.c ∧ inI x.d ∧ inI x.e
def lK (s0 m d n : Int) (ps : List aj) (r : Int × List aZ) (k : Nat) : Int × List aZ :=
 if (r.2.length : Int) < n ∧ (aF ps k).sat = s0 ∧ max r.1 ((aF ps k).sa + d) + m ≤ (aF ps k).sb then
  (max r.1 ((aF ps k).sa + d) + m, r.2 ++ [⟨(k : Int), max r.1 ((aF ps k).sa + d), max r.1 ((aF ps k).sa + d) + m⟩]) else r
def ee (s0 m d n : Int) (ps : List aj) (t0 : Int) (k : Nat) : Int × List aZ := (List.range k).foldl (lK s0 m d n ps) (t0, [])
theorem iN (s0 m d n : Int) (ps : List aj) (t0 : Int) (k : Nat) : ee s0 m d n ps t0 (k + 1) = lK s0 m d n ps (ee s0 m d n ps t0 k) k := by simp [ee, List.range_succ, List.foldl_append]
theorem lM {s0 m d n : Int} {ps : List aj} {t0 : Int} {k : Nat} (h : ¬ ((ee s0 m d n ps t0 k).2.length : Int) < n) : ∀ j, ee s0 m d n ps t0 (k + j) = ee s0 m d n ps t0 k
 | 0 => rfl
 | j + 1 => by
  rw [show k + (j + 1) = (k + j) + 1 from rfl, iN, lM h j]
  exact if_neg fun g => h g.1
theorem lL {s0 m d n : Int} {ps : List aj} {t0 : Int} {k : Nat} (hk : k ≤ ps.length) (h : ¬ ((ee s0 m d n ps t0 k).2.length : Int) < n) : ee s0 m d n ps t0 ps.length = ee s0 m d n ps t0 k := by
 have := lM h (ps.length - k)
 rwa [show k + (ps.length - k) = ps.length by omega] at this
def ma (s : Nat → Int) (ps : List aj) (from_ id : Int) (x : R5) : Opt :=
 ⟨id, ak x.e 4, 0, s 0, from_ + ak x.a 40, from_ + ak x.a 40 + 1 + ak x.b 5, ak x.c (2 * s 9 + 1) - s 9, min (s 10) ((1 + ak x.d 4) * s 20),
  (ee (s 0) (1 + ak x.d 4) (ak (w64 (x.d.tdiv 4)) 3) (1 + ak (w64 (x.e.tdiv 4)) 3) ps (from_ + ak x.a 40 + 1 + ak x.b 5) ps.length).2⟩
def fw (s : Nat → Int) (ps : List aj) (o : Opt) : Bool := fF s && cc ps && db s o ps
def c8 (s : Nat → Int) (ps : List aj) (from_ id : Int) (z : List R5) : Nat → List Opt
 | 0 => []
 | i + 1 => c8 s ps from_ id z i ++ if fw s ps (ma s ps from_ (id + i) (z.getD i r50)) then [ma s ps from_ (id + i) (z.getD i r50)] else []
def yW (s : Nat → Int) (ps : List aj) (from_ id : Int) (z : List R5) : List Opt := c8 s ps from_ id z (min z.length 5)
theorem k0 (s : Nat → Int) (ps : List aj) (from_ id : Int) (z : List R5) : ∀ i, (c8 s ps from_ id z i).length ≤ i
 | 0 => Nat.le_refl _
 | i + 1 => by
  have := k0 s ps from_ id z i
  simp only [c8, List.length_append]
  split <;> simp <;> omega
theorem AV.weak.agg {cs ds : List AV} (h : gT cs ds) (hd : ∀ x ∈ ds, x.isCell = true) : (AV.agg cs).weak (.agg ds) := by
 intro m v hv
 cases hv with
 | agg _ vs hl hc hr =>
  obtain ⟨h1, h2⟩ := h.spec
  refine .agg ds vs (by omega) hd fun i x u g1 g2 => ?_
  have hi : i < cs.length := by rw [h1]; exact (List.getElem?_eq_some_iff.1 g1).1
  exact h2 i _ x (List.getElem?_eq_getElem hi) g1 m u (hr i _ u (List.getElem?_eq_getElem hi) g2)
structure F1 (s : Nat → Int) (ps : List aj) (from_ id : Int) : Prop where
 w : 0 ≤ s 9 ∧ s 9 ≤ 4
 st : 1 ≤ s 10 ∧ s 10 ≤ 1000000
 rt : 1 ≤ s 20 ∧ s 20 ≤ 1000
 f : 0 ≤ from_ ∧ from_ ≤ 900000
 id : 0 ≤ id ∧ id ≤ 50
 pl : ps.length ≤ 64
 p : ∀ p ∈ ps, 0 ≤ p.sa ∧ p.sa ≤ 1000001 ∧ 0 ≤ p.sb ∧ p.sb ≤ 1000001
theorem vn {s : Nat → Int} {ps : List aj} {p : Int} {a b c d e f g : Int} : fw s ps ⟨p, a, b, c, d, e, f, g, []⟩ = false := by
 have : inS (([] : List aZ).length : Int) 1 6 = false := by decide
 simp only [fw, db, this, Bool.and_false, Bool.false_and]
set_option maxHeartbeats 16000000 in
theorem uF (s : Nat → Int) (ps : List aj) (from_ id : Int) (z : List R5) (hH : F1 s ps from_ id) (hz : ∀ x ∈ z, vO x) : ae Tryz.prog 71 [.agg (aX s), au ps, .int .i64 from_, .int .i64 id, .sl .no 5 (z.map jo)] (aP (yW s ps from_ id z)) := by
 have hlm : ((z.map jo).length : Int) = (z.length : Int) := by rw [List.length_map]
 have hw := hH.w; have hst := hH.st; have hrt := hH.rt; have hf := hH.f; have hid := hH.id; have hpl := hH.pl
 refine ag aa Tryz.func71 rfl (by kernel_rfl) af (Nat.le_of_ble_eq_true rfl) ?_
 intro F n' w0 m0 hG hro h1
 repeat' first|refine Q1 ?_|refine Q2 ?_|refine Q3 hG aa aV ?_|refine Q4 hG aa aV ?_|refine Q5 hG aa ?_|refine Q6 hG aa ?_|refine Q7 hG aa ?_|refine Q8 hG aa ?_|refine Q9 rfl ?_|refine QF rfl ?_|refine QC rfl ⟨fun h => ?_,fun h => ?_⟩|((conv => whnf); first|refine anF ?_|refine anT ?_|refine anK ?_|refine And.intro (fun h => ?_) (fun h => ?_)|refine Or.inl ?_)
 refine aw (X := Nat) (fun i => ⟨[(12, .int .i64 i), (11, (.sl (.id 11) 9 ((c8 s ps from_ id z i).map aG))), (5, .loc 5 0), (4, .sl .no 5 (z.map jo)), (3, .int .i64 id), (2, .int .i64 from_), (1, au ps)], [(5, aX s)]⟩) (fun i => i ≤ z.length ∧ i ≤ 5) (fun i => z.length - i) 0 ⟨Nat.zero_le _, Nat.zero_le _⟩ (ah ?_ ?_) (fun i hx => ?_)
 ·repeat' (first | exact trivial | refine And.intro rfl ?_)
 ·repeat' (first | exact trivial | refine And.intro rfl ?_)
 ·obtain ⟨hi, h6⟩ := hx
  have hol := k0 s ps from_ id z i
  by_cases hlt_i : i < z.length
  ·by_cases h5 : i < 5
   ·have b1 : decide ((i : Int) < ((z.map jo).length : Int)) = false → False := fun h => by have := of_decide_eq_false h; omega
    have b2 : decide ((i : Int) < 5) = false → False := fun h => by have := of_decide_eq_false h; omega
    have hx := jG (f := jo) r50 hlt_i
    have hxi : vO (z.getD i r50) := hz _ (by rw [List.getD_eq_getElem?_getD, List.getElem?_eq_getElem hlt_i]; exact List.getElem_mem hlt_i)
    have hon : c8 s ps from_ id z (i + 1) = c8 s ps from_ id z i ++ if fw s ps (ma s ps from_ (id + i) (z.getD i r50)) then [ma s ps from_ (id + i) (z.getD i r50)] else [] := rfl
    generalize z.getD i r50 = x at hx hxi hon
    have p1 := aJ hxi.1 (n := 40) (by omega)
    have p2 := aJ hxi.2.1 (n := 5) (by omega)
    have p3 := aJ hxi.2.2.1 (n := 2 * s 9 + 1) (by omega)
    have p4 := aJ hxi.2.2.2.1 (n := 4) (by omega)
    have p5 := aJ (lE (x.d.tdiv 4)) (n := 3) (by omega)
    have p6 := aJ (lE (x.e.tdiv 4)) (n := 3) (by omega)
    have cE := dn (w64 (x.e.tdiv 4)) 3 (by decide)
    have cD := dn (w64 (x.d.tdiv 4)) 3 (by decide)
    have wc : IntKind.i64.wrap (IntKind.i64.wrap (2 * s 9) + 1) = 2 * s 9 + 1 := by rw [show IntKind.i64.wrap (2 * s 9) = 2 * s 9 from am (by omega) (by omega)]; exact am (by omega) (by omega)
    have cC : ae Tryz.prog 143 [.int .i64 x.c, .int .i64 (IntKind.i64.wrap (IntKind.i64.wrap (2 * s 9) + 1))] (.int .i64 (ak x.c (2 * s 9 + 1))) := by
     have h := dn x.c (IntKind.i64.wrap (IntKind.i64.wrap (2 * s 9) + 1)) (by rw [wc]; omega)
     rw [wc] at h ⊢
     exact h
    have c1 := dn x.a 40 (by decide)
    have c2 := dn x.b 5 (by decide)
    have c4 := dn x.d 4 (by decide)
    have hmkv : ma s ps from_ (id + i) x = ⟨id + i, ak x.e 4, 0, s 0, from_ + ak x.a 40, from_ + ak x.a 40 + 1 + ak x.b 5, ak x.c (2 * s 9 + 1) - s 9, min (s 10) ((1 + ak x.d 4) * s 20),
  (ee (s 0) (1 + ak x.d 4) (ak (w64 (x.d.tdiv 4)) 3) (1 + ak (w64 (x.e.tdiv 4)) 3) ps (from_ + ak x.a 40 + 1 + ak x.b 5) ps.length).2⟩ := rfl
    generalize ak x.a 40 = pa at *
    generalize ak x.b 5 = pb at *
    generalize ak x.c (2 * s 9 + 1) = pc at *
    generalize ak x.d 4 = pd at *
    generalize ak (w64 (x.d.tdiv 4)) 3 = dd at *
    generalize ak (w64 (x.e.tdiv 4)) 3 = nn at *
    have hm0 : 0 ≤ (1 + pd) * s 20 := Int.mul_nonneg (by omega) (by omega)
    have hm1 : (1 + pd) * s 20 ≤ 4 * 1000 := Int.mul_le_mul (by omega) (by omega) (by omega) (by omega)
    have w1 : IntKind.i64.wrap (id + (i : Int)) = id + i := am (by omega) (by omega)
    have w2 : IntKind.i64.wrap (from_ + pa) = from_ + pa := am (by omega) (by omega)
    have w3 : IntKind.i64.wrap (from_ + pa + 1) = from_ + pa + 1 := am (by omega) (by omega)
    have w4 : IntKind.i64.wrap (from_ + pa + 1 + pb) = from_ + pa + 1 + pb := am (by omega) (by omega)
    have w5 : IntKind.i64.wrap (pc - s 9) = pc - s 9 := am (by omega) (by omega)
    have w6 : IntKind.i64.wrap (1 + pd) = 1 + pd := am (by omega) (by omega)
    have w7 : IntKind.i64.wrap ((1 + pd) * s 20) = (1 + pd) * s 20 := am (by omega) (by omega)
    have w8 : IntKind.i64.wrap (1 + nn) = 1 + nn := am (by omega) (by omega)
    have hcell : ([.int .i64 (IntKind.i64.wrap (id + (i : Int))), .int .i64 (ak x.e 4), .int .i64 0, .int .i64 (s 0), .int .i64 (IntKind.i64.wrap (from_ + pa)), .int .i64 (IntKind.i64.wrap (IntKind.i64.wrap (IntKind.i64.wrap (from_ + pa) + 1) + pb)), .int .i64 (IntKind.i64.wrap (pc - s 9)), .int .i64 (min (s 10) (IntKind.i64.wrap (IntKind.i64.wrap (1 + pd) * s 20))), .sl .full 0 []] : List AV) = [.int .i64 (id + (i : Int)), .int .i64 (ak x.e 4), .int .i64 0, .int .i64 (s 0), .int .i64 (from_ + pa), .int .i64 (from_ + pa + 1 + pb), .int .i64 (pc - s 9), .int .i64 (min (s 10) ((1 + pd) * s 20)), .sl .full 0 []] := by rw [w1, w2, w3, w4, w5, w6, w7]
    have h15 : 0 ≤ from_ + pa + 1 + pb ∧ from_ + pa + 1 + pb ≤ 1900000 := by omega
    have he15 : IntKind.i64.wrap (IntKind.i64.wrap (IntKind.i64.wrap (from_ + pa) + 1) + pb) = from_ + pa + 1 + pb := by rw [w2, w3, w4]
    repeat' first|exact (b1 (by assumption)).elim|exact (b2 (by assumption)).elim|refine Q1 ?_|refine Q2 ?_|refine Q3 hG aa aV ?_|refine Q4 hG aa aV ?_|refine Q5 hG aa ?_|refine Q6 hG aa ?_|refine Q7 hG aa ?_|refine Q8 hG aa ?_|refine Q9 rfl ?_|refine QF rfl ?_|refine QC rfl ⟨fun h => ?_,fun h => ?_⟩|((conv => whnf); first|refine anF ?_|refine anT ?_|refine anK ?_|refine And.intro (Int.natCast_nonneg i) (Exists.intro _ (And.intro hx ?_))|refine Exists.intro _ (And.intro (cC) ?_)|refine Exists.intro _ (And.intro (c1) ?_)|refine Exists.intro _ (And.intro (c2) ?_)|refine Exists.intro _ (And.intro (c4) ?_)|refine Exists.intro _ (And.intro (dn _ _ (by decide)) ?_)|refine And.intro (by decide) ?_|refine And.intro (fun h => ?_) (fun h => ?_)|refine Or.inl ?_)
    have cPf : ∀ sl : List aZ, sl.length ≤ 64 → ae Tryz.prog 31 [.agg (aX s), .agg [.int .i64 (id + (i : Int)), .int .i64 (ak x.e 4), .int .i64 0, .int .i64 (s 0), .int .i64 (from_ + pa), .int .i64 (from_ + pa + 1 + pb), .int .i64 (pc - s 9), .int .i64 (min (s 10) ((1 + pd) * s 20)), xy sl], au ps] (.bool (fw s ps ⟨id + i, ak x.e 4, 0, s 0, from_ + pa, from_ + pa + 1 + pb, pc - s 9, min (s 10) ((1 + pd) * s 20), sl⟩)) := fun sl h => uB s ⟨id + (i : Int), ak x.e 4, 0, s 0, from_ + pa, from_ + pa + 1 + pb, pc - s 9, min (s 10) ((1 + pd) * s 20), sl⟩ ps (Nat.le_trans h (by decide)) (by omega)
    refine aw (X := Nat × Int × List aZ × AV) (fun y => ⟨[(16, .int .i64 y.1), (15, .int .i64 y.2.1), (14, .int .i64 (1 + pd)), (13, .loc 13 0), (12, .int .i64 i), (11, (.sl (.id 11) 9 ((c8 s ps from_ id z i).map aG))), (5, .loc 5 0), (4, .sl .no 5 (z.map jo)), (3, .int .i64 id), (2, .int .i64 from_), (1, au ps)], [(13, [.int .i64 (id + (i : Int)), .int .i64 (ak x.e 4), .int .i64 0, .int .i64 (s 0), .int .i64 (from_ + pa), .int .i64 (from_ + pa + 1 + pb), .int .i64 (pc - s 9), .int .i64 (min (s 10) ((1 + pd) * s 20)), y.2.2.2]), (5, aX s)]⟩) (fun y => y.1 ≤ ps.length ∧ (y.2.1, y.2.2.1) = ee (s 0) (1 + pd) dd (1 + nn) ps (from_ + pa + 1 + pb) y.1 ∧ (0 ≤ y.2.1 ∧ y.2.1 ≤ 1900000) ∧ y.2.2.1.length ≤ y.1 ∧ ((y.2.2.1 = [] ∧ y.2.2.2 = .sl .full 0 []) ∨ y.2.2.2 = .sl (.id 160) 3 (y.2.2.1.map aC))) (fun y => ps.length - y.1) (0, from_ + pa + 1 + pb, [], .sl .full 0 []) ⟨Nat.zero_le _, rfl, h15, Nat.le_refl _, .inl ⟨rfl, rfl⟩⟩ (ah ?_ ?_) (fun y hy => ?_)
    ·refine And.intro rfl (And.intro (congrArg (fun z => some (AV.int .i64 z)) he15) (And.intro (congrArg (fun z => some (AV.int .i64 z)) w6) ?_))
     repeat' (first | exact trivial | refine And.intro rfl ?_)
    ·refine And.intro (congrArg some hcell) ?_
     repeat' (first | exact trivial | refine And.intro rfl ?_)
    ·obtain ⟨k, en, sl, cell⟩ := y
     obtain ⟨hk, hr, hen, hsl, hc⟩ := hy
     simp only at hk hr hen hsl hc ⊢
     rcases hc with ⟨rfl, rfl⟩ | rfl
     ·have cP : ae Tryz.prog 31 [.agg (aX s), .agg [.int .i64 (id + (i : Int)), .int .i64 (ak x.e 4), .int .i64 0, .int .i64 (s 0), .int .i64 (from_ + pa), .int .i64 (from_ + pa + 1 + pb), .int .i64 (pc - s 9), .int .i64 (min (s 10) ((1 + pd) * s 20)), .sl .full 0 []], au ps] (.bool (fw s ps ⟨id + (i : Int), ak x.e 4, 0, s 0, from_ + pa, from_ + pa + 1 + pb, pc - s 9, min (s 10) ((1 + pd) * s 20), ([] : List aZ)⟩)) := (cPf [] (by simp)).weak (.cons (.refl _) (.cons (AV.weak.agg (.cons (.refl _) (.cons (.refl _) (.cons (.refl _) (.cons (.refl _) (.cons (.refl _) (.cons (.refl _) (.cons (.refl _) (.cons (.refl _) (.cons AV.weak.slnil .nil))))))))) (by intro y hy; simp at hy; rcases hy with rfl | rfl | rfl | rfl | rfl | rfl | rfl | rfl | rfl <;> rfl)) (.refl _)))
      by_cases hlt_k : k < ps.length
      ·have bbk : decide ((k : Int) < ((ps.map aM).length : Int)) = false → False := fun h => by have := of_decide_eq_false h; simp at this; omega
       have hy := lX hlt_k
       have hqb := hH.p (aF ps k) (by rw [dK hlt_k]; exact List.getElem_mem hlt_k)
       have hrn := iN (s 0) (1 + pd) dd (1 + nn) ps (from_ + pa + 1 + pb) k
       rw [← hr, lK] at hrn
       simp only at hrn
       have hstop : ¬ ((([] : List aZ) : List aZ).length : Int) < 1 + nn → ma s ps from_ (id + i) x = ⟨id + (i : Int), ak x.e 4, 0, s 0, from_ + pa, from_ + pa + 1 + pb, pc - s 9, min (s 10) ((1 + pd) * s 20), ([] : List aZ)⟩ := fun h => by
        have h2 := lL hk (s0 := s 0) (m := 1 + pd) (d := dd) (n := 1 + nn) (t0 := from_ + pa + 1 + pb) (by rw [← hr]; exact h)
        rw [hmkv, h2, ← hr]
       generalize aF ps k = q at hy hqb hrn
       have v1 : IntKind.i64.wrap (q.sa + dd) = q.sa + dd := am (by omega) (by omega)
       have v2 : IntKind.i64.wrap (max en (q.sa + dd) + (1 + pd)) = max en (q.sa + dd) + (1 + pd) := am (by omega) (by omega)
       have e15 : IntKind.i64.wrap (max en (IntKind.i64.wrap (q.sa + dd)) + (1 + pd)) = max en (q.sa + dd) + (1 + pd) := by rw [v1, v2]
       have e13 : ([] : List (List AV)) ++ [[.int .i64 (k : Int), .int .i64 (max en (IntKind.i64.wrap (q.sa + dd))), .int .i64 (IntKind.i64.wrap (max en (IntKind.i64.wrap (q.sa + dd)) + (1 + pd)))]] = (([] : List aZ) ++ [(⟨(k : Int), max en (q.sa + dd), max en (q.sa + dd) + (1 + pd)⟩ : aZ)]).map aC := by rw [v1, v2]; simp [aC]
       repeat' first|exact (bbk (by assumption)).elim|refine Q1 ?_|refine Q2 ?_|refine Q3 hG aa aV ?_|refine Q4 hG aa aV ?_|refine Q5 hG aa ?_|refine Q6 hG aa ?_|refine Q7 hG aa ?_|refine Q8 hG aa ?_|refine Q9 rfl ?_|refine QF rfl ?_|refine QC rfl ⟨fun h => ?_,fun h => ?_⟩|((conv => whnf); first|refine anF ?_|refine anT ?_|refine anK ?_|refine And.intro (Int.natCast_nonneg k) (Exists.intro _ (And.intro hy ?_))|refine And.intro (Int.natCast_nonneg i) (Exists.intro _ (And.intro hx ?_))|refine Exists.intro _ (And.intro (cE) ?_)|refine Exists.intro _ (And.intro (cD) ?_)|refine And.intro (by decide) ?_|refine And.intro (Nat.le_of_ble_eq_true rfl) (And.intro (Nat.le_of_ble_eq_true rfl) ?_)|refine Exists.intro _ (And.intro (cP) ?_)|refine And.intro (show (((c8 s ps from_ id z i).map aG).length + 1) * 88 ≤ 70368744177664 by rw [List.length_map]; omega) (And.intro (show ((c8 s ps from_ id z i).map aG).length + 1 ≤ 4611686018427387904 by rw [List.length_map]; omega) ?_)|refine And.intro (fun h => ?_) (fun h => ?_)|refine Or.inl ?_)
       all_goals first
        |(conv => whnf
          refine Exists.intro (k + 1, max en (q.sa + dd) + (1 + pd), ([] : List aZ) ++ [(⟨(k : Int), max en (q.sa + dd), max en (q.sa + dd) + (1 + pd)⟩ : aZ)], AV.sl (.id 160) 3 ((([] : List aZ) ++ [(⟨(k : Int), max en (q.sa + dd), max en (q.sa + dd) + (1 + pd)⟩ : aZ)]).map aC)) (And.intro ⟨hlt_k, ?_, ?_, ?_, .inr rfl⟩ (And.intro (by show ps.length - (k + 1) < ps.length - k; omega) (ah ?_ ?_)))
          ·rw [hrn]; symm; apply if_pos; clear hG hcell hmkv hon hx hy cP cPf hstop e13 cE cD cC c1 c2 c4 w1 w2 w3 w4 w5 w6 w7 wc he15 hm0 hm1 hH hz hxi hlm; (try simp only [cond_true, cond_false] at *); grind
          ·clear hG hcell hmkv hon hx hy cP cPf hstop e13 cE cD cC c1 c2 c4 w1 w2 w3 w4 w5 w6 w7 wc he15 hm0 hm1 hH hz hxi hlm; (try simp only [cond_true, cond_false] at *); grind
          ·simp <;> omega
          ·refine And.intro (congrArg some (ap (by omega))) (And.intro (congrArg (fun z => some (AV.int .i64 z)) e15) ?_)
           repeat' (first | exact trivial | refine And.intro rfl ?_)
          ·refine And.intro (congrArg (fun z => some ([.int .i64 (id + (i : Int)), .int .i64 (ak x.e 4), .int .i64 0, .int .i64 (s 0), .int .i64 (from_ + pa), .int .i64 (from_ + pa + 1 + pb), .int .i64 (pc - s 9), .int .i64 (min (s 10) ((1 + pd) * s 20)), AV.sl (.id 160) 3 z] : List AV)) e13) ?_
           repeat' (first | exact trivial | refine And.intro rfl ?_))
        |(conv => whnf
          refine Exists.intro (k + 1, en, ([] : List aZ), .sl .full 0 []) (And.intro ⟨hlt_k, ?_, hen, ?_, .inl ⟨rfl, rfl⟩⟩ (And.intro (by show ps.length - (k + 1) < ps.length - k; omega) (ah ?_ ?_)))
          ·rw [hrn]; symm; apply if_neg; clear hG hcell hmkv hon hx hy cP cPf hstop e13 cE cD cC c1 c2 c4 w1 w2 w3 w4 w5 w6 w7 wc he15 hm0 hm1 hH hz hxi hlm; (try simp only [cond_true, cond_false] at *); grind
          ·exact Nat.le_succ_of_le hsl
          ·refine And.intro (congrArg some (ap (by omega))) ?_
           repeat' (first | exact trivial | refine And.intro rfl ?_)
          ·repeat' (first | exact trivial | refine And.intro rfl ?_))
        | skip
       all_goals have hmk := hstop (by clear hG hcell hmkv hon hx hy cP cPf hstop e13 cE cD cC c1 c2 c4 w1 w2 w3 w4 w5 w6 w7 wc he15 hm0 hm1 hH hz hxi hlm; (try simp only [cond_true, cond_false] at *); grind)
       all_goals first
        |(exact absurd (by assumption : fw s ps _ = true) (by rw [vn]; simp))
        |(have hpr := (by assumption : fw s ps _ = false)
          conv => whnf
          refine Exists.intro (i + 1) (And.intro ⟨hlt_i, h5⟩ (And.intro (by omega) (ah ?_ ?_)))
          ·refine And.intro (congrArg some (ap (by omega))) (And.intro (congrArg (fun z => some (AV.sl (.id 11) 9 z)) ?_) ?_)
           ·rw [hon, hmk, if_neg (by rw [hpr]; simp), List.append_nil]
           ·repeat' (first | exact trivial | refine And.intro rfl ?_)
          ·repeat' (first | exact trivial | refine And.intro rfl ?_))
      ·have bbk : decide ((k : Int) < ((ps.map aM).length : Int)) = true → False := fun h => by have := of_decide_eq_true h; simp at this; omega
       have he : k = ps.length := by omega
       have hmk : ma s ps from_ (id + i) x = ⟨id + (i : Int), ak x.e 4, 0, s 0, from_ + pa, from_ + pa + 1 + pb, pc - s 9, min (s 10) ((1 + pd) * s 20), ([] : List aZ)⟩ := by rw [hmkv, ← he, ← hr]
       repeat' first|exact (bbk (by assumption)).elim|refine Q1 ?_|refine Q2 ?_|refine Q3 hG aa aV ?_|refine Q4 hG aa aV ?_|refine Q5 hG aa ?_|refine Q6 hG aa ?_|refine Q7 hG aa ?_|refine Q8 hG aa ?_|refine Q9 rfl ?_|refine QF rfl ?_|refine QC rfl ⟨fun h => ?_,fun h => ?_⟩|((conv => whnf); first|refine anF ?_|refine anT ?_|refine anK ?_|refine Exists.intro _ (And.intro (cP) ?_)|refine And.intro (show (((c8 s ps from_ id z i).map aG).length + 1) * 88 ≤ 70368744177664 by rw [List.length_map]; omega) (And.intro (show ((c8 s ps from_ id z i).map aG).length + 1 ≤ 4611686018427387904 by rw [List.length_map]; omega) ?_)|refine And.intro (fun h => ?_) (fun h => ?_)|refine Or.inl ?_)
       all_goals first
        |(exact absurd (by assumption : fw s ps _ = true) (by rw [vn]; simp))
        |(have hpr := (by assumption : fw s ps _ = false)
          conv => whnf
          refine Exists.intro (i + 1) (And.intro ⟨hlt_i, h5⟩ (And.intro (by omega) (ah ?_ ?_)))
          ·refine And.intro (congrArg some (ap (by omega))) (And.intro (congrArg (fun z => some (AV.sl (.id 11) 9 z)) ?_) ?_)
           ·rw [hon, hmk, if_neg (by rw [hpr]; simp), List.append_nil]
           ·repeat' (first | exact trivial | refine And.intro rfl ?_)
          ·repeat' (first | exact trivial | refine And.intro rfl ?_))
     ·have cP : ae Tryz.prog 31 [.agg (aX s), .agg [.int .i64 (id + (i : Int)), .int .i64 (ak x.e 4), .int .i64 0, .int .i64 (s 0), .int .i64 (from_ + pa), .int .i64 (from_ + pa + 1 + pb), .int .i64 (pc - s 9), .int .i64 (min (s 10) ((1 + pd) * s 20)), .sl .no 3 (sl.map aC)], au ps] (.bool (fw s ps ⟨id + (i : Int), ak x.e 4, 0, s 0, from_ + pa, from_ + pa + 1 + pb, pc - s 9, min (s 10) ((1 + pd) * s 20), sl⟩)) := cPf sl (by omega)
      by_cases hlt_k : k < ps.length
      ·have bbk : decide ((k : Int) < ((ps.map aM).length : Int)) = false → False := fun h => by have := of_decide_eq_false h; simp at this; omega
       have hy := lX hlt_k
       have hqb := hH.p (aF ps k) (by rw [dK hlt_k]; exact List.getElem_mem hlt_k)
       have hrn := iN (s 0) (1 + pd) dd (1 + nn) ps (from_ + pa + 1 + pb) k
       rw [← hr, lK] at hrn
       simp only at hrn
       have hstop : ¬ ((sl : List aZ).length : Int) < 1 + nn → ma s ps from_ (id + i) x = ⟨id + (i : Int), ak x.e 4, 0, s 0, from_ + pa, from_ + pa + 1 + pb, pc - s 9, min (s 10) ((1 + pd) * s 20), sl⟩ := fun h => by
        have h2 := lL hk (s0 := s 0) (m := 1 + pd) (d := dd) (n := 1 + nn) (t0 := from_ + pa + 1 + pb) (by rw [← hr]; exact h)
        rw [hmkv, h2, ← hr]
       generalize aF ps k = q at hy hqb hrn
       have v1 : IntKind.i64.wrap (q.sa + dd) = q.sa + dd := am (by omega) (by omega)
       have v2 : IntKind.i64.wrap (max en (q.sa + dd) + (1 + pd)) = max en (q.sa + dd) + (1 + pd) := am (by omega) (by omega)
       have e15 : IntKind.i64.wrap (max en (IntKind.i64.wrap (q.sa + dd)) + (1 + pd)) = max en (q.sa + dd) + (1 + pd) := by rw [v1, v2]
       have e13 : sl.map aC ++ [[.int .i64 (k : Int), .int .i64 (max en (IntKind.i64.wrap (q.sa + dd))), .int .i64 (IntKind.i64.wrap (max en (IntKind.i64.wrap (q.sa + dd)) + (1 + pd)))]] = (sl ++ [(⟨(k : Int), max en (q.sa + dd), max en (q.sa + dd) + (1 + pd)⟩ : aZ)]).map aC := by rw [v1, v2]; simp [aC]
       repeat' first|exact (bbk (by assumption)).elim|refine Q1 ?_|refine Q2 ?_|refine Q3 hG aa aV ?_|refine Q4 hG aa aV ?_|refine Q5 hG aa ?_|refine Q6 hG aa ?_|refine Q7 hG aa ?_|refine Q8 hG aa ?_|refine Q9 rfl ?_|refine QF rfl ?_|refine QC rfl ⟨fun h => ?_,fun h => ?_⟩|((conv => whnf); first|refine anF ?_|refine anT ?_|refine anK ?_|refine And.intro (Int.natCast_nonneg k) (Exists.intro _ (And.intro hy ?_))|refine And.intro (Int.natCast_nonneg i) (Exists.intro _ (And.intro hx ?_))|refine Exists.intro _ (And.intro (cE) ?_)|refine Exists.intro _ (And.intro (cD) ?_)|refine And.intro (by decide) ?_|refine And.intro (show ((sl.map aC).length + 1) * 24 ≤ 70368744177664 by rw [List.length_map]; omega) (And.intro (show (sl.map aC).length + 1 ≤ 4611686018427387904 by rw [List.length_map]; omega) ?_)|refine Exists.intro _ (And.intro (cP) ?_)|refine And.intro (show (((c8 s ps from_ id z i).map aG).length + 1) * 88 ≤ 70368744177664 by rw [List.length_map]; omega) (And.intro (show ((c8 s ps from_ id z i).map aG).length + 1 ≤ 4611686018427387904 by rw [List.length_map]; omega) ?_)|refine And.intro (fun h => ?_) (fun h => ?_)|refine Or.inl ?_)
       all_goals first
        |(conv => whnf
          refine Exists.intro (k + 1, max en (q.sa + dd) + (1 + pd), sl ++ [(⟨(k : Int), max en (q.sa + dd), max en (q.sa + dd) + (1 + pd)⟩ : aZ)], AV.sl (.id 160) 3 ((sl ++ [(⟨(k : Int), max en (q.sa + dd), max en (q.sa + dd) + (1 + pd)⟩ : aZ)]).map aC)) (And.intro ⟨hlt_k, ?_, ?_, ?_, .inr rfl⟩ (And.intro (by show ps.length - (k + 1) < ps.length - k; omega) (ah ?_ ?_)))
          ·rw [hrn]; symm; apply if_pos; clear hG hcell hmkv hon hx hy cP cPf hstop e13 cE cD cC c1 c2 c4 w1 w2 w3 w4 w5 w6 w7 wc he15 hm0 hm1 hH hz hxi hlm; (try simp only [cond_true, cond_false] at *); grind
          ·clear hG hcell hmkv hon hx hy cP cPf hstop e13 cE cD cC c1 c2 c4 w1 w2 w3 w4 w5 w6 w7 wc he15 hm0 hm1 hH hz hxi hlm; (try simp only [cond_true, cond_false] at *); grind
          ·simp <;> omega
          ·refine And.intro (congrArg some (ap (by omega))) (And.intro (congrArg (fun z => some (AV.int .i64 z)) e15) ?_)
           repeat' (first | exact trivial | refine And.intro rfl ?_)
          ·refine And.intro (congrArg (fun z => some ([.int .i64 (id + (i : Int)), .int .i64 (ak x.e 4), .int .i64 0, .int .i64 (s 0), .int .i64 (from_ + pa), .int .i64 (from_ + pa + 1 + pb), .int .i64 (pc - s 9), .int .i64 (min (s 10) ((1 + pd) * s 20)), AV.sl (.id 160) 3 z] : List AV)) e13) ?_
           repeat' (first | exact trivial | refine And.intro rfl ?_))
        |(conv => whnf
          refine Exists.intro (k + 1, en, sl, .sl (.id 160) 3 (sl.map aC)) (And.intro ⟨hlt_k, ?_, hen, ?_, .inr rfl⟩ (And.intro (by show ps.length - (k + 1) < ps.length - k; omega) (ah ?_ ?_)))
          ·rw [hrn]; symm; apply if_neg; clear hG hcell hmkv hon hx hy cP cPf hstop e13 cE cD cC c1 c2 c4 w1 w2 w3 w4 w5 w6 w7 wc he15 hm0 hm1 hH hz hxi hlm; (try simp only [cond_true, cond_false] at *); grind
          ·exact Nat.le_succ_of_le hsl
          ·refine And.intro (congrArg some (ap (by omega))) ?_
           repeat' (first | exact trivial | refine And.intro rfl ?_)
          ·repeat' (first | exact trivial | refine And.intro rfl ?_))
        | skip
       all_goals have hmk := hstop (by clear hG hcell hmkv hon hx hy cP cPf hstop e13 cE cD cC c1 c2 c4 w1 w2 w3 w4 w5 w6 w7 wc he15 hm0 hm1 hH hz hxi hlm; (try simp only [cond_true, cond_false] at *); grind)
       all_goals first
        |(have hpr := (by assumption : fw s ps ⟨id + (i : Int), ak x.e 4, 0, s 0, from_ + pa, from_ + pa + 1 + pb, pc - s 9, min (s 10) ((1 + pd) * s 20), sl⟩ = true)
          conv => whnf
          refine Exists.intro (i + 1) (And.intro ⟨hlt_i, h5⟩ (And.intro (by omega) (ah ?_ ?_)))
          ·refine And.intro (congrArg some (ap (by omega))) (And.intro (congrArg (fun z => some (AV.sl (.id 11) 9 z)) ?_) ?_)
           ·rw [hon, hmk, if_pos hpr, List.map_append]; rfl
           ·repeat' (first | exact trivial | refine And.intro rfl ?_)
          ·repeat' (first | exact trivial | refine And.intro rfl ?_))
        |(have hpr := (by assumption : fw s ps _ = false)
          conv => whnf
          refine Exists.intro (i + 1) (And.intro ⟨hlt_i, h5⟩ (And.intro (by omega) (ah ?_ ?_)))
          ·refine And.intro (congrArg some (ap (by omega))) (And.intro (congrArg (fun z => some (AV.sl (.id 11) 9 z)) ?_) ?_)
           ·rw [hon, hmk, if_neg (by rw [hpr]; simp), List.append_nil]
           ·repeat' (first | exact trivial | refine And.intro rfl ?_)
          ·repeat' (first | exact trivial | refine And.intro rfl ?_))
      ·have bbk : decide ((k : Int) < ((ps.map aM).length : Int)) = true → False := fun h => by have := of_decide_eq_true h; simp at this; omega
       have he : k = ps.length := by omega
       have hmk : ma s ps from_ (id + i) x = ⟨id + (i : Int), ak x.e 4, 0, s 0, from_ + pa, from_ + pa + 1 + pb, pc - s 9, min (s 10) ((1 + pd) * s 20), sl⟩ := by rw [hmkv, ← he, ← hr]
       repeat' first|exact (bbk (by assumption)).elim|refine Q1 ?_|refine Q2 ?_|refine Q3 hG aa aV ?_|refine Q4 hG aa aV ?_|refine Q5 hG aa ?_|refine Q6 hG aa ?_|refine Q7 hG aa ?_|refine Q8 hG aa ?_|refine Q9 rfl ?_|refine QF rfl ?_|refine QC rfl ⟨fun h => ?_,fun h => ?_⟩|((conv => whnf); first|refine anF ?_|refine anT ?_|refine anK ?_|refine Exists.intro _ (And.intro (cP) ?_)|refine And.intro (show (((c8 s ps from_ id z i).map aG).length + 1) * 88 ≤ 70368744177664 by rw [List.length_map]; omega) (And.intro (show ((c8 s ps from_ id z i).map aG).length + 1 ≤ 4611686018427387904 by rw [List.length_map]; omega) ?_)|refine And.intro (fun h => ?_) (fun h => ?_)|refine Or.inl ?_)
       all_goals first
        |(have hpr := (by assumption : fw s ps ⟨id + (i : Int), ak x.e 4, 0, s 0, from_ + pa, from_ + pa + 1 + pb, pc - s 9, min (s 10) ((1 + pd) * s 20), sl⟩ = true)
          conv => whnf
          refine Exists.intro (i + 1) (And.intro ⟨hlt_i, h5⟩ (And.intro (by omega) (ah ?_ ?_)))
          ·refine And.intro (congrArg some (ap (by omega))) (And.intro (congrArg (fun z => some (AV.sl (.id 11) 9 z)) ?_) ?_)
           ·rw [hon, hmk, if_pos hpr, List.map_append]; rfl
           ·repeat' (first | exact trivial | refine And.intro rfl ?_)
          ·repeat' (first | exact trivial | refine And.intro rfl ?_))
        |(have hpr := (by assumption : fw s ps _ = false)
          conv => whnf
          refine Exists.intro (i + 1) (And.intro ⟨hlt_i, h5⟩ (And.intro (by omega) (ah ?_ ?_)))
          ·refine And.intro (congrArg some (ap (by omega))) (And.intro (congrArg (fun z => some (AV.sl (.id 11) 9 z)) ?_) ?_)
           ·rw [hon, hmk, if_neg (by rw [hpr]; simp), List.append_nil]
           ·repeat' (first | exact trivial | refine And.intro rfl ?_)
          ·repeat' (first | exact trivial | refine And.intro rfl ?_))
   ·have b2 : decide ((i : Int) < 5) = true → False := fun h => by have := of_decide_eq_true h; omega
    have b1 : decide ((i : Int) < ((z.map jo).length : Int)) = false → False := fun h => by have := of_decide_eq_false h; omega
    have he : i = 5 := by omega
    subst he
    repeat' first|exact (b1 (by assumption)).elim|exact (b2 (by assumption)).elim|refine Q1 ?_|refine Q2 ?_|refine Q3 hG aa aV ?_|refine Q4 hG aa aV ?_|refine Q5 hG aa ?_|refine Q6 hG aa ?_|refine Q7 hG aa ?_|refine Q8 hG aa ?_|refine Q9 rfl ?_|refine QF rfl ?_|refine QC rfl ⟨fun h => ?_,fun h => ?_⟩|((conv => whnf); first|refine anF ?_|refine anT ?_|refine anK ?_|refine And.intro (fun h => ?_) (fun h => ?_)|refine Or.inl ?_)
    exact Ends.mk (Or.inl rfl) (ac (by rw [yW, Nat.min_eq_right (by omega)]; rfl))
  ·have b1 : decide ((i : Int) < ((z.map jo).length : Int)) = true → False := fun h => by have := of_decide_eq_true h; omega
   have he : i = z.length := by omega
   repeat' first|exact (b1 (by assumption)).elim|refine Q1 ?_|refine Q2 ?_|refine Q3 hG aa aV ?_|refine Q4 hG aa aV ?_|refine Q5 hG aa ?_|refine Q6 hG aa ?_|refine Q7 hG aa ?_|refine Q8 hG aa ?_|refine Q9 rfl ?_|refine QF rfl ?_|refine QC rfl ⟨fun h => ?_,fun h => ?_⟩|((conv => whnf); first|refine anF ?_|refine anT ?_|refine anK ?_|refine And.intro (fun h => ?_) (fun h => ?_)|refine Or.inl ?_)
   exact Ends.mk (Or.inl rfl) (ac (by rw [yW, Nat.min_eq_left (by omega), ← he]; rfl))
end Go.Proofs
namespace Go.Proofs
open Go Go.AI
structure bN where
 x : Nat → Int
 y : Nat → Int
 z : List (Int × Int × Int)
 v : List R5
 from_ : Int
 hx : ∀ i, inI (x i)
 hy : ∀ i, inI (y i)
 hz : ∀ r ∈ z, rg r
 hv : ∀ r ∈ v, vO r
 hf : inI from_
namespace bN
def s (c : bN) : Nat → Int := Fb c.x c.y
def bc (c : bN) : ju := ⟨c.x, c.y, [], c.from_, 0, c.hx, c.hy, by simp, c.hf, by unfold inI; omega⟩
end bN
theorem bN.sat (c : bN) : fF c.s = true := c.bc.sat
theorem bN.s0 (c : bN) : c.s 0 = 3 := by show ak 3 24 = 3; decide
theorem sO {s : Nat → Int} (h : fF s = true) : (0 ≤ s 9 ∧ s 9 ≤ 4) ∧ (1 ≤ s 10 ∧ s 10 ≤ 1000000) ∧ (1 ≤ s 20 ∧ s 20 ≤ 1000) ∧ (0 ≤ s 19 ∧ s 19 ≤ 60) ∧ (1 ≤ s 11 ∧ s 11 ≤ 1000000) ∧ (1 ≤ s 18 ∧ s 18 ≤ 1000000) ∧ (0 ≤ s 17 ∧ s 17 ≤ 10000) ∧ (0 ≤ s 16 ∧ s 16 ≤ 10000) := by
 simp only [fF, inS, Bool.and_eq_true, decide_eq_true_eq] at h
 omega
theorem lc {s : Nat → Int} {ps : List aj} {a b : Int} : ∀ (l pre : List Opt), d4 s ps a b pre l = true ↔ (∀ o ∈ l, db s o ps = true ∧ a ≤ o.a ∧ dY o ≤ b) ∧ l.Pairwise (fun x y => x.id ≠ y.id) ∧ ∀ p ∈ pre, ∀ o ∈ l, p.id ≠ o.id
 | [], pre => by simp [d4]
 | x :: r, pre => by
  rw [d4, Bool.and_eq_true, lc r (pre ++ [x]), mf]
  simp only [Bool.and_eq_true, Bool.not_eq_true', decide_eq_false_iff_not, List.any_eq_false, beq_iff_eq, List.mem_cons, List.pairwise_cons, forall_eq_or_imp, List.mem_append, List.not_mem_nil, or_false]
  constructor
  ·rintro ⟨⟨⟨⟨g1, g2⟩, g3⟩, g4⟩, g5, g6, g7⟩
   exact ⟨⟨⟨g1, by omega, by omega⟩, g5⟩, ⟨fun y hy => g7 x (.inr rfl) y hy, g6⟩, fun p hp => ⟨fun e => g4 p hp e, fun y hy => g7 p (.inl hp) y hy⟩⟩
  ·rintro ⟨⟨⟨g1, g2, g3⟩, g5⟩, ⟨g6, g7⟩, g8⟩
   refine ⟨⟨⟨⟨g1, by omega⟩, by omega⟩, fun p hp e => (g8 p hp).1 e⟩, g5, g7, fun p hp y hy => ?_⟩
   rcases hp with hp | rfl
   ·exact (g8 p hp).2 y hy
   ·exact g6 y hy
theorem aY {s : Nat → Int} {l : List Opt} {ps : List aj} {a b : Int} : aT s l ps a b = true ↔ l.length ≤ 8 ∧ (0 ≤ a ∧ a < b ∧ b ≤ 1000000) ∧ b - a ≤ 3000 ∧ fF s = true ∧ cc ps = true ∧ (∀ o ∈ l, db s o ps = true ∧ a ≤ o.a ∧ dY o ≤ b) ∧ l.Pairwise fun x y => x.id ≠ y.id := by
 constructor
 ·intro h
  obtain ⟨h1, h2, h3, h4, h5, h6⟩ := tQ h
  obtain ⟨g1, g2, _⟩ := (lc l []).1 h6
  exact ⟨h1, h2, h3, h4, h5, g1, g2⟩
 ·rintro ⟨h1, h2, h3, h4, h5, h6, h7⟩
  simp only [aT, Bool.and_eq_true, decide_eq_true_eq, Bool.not_eq_true', decide_eq_false_iff_not]
  rw [am (by omega) (by omega)]
  exact ⟨⟨⟨⟨⟨h1, gd.2 h2⟩, by omega⟩, h4⟩, h5⟩, (lc l []).2 ⟨h6, h7, fun p hp => nomatch hp⟩⟩
theorem qw {s : Nat → Int} {ps : List aj} {z m : Int} (hp : ∀ p ∈ ps, p.sb ≤ m) (hl : ps.length ≤ 64) : ∀ (l : List aZ) (t : Int), bn s ps z t l = true → ∀ x ∈ l, x.b ≤ m
 | [], _, _, x, hx => nomatch hx
 | y :: r, t, h, x, hx => by
  simp only [bn, eX, Bool.and_eq_true, inS, decide_eq_true_eq] at h
  rcases List.mem_cons.1 hx with rfl | hx
  ·have h1 := h.1.1
   rw [am (by omega) (by omega)] at h1
   have hlt : x.p.toNat < ps.length := by omega
   have h2 := h.1.2.1.1.2
   rw [dK hlt] at h2
   have := hp _ (List.getElem_mem hlt)
   omega
  ·exact qw hp hl r _ h.2 x hx
theorem Ar {s : Nat → Int} {o : Opt} {ps : List aj} {m : Int} (hp : ∀ p ∈ ps, p.sb ≤ m) (hl : ps.length ≤ 64) (h : db s o ps = true) : dY o ≤ m := by
 have hn := wd h
 have hs : bn s ps o.size o.b o.sl = true := by simp only [db, Bool.and_eq_true] at h; exact h.2
 refine qw hp hl o.sl _ hs _ ?_
 unfold eY
 rw [List.getD_eq_getElem?_getD, List.getElem?_eq_getElem (by omega)]
 exact List.getElem_mem _
theorem kZ {s : Nat → Int} {ps : List aj} {from_ id : Int} {z : List R5} (hz : ∀ x ∈ z, vO x) : ∀ i, i ≤ z.length → ∀ o ∈ c8 s ps from_ id z i, fw s ps o = true ∧ from_ ≤ o.a ∧ id ≤ o.id ∧ o.id < id + i
 | 0, _, o, ho => nomatch ho
 | i + 1, hi, o, ho => by
  rw [c8, List.mem_append] at ho
  rcases ho with ho | ho
  ·have := kZ hz i (by omega) o ho
   exact ⟨this.1, this.2.1, this.2.2.1, by omega⟩
  ·split at ho
   ·rename_i hp
    rw [List.mem_singleton.1 ho]
    have hx : vO (z.getD i r50) := hz _ (by rw [List.getD_eq_getElem?_getD, List.getElem?_eq_getElem (show i < z.length by omega)]; exact List.getElem_mem _)
    have p1 := aJ hx.1 (n := 40) (by omega)
    exact ⟨hp, by show from_ ≤ from_ + _; omega, by show id ≤ id + (i : Int); omega, by show id + (i : Int) < _; omega⟩
   ·cases ho
theorem qF {s : Nat → Int} {ps : List aj} {from_ id : Int} {z : List R5} (hz : ∀ x ∈ z, vO x) : ∀ i, i ≤ z.length → (c8 s ps from_ id z i).Pairwise fun x y => x.id ≠ y.id
 | 0, _ => .nil
 | i + 1, hi => by
  rw [c8, List.pairwise_append]
  refine ⟨qF hz i (by omega), by split <;> simp, fun x hx y hy => ?_⟩
  have := kZ hz i (by omega) x hx
  split at hy
  ·rw [List.mem_singleton.1 hy]
   show x.id ≠ id + (i : Int)
   omega
  ·cases hy
end Go.Proofs
namespace Go.Proofs
open Go Go.AI
structure w9 (s : Nat → Int) (l : List Opt) (a b : Int) : Prop where
 good : c6 l
 fit : ∀ o ∈ l, EG s o b
 chk : ku s l a b
 sat : fF s = true
 rng : (0 ≤ a ∧ a < b ∧ b ≤ 1000000) ∧ b - a ≤ 3000
theorem w9.of {s : Nat → Int} {l : List Opt} {ps : List aj} {a b : Int} (h : aT s l ps a b = true) : w9 s l a b := by
 obtain ⟨h1, h2, h3⟩ := ku.of h
 obtain ⟨g1, g2, g3, g4, _⟩ := tQ h
 exact ⟨h2, h3, h1, g4, g2, g3⟩
theorem w9.span {s : Nat → Int} {l : List Opt} {a b : Int} (h : w9 s l a b) : ∀ o ∈ l, 0 ≤ o.a ∧ o.a < dY o := fun o ho => by
 have := h.fit o ho
 have h1 := this.shot
 have h2 := this.last
 omega
end Go.Proofs
namespace Go.Proofs
open Go Go.AI
set_option maxRecDepth 10000
def wq (c : bN) : List AV := [.int .i64 (c.x 0), .int .i64 (c.x 1), .int .i64 (c.x 2), .int .i64 (c.x 3), .int .i64 (c.x 4), .int .i64 (c.x 5), .int .i64 (c.x 6), .int .i64 (c.y 0), .int .i64 (c.y 1), .int .i64 (c.y 2), .int .i64 (c.y 3), .sl .no 3 (c.z.map jp), .sl .no 5 (c.v.map jo), .int .i64 c.from_]
theorem AV.weak.tup {cs ds : List AV} (h : gT cs ds) : (AV.tup cs).weak (.tup ds) := by
 intro m v hv
 cases hv with
 | tup _ vs hl hr =>
  obtain ⟨h1, h2⟩ := h.spec
  refine .tup ds vs (by omega) fun i x u g1 g2 => ?_
  have hi : i < cs.length := by rw [h1]; exact (List.getElem?_eq_some_iff.1 g1).1
  exact h2 i _ x (List.getElem?_eq_getElem hi) g1 m u (hr i _ u (List.getElem?_eq_getElem hi) g2)
inductive tw : List (List AV) → List (List AV) → Prop
 | nil : tw [] []
 | cons {x y : List AV} {xs ys : List (List AV)} (h : gT x y) (t : tw xs ys) : tw (x :: xs) (y :: ys)
theorem tw.spec {xs ys : List (List AV)} (h : tw xs ys) : xs.length = ys.length ∧ ∀ (i : Nat) (y : List AV), ys[i]? = some y → ∃ x, xs[i]? = some x ∧ gT x y := by
 induction h with
 | nil => exact ⟨rfl, by simp⟩
 | cons h t ih =>
  refine ⟨by simp [ih.1], fun i y hy => ?_⟩
  cases i with
  | zero => simp at hy; subst hy; exact ⟨_, rfl, h⟩
  | succ i => obtain ⟨x, h1, h2⟩ := ih.2 i y (by simpa using hy); exact ⟨x, by simpa using h1, h2⟩
theorem AV.weak.rows {o : Go.AI.Own} {sz : Nat} {xs ys : List (List AV)} (h : tw xs ys) (hc : ∀ y ∈ ys, ∀ c ∈ y, AV.isCell c = true) : (AV.sl o sz xs).weak (.sl .no sz ys) := by
 intro m v hv
 cases hv with
 | sl _ _ _ base len cap ho hf hl hcap hsz hcell b off hb g hm hr =>
  obtain ⟨e1, e2⟩ := h.spec
  have key : ∀ {i : Nat} {y : List AV} {j : Nat} {c : AV}, ys[i]? = some y → y[j]? = some c → ∃ x d, xs[i]? = some x ∧ x[j]? = some d ∧ d.weak c := by
   intro i y j c h1 h2
   obtain ⟨x, h3, h4⟩ := e2 i y h1
   obtain ⟨q1, q2⟩ := h4.spec
   have hj : j < x.length := by rw [q1]; exact (List.getElem?_eq_some_iff.1 h2).1
   exact ⟨x, _, h3, List.getElem?_eq_getElem hj, q2 j _ c (List.getElem?_eq_getElem hj) h2⟩
  refine .sl _ _ _ base len cap (by intro k hk; cases hk) (by intro hk; cases hk) (by omega) hcap (fun y hy => ?_) hc b off hb g (fun i y j c h1 h2 => ?_) (fun i y j c h1 h2 => ?_)
  ·obtain ⟨i, hi⟩ := List.mem_iff_getElem?.1 hy
   obtain ⟨x, h3, h4⟩ := e2 i y hi
   rw [← h4.spec.1]
   exact hsz x (List.mem_of_getElem? h3)
  ·obtain ⟨x, d, h3, h4, _⟩ := key h1 h2
   exact hm i x j d h3 h4
  ·obtain ⟨x, d, h3, h4, h5⟩ := key h1 h2
   exact h5 m _ (hr i x j d h3 h4)
end Go.Proofs
