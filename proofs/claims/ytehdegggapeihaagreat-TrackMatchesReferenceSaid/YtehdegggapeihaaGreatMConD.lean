/- Contracts of the functions and plain facts about what they reckon, part 4: called with arguments that read so, each hands back what is typed. The conditions are those typed. -/
import Derived.Test.YtehdegggapeihaaGreatMConC
import Derived.Shelf.SlLaysF0
set_option linter.unusedSectionVars false
set_option linter.unusedVariables false
set_option linter.unusedSimpArgs false
namespace Go.Proofs
open Go Go.Shelf
def rx : Go.Shelf.Ren := ⟨fun | 6 => 168 | 15 => 190 | 14 => 230 | 28 => 250 | 29 => 251 | 20 => 272 | 21 => 273 | 22 => 274 | 23 => 275 | 24 => 276 | 25 => 277 | 26 => 278 | 27 => 279 | 46 => 306 | 47 => 292 | 48 => 293 | 49 => 307 | 50 => 308 | 57 => 322 | n => n, fun | 22 => 57 | 24 => 74 | 25 => 155 | 3 => 3 | 39 => 254 | 0 => 0 | 53 => 299 | 55 => 301 | 4 => 4 | 46 => 293 | 45 => 292 | 50 => 118 | 5 => 5 | 9 => 9 | 66 => 325 | 70 => 329 | 76 => 346 | 77 => 347 | n => n, fun | n => n⟩
theorem ry : Go.Proofs.SlLaysF0.n6 Tryz.prog rx where
 mixed := by kernel_rfl
 f6 := ⟨Tryz.f168.name, by kernel_rfl, Tryz.func168.trans (congrArg some (by kernel_rfl))⟩
 f14 := ⟨Tryz.f230.name, by kernel_rfl, Tryz.func230.trans (congrArg some (by kernel_rfl))⟩
 f15 := Tryz.func190.trans (congrArg some (by kernel_rfl))
 f20 := ⟨Tryz.f272.name, by kernel_rfl, Tryz.func272.trans (congrArg some (by kernel_rfl))⟩
 f21 := ⟨Tryz.f273.name, by kernel_rfl, Tryz.func273.trans (congrArg some (by kernel_rfl))⟩
 f22 := ⟨Tryz.f274.name, by kernel_rfl, Tryz.func274.trans (congrArg some (by kernel_rfl))⟩
 f23 := ⟨Tryz.f275.name, by kernel_rfl, Tryz.func275.trans (congrArg some (by kernel_rfl))⟩
 f24 := ⟨Tryz.f276.name, by kernel_rfl, Tryz.func276.trans (congrArg some (by kernel_rfl))⟩
 f25 := ⟨Tryz.f277.name, by kernel_rfl, Tryz.func277.trans (congrArg some (by kernel_rfl))⟩
 f26 := ⟨Tryz.f278.name, by kernel_rfl, Tryz.func278.trans (congrArg some (by kernel_rfl))⟩
 f27 := ⟨Tryz.f279.name, by kernel_rfl, Tryz.func279.trans (congrArg some (by kernel_rfl))⟩
 f28 := Tryz.func250.trans (congrArg some (by kernel_rfl))
 f29 := Tryz.func251.trans (congrArg some (by kernel_rfl))
 f46 := ⟨Tryz.f306.name, by kernel_rfl, Tryz.func306.trans (congrArg some (by kernel_rfl))⟩
 f47 := Tryz.func292.trans (congrArg some (by kernel_rfl))
 f48 := Tryz.func293.trans (congrArg some (by kernel_rfl))
 f49 := ⟨Tryz.f307.name, by kernel_rfl, Tryz.func307.trans (congrArg some (by kernel_rfl))⟩
 f50 := ⟨Tryz.f308.name, by kernel_rfl, Tryz.func308.trans (congrArg some (by kernel_rfl))⟩
 f57 := ⟨Tryz.f322.name, by kernel_rfl, Tryz.func322.trans (congrArg some (by kernel_rfl))⟩
 t0 := Tryz.underlying0
 a0 := Tryz.isAgg0
 z0 := Tryz.sizeOf0
 v0 := Tryz.zeroValue0
 t3 := Tryz.underlying3
 a3 := Tryz.isAgg3
 z3 := Tryz.sizeOf3
 v3 := Tryz.zeroValue3
 t4 := Tryz.underlying4
 a4 := Tryz.isAgg4
 z4 := Tryz.sizeOf4
 v4 := Tryz.zeroValue4
 t5 := Tryz.underlying5
 a5 := Tryz.isAgg5
 z5 := Tryz.sizeOf5
 v5 := Tryz.zeroValue5
 t9 := Tryz.underlying9
 a9 := Tryz.isAgg9
 z9 := Tryz.sizeOf9
 v9 := Tryz.zeroValue9
 t22 := Tryz.underlying57
 a22 := Tryz.isAgg57
 z22 := Tryz.sizeOf57
 v22 := Tryz.zeroValue57
 t25 := Tryz.underlying155
 a25 := Tryz.isAgg155
 z25 := Tryz.sizeOf155
 v25 := Tryz.zeroValue155
 t39 := Tryz.underlying254
 a39 := Tryz.isAgg254
 z39 := Tryz.sizeOf254
 v39 := Tryz.zeroValue254
 t45 := Tryz.underlying292
 a45 := Tryz.isAgg292
 z45 := Tryz.sizeOf292
 v45 := Tryz.zeroValue292
 t46 := Tryz.underlying293
 a46 := Tryz.isAgg293
 z46 := Tryz.sizeOf293
 v46 := Tryz.zeroValue293
 t50 := Tryz.underlying118
 a50 := Tryz.isAgg118
 z50 := Tryz.sizeOf118
 v50 := Tryz.zeroValue118
 t53 := Tryz.underlying299
 a53 := Tryz.isAgg299
 z53 := Tryz.sizeOf299
 v53 := Tryz.zeroValue299
 t55 := Tryz.underlying301
 a55 := Tryz.isAgg301
 z55 := Tryz.sizeOf301
 v55 := Tryz.zeroValue301
 t66 := Tryz.underlying325
 a66 := Tryz.isAgg325
 z66 := Tryz.sizeOf325
 v66 := Tryz.zeroValue325
 t70 := Tryz.underlying329
 a70 := Tryz.isAgg329
 z70 := Tryz.sizeOf329
 v70 := Tryz.zeroValue329
 t76 := Tryz.underlying346
 a76 := Tryz.isAgg346
 z76 := Tryz.sizeOf346
 v76 := Tryz.zeroValue346
 t77 := Tryz.underlying347
 a77 := Tryz.isAgg347
 z77 := Tryz.sizeOf347
 v77 := Tryz.zeroValue347
end Go.Proofs
namespace Go.Proofs
open Go Go.Shelf
def rq : Go.Shelf.Ren := ⟨fun | 6 => 172 | 15 => 190 | 14 => 235 | 28 => 250 | 29 => 251 | 20 => 280 | 21 => 281 | 22 => 282 | 23 => 283 | 24 => 284 | 25 => 285 | 26 => 286 | 27 => 287 | 46 => 309 | 47 => 292 | 48 => 293 | 49 => 310 | 50 => 311 | 57 => 323 | n => n, fun | 22 => 239 | 24 => 241 | 25 => 243 | 3 => 3 | 39 => 254 | 0 => 0 | 53 => 299 | 55 => 301 | 4 => 4 | 46 => 293 | 45 => 292 | 50 => 118 | 5 => 5 | 9 => 9 | 66 => 325 | 70 => 329 | 76 => 346 | 77 => 347 | n => n, fun | n => n⟩
theorem ru : Go.Proofs.SlLaysF0.n6 Tryz.prog rq where
 mixed := by kernel_rfl
 f6 := ⟨Tryz.f172.name, by kernel_rfl, Tryz.func172.trans (congrArg some (by kernel_rfl))⟩
 f14 := ⟨Tryz.f235.name, by kernel_rfl, Tryz.func235.trans (congrArg some (by kernel_rfl))⟩
 f15 := Tryz.func190.trans (congrArg some (by kernel_rfl))
 f20 := ⟨Tryz.f280.name, by kernel_rfl, Tryz.func280.trans (congrArg some (by kernel_rfl))⟩
 f21 := ⟨Tryz.f281.name, by kernel_rfl, Tryz.func281.trans (congrArg some (by kernel_rfl))⟩
 f22 := ⟨Tryz.f282.name, by kernel_rfl, Tryz.func282.trans (congrArg some (by kernel_rfl))⟩
 f23 := ⟨Tryz.f283.name, by kernel_rfl, Tryz.func283.trans (congrArg some (by kernel_rfl))⟩
 f24 := ⟨Tryz.f284.name, by kernel_rfl, Tryz.func284.trans (congrArg some (by kernel_rfl))⟩
 f25 := ⟨Tryz.f285.name, by kernel_rfl, Tryz.func285.trans (congrArg some (by kernel_rfl))⟩
 f26 := ⟨Tryz.f286.name, by kernel_rfl, Tryz.func286.trans (congrArg some (by kernel_rfl))⟩
 f27 := ⟨Tryz.f287.name, by kernel_rfl, Tryz.func287.trans (congrArg some (by kernel_rfl))⟩
 f28 := Tryz.func250.trans (congrArg some (by kernel_rfl))
 f29 := Tryz.func251.trans (congrArg some (by kernel_rfl))
 f46 := ⟨Tryz.f309.name, by kernel_rfl, Tryz.func309.trans (congrArg some (by kernel_rfl))⟩
 f47 := Tryz.func292.trans (congrArg some (by kernel_rfl))
 f48 := Tryz.func293.trans (congrArg some (by kernel_rfl))
 f49 := ⟨Tryz.f310.name, by kernel_rfl, Tryz.func310.trans (congrArg some (by kernel_rfl))⟩
 f50 := ⟨Tryz.f311.name, by kernel_rfl, Tryz.func311.trans (congrArg some (by kernel_rfl))⟩
 f57 := ⟨Tryz.f323.name, by kernel_rfl, Tryz.func323.trans (congrArg some (by kernel_rfl))⟩
 t0 := Tryz.underlying0
 a0 := Tryz.isAgg0
 z0 := Tryz.sizeOf0
 v0 := Tryz.zeroValue0
 t3 := Tryz.underlying3
 a3 := Tryz.isAgg3
 z3 := Tryz.sizeOf3
 v3 := Tryz.zeroValue3
 t4 := Tryz.underlying4
 a4 := Tryz.isAgg4
 z4 := Tryz.sizeOf4
 v4 := Tryz.zeroValue4
 t5 := Tryz.underlying5
 a5 := Tryz.isAgg5
 z5 := Tryz.sizeOf5
 v5 := Tryz.zeroValue5
 t9 := Tryz.underlying9
 a9 := Tryz.isAgg9
 z9 := Tryz.sizeOf9
 v9 := Tryz.zeroValue9
 t22 := Tryz.underlying239
 a22 := Tryz.isAgg239
 z22 := Tryz.sizeOf239
 v22 := Tryz.zeroValue239
 t25 := Tryz.underlying243
 a25 := Tryz.isAgg243
 z25 := Tryz.sizeOf243
 v25 := Tryz.zeroValue243
 t39 := Tryz.underlying254
 a39 := Tryz.isAgg254
 z39 := Tryz.sizeOf254
 v39 := Tryz.zeroValue254
 t45 := Tryz.underlying292
 a45 := Tryz.isAgg292
 z45 := Tryz.sizeOf292
 v45 := Tryz.zeroValue292
 t46 := Tryz.underlying293
 a46 := Tryz.isAgg293
 z46 := Tryz.sizeOf293
 v46 := Tryz.zeroValue293
 t50 := Tryz.underlying118
 a50 := Tryz.isAgg118
 z50 := Tryz.sizeOf118
 v50 := Tryz.zeroValue118
 t53 := Tryz.underlying299
 a53 := Tryz.isAgg299
 z53 := Tryz.sizeOf299
 v53 := Tryz.zeroValue299
 t55 := Tryz.underlying301
 a55 := Tryz.isAgg301
 z55 := Tryz.sizeOf301
 v55 := Tryz.zeroValue301
 t66 := Tryz.underlying325
 a66 := Tryz.isAgg325
 z66 := Tryz.sizeOf325
 v66 := Tryz.zeroValue325
 t70 := Tryz.underlying329
 a70 := Tryz.isAgg329
 z70 := Tryz.sizeOf329
 v70 := Tryz.zeroValue329
 t76 := Tryz.underlying346
 a76 := Tryz.isAgg346
 z76 := Tryz.sizeOf346
 v76 := Tryz.zeroValue346
 t77 := Tryz.underlying347
 a77 := Tryz.isAgg347
 z77 := Tryz.sizeOf347
 v77 := Tryz.zeroValue347
end Go.Proofs
namespace Go.Proofs
open Go Go.AI
set_option maxRecDepth 10000
def l3 (x : aq) : List Int := [x.k, x.a, x.b]
instance : Inhabited aq := ⟨⟨0, 0, 0⟩⟩
def vt (x y : aq) : Int := orS [ei x.k y.k, ei x.a y.a]
theorem pq (x y : aq) : ae Tryz.prog 93 [.agg (aw x), .agg (aw y)] (.int .i64 (vt x y)) := by
 refine ah aa Tryz.func93 rfl (by kernel_rfl) af (Nat.le_of_ble_eq_true rfl) ?_
 intro F n' w0 m0 hG hro h1
 repeat' first|refine Q1 ?_|refine Q2 ?_|refine Q3 hG aa pw ?_|refine Q4 hG aa pw ?_|refine Q5 hG aa ?_|refine Q6 hG aa ?_|refine Q7 hG aa ?_|refine Q8 hG aa ?_|refine Q9 rfl ?_|refine QF rfl ?_|refine QC rfl ⟨fun h => ?_,fun h => ?_⟩|((conv => whnf); first|refine anF ?_|refine anT ?_|refine anK ?_|refine Exists.intro _ (And.intro (ky _ _) ?_)|refine Exists.intro _ (And.intro (rH [ei x.k y.k, ei x.a y.a] (Nat.le_of_ble_eq_true rfl)) ?_)|refine And.intro (fun h => ?_) (fun h => ?_)|refine Or.inl ?_)
 all_goals exact Ends.mk (Or.inl rfl) (ac rfl)
def lh (x y : aq) : Bool := (x.k == y.k) && decide (y.a ≤ x.b)
theorem xD (x y : aq) : ae Tryz.prog 97 [.agg (aw x), .agg (aw y)] (.tup [.agg (aw ⟨x.k, x.a, max x.b y.b⟩), .bool (lh x y)]) := by
 refine ah aa Tryz.func97 rfl (by kernel_rfl) af (Nat.le_of_ble_eq_true rfl) ?_
 intro F n' w0 m0 hG hro h1
 repeat' first|refine Q1 ?_|refine Q2 ?_|refine Q3 hG aa pt ?_|refine Q4 hG aa pt ?_|refine Q5 hG aa ?_|refine Q6 hG aa ?_|refine Q7 hG aa ?_|refine Q8 hG aa ?_|refine Q9 rfl ?_|refine QF rfl ?_|refine QC rfl ⟨fun h => ?_,fun h => ?_⟩|((conv => whnf); first|refine anF ?_|refine anT ?_|refine anK ?_|refine And.intro (fun h => ?_) (fun h => ?_)|refine Or.inl ?_)
 all_goals refine Ends.mk (Or.inl rfl) (ac (congrArg (fun z => AV.tup [.agg (aw ⟨x.k, x.a, max x.b y.b⟩), .bool z]) ?_))
 all_goals simp only [lh, *, Bool.true_and, Bool.and_true, Bool.false_and, Bool.and_false, Bool.true_or, Bool.or_true, Bool.false_or, Bool.or_false, Bool.not_true, Bool.not_false]
theorem yp (x y : aq) : ltOf vt x y = true ↔ x.k < y.k ∨ (x.k = y.k ∧ x.a < y.a) := by
 unfold ltOf vt
 simp only [orS, ei, decide_eq_true_eq]
 by_cases h1 : x.k < y.k <;> by_cases h2 : y.k < x.k <;> by_cases h3 : x.a < y.a <;> by_cases h4 : y.a < x.a <;> simp [h1, h2, h3, h4] <;> omega
theorem tC (x y : aq) : ltOf vt x y = false ↔ leL y x := by
 have h := yp x y
 unfold leL
 cases hb : ltOf vt x y with
 | true => have := h.1 hb; simp; omega
 | false =>
  have : ¬ (x.k < y.k ∨ (x.k = y.k ∧ x.a < y.a)) := fun g => by rw [h.2 g] at hb; cases hb
  simp; omega
theorem BQ : Sort.SWO (ltOf vt) where
 irrefl x := by rw [tC]; unfold leL; omega
 trans x y z h1 h2 := by rw [yp] at *; omega
 ntrans x y z h1 h2 := by rw [tC] at *; unfold leL at *; omega
theorem rv (l : List aq) (hl : l.length ≤ 1000000) : eG Tryz.prog 168 3 (l.map l3) [.fn 93] (fun r rows => r = .tup [] ∧ ∃ l' : List aq, l'.Perm l ∧ l'.Pairwise (fun x y => ltOf vt y x = false) ∧ rows = l'.map l3) :=
 eG.sort l3 3 vt ry (fun _ => rfl) Tryz.isAgg74 Tryz.sizeOf74 BQ (fun x y => pq x y) (pq ⟨0, 0, 0⟩ ⟨0, 0, 0⟩).enters (enters_of Tryz.func168 (by kernel_rfl) rfl) l (by omega)
theorem ye (l : List aq) : dl (l.map l3) = l.map aw := by simp [dl, l3, aw]
def xV : List aq → List (Nat × AV)
 | [] => [(7, .sl .full 0 [])]
 | x :: r => [(7, .me .sl 46 (x :: r).length []), (xk 46, .me .arr 46 3 ((x :: r).map aw))]
theorem jb (o : List aq) (z : aq) : xV (o ++ [z]) = [(7, .me .sl 46 (o.length + 1) []), (xk 46, .me .arr 46 3 ((o ++ [z]).map aw))] := by
 cases o with
 | nil => rfl
 | cons x r => simp [xV]
theorem uH (o : List aq) (z x : aq) : xV (o ++ [z] ++ [x]) = [(7, .me .sl 46 (o.length + 1 + 1) []), (xk 46, .me .arr 46 3 ((o ++ [z]).map aw ++ [aw x]))] := by
 rw [jb, List.map_append, List.length_append]; rfl
theorem qp {α : Type} (a b : α) : ∀ l : List α, bQ (l ++ [a]) l.length b = l ++ [b]
 | [] => rfl
 | x :: l => by simp only [List.cons_append, List.length_cons, bQ, qp a b l]
theorem yV {l : List aq} (h : l ≠ []) : ∃ o z, dL l = o ++ [z] := by
 rcases gl l with rfl | ⟨m, x, rfl⟩
 ·exact absurd rfl h
 ·rw [dL, List.foldl_append]
  show ∃ o z, eN (dL m) x = o ++ [z]
  rcases gl (dL m) with e | ⟨o, y, e⟩
  ·rw [e]; exact ⟨[], x, rfl⟩
  ·rw [e, jl]
   split
   ·exact ⟨o, _, rfl⟩
   ·exact ⟨o ++ [y], x, rfl⟩
set_option maxHeartbeats 8000000 in
theorem xC (l : List aq) (hl : l.length ≤ 1000000) (hne : l ≠ []) : eG Tryz.prog 96 3 (l.map l3) [.fn 93, .fn 97] (fun r _ => ∃ l' : List aq, l'.Perm l ∧ l'.Pairwise leL ∧ r = bn (dL l')) := by
 refine eG.ofRebase aa Tryz.func96 rfl (by kernel_rfl) af (Nat.le_of_ble_eq_true rfl) (by kernel_rfl) (by kernel_rfl) (by kernel_rfl) 2 (by kernel_rfl) ?_
 intro F n' b cap hro h1 w0 m0 hG
 refine SPB.out ?_
 refine Q4 hG aa bh ?_
 conv => whnf
 refine And.intro rfl ?_
 conv => whnf
 refine And.intro rfl (And.intro rfl (And.intro rfl (Exists.intro _ (And.intro (rv l hl) ?_))))
 rintro r rows ⟨rfl, l', hp, hs, rfl⟩ _ _
 conv => whnf
 intro _ _ w2 m2 hG2
 rw [ye l']
 have hle : l'.Pairwise leL := hs.imp fun h => (tC _ _).1 h
 have hn' : l'.length = l.length := hp.length_eq
 have hpos : 0 < l'.length := by rw [hn']; exact List.length_pos_iff.2 hne
 clear hG
 have hG := hG2
 refine SPB.out ?_
 refine Q1 ?_
 refine SPB.regN hG aa bh [7] (by kernel_rfl) ?_
 conv => whnf
 repeat' first|refine Q1 ?_|refine Q2 ?_|refine Q3 hG aa bh ?_|refine Q4 hG aa bh ?_|refine Q5 hG aa ?_|refine Q6 hG aa ?_|refine Q7 hG aa ?_|refine Q8 hG aa ?_|refine Q9 rfl ?_|refine QF rfl ?_|refine QC rfl ⟨fun h => ?_,fun h => ?_⟩|((conv => whnf); first|refine anF ?_|refine anT ?_|refine anK ?_|refine And.intro (fun h => ?_) (fun h => ?_)|refine Or.inl ?_)
 refine ap (X := Nat) (fun i => ⟨(18, .int .i64 i) :: (17, .int .i64 (l'.map aw).length) :: (16, bn l') :: (2, .fn 97) :: xV (dL (l'.take i)), []⟩) (fun i => i ≤ l'.length) (fun i => l'.length - i) 0 (Nat.zero_le _) (ag ?_ ?_) (fun i hi => ?_)
 ·repeat' (first | exact trivial | refine And.intro rfl ?_)
 ·repeat' (first | exact trivial | refine And.intro rfl ?_)
 ·by_cases hlt : i < l'.length
  ·have bbk : decide ((i : Int) < ((l'.map aw).length : Int)) = false → False := fun h => by have := of_decide_eq_false h; simp at this; omega
   have hx : (l'.map aw)[(i : Int).toNat]? = some (aw l'[i]) := by simp [List.getElem?_eq_getElem hlt]
   have hsn : dL (l'.take (i + 1)) = eN (dL (l'.take i)) l'[i] := by
    rw [dL, List.take_add_one, List.getElem?_eq_getElem hlt, List.foldl_append]; rfl
   have hbd : (dL (l'.take i)).length ≤ i := by
    have := lx (l'.take i) []
    simp only [List.length_nil, Nat.zero_add, List.length_take] at this
    unfold dL; omega
   generalize l'[i] = x at hx hsn
   generalize dL (l'.take i) = out at hsn hbd
   rcases gl out with rfl | ⟨o, z, rfl⟩
   ·have bb0 : decide ((([] : List (List AV)).length : Int) > 0) = true → False := fun h => by simp at h
    have bb1 : decide ((0 : Int) > 0) = true → False := fun h => by simp at h
    repeat' first|exact (bbk (by assumption)).elim|exact (bb0 (by assumption)).elim|exact (bb1 (by assumption)).elim|refine Q1 ?_|refine Q2 ?_|refine Q3 hG aa bh ?_|refine Q4 hG aa bh ?_|refine Q5 hG aa ?_|refine Q6 hG aa ?_|refine Q7 hG aa ?_|refine Q8 hG aa ?_|refine Q9 rfl ?_|refine QF rfl ?_|refine QC rfl ⟨fun h => ?_,fun h => ?_⟩|((conv => whnf); first|refine anF ?_|refine anT ?_|refine anK ?_|refine And.intro (Int.natCast_nonneg i) (Exists.intro _ (And.intro hx ?_))|refine Or.inr (And.intro rfl (And.intro (Nat.le_of_ble_eq_true rfl) (And.intro (Nat.le_of_ble_eq_true rfl) (And.intro (Nat.le_of_ble_eq_true rfl) ?_))))|refine And.intro (fun h => ?_) (fun h => ?_)|refine Or.inl ?_)
    refine Exists.intro (i + 1) (And.intro hlt (And.intro (by omega) ?_))
    dsimp only
    rw [hsn, show eN [] x = [x] from rfl]
    refine ag (And.intro (congrArg some (am (by omega))) ?_) ?_
    ·repeat' (first | exact trivial | refine And.intro rfl ?_)
    ·repeat' (first | exact trivial | refine And.intro rfl ?_)
   ·rw [jb]
    have hgt : decide (((o.length + 1 : Nat) : Int) > 0) = false → False := fun h => by have := of_decide_eq_false h; omega
    have hbo : o.length + 1 ≤ i := by simpa using hbd
    have hln : ((o ++ [z]).map aw).length = o.length + 1 := by simp
    have hw : IntKind.i64.wrap (((o.length + 1 : Nat) : Int) - 1) = (o.length : Int) := (ai (by omega) (by omega)).trans (by omega)
    have h0 : 0 ≤ IntKind.i64.wrap (((o.length + 1 : Nat) : Int) - 1) := by rw [hw]; exact Int.natCast_nonneg _
    have hl1 : IntKind.i64.wrap (((o.length + 1 : Nat) : Int) - 1) < ((o.length + 1 : Nat) : Int) := by rw [hw]; omega
    have hz : ((o ++ [z]).map aw)[(IntKind.i64.wrap (((o.length + 1 : Nat) : Int) - 1)).toNat]? = some (aw z) := by rw [hw]; simp
    rw [jl] at hsn
    repeat' first|exact (bbk (by assumption)).elim|exact (hgt (by assumption)).elim|refine Q1 ?_|refine Q2 ?_|refine Q3 hG aa bh ?_|refine Q4 hG aa bh ?_|refine Q5 hG aa ?_|refine Q6 hG aa ?_|refine Q7 hG aa ?_|refine Q8 hG aa ?_|refine Q9 rfl ?_|refine QF rfl ?_|refine QC rfl ⟨fun h => ?_,fun h => ?_⟩|((conv => whnf); first|refine anF ?_|refine anT ?_|refine anK ?_|refine And.intro (Int.natCast_nonneg i) (Exists.intro _ (And.intro hx ?_))|refine And.intro h0 (And.intro hl1 ?_)|refine Exists.intro _ (And.intro hz ?_)|refine Exists.intro _ (And.intro (xD _ _) ?_)|refine And.intro (Nat.le_of_ble_eq_true rfl) (And.intro (show (((o ++ [z]).map aw).length + 1) * 24 ≤ 70368744177664 by rw [hln]; omega) (And.intro (show ((o ++ [z]).map aw).length + 1 ≤ 4611686018427387904 by rw [hln]; omega) ?_))|refine And.intro (fun h => ?_) (fun h => ?_)|refine Or.inl ?_)
    ·have ht := (by assumption : lh z x = true)
     simp only [lh, Bool.and_eq_true, beq_iff_eq, decide_eq_true_eq] at ht
     rw [if_pos ht] at hsn
     refine Exists.intro (i + 1) (And.intro hlt (And.intro (by omega) ?_))
     dsimp only
     rw [hsn, jb]
     refine ag (And.intro (congrArg some (am (by omega))) (And.intro rfl (And.intro rfl (And.intro rfl (And.intro rfl (And.intro (congrArg (fun q => some (AV.me .arr 46 3 q)) ?_) trivial)))))) ?_
     ·rw [hw, Int.toNat_natCast]
      have e := qp (aw z) (aw ⟨z.k, z.a, max z.b x.b⟩) (o.map aw)
      rw [List.length_map] at e
      rw [List.map_append, List.map_append]
      exact e
     ·repeat' (first | exact trivial | refine And.intro rfl ?_)
    ·have ht := (by assumption : lh z x = false)
     have ht : ¬ (z.k = x.k ∧ x.a ≤ z.b) := fun h => by
      have : lh z x = true := by simp only [lh, Bool.and_eq_true, beq_iff_eq, decide_eq_true_eq]; exact h
      rw [this] at ht; cases ht
     rw [if_neg ht] at hsn
     refine Exists.intro (i + 1) (And.intro hlt (And.intro (by omega) ?_))
     dsimp only
     rw [hsn, uH]
     refine ag (And.intro (congrArg some (am (by omega))) ?_) ?_
     ·repeat' (first | exact trivial | refine And.intro rfl ?_)
     ·repeat' (first | exact trivial | refine And.intro rfl ?_)
  ·have he : l'.take i = l' := List.take_of_length_le (by omega)
   have bbk : decide ((i : Int) < ((l'.map aw).length : Int)) = true → False := fun h => by have := of_decide_eq_true h; simp at this; omega
   rw [he]
   obtain ⟨o, z, hoz⟩ := yV (l := l') (by intro h; rw [h] at hpos; simp at hpos)
   rw [hoz, jb]
   refine SPB.frz [.tmp 7] ?_
   conv => whnf
   repeat' first|exact (bbk (by assumption)).elim|refine Q1 ?_|refine Q2 ?_|refine Q3 hG aa bh ?_|refine Q4 hG aa bh ?_|refine Q5 hG aa ?_|refine Q6 hG aa ?_|refine Q7 hG aa ?_|refine Q8 hG aa ?_|refine Q9 rfl ?_|refine QF rfl ?_|refine QC rfl ⟨fun h => ?_,fun h => ?_⟩|((conv => whnf); first|refine anF ?_|refine anT ?_|refine anK ?_|refine And.intro (fun h => ?_) (fun h => ?_)|refine Or.inl ?_)
   refine Exists.intro (bn (dL l')) (And.intro ⟨l', hp, hle, rfl⟩ (Ends.mk (Or.inl rfl) (ac ?_)))
   rw [hoz]; rfl
end Go.Proofs
namespace Go.Proofs
open Go Go.AI
set_option maxRecDepth 10000
theorem rV : ae Tryz.prog 96 [.sl .no 3 [], .fn 93, .fn 97] (bn []) := by
 have ks := ae.sortNil ry (enters_of Tryz.func168 (by kernel_rfl) rfl) 3 93 (o := .no)
 refine ah aa Tryz.func96 rfl (by kernel_rfl) af (Nat.le_of_ble_eq_true rfl) ?_
 intro F n' w0 m0 hG hro h1
 repeat' first|refine Q1 ?_|refine Q2 ?_|refine Q3 hG aa bh ?_|refine Q4 hG aa bh ?_|refine Q5 hG aa ?_|refine Q6 hG aa ?_|refine Q7 hG aa ?_|refine Q8 hG aa ?_|refine Q9 rfl ?_|refine QF rfl ?_|refine QC rfl ⟨fun h => ?_,fun h => ?_⟩|((conv => whnf); first|refine anF ?_|refine anT ?_|refine anK ?_|refine Exists.intro _ (And.intro (ks) ?_)|refine And.intro (fun h => ?_) (fun h => ?_)|refine Or.inl ?_)
 refine ap (X := Unit) (fun _ => ⟨[(18, .int .i64 0), (17, .int .i64 0), (7, .sl (.id 7) 3 [])], []⟩) (fun _ => True) (fun _ => 0) () trivial (ag ?_ ?_) (fun i hi => ?_)
 ·repeat' (first | exact trivial | refine And.intro rfl ?_)
 ·repeat' (first | exact trivial | refine And.intro rfl ?_)
 ·have bb : decide ((0 : Int) < 0) = true → False := fun h => by simp at h
  repeat' first|exact (bb (by assumption)).elim|refine Q1 ?_|refine Q2 ?_|refine Q3 hG aa bh ?_|refine Q4 hG aa bh ?_|refine Q5 hG aa ?_|refine Q6 hG aa ?_|refine Q7 hG aa ?_|refine Q8 hG aa ?_|refine Q9 rfl ?_|refine QF rfl ?_|refine QC rfl ⟨fun h => ?_,fun h => ?_⟩|((conv => whnf); first|refine anF ?_|refine anT ?_|refine anK ?_|refine And.intro (fun h => ?_) (fun h => ?_)|refine Or.inl ?_)
  exact Ends.mk (Or.inl rfl) (ac rfl)
def uR (l : List Opt) : Bool := decide (8 < l.length)
theorem zr (l : List Opt) : BX l = (bf l).any fun x => !bi x.1 x.2 := by
 unfold BX bf
 rw [List.any_flatMap]
 congr 1
 funext o
 rw [List.any_map]; rfl
theorem rl (l : List Opt) : tL l = (uR l || mK l || (bf l).any fun x => !bi x.1 x.2) := by
 unfold tL; rw [zr]; rfl
theorem xj : kk [] = [] := by simp [kk, dL]
theorem uI (l : List Opt) : (jc l).length = l.length + (bf l).length := by rw [jc, mf]; simp [gw]
set_option maxHeartbeats 16000000 in
theorem lK (l : List Opt) (hl : l.length ≤ 1000000) (hs : gV l) (hsp : (bf l).length ≤ 900000) : ae Tryz.prog 27 [ay l] (bn (aC l)) := by
 refine ae.ofBm aa Tryz.func27 rfl (by kernel_rfl) af (Nat.le_of_ble_eq_true rfl) ?_
 intro F n' w0 m0 hG hro h9 hm0
 repeat' first|refine Q1 ?_|refine Q2 ?_|refine Q3 hG aa a7 ?_|refine Q4 hG aa a7 ?_|refine Q5 hG aa ?_|refine Q6 hG aa ?_|refine Q7 hG aa ?_|refine Q8 hG aa ?_|refine Q9 rfl ?_|refine QF rfl ?_|refine QC rfl ⟨fun h => ?_,fun h => ?_⟩|((conv => whnf); first|refine anF ?_|refine anT ?_|refine anK ?_|refine And.intro (fun h => ?_) (fun h => ?_)|refine Or.inl ?_)
 have hn8 : decide (((l.map aD).length : Int) > 8) = uR l := by rw [List.length_map]; exact decide_eq_decide.2 (by omega)
 rw [hn8]
 refine SPB.resize 3 0 1003000 3 rfl rfl ?_
 refine ap (X := Nat) (fun i => ⟨[(14, .int .i64 i), (13, .int .i64 (l.map aD).length), (12, ay l), (4, .loc 4 0), (3, .loc 3 0), (0, ay l)], [(4, [.bool (uR l || mK (l.take i))]), (3, [.sl (.id 1003000) 3 ((gw (l.take i)).map aw)])]⟩) (fun i => i ≤ l.length) (fun i => l.length - i) 0 (Nat.zero_le _) (ag ?_ ?_) (fun i hi => ?_)
 ·repeat' (first | exact trivial | refine And.intro rfl ?_)
 ·refine And.intro (congrArg (fun z => some [AV.bool z]) (by simp [mK])) ?_
  repeat' (first | exact trivial | refine And.intro rfl ?_)
 ·by_cases hlt : i < l.length
  ·have bbk : decide ((i : Int) < ((l.map aD).length : Int)) = false → False := fun h => by have := of_decide_eq_false h; simp at this; omega
   have hx := c8 hlt
   have hsA : gw (l.take (i + 1)) = gw (l.take i) ++ [⟨1, (au l i).a, (au l i).b⟩] := by
    rw [List.take_add_one, List.getElem?_eq_getElem hlt, bj hlt]; exact List.map_append
   have hbA : mK (l.take (i + 1)) = (mK (l.take i) || (!bi (au l i).a (au l i).b || decide (6 < (au l i).sl.length))) := by
    rw [List.take_add_one, List.getElem?_eq_getElem hlt, bj hlt]
    unfold mK
    rw [List.any_append]; simp
   have hln : ((gw (l.take i)).map aw).length = i := by simp [gw]; omega
   generalize au l i = x at hx hsA hbA
   have h6 : decide (((x.sl.map aL).length : Int) > 6) = decide (6 < x.sl.length) := by rw [List.length_map]; exact decide_eq_decide.2 (by omega)
   have hrow : (gw (l.take (i + 1))).map aw = (gw (l.take i)).map aw ++ [[.int .i64 1, .int .i64 x.a, .int .i64 x.b]] := by rw [hsA, List.map_append]; rfl
   generalize (gw (l.take i)).map aw = row at hln hrow
   obtain ⟨wb, hwb⟩ : ∃ wb, wb = (uR l || mK (l.take i)) := ⟨_, rfl⟩
   rw [← hwb]
   have hw2 : (uR l || mK (l.take (i + 1))) = (wb || (!bi x.a x.b || decide (6 < x.sl.length))) := by rw [hbA, hwb, Bool.or_assoc]
   repeat' first|exact (bbk (by assumption)).elim|refine Q1 ?_|refine Q2 ?_|refine Q3 hG aa a7 ?_|refine Q4 hG aa a7 ?_|refine Q5 hG aa ?_|refine Q6 hG aa ?_|refine Q7 hG aa ?_|refine Q8 hG aa ?_|refine Q9 rfl ?_|refine QF rfl ?_|refine QC rfl ⟨fun h => ?_,fun h => ?_⟩|((conv => whnf); first|refine anF ?_|refine anT ?_|refine anK ?_|refine And.intro (Int.natCast_nonneg i) (Exists.intro _ (And.intro hx ?_))|refine Exists.intro _ (And.intro (ro _ _) ?_)|refine And.intro (show (row.length + 1) * 24 ≤ 70368744177664 by omega) (And.intro (show row.length + 1 ≤ 4611686018427387904 by omega) ?_)|refine And.intro (fun h => ?_) (fun h => ?_)|refine Or.inl ?_)
   all_goals refine Exists.intro (i + 1) (And.intro hlt (And.intro (by omega) ?_))
   all_goals dsimp only
   all_goals rw [hw2, hrow]
   all_goals refine ag (And.intro (congrArg some (am (by omega))) ?_) (And.intro (congrArg (fun z => some [AV.bool z]) ?_) ?_)
   all_goals first
    |(clear hwb hw2; simp only [h6, *, Bool.true_and, Bool.and_true, Bool.false_and, Bool.and_false, Bool.true_or, Bool.or_true, Bool.false_or, Bool.or_false, Bool.not_true, Bool.not_false]; done)
    |(repeat' (first | exact trivial | refine And.intro rfl ?_))
  ·have bbk : decide ((i : Int) < ((l.map aD).length : Int)) = true → False := fun h => by have := of_decide_eq_true h; simp at this; omega
   have he : l.take i = l := List.take_of_length_le (by omega)
   rw [he]
   repeat' first|exact (bbk (by assumption)).elim|refine Q1 ?_|refine Q2 ?_|refine Q3 hG aa a7 ?_|refine Q4 hG aa a7 ?_|refine Q5 hG aa ?_|refine Q6 hG aa ?_|refine Q7 hG aa ?_|refine Q8 hG aa ?_|refine Q9 rfl ?_|refine QF rfl ?_|refine QC rfl ⟨fun h => ?_,fun h => ?_⟩|((conv => whnf); first|refine anF ?_|refine anT ?_|refine anK ?_|refine Exists.intro _ (And.intro (oR l) ?_)|refine And.intro (fun h => ?_) (fun h => ?_)|refine Or.inl ?_)
   have hAB : jc l = gw l ++ (bf l).map (mkK 2) := by rw [jc, mf]
   refine ⟨SP.rangeM hG hro (Nat.le_trans (by decide) h9) (α := Int × Int) spA (f := 166) (cap := [.ref [ay l]]) (items := bf l) rfl (js l hl hs) (fun _ => rfl) (fun _ => [(4, .loc 4 0), (3, .loc 3 0)]) [4, 3] (fun _ => rfl)
    (fun pre => [(4, [.bool (uR l || mK l || pre.any fun x => !bi x.1 x.2)]), (3, [.sl (.id 1003000) 3 ((gw l ++ pre.map (mkK 2)).map aw)])]) (ag ?_ ?_) (by kernel_rfl) (by decide) ?_ ?_⟩
   ·repeat' (first | exact trivial | refine And.intro rfl ?_)
   ·refine And.intro (congrArg (fun z => some [AV.bool z]) (by simp)) (And.intro (congrArg (fun z => some [AV.sl (.id 1003000) 3 z]) (by simp)) trivial)
   ·intro F' n'' m' hG' pre x rest hx
    clear hG
    have hG := hG'
    have hpl : pre.length < 1000000 := by
     have := congrArg List.length hx
     simp at this; omega
    have hrl : (gw l).length ≤ 1000000 := by simp [gw]; omega
    have hrow : (gw l ++ (pre ++ [x]).map (mkK 2)).map aw = (gw l ++ pre.map (mkK 2)).map aw ++ [[.int .i64 2, .int .i64 x.1, .int .i64 x.2]] := by simp [aw, mkK]
    have hln : ((gw l ++ pre.map (mkK 2)).map aw).length ≤ 3000000 := by simp; omega
    generalize (gw l ++ pre.map (mkK 2)).map aw = row at hln hrow
    obtain ⟨wb, hwb⟩ : ∃ wb, wb = (uR l || mK l || pre.any fun x => !bi x.1 x.2) := ⟨_, rfl⟩
    rw [← hwb]
    have hw2 : (uR l || mK l || (pre ++ [x]).any fun x => !bi x.1 x.2) = (wb || !bi x.1 x.2) := by rw [List.any_append, hwb]; simp [Bool.or_assoc]
    refine SPB.out (Q4 hG aa a7 ?_)
    conv => whnf
    refine And.intro rfl (And.intro (ag ?_ ?_) ?_)
    ·repeat' (first | exact trivial | refine And.intro rfl ?_)
    ·repeat' (first | exact trivial | refine And.intro rfl ?_)
    refine SPB.out ?_
    repeat' first|refine Q1 ?_|refine Q2 ?_|refine Q3 hG aa a7 ?_|refine Q4 hG aa a7 ?_|refine Q5 hG aa ?_|refine Q6 hG aa ?_|refine Q7 hG aa ?_|refine Q8 hG aa ?_|refine Q9 rfl ?_|refine QF rfl ?_|refine QC rfl ⟨fun h => ?_,fun h => ?_⟩|((conv => whnf); first|refine anF ?_|refine anT ?_|refine anK ?_|refine Exists.intro _ (And.intro (ro _ _) ?_)|refine And.intro (show (row.length + 1) * 24 ≤ 70368744177664 by omega) (And.intro (show row.length + 1 ≤ 4611686018427387904 by omega) ?_)|refine And.intro (fun h => ?_) (fun h => ?_)|refine Or.inl ?_)
    all_goals (refine ag ?_ ?_)
    all_goals first
     |(dsimp only; rw [hw2, hrow]; clear hwb hw2; refine And.intro (congrArg (fun z => some [AV.bool z]) ?_) (And.intro rfl trivial); simp only [*, Bool.true_and, Bool.and_true, Bool.false_and, Bool.and_false, Bool.true_or, Bool.or_true, Bool.false_or, Bool.or_false, Bool.not_true, Bool.not_false]; done)
     |(repeat' (first | exact trivial | refine And.intro rfl ?_))
   ·conv => whnf
    by_cases hne : jc l = []
    ·rw [← hAB, hne]
     repeat' first|refine Q1 ?_|refine Q2 ?_|refine Q3 hG aa a7 ?_|refine Q4 hG aa a7 ?_|refine Q5 hG aa ?_|refine Q6 hG aa ?_|refine Q7 hG aa ?_|refine Q8 hG aa ?_|refine Q9 rfl ?_|refine QF rfl ?_|refine QC rfl ⟨fun h => ?_,fun h => ?_⟩|((conv => whnf); first|refine anF ?_|refine anT ?_|refine anK ?_|refine Exists.intro _ (And.intro (rV) ?_)|refine And.intro (fun h => ?_) (fun h => ?_)|refine Or.inl ?_)
     ·refine Ends.mk (Or.inl rfl) (ac ?_)
      rw [aC, rl, if_pos ‹_›]; rfl
     ·refine Ends.mk (Or.inl rfl) (ac ?_)
      rw [aC, hne, xj]; split <;> rfl
    ·rw [← hAB]
     repeat' first|refine SPB.oreg (id := 16) hG aa hm0 a7 2 (by kernel_rfl) ?_|refine Q1 ?_|refine Q2 ?_|refine Q3 hG aa a7 ?_|refine Q4 hG aa a7 ?_|refine Q5 hG aa ?_|refine Q6 hG aa ?_|refine Q7 hG aa ?_|refine Q8 hG aa ?_|refine Q9 rfl ?_|refine QF rfl ?_|refine QC rfl ⟨fun h => ?_,fun h => ?_⟩|((conv => whnf); first|refine anF ?_|refine anT ?_|refine anK ?_|refine And.intro (fun h => ?_) (fun h => ?_)|refine Or.inl ?_)
     ·refine Ends.mk (Or.inl rfl) (ac ?_)
      rw [aC, rl, if_pos ‹_›]; rfl
     ·have hb : tL l = false := by rw [rl]; assumption
      have h8 : l.length ≤ 8 := by
       have := hb; unfold tL at this; simp at this; omega
      conv => whnf
      refine Exists.intro ((jc l).map l3) (Exists.intro _ (And.intro (xC (jc l) ?_ hne) (And.intro (ye _).symm (And.intro ?_ (And.intro (by decide) (And.intro ?_ (And.intro rfl ?_)))))))
      ·rw [uI]; omega
      ·simpa using hne
      ·intro x hx; obtain ⟨y, _, rfl⟩ := List.mem_map.1 hx; rfl
      ·rintro r rows ⟨l', hp, hle, rfl⟩ _ _
       repeat' first|refine Q1 ?_|refine Q2 ?_|refine Q3 hG aa a7 ?_|refine Q4 hG aa a7 ?_|refine Q5 hG aa ?_|refine Q6 hG aa ?_|refine Q7 hG aa ?_|refine Q8 hG aa ?_|refine Q9 rfl ?_|refine QF rfl ?_|refine QC rfl ⟨fun h => ?_,fun h => ?_⟩|((conv => whnf); first|refine anF ?_|refine anT ?_|refine anK ?_|refine And.intro (fun h => ?_) (fun h => ?_)|refine Or.inl ?_)
       have hg := qU.1 hb
       refine Ends.mk (Or.inl rfl) (ac ?_)
       rw [uX (fun x h => (hg.raw x h).2.2.1) hp hle, ← hg.loads]; rfl
end Go.Proofs
namespace Go.Proofs
open Go Go.AI
set_option maxRecDepth 10000
def p2 (x : Int × Int) : List Int := [x.1, x.2]
def pA (x : Int × Int) : List AV := [.int .i64 x.1, .int .i64 x.2]
def vq (x y : Int × Int) : Int := ei x.1 y.1
theorem qd (x y : Int × Int) : ltOf vq y x = false ↔ x.1 ≤ y.1 := by
 unfold ltOf vq
 simp only [ei]
 by_cases h1 : y.1 < x.1 <;> by_cases h2 : x.1 < y.1 <;> simp [h1, h2] <;> omega
theorem DN (x y : Int × Int) : ltOf vq x y = true ↔ x.1 < y.1 := by
 have := qd y x
 cases h : ltOf vq x y
 ·simp; exact this.1 h
 ·simp
  rw [h] at this
  simp at this; exact this
theorem BP : Sort.SWO (ltOf vq) where
 irrefl x := by rw [qd]; omega
 trans x y z h1 h2 := by rw [DN] at *; omega
 ntrans x y z h1 h2 := by rw [qd] at *; omega
theorem og (x y : Int × Int) : ae Tryz.prog 173 [.agg (pA x), .agg (pA y)] (.int .i64 (vq x y)) := by
 refine ah aa Tryz.func173 rfl (by kernel_rfl) af (Nat.le_of_ble_eq_true rfl) ?_
 intro F n' w0 m0 hG hro h1
 repeat' first|refine Q1 ?_|refine Q2 ?_|refine Q3 hG aa nG ?_|refine Q4 hG aa nG ?_|refine Q5 hG aa ?_|refine Q6 hG aa ?_|refine Q7 hG aa ?_|refine Q8 hG aa ?_|refine Q9 rfl ?_|refine QF rfl ?_|refine QC rfl ⟨fun h => ?_,fun h => ?_⟩|((conv => whnf); first|refine anF ?_|refine anT ?_|refine anK ?_|refine Exists.intro _ (And.intro (ky _ _) ?_)|refine And.intro (fun h => ?_) (fun h => ?_)|refine Or.inl ?_)
 all_goals exact Ends.mk (Or.inl rfl) (ac rfl)
theorem rp (l : List (Int × Int)) (hl : l.length ≤ 4000000) : eG Tryz.prog 172 2 (l.map p2) [.fn 173] (fun r rows => r = .tup [] ∧ ∃ l' : List (Int × Int), l'.Perm l ∧ l'.Pairwise (fun x y => ltOf vq y x = false) ∧ rows = l'.map p2) :=
 eG.sort p2 2 vq ru (fun _ => rfl) Tryz.isAgg241 Tryz.sizeOf241 BP (fun x y => og x y) (og (0, 0) (0, 0)).enters (enters_of Tryz.func172 (by kernel_rfl) rfl) l (by omega)
theorem yd (l : List (Int × Int)) : dl (l.map p2) = l.map pA := by simp [dl, p2, pA]
def Bg : List (Int × Int) → List (Nat × AV)
 | [] => [(3, .sl .full 0 [])]
 | x :: r => [(3, .me .sl 30 (x :: r).length []), (xk 30, .me .arr 30 2 ((x :: r).map pA))]
theorem wI (z : Int × Int) (o : List (Int × Int)) (a b : Int × Int) : Bg (z :: o ++ [a, b]) = [(3, .me .sl 30 ((z :: o).length + 2) []), (xk 30, .me .arr 30 2 ((z :: o).map pA ++ [pA a, pA b]))] := by
 simp [Bg]
def gQ : Img := ⟨0, 0, 0, 0⟩
theorem wz {l : List Img} {i : Nat} (h : i < l.length) : bt (l.take (i + 1)) = bt (l.take i) ++ [((l.getD i gQ).a, (l.getD i gQ).u), ((l.getD i gQ).b, 0 - (l.getD i gQ).u)] := by
 induction l generalizing i with
 | nil => simp at h
 | cons x r ih =>
  cases i with
  | zero => rfl
  | succ i => 
   have := ih (i := i) (by simpa using h)
   simp only [List.take_succ_cons, bt, this, List.getD_cons_succ, List.cons_append]
theorem oG {l : List Img} {i : Nat} (h : i < l.length) : (l.map eD)[(i : Int).toNat]? = some (eD (l.getD i gQ)) := by simp [List.getElem?_eq_getElem h]
theorem ou : ∀ l : List Img, (bt l).length = 2 * l.length
 | [] => rfl
 | x :: r => by simp only [bt, List.length_cons, ou r]; omega
theorem vg (f : Int) (x y : Int × Int) (r : List (Int × Int)) : bV f (x :: y :: r) = if y.1 = x.1 then bV (f + x.2) (y :: r) else (x.1, f + x.2) :: bV (f + x.2) (y :: r) := rfl
theorem ux : ∀ (l : List Img), (∀ x ∈ l, 0 ≤ x.u ∧ x.u ≤ 1000000) → ∀ p ∈ bt l, -1000000 ≤ p.2 ∧ p.2 ≤ 1000000
 | [], _, p, hp => nomatch hp
 | x :: r, h, p, hp => by
  have h1 := h x (.head _)
  simp only [bt, List.mem_cons] at hp
  rcases hp with rfl | rfl | hp
  ·dsimp only; omega
  ·dsimp only; omega
  ·exact ux r (fun y hy => h y (.tail _ hy)) p hp
theorem vm {α : Type} {l : List α} {k : Nat} {a : α} {t : List α} (h : a :: t = l.drop k) : l[k]? = some a ∧ t = l.drop (k + 1) ∧ k < l.length := by
 have h1 : (l.drop k)[0]? = some a := by rw [← h]; rfl
 rw [List.getElem?_drop] at h1
 refine ⟨by simpa using h1, ?_, (List.getElem?_eq_some_iff.1 (by simpa using h1)).1⟩
 have := congrArg List.tail h
 rw [List.tail_drop] at this
 exact this
theorem xF (l : List Img) : ae Tryz.prog 106 [fg l] (.clo 171 [.ref [fg l]]) := by
 refine ah aa Tryz.func106 rfl (by kernel_rfl) af (Nat.le_of_ble_eq_true rfl) ?_
 intro F n' w0 m0 hG hro h1
 repeat' first|refine Q1 ?_|refine Q2 ?_|refine Q3 hG aa ob ?_|refine Q4 hG aa ob ?_|refine Q5 hG aa ?_|refine Q6 hG aa ?_|refine Q7 hG aa ?_|refine Q8 hG aa ?_|refine Q9 rfl ?_|refine QF rfl ?_|refine QC rfl ⟨fun h => ?_,fun h => ?_⟩|((conv => whnf); first|refine anF ?_|refine anT ?_|refine anK ?_|refine And.intro (fun h => ?_) (fun h => ?_)|refine Or.inl ?_)
 all_goals exact Ends.mk (Or.inl rfl) (ac rfl)
set_option maxHeartbeats 8000000 in
theorem rZ (l : List Img) (hl : l.length ≤ 1000000) (hu : ∀ x ∈ l, 0 ≤ x.u ∧ x.u ≤ 1000000) : lf Tryz.prog pA 171 [.ref [fg l]] (cr l) := by
 refine lf.of Tryz.func171 rfl (by kernel_rfl) af (Nat.le_of_ble_eq_true rfl) rfl ?_
 intro F n m y J Jx hY
 have ks := ae.sortNil ru (enters_of Tryz.func172 (by kernel_rfl) rfl) 0 173 (o := .full)
 have hbd := ux l hu
 refine MPB.seq ?_
 refine MPB.sp (by kernel_rfl) (fun W0 m0 hG hms => ?_) hY
 refine SPB.regN hG aa aH [3] (by kernel_rfl) ?_
 conv => whnf
 refine MPB.seq ?_
 refine MPB.sp (by kernel_rfl) (fun W0 m0 hG hms => ?_) hY
 repeat' first|refine Q1 ?_|refine Q2 ?_|refine Q3 hG aa aH ?_|refine Q4 hG aa aH ?_|refine Q5 hG aa ?_|refine Q6 hG aa ?_|refine Q7 hG aa ?_|refine Q8 hG aa ?_|refine Q9 rfl ?_|refine QF rfl ?_|refine QC rfl ⟨fun h => ?_,fun h => ?_⟩|((conv => whnf); first|refine anF ?_|refine anT ?_|refine anK ?_|refine And.intro (fun h => ?_) (fun h => ?_)|refine Or.inl ?_)
 refine ap (X := Nat) (fun i => ⟨(11, .int .i64 i) :: (10, .int .i64 (l.map eD).length) :: (9, fg l) :: (0, .lit (.func (.yield y) #[] #[])) :: Bg (bt (l.take i)), []⟩) (fun i => i ≤ l.length) (fun i => l.length - i) 0 (Nat.zero_le _) (ag ?_ ?_) (fun i hi => ?_)
 ·repeat' (first | exact trivial | refine And.intro rfl ?_)
 ·repeat' (first | exact trivial | refine And.intro rfl ?_)
 ·by_cases hlt : i < l.length
  ·have bbk : decide ((i : Int) < ((l.map eD).length : Int)) = false → False := fun h => by have := of_decide_eq_false h; simp at this; omega
   have hx := oG hlt
   have hux : 0 ≤ (l.getD i gQ).u ∧ (l.getD i gQ).u ≤ 1000000 := hu _ (by rw [List.getD_eq_getElem?_getD, List.getElem?_eq_getElem hlt]; exact List.getElem_mem hlt)
   have hst := wz hlt
   have hln : (bt (l.take i)).length = 2 * i := by rw [ou, List.length_take]; omega
   generalize l.getD i gQ = x at hx hux hst
   have hng : IntKind.i64.wrap (0 - x.u) = 0 - x.u := (ai (by omega) (by omega)).trans (by omega)
   generalize bt (l.take i) = st at hst hln
   rcases st with _ | ⟨z, o⟩
   ·skip
    repeat' first|exact (bbk (by assumption)).elim|refine Q1 ?_|refine Q2 ?_|refine Q3 hG aa aH ?_|refine Q4 hG aa aH ?_|refine Q5 hG aa ?_|refine Q6 hG aa ?_|refine Q7 hG aa ?_|refine Q8 hG aa ?_|refine Q9 rfl ?_|refine QF rfl ?_|refine QC rfl ⟨fun h => ?_,fun h => ?_⟩|((conv => whnf); first|refine anF ?_|refine anT ?_|refine anK ?_|refine And.intro (Int.natCast_nonneg i) (Exists.intro _ (And.intro hx ?_))|refine Or.inr (And.intro rfl (And.intro (Nat.le_of_ble_eq_true rfl) (And.intro (Nat.le_of_ble_eq_true rfl) (And.intro (Nat.le_of_ble_eq_true rfl) ?_))))|refine And.intro (fun h => ?_) (fun h => ?_)|refine Or.inl ?_)
    conv => whnf
    refine Exists.intro (i + 1) (And.intro hlt (And.intro (by omega) ?_))
    rw [hst, hng]
    refine ag (And.intro (congrArg some (am (by omega))) ?_) ?_
    ·repeat' (first | exact trivial | refine And.intro rfl ?_)
    ·repeat' (first | exact trivial | refine And.intro rfl ?_)
   ·have hml : ((z :: o).map pA).length = 2 * i := by rw [List.length_map]; exact hln
    repeat' first|exact (bbk (by assumption)).elim|refine Q1 ?_|refine Q2 ?_|refine Q3 hG aa aH ?_|refine Q4 hG aa aH ?_|refine Q5 hG aa ?_|refine Q6 hG aa ?_|refine Q7 hG aa ?_|refine Q8 hG aa ?_|refine Q9 rfl ?_|refine QF rfl ?_|refine QC rfl ⟨fun h => ?_,fun h => ?_⟩|((conv => whnf); first|refine anF ?_|refine anT ?_|refine anK ?_|refine And.intro (Int.natCast_nonneg i) (Exists.intro _ (And.intro hx ?_))|refine And.intro (Nat.le_of_ble_eq_true rfl) (And.intro (show (((z :: o).map pA).length + 2) * 16 ≤ 70368744177664 by rw [hml]; omega) (And.intro (show ((z :: o).map pA).length + 2 ≤ 4611686018427387904 by rw [hml]; omega) ?_))|refine And.intro (fun h => ?_) (fun h => ?_)|refine Or.inl ?_)
    conv => whnf
    refine Exists.intro (i + 1) (And.intro hlt (And.intro (by omega) ?_))
    rw [hst, wI, hng]
    refine ag (And.intro (congrArg some (am (by omega))) ?_) ?_
    ·repeat' (first | exact trivial | refine And.intro rfl ?_)
    ·repeat' (first | exact trivial | refine And.intro rfl ?_)
  ·have he : l.take i = l := List.take_of_length_le (by omega)
   have bbk : decide ((i : Int) < ((l.map eD).length : Int)) = true → False := fun h => by have := of_decide_eq_true h; simp at this; omega
   rw [he]
   have hln := ou l
   have hbd := hbd
   have hfl := fun (s : List (Int × Int)) (hp : s.Perm (bt l)) (hs : s.Pairwise fun x y => x.1 ≤ y.1) => BH hp hs
   generalize bt l = st at hln hfl hbd
   rcases st with _ | ⟨z, o⟩
   ·have hf0 := hfl [] (.refl _) .nil
    repeat' first|exact (bbk (by assumption)).elim|refine Q1 ?_|refine Q2 ?_|refine Q3 hG aa aH ?_|refine Q4 hG aa aH ?_|refine Q5 hG aa ?_|refine Q6 hG aa ?_|refine Q7 hG aa ?_|refine Q8 hG aa ?_|refine Q9 rfl ?_|refine QF rfl ?_|refine QC rfl ⟨fun h => ?_,fun h => ?_⟩|((conv => whnf); first|refine anF ?_|refine anT ?_|refine anK ?_|refine And.intro (fun h => ?_) (fun h => ?_)|refine Or.inl ?_)
    refine MPB.seq ?_
    refine MPB.sp (by kernel_rfl) (fun W0 m0 hG hms => ?_) hY
    refine Q4 hG aa aH ?_
    repeat' first|refine MPB.sp (c := .region _ _ true) (by kernel_rfl) (fun W0 m0 hG hms => ?_) hY|refine Q3 hG aa aH ?_|refine MPB.seq ?_|refine MPB.block ?_|refine MPB.reg hY aa aH (by kernel_rfl) ?_|refine MPB.skip ?_|refine MPB.label ?_|refine MPB.ret ?_|refine MPB.exit ?_|refine MPB.condT rfl ?_|refine MPB.condF rfl ?_|refine MPB.cond rfl (And.intro (fun h => ?_) (fun h => ?_))|((conv => whnf); first|refine anF ?_|refine anT ?_|refine anK ?_|refine Exists.intro _ (And.intro (ks) ?_)|refine And.intro (fun h => ?_) (fun h => ?_)|refine Or.inl ?_)
    refine MPB.loop (X := Unit) (fun _ => ((false, 0), ⟨[(36, .int .i64 0), (35, .int .i64 0), (0, .lit (.func (.yield y) #[] #[]))], []⟩)) (fun _ => True) (fun _ => 0) () trivial rfl (ag ?_ ?_) (fun _ _ => ?_)
    ·repeat' (first | exact trivial | refine And.intro rfl ?_)
    ·repeat' (first | exact trivial | refine And.intro rfl ?_)
    ·have bb0 : decide ((0 : Int) < 0) = true → False := fun h => by simp at h
     repeat' first|exact (bb0 (by assumption)).elim|refine MPB.seq ?_|refine MPB.block ?_|refine MPB.reg hY aa aH (by kernel_rfl) ?_|refine MPB.skip ?_|refine MPB.label ?_|refine MPB.ret ?_|refine MPB.exit ?_|refine MPB.condT rfl ?_|refine MPB.condF rfl ?_|refine MPB.cond rfl (And.intro (fun h => ?_) (fun h => ?_))|((conv => whnf); first|refine anF ?_|refine anT ?_|refine anK ?_|refine And.intro (fun h => ?_) (fun h => ?_)|refine Or.inl ?_)
     exact gO.mk (Or.inr rfl) (Or.inl (congrArg (Prod.mk false) (by rw [← hf0]; rfl)))
   ·skip
    repeat' first|exact (bbk (by assumption)).elim|refine Q1 ?_|refine Q2 ?_|refine Q3 hG aa aH ?_|refine Q4 hG aa aH ?_|refine Q5 hG aa ?_|refine Q6 hG aa ?_|refine Q7 hG aa ?_|refine Q8 hG aa ?_|refine Q9 rfl ?_|refine QF rfl ?_|refine QC rfl ⟨fun h => ?_,fun h => ?_⟩|((conv => whnf); first|refine anF ?_|refine anT ?_|refine anK ?_|refine And.intro (fun h => ?_) (fun h => ?_)|refine Or.inl ?_)
    refine MPB.seq ?_
    refine MPB.sp (by kernel_rfl) (fun W0 m0 hG hms => ?_) hY
    refine SPB.oregX hG aa aH 1 (by kernel_rfl) ?_
    conv => whnf
    refine Exists.intro ((z :: o).map p2) (Exists.intro _ (And.intro (rp (z :: o) ?_) (And.intro (yd _).symm (And.intro ?_ ?_))))
    ·omega
    ·intro x hx; obtain ⟨y, _, rfl⟩ := List.mem_map.1 hx; rfl
    ·rintro r rows ⟨rfl, s, hp, hs, rfl⟩ _ _
     conv => whnf
     rw [yd]
     have hs' : s.Pairwise fun x y => x.1 ≤ y.1 := hs.imp fun h => (qd _ _).1 h
     have hf := hfl s hp hs'
     have hbs : ∀ p ∈ s, -1000000 ≤ p.2 ∧ p.2 ≤ 1000000 := fun p h => hbd p (hp.mem_iff.1 h)
     have hsl : s.length ≤ 2000000 := by have := hp.length_eq; omega
     repeat' first|refine MPB.seq ?_|refine MPB.block ?_|refine MPB.reg hY aa aH (by kernel_rfl) ?_|refine MPB.skip ?_|refine MPB.label ?_|refine MPB.ret ?_|refine MPB.exit ?_|refine MPB.condT rfl ?_|refine MPB.condF rfl ?_|refine MPB.cond rfl (And.intro (fun h => ?_) (fun h => ?_))|((conv => whnf); first|refine anF ?_|refine anT ?_|refine anK ?_|refine And.intro (fun h => ?_) (fun h => ?_)|refine Or.inl ?_)
     refine MPB.loop (X := Nat × Int × Nat) (fun x => ((false, x.2.2), ⟨[(36, .int .i64 x.1), (35, .int .i64 (s.map pA).length), (34, .sl .no 2 (s.map pA)), (3, .sl .no 2 (s.map pA)), (6, .int .i64 x.2.1), (0, .lit (.func (.yield y) #[] #[]))], []⟩)) (fun x => x.1 ≤ s.length ∧ bV x.2.1 (s.drop x.1) = (cr l).drop x.2.2 ∧ x.2.2 ≤ (cr l).length ∧ -1000000 * (x.1 : Int) ≤ x.2.1 ∧ x.2.1 ≤ 1000000 * (x.1 : Int)) (fun x => s.length - x.1) (0, 0, 0) ⟨Nat.zero_le _, hf, Nat.zero_le _, by decide, by decide⟩ rfl (ag ?_ ?_) (fun x hI => ?_)
     ·repeat' (first | exact trivial | refine And.intro rfl ?_)
     ·repeat' (first | exact trivial | refine And.intro rfl ?_)
     ·obtain ⟨j, f, k⟩ := x
      obtain ⟨hj, hfr, hk, hf1, hf2⟩ := hI
      simp only at hj hfr hk hf1 hf2 ⊢
      by_cases hjl : j < s.length
      ·have bbj : decide ((j : Int) < ((s.map pA).length : Int)) = false → False := fun h => by have := of_decide_eq_false h; simp at this; omega
       have hx : (s.map pA)[(j : Int).toNat]? = some (pA s[j]) := by simp [List.getElem?_eq_getElem hjl]
       have hxb := hbs s[j] (List.getElem_mem hjl)
       rw [List.drop_eq_getElem_cons hjl] at hfr
       have hw1 : IntKind.i64.wrap ((j : Int) + 1) = ((j + 1 : Nat) : Int) := (ai (by omega) (by omega)).trans (by omega)
       generalize s[j] = x at hx hxb hfr
       have hwf : IntKind.i64.wrap (f + x.2) = f + x.2 := ai (by omega) (by omega)
       by_cases hj1 : j + 1 < s.length
       ·have bb1 : decide (IntKind.i64.wrap ((j : Int) + 1) < ((s.map pA).length : Int)) = false → False := fun h => by rw [hw1] at h; have := of_decide_eq_false h; simp at this; omega
        have hy : (s.map pA)[(IntKind.i64.wrap ((j : Int) + 1)).toNat]? = some (pA s[j + 1]) := by rw [hw1, Int.toNat_natCast]; simp [List.getElem?_eq_getElem hj1]
        have h0 : 0 ≤ IntKind.i64.wrap ((j : Int) + 1) := by rw [hw1]; exact Int.natCast_nonneg _
        rw [List.drop_eq_getElem_cons hj1, vg, ← List.drop_eq_getElem_cons hj1] at hfr
        generalize s[j + 1] = z at hy hfr
        repeat' first|exact (bbj (by assumption)).elim|exact (bb1 (by assumption)).elim|refine MPB.sp (c := .region _ _ true) (by kernel_rfl) (fun W0 m0 hG hms => ?_) hY|refine Q3 hG aa aH ?_|refine MPB.seq ?_|refine MPB.block ?_|refine MPB.reg hY aa aH (by kernel_rfl) ?_|refine MPB.skip ?_|refine MPB.label ?_|refine MPB.ret ?_|refine MPB.exit ?_|refine MPB.condT rfl ?_|refine MPB.condF rfl ?_|refine MPB.cond rfl (And.intro (fun h => ?_) (fun h => ?_))|((conv => whnf); first|refine anF ?_|refine anT ?_|refine anK ?_|refine And.intro (Int.natCast_nonneg j) (Exists.intro _ (And.intro hx ?_))|refine And.intro h0 (Exists.intro _ (And.intro hy ?_))|refine And.intro (fun h => ?_) (fun h => ?_)|refine Or.inl ?_)
        ·have hzx := beq_iff_eq.1 (by assumption : (z.1 == x.1) = true)
         rw [if_pos hzx] at hfr
         refine Exists.intro (j + 1, f + x.2, k) (And.intro ⟨hjl, hfr, hk, show -1000000 * ((j + 1 : Nat) : Int) ≤ f + x.2 by omega, show f + x.2 ≤ 1000000 * ((j + 1 : Nat) : Int) by omega⟩ (And.intro (show s.length - (j + 1) < s.length - j by omega) (And.intro rfl (ag ?_ ?_))))
         ·exact And.intro (congrArg some (am (by omega))) (And.intro rfl (And.intro rfl (And.intro rfl (And.intro (congrArg (fun z => some (AV.int .i64 z)) hwf) (And.intro rfl trivial)))))
         ·repeat' (first | exact trivial | refine And.intro rfl ?_)
        ·have hzx : ¬ z.1 = x.1 := fun h => by have := (by assumption : (z.1 == x.1) = false); rw [h] at this; simp at this
         rw [if_neg hzx] at hfr
         obtain ⟨hg1, hg2, hg3⟩ := vm hfr
         refine Exists.intro (x.1, f + x.2) (And.intro hg1 (And.intro (congrArg (fun z => [AV.int .i64 x.1, AV.int .i64 z]) hwf) (fun t ht => ?_)))
         subst ht
         refine And.intro ?_ ?_
         ·skip
          repeat' first|refine MPB.seq ?_|refine MPB.block ?_|refine MPB.reg hY aa aH (by kernel_rfl) ?_|refine MPB.skip ?_|refine MPB.label ?_|refine MPB.ret ?_|refine MPB.exit ?_|refine MPB.condT rfl ?_|refine MPB.condF rfl ?_|refine MPB.cond rfl (And.intro (fun h => ?_) (fun h => ?_))|((conv => whnf); first|refine anF ?_|refine anT ?_|refine anK ?_|refine And.intro (fun h => ?_) (fun h => ?_)|refine Or.inl ?_)
          refine Exists.intro (j + 1, f + x.2, k + 1) (And.intro ⟨hjl, hg2, hg3, show -1000000 * ((j + 1 : Nat) : Int) ≤ f + x.2 by omega, show f + x.2 ≤ 1000000 * ((j + 1 : Nat) : Int) by omega⟩ (And.intro (show s.length - (j + 1) < s.length - j by omega) (And.intro rfl (ag ?_ ?_))))
          ·exact And.intro (congrArg some (am (by omega))) (And.intro rfl (And.intro rfl (And.intro rfl (And.intro (congrArg (fun z => some (AV.int .i64 z)) hwf) (And.intro rfl trivial)))))
          ·repeat' (first | exact trivial | refine And.intro rfl ?_)
         ·skip
          repeat' first|refine MPB.seq ?_|refine MPB.block ?_|refine MPB.reg hY aa aH (by kernel_rfl) ?_|refine MPB.skip ?_|refine MPB.label ?_|refine MPB.ret ?_|refine MPB.exit ?_|refine MPB.condT rfl ?_|refine MPB.condF rfl ?_|refine MPB.cond rfl (And.intro (fun h => ?_) (fun h => ?_))|((conv => whnf); first|refine anF ?_|refine anT ?_|refine anK ?_|refine And.intro (fun h => ?_) (fun h => ?_)|refine Or.inl ?_)
          exact gO.mk (Or.inl rfl) (Or.inr rfl)
       ·have bb1 : decide (IntKind.i64.wrap ((j : Int) + 1) < ((s.map pA).length : Int)) = true → False := fun h => by rw [hw1] at h; have := of_decide_eq_true h; simp at this; omega
        repeat' first|exact (bbj (by assumption)).elim|exact (bb1 (by assumption)).elim|refine MPB.sp (c := .region _ _ true) (by kernel_rfl) (fun W0 m0 hG hms => ?_) hY|refine Q3 hG aa aH ?_|refine MPB.seq ?_|refine MPB.block ?_|refine MPB.reg hY aa aH (by kernel_rfl) ?_|refine MPB.skip ?_|refine MPB.label ?_|refine MPB.ret ?_|refine MPB.exit ?_|refine MPB.condT rfl ?_|refine MPB.condF rfl ?_|refine MPB.cond rfl (And.intro (fun h => ?_) (fun h => ?_))|((conv => whnf); first|refine anF ?_|refine anT ?_|refine anK ?_|refine And.intro (Int.natCast_nonneg j) (Exists.intro _ (And.intro hx ?_))|refine And.intro (fun h => ?_) (fun h => ?_)|refine Or.inl ?_)
        have hde : s.drop (j + 1) = [] := List.drop_of_length_le (by omega)
        rw [hde] at hfr
        obtain ⟨hg1, hg2, hg3⟩ := vm (show (x.1, f + x.2) :: [] = (cr l).drop k from hfr)
        rw [← show bV (f + x.2) (s.drop (j + 1)) = [] by rw [hde]; rfl] at hg2
        refine Exists.intro (x.1, f + x.2) (And.intro hg1 (And.intro (congrArg (fun z => [AV.int .i64 x.1, AV.int .i64 z]) hwf) (fun t ht => ?_)))
        subst ht
        refine And.intro ?_ ?_
        ·skip
         repeat' first|refine MPB.seq ?_|refine MPB.block ?_|refine MPB.reg hY aa aH (by kernel_rfl) ?_|refine MPB.skip ?_|refine MPB.label ?_|refine MPB.ret ?_|refine MPB.exit ?_|refine MPB.condT rfl ?_|refine MPB.condF rfl ?_|refine MPB.cond rfl (And.intro (fun h => ?_) (fun h => ?_))|((conv => whnf); first|refine anF ?_|refine anT ?_|refine anK ?_|refine And.intro (fun h => ?_) (fun h => ?_)|refine Or.inl ?_)
         refine Exists.intro (j + 1, f + x.2, k + 1) (And.intro ⟨hjl, hg2, hg3, show -1000000 * ((j + 1 : Nat) : Int) ≤ f + x.2 by omega, show f + x.2 ≤ 1000000 * ((j + 1 : Nat) : Int) by omega⟩ (And.intro (show s.length - (j + 1) < s.length - j by omega) (And.intro rfl (ag ?_ ?_))))
         ·exact And.intro (congrArg some (am (by omega))) (And.intro rfl (And.intro rfl (And.intro rfl (And.intro (congrArg (fun z => some (AV.int .i64 z)) hwf) (And.intro rfl trivial)))))
         ·repeat' (first | exact trivial | refine And.intro rfl ?_)
        ·skip
         repeat' first|refine MPB.seq ?_|refine MPB.block ?_|refine MPB.reg hY aa aH (by kernel_rfl) ?_|refine MPB.skip ?_|refine MPB.label ?_|refine MPB.ret ?_|refine MPB.exit ?_|refine MPB.condT rfl ?_|refine MPB.condF rfl ?_|refine MPB.cond rfl (And.intro (fun h => ?_) (fun h => ?_))|((conv => whnf); first|refine anF ?_|refine anT ?_|refine anK ?_|refine And.intro (fun h => ?_) (fun h => ?_)|refine Or.inl ?_)
         exact gO.mk (Or.inl rfl) (Or.inr rfl)
      ·have bbj : decide ((j : Int) < ((s.map pA).length : Int)) = true → False := fun h => by have := of_decide_eq_true h; simp at this; omega
       repeat' first|exact (bbj (by assumption)).elim|refine MPB.sp (c := .region _ _ true) (by kernel_rfl) (fun W0 m0 hG hms => ?_) hY|refine Q3 hG aa aH ?_|refine MPB.seq ?_|refine MPB.block ?_|refine MPB.reg hY aa aH (by kernel_rfl) ?_|refine MPB.skip ?_|refine MPB.label ?_|refine MPB.ret ?_|refine MPB.exit ?_|refine MPB.condT rfl ?_|refine MPB.condF rfl ?_|refine MPB.cond rfl (And.intro (fun h => ?_) (fun h => ?_))|((conv => whnf); first|refine anF ?_|refine anT ?_|refine anK ?_|refine And.intro (fun h => ?_) (fun h => ?_)|refine Or.inl ?_)
       have hke : k = (cr l).length := by
        rw [List.drop_of_length_le (by omega)] at hfr
        have := congrArg List.length hfr
        simp [bV] at this; omega
       exact gO.mk (Or.inr rfl) (Or.inl (congrArg (Prod.mk false) hke))
end Go.Proofs
namespace Go.Proofs
open Go Go.AI
set_option maxRecDepth 10000
def inM (x lo hi : Int) : Bool := decide (lo ≤ x) && decide (x ≤ hi)
def spM (a b : Int) : Bool := decide (0 ≤ a) && (decide (a < b) && decide (b ≤ 1000001))
theorem iN (x lo hi : Int) : ae Tryz.prog 104 [.int .i64 x, .int .i64 lo, .int .i64 hi] (.bool (inM x lo hi)) := by
 refine ah aa Tryz.func104 rfl (by kernel_rfl) af (Nat.le_of_ble_eq_true rfl) ?_
 intro F n' w0 m0 hG hro h1
 repeat' first|refine Q1 ?_|refine Q2 ?_|refine Q3 hG aa gh ?_|refine Q4 hG aa gh ?_|refine Q5 hG aa ?_|refine Q6 hG aa ?_|refine Q7 hG aa ?_|refine Q8 hG aa ?_|refine Q9 rfl ?_|refine QF rfl ?_|refine QC rfl ⟨fun h => ?_,fun h => ?_⟩|((conv => whnf); first|refine anF ?_|refine anT ?_|refine anK ?_|refine And.intro (fun h => ?_) (fun h => ?_)|refine Or.inl ?_)
 all_goals refine Ends.mk (Or.inl rfl) (ac (congrArg AV.bool ?_))
 all_goals simp only [inM, *, Bool.true_and, Bool.and_true, Bool.false_and, Bool.and_false, Bool.true_or, Bool.or_true, Bool.false_or, Bool.or_false, Bool.not_true, Bool.not_false]
theorem od (a b : Int) : ae Tryz.prog 170 [.agg [.int .i64 a, .int .i64 b]] (.bool (spM a b)) := by
 refine ah aa Tryz.func170 rfl (by kernel_rfl) af (Nat.le_of_ble_eq_true rfl) ?_
 intro F n' w0 m0 hG hro h1
 repeat' first|refine Q1 ?_|refine Q2 ?_|refine Q3 hG aa gd ?_|refine Q4 hG aa gd ?_|refine Q5 hG aa ?_|refine Q6 hG aa ?_|refine Q7 hG aa ?_|refine Q8 hG aa ?_|refine Q9 rfl ?_|refine QF rfl ?_|refine QC rfl ⟨fun h => ?_,fun h => ?_⟩|((conv => whnf); first|refine anF ?_|refine anT ?_|refine anK ?_|refine And.intro (fun h => ?_) (fun h => ?_)|refine Or.inl ?_)
 all_goals refine Ends.mk (Or.inl rfl) (ac (congrArg AV.bool ?_))
 all_goals simp only [spM, *, Bool.true_and, Bool.and_true, Bool.false_and, Bool.and_false, Bool.true_or, Bool.or_true, Bool.false_or, Bool.or_false, Bool.not_true, Bool.not_false]
def jy (l : List Img) : List Bool := (List.range 64).map fun (k : Nat) => l.any fun x => x.i == (k : Int)
def ir (l : List Img) (i : Int) : Bool := l.any fun x => x.i == i
def iE (pre : List Img) (x : Img) : Bool := inM x.i 0 63 && (!ir pre x.i && (inM x.u 1 1000000 && spM x.a x.b))
def dK : List Img → List Img → Bool
 | _, [] => true
 | pre, x :: r => iE pre x && dK (pre ++ [x]) r
def dy (l : List Img) : Bool := dK [] l && decide (l.length ≤ 24)
theorem EX (m : List Img) (h : m = []) : (jy m).map AV.bool = List.replicate 64 (.bool false) := by
 subst h
 simp only [jy, List.map_map, List.any_nil, Function.comp_def, List.map_const', List.length_range, List.map_replicate]
theorem y7 {i : TI} {cs : List AV} {n : Nat} {x : AV} {r : List AV} {K : AV → Prop} (h : cs.drop n = x :: r) (hK : (match eh i (x :: r) with | some v => K v | none => False)) : (match eh i (cs.drop n) with | some v => K v | none => False) := by rw [h]; exact hK
theorem wy {s : St} {d n : Nat} {vs : List AV} {b' : List (Nat × List AV)} {K : List (Nat × List AV) → Prop} (h : lk s.b d n vs = some b') (hK : K b') : (match lk s.b d n vs with | some b => K b | none => False) := by rw [h]; exact hK
theorem yF {bx : List (Nat × List AV)} {d n : Nat} {cs : List AV} {v : AV} (h1 : get bx d = some cs) (h2 : n < cs.length) : lk bx d n [v] = some ((d, lY cs n [v]) :: bx) := by
 unfold lk
 rw [h1]
 simp only [List.length_cons, List.length_nil, Nat.zero_add]
 rw [Nat.ble_eq_true_of_le h2]; rfl
theorem yH {l : List Img} {i : Int} (h : inM i 0 63 = true) : ∃ r, ((jy l).map AV.bool).drop (0 + i.toNat * 1) = .bool (ir l i) :: r := by
 simp only [inM, Bool.and_eq_true, decide_eq_true_eq] at h
 have hlt : 0 + i.toNat * 1 < ((jy l).map AV.bool).length := by simp [jy]; omega
 refine ⟨_, (List.drop_eq_getElem_cons hlt).trans (congrArg (· :: _) ?_)⟩
 simp only [jy, List.map_map, List.getElem_map, List.getElem_range, Function.comp, ir]
 congr 3
 funext x
 rw [Nat.zero_add, Nat.mul_one, Int.toNat_of_nonneg h.1]
theorem A9 {l : List Img} {x : Img} (h : inM x.i 0 63 = true) : lY ((jy l).map AV.bool) (0 + x.i.toNat * 1) [.bool true] = (jy (l ++ [x])).map AV.bool := by
 simp only [inM, Bool.and_eq_true, decide_eq_true_eq] at h
 rw [ja]
 apply List.ext_getElem?
 intro j
 show (bQ ((jy l).map AV.bool) (0 + x.i.toNat * 1) (.bool true))[j]? = _
 rw [eK]
 simp only [jy, List.length_map, List.length_range, List.getElem?_map, Nat.zero_add, Nat.mul_one, List.any_append, List.any_cons, List.any_nil, Bool.or_false]
 by_cases hj : j < 64
 ·rw [List.getElem?_range hj]
  simp only [Option.map_some]
  by_cases he : j = x.i.toNat
  ·rw [if_pos (by omega)]
   have : (x.i == (j : Int)) = true := by rw [beq_iff_eq]; omega
   rw [this, Bool.or_true]
  ·rw [if_neg (by omega)]
   have : (x.i == (j : Int)) = false := by rw [beq_eq_false_iff_ne]; omega
   rw [this, Bool.or_false]
 ·rw [if_neg (by omega), List.getElem?_eq_none (by simp; omega)]; rfl
set_option maxHeartbeats 8000000 in
theorem rW (l : List Img) (hl : l.length ≤ 1000000) : ae Tryz.prog 105 [fg l] (.bool (dy l)) := by
 refine ah aa Tryz.func105 rfl (by kernel_rfl) af (Nat.le_of_ble_eq_true rfl) ?_
 intro F n' w0 m0 hG hro h1
 repeat' first|refine Q1 ?_|refine Q2 ?_|refine Q3 hG aa cZ ?_|refine Q4 hG aa cZ ?_|refine Q5 hG aa ?_|refine Q6 hG aa ?_|refine Q7 hG aa ?_|refine Q8 hG aa ?_|refine Q9 rfl ?_|refine QF rfl ?_|refine QC rfl ⟨fun h => ?_,fun h => ?_⟩|((conv => whnf); first|refine anF ?_|refine anT ?_|refine anK ?_|refine And.intro (fun h => ?_) (fun h => ?_)|refine Or.inl ?_)
 refine ap (X := Nat × List AV) (fun x => ⟨[(8, .int .i64 x.1), (7, .int .i64 (l.map eD).length), (6, fg l), (0, fg l), (3, .loc 3 0)], [(3, x.2)]⟩) (fun x => x.1 ≤ l.length ∧ dK (l.take x.1) (l.drop x.1) = dK [] l ∧ x.2 = (jy (l.take x.1)).map AV.bool) (fun x => l.length - x.1) (0, List.replicate 64 (.bool false)) ⟨Nat.zero_le _, by simp, (EX _ rfl).symm⟩ (ag ?_ ?_) (fun x hi => ?_)
 ·repeat' (first | exact trivial | refine And.intro rfl ?_)
 ·repeat' (first | exact trivial | refine And.intro rfl ?_)
 ·obtain ⟨i, cs⟩ := x
  obtain ⟨hi, hok, hcs⟩ := hi
  simp only at hi hok hcs ⊢
  by_cases hlt : i < l.length
  ·have bbk : decide ((i : Int) < ((l.map eD).length : Int)) = false → False := fun h => by have := of_decide_eq_false h; simp at this; omega
   have hx := oG hlt
   have htk : l.take (i + 1) = l.take i ++ [l.getD i gQ] := by rw [List.take_add_one, List.getD_eq_getElem?_getD, List.getElem?_eq_getElem hlt]; rfl
   have hdr : l.drop i = l.getD i gQ :: l.drop (i + 1) := by rw [List.getD_eq_getElem?_getD, List.getElem?_eq_getElem hlt]; exact List.drop_eq_getElem_cons hlt
   rw [hdr, dK, ← htk] at hok
   generalize l.getD i gQ = x at hx htk hok
   have hln : cs.length = 64 := by rw [hcs]; simp [jy]
   cases hin : inM x.i 0 63 with
   | false =>
    have cIn : ae Tryz.prog 104 [.int .i64 x.i, .int .i64 0, .int .i64 63] (.bool false) := by rw [← hin]; exact iN _ _ _
    clear hcs
    repeat' first|exact (bbk (by assumption)).elim|refine Q1 ?_|refine Q2 ?_|refine Q3 hG aa cZ ?_|refine Q4 hG aa cZ ?_|refine Q5 hG aa ?_|refine Q6 hG aa ?_|refine Q7 hG aa ?_|refine Q8 hG aa ?_|refine Q9 rfl ?_|refine QF rfl ?_|refine QC rfl ⟨fun h => ?_,fun h => ?_⟩|((conv => whnf); first|refine anF ?_|refine anT ?_|refine anK ?_|refine And.intro (Int.natCast_nonneg i) (Exists.intro _ (And.intro hx ?_))|refine Exists.intro _ (And.intro (cIn) ?_)|refine Exists.intro _ (And.intro (iN _ _ _) ?_)|refine Exists.intro _ (And.intro (od _ _) ?_)|refine Eq.mpr (gF cs _) ?_|refine And.intro (fun h => ?_) (fun h => ?_)|refine Or.inl ?_)
    refine Ends.mk (Or.inl rfl) (ac (congrArg AV.bool ?_))
    rw [dy, ← hok, iE, hin]
    (try simp only [Bool.not_eq_true', Bool.not_eq_false'] at *)
    simp only [*, Bool.true_and, Bool.and_true, Bool.false_and, Bool.and_false, Bool.true_or, Bool.or_true, Bool.false_or, Bool.or_false, Bool.not_true, Bool.not_false]
   | true =>
    have cIn : ae Tryz.prog 104 [.int .i64 x.i, .int .i64 0, .int .i64 63] (.bool true) := by rw [← hin]; exact iN _ _ _
    have hst := A9 (l := l.take i) hin
    rw [← htk] at hst
    obtain ⟨r, hse⟩ := yH (l := l.take i) hin
    have hx0 : 0 ≤ x.i := by have := hin; simp only [inM, Bool.and_eq_true, decide_eq_true_eq] at this; exact this.1
    have hx1 : x.i < ((64 : Nat) : Int) := by have := hin; simp only [inM, Bool.and_eq_true, decide_eq_true_eq] at this; omega
    rw [← hcs] at hst hse
    clear hcs
    obtain ⟨sb, hsb⟩ : ∃ sb, sb = ir (l.take i) x.i := ⟨_, rfl⟩
    rw [← hsb] at hse
    have hsl : 0 + x.i.toNat * 1 < cs.length := by rw [hln]; omega
    repeat' first|exact (bbk (by assumption)).elim|refine Q1 ?_|refine Q2 ?_|refine Q3 hG aa cZ ?_|refine Q4 hG aa cZ ?_|refine Q5 hG aa ?_|refine Q6 hG aa ?_|refine Q7 hG aa ?_|refine Q8 hG aa ?_|refine Q9 rfl ?_|refine QF rfl ?_|refine QC rfl ⟨fun h => ?_,fun h => ?_⟩|((conv => whnf); first|refine anF ?_|refine anT ?_|refine anK ?_|refine And.intro (Int.natCast_nonneg i) (Exists.intro _ (And.intro hx ?_))|refine Exists.intro _ (And.intro (cIn) ?_)|refine Exists.intro _ (And.intro (iN _ _ _) ?_)|refine Exists.intro _ (And.intro (od _ _) ?_)|refine y7 hse ?_|refine wy (yF (cs := cs) rfl hsl) ?_|refine Eq.mpr (gF (lY cs _ _) _) ?_|refine And.intro hx0 (And.intro hx1 ?_)|refine Eq.mpr (gF cs _) ?_|refine And.intro (fun h => ?_) (fun h => ?_)|refine Or.inl ?_)
    ·refine Ends.mk (Or.inl rfl) (ac (congrArg AV.bool ?_))
     subst hsb
     rw [dy, ← hok, iE, hin]
     (try simp only [Bool.not_eq_true', Bool.not_eq_false'] at *)
     simp only [*, Bool.true_and, Bool.and_true, Bool.false_and, Bool.and_false, Bool.true_or, Bool.or_true, Bool.false_or, Bool.or_false, Bool.not_true, Bool.not_false]
    ·refine Ends.mk (Or.inl rfl) (ac (congrArg AV.bool ?_))
     subst hsb
     rw [dy, ← hok, iE, hin]
     (try simp only [Bool.not_eq_true', Bool.not_eq_false'] at *)
     simp only [*, Bool.true_and, Bool.and_true, Bool.false_and, Bool.and_false, Bool.true_or, Bool.or_true, Bool.false_or, Bool.or_false, Bool.not_true, Bool.not_false]
    ·refine Ends.mk (Or.inl rfl) (ac (congrArg AV.bool ?_))
     subst hsb
     rw [dy, ← hok, iE, hin]
     (try simp only [Bool.not_eq_true', Bool.not_eq_false'] at *)
     simp only [*, Bool.true_and, Bool.and_true, Bool.false_and, Bool.and_false, Bool.true_or, Bool.or_true, Bool.false_or, Bool.or_false, Bool.not_true, Bool.not_false]
    ·conv => whnf
     refine Exists.intro (i + 1, lY cs (0 + x.i.toNat * 1) [.bool true]) (And.intro ⟨hlt, ?_, hst⟩ (And.intro (show l.length - (i + 1) < l.length - i by omega) ?_))
     ·subst hsb
      rw [← hok, iE, hin]
      (try simp only [Bool.not_eq_true', Bool.not_eq_false'] at *)
      simp only [*, Bool.true_and, Bool.and_true, Bool.false_and, Bool.and_false, Bool.true_or, Bool.or_true, Bool.false_or, Bool.or_false, Bool.not_true, Bool.not_false]
     ·refine ag (And.intro (congrArg some (am (by omega))) ?_) ?_
      ·repeat' (first | exact trivial | refine And.intro rfl ?_)
      ·repeat' (first | exact trivial | refine And.intro rfl ?_)
  ·have bbk : decide ((i : Int) < ((l.map eD).length : Int)) = true → False := fun h => by have := of_decide_eq_true h; simp at this; omega
   repeat' first|exact (bbk (by assumption)).elim|refine Q1 ?_|refine Q2 ?_|refine Q3 hG aa cZ ?_|refine Q4 hG aa cZ ?_|refine Q5 hG aa ?_|refine Q6 hG aa ?_|refine Q7 hG aa ?_|refine Q8 hG aa ?_|refine Q9 rfl ?_|refine QF rfl ?_|refine QC rfl ⟨fun h => ?_,fun h => ?_⟩|((conv => whnf); first|refine anF ?_|refine anT ?_|refine anK ?_|refine And.intro (fun h => ?_) (fun h => ?_)|refine Or.inl ?_)
   refine Ends.mk (Or.inl rfl) (ac (congrArg AV.bool ?_))
   have hdn : l.drop i = [] := List.drop_of_length_le (by omega)
   rw [hdn, dK] at hok
   rw [dy, ← hok, List.length_map, Bool.true_and]
   exact decide_eq_decide.2 (by omega)
end Go.Proofs
namespace Go.Proofs
open Go Go.AI
set_option maxRecDepth 10000
theorem xZ {store : Int} {x : Int × Int} {r : List (Int × Int)} (hx : x.2 > store) : ∀ (p : List (Int × Int)), (∀ q ∈ p, q.2 ≤ store) → fH store (p ++ x :: r) = x.1
 | [], _ => by simp only [List.nil_append, fH]; rw [if_pos hx]
 | q :: p, h => by
  have := h q (.head _)
  simp only [List.cons_append, fH]
  rw [if_neg (by omega)]
  exact xZ hx p fun y hy => h y (.tail _ hy)
theorem su {store : Int} : ∀ (p : List (Int × Int)), (∀ q ∈ p, q.2 ≤ store) → fH store p = -1
 | [], _ => rfl
 | q :: p, h => by
  have := h q (.head _)
  simp only [fH]
  rw [if_neg (by omega)]
  exact su p fun y hy => h y (.tail _ hy)
theorem jQ : ∀ (l pre : List Img), dK pre l = true → ∀ x ∈ l, 0 ≤ x.u ∧ x.u ≤ 1000000
 | [], _, _, x, hx => nomatch hx
 | y :: r, pre, h, x, hx => by
  simp only [dK, Bool.and_eq_true] at h
  rcases List.mem_cons.1 hx with rfl | hx
  ·have := h.1
   simp only [iE, inM, Bool.and_eq_true, decide_eq_true_eq] at this
   omega
  ·exact jQ r _ h.2 x hx
set_option maxHeartbeats 4000000 in
theorem Ag (l : List Img) (store : Int) (hl : l.length ≤ 1000000) (hv : dy l = true) (hs : inM store 0 1000000 = true) : ae Tryz.prog 37 [fg l, .int .i64 store] (.tup [.int .i64 (fH store (cr l)), .int .i64 0]) := by
 have cV : ae Tryz.prog 105 [fg l] (.bool true) := by rw [← hv]; exact rW l hl
 have cS : ae Tryz.prog 104 [.int .i64 store, .int .i64 0, .int .i64 1000000] (.bool true) := by rw [← hs]; exact iN _ _ _
 have hu : ∀ x ∈ l, 0 ≤ x.u ∧ x.u ≤ 1000000 := by
  simp only [dy, Bool.and_eq_true] at hv
  exact jQ l [] hv.1
 have hseq := rZ l hl hu
 refine ah aa Tryz.func37 rfl (by kernel_rfl) af (Nat.le_of_ble_eq_true rfl) ?_
 intro F n' w0 m0 hG hro h1
 repeat' first|refine Q1 ?_|refine Q2 ?_|refine Q3 hG aa dw ?_|refine Q4 hG aa dw ?_|refine Q5 hG aa ?_|refine Q6 hG aa ?_|refine Q7 hG aa ?_|refine Q8 hG aa ?_|refine Q9 rfl ?_|refine QF rfl ?_|refine QC rfl ⟨fun h => ?_,fun h => ?_⟩|((conv => whnf); first|refine anF ?_|refine anT ?_|refine anK ?_|refine Exists.intro _ (And.intro (cV) ?_)|refine Exists.intro _ (And.intro (cS) ?_)|refine Exists.intro _ (And.intro (xF l) ?_)|refine And.intro (fun h => ?_) (fun h => ?_)|refine Or.inl ?_)
 generalize cr l = items at hseq
 refine ⟨SP.rangeM2I hG hro h1 (α := Int × Int) pA (f := 171) (cap := [.ref [fg l]]) (items := items) rfl hseq (fun _ => rfl) (fun _ => [(5, .loc 5 0), (4, .loc 4 0), (3, .loc 3 0)]) [5, 4, 3] (fun _ => rfl)
  (fun _ => [(5, [.int .i64 0]), (4, [.int .i64 0]), (3, [.int .i64 store])]) (ag ?_ ?_) (fun p => ∀ q ∈ p, q.2 ≤ store) (fun _ h => nomatch h) (by kernel_rfl) (by decide) ?_ ?_⟩
 ·repeat' (first | exact trivial | refine And.intro rfl ?_)
 ·repeat' (first | exact trivial | refine And.intro rfl ?_)
 ·intro F' n'' m' hG' _ _ pre x rest hx hI
  clear hG
  have hG := hG'
  refine SPB.out (Q1 ?_)
  repeat' first|refine Q1 ?_|refine Q2 ?_|refine Q3 hG aa dw ?_|refine Q4 hG aa dw ?_|refine Q5 hG aa ?_|refine Q6 hG aa ?_|refine Q7 hG aa ?_|refine Q8 hG aa ?_|refine Q9 rfl ?_|refine QF rfl ?_|refine QC rfl ⟨fun h => ?_,fun h => ?_⟩|((conv => whnf); first|refine anF ?_|refine anT ?_|refine anK ?_|refine And.intro (fun h => ?_) (fun h => ?_)|refine Or.inl ?_)
  refine And.intro (ag ?_ ?_) ?_
  ·repeat' (first | exact trivial | refine And.intro rfl ?_)
  ·repeat' (first | exact trivial | refine And.intro rfl ?_)
  refine SPB.out ?_
  repeat' first|refine Q1 ?_|refine Q2 ?_|refine Q3 hG aa dw ?_|refine Q4 hG aa dw ?_|refine Q5 hG aa ?_|refine Q6 hG aa ?_|refine Q7 hG aa ?_|refine Q8 hG aa ?_|refine Q9 rfl ?_|refine QF rfl ?_|refine QC rfl ⟨fun h => ?_,fun h => ?_⟩|((conv => whnf); first|refine anF ?_|refine anT ?_|refine anK ?_|refine And.intro (fun h => ?_) (fun h => ?_)|refine Or.inl ?_)
  ·have hgt : x.2 > store := of_decide_eq_true (by assumption)
   have ho := xZ (r := rest) hgt pre hI
   rw [← hx] at ho
   conv => whnf
   refine And.intro (fun h => nomatch h) (Exists.intro [(5, [.int .i64 0]), (4, [.int .i64 x.1]), (3, [.int .i64 store])] (And.intro (ag ?_ ?_) (Ends.mk (Or.inl rfl) (ac (by rw [ho]; rfl)))))
   ·repeat' (first | exact trivial | refine And.intro rfl ?_)
   ·repeat' (first | exact trivial | refine And.intro rfl ?_)
  ·have hle : ¬ x.2 > store := of_decide_eq_false (by assumption)
   conv => whnf
   refine And.intro (fun _ q hq => ?_) (ag ?_ ?_)
   ·rcases List.mem_append.1 hq with h | h
    ·exact hI q h
    ·rw [List.mem_singleton.1 h]; omega
   ·repeat' (first | exact trivial | refine And.intro rfl ?_)
   ·repeat' (first | exact trivial | refine And.intro rfl ?_)
 ·intro hI
  conv => whnf
  repeat' first|refine Q1 ?_|refine Q2 ?_|refine Q3 hG aa dw ?_|refine Q4 hG aa dw ?_|refine Q5 hG aa ?_|refine Q6 hG aa ?_|refine Q7 hG aa ?_|refine Q8 hG aa ?_|refine Q9 rfl ?_|refine QF rfl ?_|refine QC rfl ⟨fun h => ?_,fun h => ?_⟩|((conv => whnf); first|refine anF ?_|refine anT ?_|refine anK ?_|refine And.intro (fun h => ?_) (fun h => ?_)|refine Or.inl ?_)
  rw [su _ hI]
  exact Ends.mk (Or.inl rfl) (ac rfl)
end Go.Proofs
namespace Go.Proofs
open Go Go.AI
set_option maxRecDepth 10000
def DI (s : Nat → Int) (t : Int) : AV := .tup [.agg (br ⟨0, s 0, 0, t⟩), .bool (t != -1)]
theorem kw (s : Nat → Int) (t : Int) : ae Tryz.prog 145 [.agg (aJ s), .int .i64 t] (DI s t) := by
 refine ah aa Tryz.func145 rfl (by kernel_rfl) af (Nat.le_of_ble_eq_true rfl) ?_
 intro F n' w0 m0 hG hro h1
 repeat' first|refine Q1 ?_|refine Q2 ?_|refine Q3 hG aa nW ?_|refine Q4 hG aa nW ?_|refine Q5 hG aa ?_|refine Q6 hG aa ?_|refine Q7 hG aa ?_|refine Q8 hG aa ?_|refine Q9 rfl ?_|refine QF rfl ?_|refine QC rfl ⟨fun h => ?_,fun h => ?_⟩|((conv => whnf); first|refine anF ?_|refine anT ?_|refine anK ?_|refine And.intro (fun h => ?_) (fun h => ?_)|refine Or.inl ?_)
 all_goals exact Ends.mk (Or.inl rfl) (ac rfl)
theorem AE (s : Nat → Int) (l : List Opt) (a b : Int) (hl : l.length ≤ 1000000) (hs : iA a b = true) (hv : jR s (aR l) = true) : ae Tryz.prog 73 [.agg (aJ s), ay l, .agg (ar a b)] (DI s (rT s (aR l) a b)) := by
 refine ah aa Tryz.func73 rfl (by kernel_rfl) af (Nat.le_of_ble_eq_true rfl) ?_
 intro F n' w0 m0 hG hro h1
 repeat' first|refine Q1 ?_|refine Q2 ?_|refine Q3 hG aa pG ?_|refine Q4 hG aa pG ?_|refine Q5 hG aa ?_|refine Q6 hG aa ?_|refine Q7 hG aa ?_|refine Q8 hG aa ?_|refine Q9 rfl ?_|refine QF rfl ?_|refine QC rfl ⟨fun h => ?_,fun h => ?_⟩|((conv => whnf); first|refine anF ?_|refine anT ?_|refine anK ?_|refine Exists.intro _ (And.intro (iO l hl) ?_)|refine Exists.intro _ (And.intro (Ab s (aR l) a b (by simpa [aR] using hl) hs hv) ?_)|refine Exists.intro _ (And.intro (kw _ _) ?_)|refine And.intro (fun h => ?_) (fun h => ?_)|refine Or.inl ?_)
 all_goals exact Ends.mk (Or.inl rfl) (ac rfl)
theorem vT (s : Nat → Int) (l : List Opt) (a b : Int) (hl : l.length ≤ 1000000) (hsl : gV l) (hsp : (bf l).length ≤ 900000) (hll : (aC l).length ≤ 1000000) (hv : fc s (aC l) a b = true) : ae Tryz.prog 75 [.agg (aJ s), ay l, .agg (ar a b)] (DI s (gK s (aC l) a b)) := by
 refine ah aa Tryz.func75 rfl (by kernel_rfl) af (Nat.le_of_ble_eq_true rfl) ?_
 intro F n' w0 m0 hG hro h1
 repeat' first|refine Q1 ?_|refine Q2 ?_|refine Q3 hG aa pF ?_|refine Q4 hG aa pF ?_|refine Q5 hG aa ?_|refine Q6 hG aa ?_|refine Q7 hG aa ?_|refine Q8 hG aa ?_|refine Q9 rfl ?_|refine QF rfl ?_|refine QC rfl ⟨fun h => ?_,fun h => ?_⟩|((conv => whnf); first|refine anF ?_|refine anT ?_|refine anK ?_|refine Exists.intro _ (And.intro (lK l hl hsl hsp) ?_)|refine Exists.intro _ (And.intro (CT s (aC l) a b hll hv) ?_)|refine Exists.intro _ (And.intro (kw _ _) ?_)|refine And.intro (fun h => ?_) (fun h => ?_)|refine Or.inl ?_)
 all_goals exact Ends.mk (Or.inl rfl) (ac rfl)
def EV (l : List Opt) : Option (Nat × Nat) → AV
 | none => .tup [.agg (br ⟨0, 0, 0, 0⟩), .bool false]
 | some (i, k) => .tup [.agg (br ⟨0, (au l i).id, (au l k).id, (au l k).a⟩), .bool true]
theorem xw (s : Nat → Int) (l : List Opt) (a b : Int) (hl : l.length ≤ 1000000) (hv : jR s (aR l) = true) : ae Tryz.prog 72 [.agg (aJ s), ay l, .agg (ar a b)] (EV l (gn s (aR l))) := by
 have c := Ae s (aR l) (by simpa [aR] using hl) hv
 cases hs : gn s (aR l) with
 | none =>
  rw [hs] at c
  refine ah aa Tryz.func72 rfl (by kernel_rfl) af (Nat.le_of_ble_eq_true rfl) ?_
  intro F n' w0 m0 hG hro h1
  repeat' first|refine Q1 ?_|refine Q2 ?_|refine Q3 hG aa io ?_|refine Q4 hG aa io ?_|refine Q5 hG aa ?_|refine Q6 hG aa ?_|refine Q7 hG aa ?_|refine Q8 hG aa ?_|refine Q9 rfl ?_|refine QF rfl ?_|refine QC rfl ⟨fun h => ?_,fun h => ?_⟩|((conv => whnf); first|refine anF ?_|refine anT ?_|refine anK ?_|refine Exists.intro _ (And.intro (iO l hl) ?_)|refine Exists.intro _ (And.intro (c) ?_)|refine And.intro (fun h => ?_) (fun h => ?_)|refine Or.inl ?_)
  all_goals exact Ends.mk (Or.inl rfl) (ac rfl)
 | some p =>
  obtain ⟨i, k⟩ := p
  rw [hs] at c
  obtain ⟨hi, hk⟩ : i < l.length ∧ k < l.length := by
   obtain ⟨k', hk', hs'⟩ := List.exists_of_findSome?_eq_some hs
   obtain ⟨i', hi', hs''⟩ := List.exists_of_findSome?_eq_some hs'
   simp only [List.mem_range] at hk' hi'
   rw [show (aR l).length = l.length by simp [aR]] at hk'
   have : (i', k') = (i, k) := by
    unfold lX at hs''
    split at hs'' <;> simp at hs'' ⊢
    exact hs''
   cases this
   exact ⟨by omega, hk'⟩
  have hx := c8 hi
  have hy := c8 hk
  refine ah aa Tryz.func72 rfl (by kernel_rfl) af (Nat.le_of_ble_eq_true rfl) ?_
  intro F n' w0 m0 hG hro h1
  repeat' first|refine Q1 ?_|refine Q2 ?_|refine Q3 hG aa io ?_|refine Q4 hG aa io ?_|refine Q5 hG aa ?_|refine Q6 hG aa ?_|refine Q7 hG aa ?_|refine Q8 hG aa ?_|refine Q9 rfl ?_|refine QF rfl ?_|refine QC rfl ⟨fun h => ?_,fun h => ?_⟩|((conv => whnf); first|refine anF ?_|refine anT ?_|refine anK ?_|refine Exists.intro _ (And.intro (iO l hl) ?_)|refine Exists.intro _ (And.intro (c) ?_)|refine And.intro (Int.natCast_nonneg i) (Exists.intro _ (And.intro hx ?_))|refine And.intro (Int.natCast_nonneg k) (Exists.intro _ (And.intro hy ?_))|refine And.intro (fun h => ?_) (fun h => ?_)|refine Or.inl ?_)
  all_goals exact Ends.mk (Or.inl rfl) (ac rfl)
end Go.Proofs
namespace Go.Proofs
open Go Go.AI
set_option maxRecDepth 10000
theorem wu {l : List Opt} {i : Nat} (h : i < l.length) : aV (l.take (i + 1)) = aV (l.take i) ++ [⟨(au l i).id, (au l i).size, (au l i).a, dT (au l i)⟩] := by
 unfold aV
 rw [List.take_add_one, List.getElem?_eq_getElem h, bj h, List.map_append]; rfl
set_option maxHeartbeats 4000000 in
theorem xt (s : Nat → Int) (l : List Opt) (a b : Int) (hl : l.length ≤ 1000000) (hsl : gV l) (hc : ∀ o ∈ l, iJ o = true) (hv : dy (aV l) = true) (h10 : inM (s 10) 0 1000000 = true) : ae Tryz.prog 74 [.agg (aJ s), ay l, .agg (ar a b)] (DI s (tc s l)) := by
 refine ah aa Tryz.func74 rfl (by kernel_rfl) af (Nat.le_of_ble_eq_true rfl) ?_
 intro F n' w0 m0 hG hro h1
 repeat' first|refine Q1 ?_|refine Q2 ?_|refine Q3 hG aa eW ?_|refine Q4 hG aa eW ?_|refine Q5 hG aa ?_|refine Q6 hG aa ?_|refine Q7 hG aa ?_|refine Q8 hG aa ?_|refine Q9 rfl ?_|refine QF rfl ?_|refine QC rfl ⟨fun h => ?_,fun h => ?_⟩|((conv => whnf); first|refine anF ?_|refine anT ?_|refine anK ?_|refine And.intro (fun h => ?_) (fun h => ?_)|refine Or.inl ?_)
 refine ap (X := Nat) (fun i => ⟨[(17, .int .i64 i), (16, .int .i64 (l.map aD).length), (15, ay l), (8, .sl (.id 8) 4 ((aV (l.take i)).map eD)), (7, .bool false), (6, .loc 6 0), (3, .loc 3 0)], [(6, br ⟨0, 0, 0, 0⟩), (3, aJ s)]⟩) (fun i => i ≤ l.length) (fun i => l.length - i) 0 (Nat.zero_le _) (ag ?_ ?_) (fun i hi => ?_)
 ·repeat' (first | exact trivial | refine And.intro rfl ?_)
 ·repeat' (first | exact trivial | refine And.intro rfl ?_)
 ·by_cases hlt : i < l.length
  ·have bbk : decide ((i : Int) < ((l.map aD).length : Int)) = false → False := fun h => by have := of_decide_eq_false h; simp at this; omega
   have hx := c8 hlt
   have hcx : iJ (au l i) = true := hc _ (by rw [bj hlt]; exact List.getElem_mem hlt)
   have hsx : (au l i).sl.length ≤ 1000000 := hsl _ (by rw [bj hlt]; exact List.getElem_mem hlt)
   have htk := wu hlt
   have hln : (aV (l.take i)).length = i := by simp [aV]; omega
   generalize au l i = x at hx hcx hsx htk
   have hrow : (aV (l.take (i + 1))).map eD = (aV (l.take i)).map eD ++ [eD ⟨x.id, x.size, x.a, dT x⟩] := by rw [htk, List.map_append]; rfl
   have hlr : ((aV (l.take i)).map eD).length = i := by rw [List.length_map]; exact hln
   generalize (aV (l.take i)).map eD = row at hrow hlr
   repeat' first|exact (bbk (by assumption)).elim|refine Q1 ?_|refine Q2 ?_|refine Q3 hG aa eW ?_|refine Q4 hG aa eW ?_|refine Q5 hG aa ?_|refine Q6 hG aa ?_|refine Q7 hG aa ?_|refine Q8 hG aa ?_|refine Q9 rfl ?_|refine QF rfl ?_|refine QC rfl ⟨fun h => ?_,fun h => ?_⟩|((conv => whnf); first|refine anF ?_|refine anT ?_|refine anK ?_|refine And.intro (Int.natCast_nonneg i) (Exists.intro _ (And.intro hx ?_))|refine Exists.intro _ (And.intro (xr x hsx hcx) ?_)|refine And.intro (show (row.length + 1) * 32 ≤ 70368744177664 by omega) (And.intro (show row.length + 1 ≤ 4611686018427387904 by omega) ?_)|refine And.intro (fun h => ?_) (fun h => ?_)|refine Or.inl ?_)
   conv => whnf
   refine Exists.intro (i + 1) (And.intro hlt (And.intro (by omega) ?_))
   rw [hrow]
   refine ag (And.intro (congrArg some (am (by omega))) ?_) ?_
   ·repeat' (first | exact trivial | refine And.intro rfl ?_)
   ·repeat' (first | exact trivial | refine And.intro rfl ?_)
  ·have bbk : decide ((i : Int) < ((l.map aD).length : Int)) = true → False := fun h => by have := of_decide_eq_true h; simp at this; omega
   have he : l.take i = l := List.take_of_length_le (by omega)
   rw [he]
   repeat' first|exact (bbk (by assumption)).elim|refine Q1 ?_|refine Q2 ?_|refine Q3 hG aa eW ?_|refine Q4 hG aa eW ?_|refine Q5 hG aa ?_|refine Q6 hG aa ?_|refine Q7 hG aa ?_|refine Q8 hG aa ?_|refine Q9 rfl ?_|refine QF rfl ?_|refine QC rfl ⟨fun h => ?_,fun h => ?_⟩|((conv => whnf); first|refine anF ?_|refine anT ?_|refine anK ?_|refine Exists.intro _ (And.intro (Ag (aV l) (s 10) (by simpa [aV] using hl) hv h10) ?_)|refine Exists.intro _ (And.intro (kw _ _) ?_)|refine And.intro (fun h => ?_) (fun h => ?_)|refine Or.inl ?_)
   exact Ends.mk (Or.inl rfl) (ac rfl)
end Go.Proofs
namespace Go.Proofs
open Go Go.AI
set_option maxRecDepth 10000
def EW (l : List Opt) : Option (Nat × Nat × Int) → AV
 | none => .tup [.agg (br ⟨0, 0, 0, 0⟩), .bool false]
 | some (i, k, t) => .tup [.agg (br ⟨0, (au l i).id, (au l k).id, t⟩), .bool true]
theorem gH {α : Type} {f : Nat → Option α} {r : α} : ∀ {n k : Nat}, (∀ j, j < k → f j = none) → k < n → f k = some r → (List.range n).findSome? f = some r
 | 0, _, _, h, _ => absurd h (by omega)
 | n + 1, k, h0, h, hf => by
  rw [List.range_succ, List.findSome?_append]
  rcases Nat.lt_or_ge k n with hk | hk
  ·rw [gH h0 hk hf]; rfl
  ·have : k = n := by omega
   subst this
   have h1 : (List.range k).findSome? f = none := List.findSome?_eq_none_iff.2 fun x hx => h0 x (List.mem_range.1 hx)
   rw [h1]
   simp [hf]
theorem eu {α : Type} {f : Nat → Option α} {n : Nat} (h0 : ∀ j, j < n → f j = none) : (List.range n).findSome? f = none := List.findSome?_eq_none_iff.2 fun x hx => h0 x (List.mem_range.1 hx)
def mIn (x : Int × Int) (ys : List (Int × Int)) (f : Int) : Int := ys.foldl (fun f y => iF f x y) f
def wT (xs ys : List (Int × Int)) (f : Int) : Int := xs.foldl (fun f x => mIn x ys f) f
set_option maxHeartbeats 4000000 in
theorem xx (s : Nat → Int) (l : List Opt) (a b : Int) (hl : l.length ≤ 1000000) (hsl : gV l) : ae Tryz.prog 76 [.agg (aJ s), ay l, .agg (ar a b)] (EW l (qq l)) := by
 refine ae.ofBm aa Tryz.func76 rfl (by kernel_rfl) af (Nat.le_of_ble_eq_true rfl) ?_
 intro F n' w0 m0 hG hro h9 hm0
 repeat' first|refine Q1 ?_|refine Q2 ?_|refine Q3 hG aa aN ?_|refine Q4 hG aa aN ?_|refine Q5 hG aa ?_|refine Q6 hG aa ?_|refine Q7 hG aa ?_|refine Q8 hG aa ?_|refine Q9 rfl ?_|refine QF rfl ?_|refine QC rfl ⟨fun h => ?_,fun h => ?_⟩|((conv => whnf); first|refine anF ?_|refine anT ?_|refine anK ?_|refine And.intro (fun h => ?_) (fun h => ?_)|refine Or.inl ?_)
 refine ⟨SP.scope (SPB.out ?_)⟩
 repeat' first|refine Q1 ?_|refine Q2 ?_|refine Q3 hG aa aN ?_|refine Q4 hG aa aN ?_|refine Q5 hG aa ?_|refine Q6 hG aa ?_|refine Q7 hG aa ?_|refine Q8 hG aa ?_|refine Q9 rfl ?_|refine QF rfl ?_|refine QC rfl ⟨fun h => ?_,fun h => ?_⟩|((conv => whnf); first|refine anF ?_|refine anT ?_|refine anK ?_|refine And.intro (fun h => ?_) (fun h => ?_)|refine Or.inl ?_)
 refine ap (X := Nat) (fun k => ⟨[(20, .int .i64 k), (19, .int .i64 (l.map aD).length), (18, ay l), (1, ay l), (9, .bool false), (8, .loc 8 0), (7, .bool false), (6, .loc 6 0)], [(8, br ⟨0, 0, 0, 0⟩), (6, br ⟨0, 0, 0, 0⟩)]⟩) (fun k => k ≤ l.length ∧ ∀ j, j < k → uC l j = none) (fun k => l.length - k) 0 ⟨Nat.zero_le _, fun j h => absurd h (by omega)⟩ (ag ?_ ?_) (fun k hk => ?_)
 ·repeat' (first | exact trivial | refine And.intro rfl ?_)
 ·repeat' (first | exact trivial | refine And.intro rfl ?_)
 ·obtain ⟨hk, hnk⟩ := hk
  by_cases hlt : k < l.length
  ·have bbk : decide ((k : Int) < ((l.map aD).length : Int)) = false → False := fun h => by have := of_decide_eq_false h; simp at this; omega
   have hx := c8 hlt
   have hsx : (au l k).sl.length ≤ 1000000 := hsl _ (by rw [bj hlt]; exact List.getElem_mem hlt)
   have hk0 : 0 ≤ (k : Int) := Int.natCast_nonneg k
   have hkl : (k : Int).toNat ≤ (l.map aD).length := by simp; omega
   obtain ⟨x, hxe⟩ : ∃ x, x = au l k := ⟨_, rfl⟩
   rw [← hxe] at hx hsx
   have hkc : (k : Int) ≤ ((l.map aD).length : Int) := by simp; omega
   repeat' first|exact (bbk (by assumption)).elim|refine Q1 ?_|refine Q2 ?_|refine Q3 hG aa aN ?_|refine Q4 hG aa aN ?_|refine Q5 hG aa ?_|refine Q6 hG aa ?_|refine Q7 hG aa ?_|refine Q8 hG aa ?_|refine Q9 rfl ?_|refine QF rfl ?_|refine QC rfl ⟨fun h => ?_,fun h => ?_⟩|((conv => whnf); first|refine anF ?_|refine anT ?_|refine anK ?_|refine And.intro (Int.natCast_nonneg k) (Exists.intro _ (And.intro hx ?_))|refine And.intro hk0 (And.intro (Nat.zero_le _) (And.intro hkl ?_))|refine And.intro (fun h => ?_) (fun h => ?_)|refine Or.inl ?_)
   obtain ⟨row, hrow⟩ : ∃ row, row = ((l.map aD).take (k : Int).toNat).drop 0 := ⟨_, rfl⟩
   have hrl : row.length = k := by rw [hrow]; simp; omega
   have hry : ∀ i, i < k → row[(i : Int).toNat]? = some (aD (au l i)) := fun i hi => by
    rw [hrow, List.drop_zero, Int.toNat_natCast, List.getElem?_take, if_pos (by omega)]
    exact c8 (by omega)
   rw [← hrow]
   refine ap (X := Nat) (fun i => ⟨[(29, .int .i64 i), (28, .int .i64 row.length), (27, .sl .no 9 row), (10, .int .i64 k), (11, .loc 11 0), (20, .int .i64 k), (19, .int .i64 (l.map aD).length), (18, ay l), (1, ay l), (9, .bool false), (8, .loc 8 0), (7, .bool false), (6, .loc 6 0)], [(11, aD x), (8, br ⟨0, 0, 0, 0⟩), (6, br ⟨0, 0, 0, 0⟩)]⟩) (fun i => i ≤ k ∧ ∀ j, j < i → qr l k j = none) (fun i => k - i) 0 ⟨Nat.zero_le _, fun j h => absurd h (by omega)⟩ (ag ?_ ?_) (fun i hi => ?_)
   ·repeat' (first | exact trivial | refine And.intro rfl ?_)
   ·repeat' (first | exact trivial | refine And.intro rfl ?_)
   ·obtain ⟨hi, hni⟩ := hi
    by_cases hil : i < k
    ·have bbi : decide ((i : Int) < (row.length : Int)) = false → False := fun h => by have := of_decide_eq_false h; omega
     have hy := hry i hil
     have hsy : (au l i).sl.length ≤ 1000000 := hsl _ (by rw [bj (show i < l.length by omega)]; exact List.getElem_mem _)
     obtain ⟨y, hye⟩ : ∃ y, y = au l i := ⟨_, rfl⟩
     rw [← hye] at hy hsy
     repeat' first|exact (bbi (by assumption)).elim|refine Q1 ?_|refine Q2 ?_|refine Q3 hG aa aN ?_|refine Q4 hG aa aN ?_|refine Q5 hG aa ?_|refine Q6 hG aa ?_|refine Q7 hG aa ?_|refine Q8 hG aa ?_|refine Q9 rfl ?_|refine QF rfl ?_|refine QC rfl ⟨fun h => ?_,fun h => ?_⟩|((conv => whnf); first|refine anF ?_|refine anT ?_|refine anK ?_|refine And.intro (Int.natCast_nonneg i) (Exists.intro _ (And.intro hy ?_))|refine Exists.intro _ (And.intro ((oR [y]).sl0) ?_)|refine And.intro (fun h => ?_) (fun h => ?_)|refine Or.inl ?_)
     have e1 : bf [y] = slP y := by simp [bf, slP]
     have e2 : bf [x] = slP x := by simp [bf, slP]
     refine ⟨SP.rangeM2 hG hro (Nat.le_trans (by decide) h9) (α := Int × Int) spA (f := 166) (cap := [.ref [ay [y]]]) (items := bf [y]) rfl (js [y] (Nat.le_of_ble_eq_true rfl) (fun o ho => by rw [List.mem_singleton.1 ho]; exact hsy)) (fun _ => rfl) (fun _ => [(14, .loc 14 0), (13, .loc 13 0), (29, .int .i64 i), (28, .int .i64 row.length), (27, .sl .no 9 row), (10, .int .i64 k), (11, .loc 11 0), (20, .int .i64 k), (19, .int .i64 (l.map aD).length), (18, ay l), (1, ay l), (9, .bool false), (8, .loc 8 0), (7, .bool false), (6, .loc 6 0)]) [14, 13, 29, 28, 27, 10, 11, 20, 19, 18, 1, 9, 8, 7, 6] (fun _ => rfl)
      (fun pre => [(14, [.int .i64 (wT pre (slP x) (-1))]), (13, aD y), (11, aD x), (8, br ⟨0, 0, 0, 0⟩), (6, br ⟨0, 0, 0, 0⟩)]) (ag ?_ ?_) (by kernel_rfl) (by decide) ?_ ?_⟩
     ·repeat' (first | exact trivial | refine And.intro rfl ?_)
     ·repeat' (first | exact trivial | refine And.intro rfl ?_)
     ·intro F' n'' m' hG' hr' hn'' pre u rest hpre
      obtain ⟨l0, hr'⟩ := hr'
      clear hG
      have hG := hG'
      refine SPB.out (Q4 hG aa aN ?_)
      conv => whnf
      refine And.intro rfl (And.intro (ag ?_ ?_) ?_)
      ·repeat' (first | exact trivial | refine And.intro rfl ?_)
      ·repeat' (first | exact trivial | refine And.intro rfl ?_)
      refine SPB.out ?_
      repeat' first|refine Q1 ?_|refine Q2 ?_|refine Q3 hG aa aN ?_|refine Q4 hG aa aN ?_|refine Q5 hG aa ?_|refine Q6 hG aa ?_|refine Q7 hG aa ?_|refine Q8 hG aa ?_|refine Q9 rfl ?_|refine QF rfl ?_|refine QC rfl ⟨fun h => ?_,fun h => ?_⟩|((conv => whnf); first|refine anF ?_|refine anT ?_|refine anK ?_|refine Exists.intro _ (And.intro ((oR [x]).sl0) ?_)|refine And.intro (fun h => ?_) (fun h => ?_)|refine Or.inl ?_)
      obtain ⟨f0, hf0⟩ : ∃ f0, f0 = wT pre (slP x) (-1) := ⟨_, rfl⟩
      have hf1 : wT (pre ++ [u]) (slP x) (-1) = mIn u (slP x) f0 := by rw [hf0]; simp [wT]
      rw [← hf0]
      refine ⟨SP.rangeMi hG hr' (by rw [hn'']; show 1 ≤ n' - 1 - 1; omega) (α := Int × Int) spA (f := 166) (cap := [.ref [ay [x]]]) (items := bf [x]) rfl (js [x] (Nat.le_of_ble_eq_true rfl) (fun o ho => by rw [List.mem_singleton.1 ho]; exact hsx)) (fun _ => rfl) (fun _ => [(15, .loc 15 0), (14, .loc 14 0), (13, .loc 13 0), (29, .int .i64 i), (28, .int .i64 row.length), (27, .sl .no 9 row), (10, .int .i64 k), (11, .loc 11 0), (20, .int .i64 k), (19, .int .i64 (l.map aD).length), (18, ay l), (1, ay l), (9, .bool false), (8, .loc 8 0), (7, .bool false), (6, .loc 6 0)]) [15, 14, 13, 29, 28, 27, 10, 11, 20, 19, 18, 1, 9, 8, 7, 6] (fun _ => rfl)
       (fun pre2 => [(14, [.int .i64 (mIn u pre2 f0)]), (15, [.int .i64 u.1, .int .i64 u.2]), (13, aD y), (11, aD x), (8, br ⟨0, 0, 0, 0⟩), (6, br ⟨0, 0, 0, 0⟩)]) (ag ?_ ?_) (by kernel_rfl) (by decide) ?_ ?_⟩
      ·repeat' (first | exact trivial | refine And.intro rfl ?_)
      ·repeat' (first | exact trivial | refine And.intro rfl ?_)
      ·intro F3 n3 m3 hG3 _ _ pre2 v rest2 hpre2
       clear hG
       have hG := hG3
       obtain ⟨g, hg⟩ : ∃ g, g = mIn u pre2 f0 := ⟨_, rfl⟩
       have hg1 : mIn u (pre2 ++ [v]) f0 = iF g u v := by rw [hg]; simp [mIn]
       rw [← hg]
       refine SPB.out (Q4 hG aa aN ?_)
       conv => whnf
       refine And.intro rfl (And.intro (ag ?_ ?_) ?_)
       ·repeat' (first | exact trivial | refine And.intro rfl ?_)
       ·repeat' (first | exact trivial | refine And.intro rfl ?_)
       refine SPB.out ?_
       repeat' first|refine Q1 ?_|refine Q2 ?_|refine Q3 hG aa aN ?_|refine Q4 hG aa aN ?_|refine Q5 hG aa ?_|refine Q6 hG aa ?_|refine Q7 hG aa ?_|refine Q8 hG aa ?_|refine Q9 rfl ?_|refine QF rfl ?_|refine QC rfl ⟨fun h => ?_,fun h => ?_⟩|((conv => whnf); first|refine anF ?_|refine anT ?_|refine anK ?_|refine And.intro (fun h => ?_) (fun h => ?_)|refine Or.inl ?_)
       all_goals conv => whnf
       all_goals refine ag ?_ ?_
       all_goals first
        |(refine And.intro (congrArg (fun z => some [AV.int .i64 z]) (by rw [hg1]; unfold iF; (try simp only [decide_eq_true_eq, decide_eq_false_iff_not, gt_iff_lt, cond_true, cond_false] at *); split <;> omega)) ?_; repeat' (first | exact trivial | refine And.intro rfl ?_))
        |(repeat' (first | exact trivial | refine And.intro rfl ?_))
      ·rw [e2]
       conv => whnf
       repeat' first|refine Q1 ?_|refine Q2 ?_|refine Q3 hG aa aN ?_|refine Q4 hG aa aN ?_|refine Q5 hG aa ?_|refine Q6 hG aa ?_|refine Q7 hG aa ?_|refine Q8 hG aa ?_|refine Q9 rfl ?_|refine QF rfl ?_|refine QC rfl ⟨fun h => ?_,fun h => ?_⟩|((conv => whnf); first|refine anF ?_|refine anT ?_|refine anK ?_|refine And.intro (fun h => ?_) (fun h => ?_)|refine Or.inl ?_)
       refine ag ?_ ?_
       ·repeat' (first | exact trivial | refine And.intro rfl ?_)
       ·refine And.intro (congrArg (fun z => some [AV.int .i64 z]) hf1.symm) ?_
        repeat' (first | exact trivial | refine And.intro rfl ?_)
     ·rw [e1]
      conv => whnf
      repeat' first|refine Q1 ?_|refine Q2 ?_|refine Q3 hG aa aN ?_|refine Q4 hG aa aN ?_|refine Q5 hG aa ?_|refine Q6 hG aa ?_|refine Q7 hG aa ?_|refine Q8 hG aa ?_|refine Q9 rfl ?_|refine QF rfl ?_|refine QC rfl ⟨fun h => ?_,fun h => ?_⟩|((conv => whnf); first|refine anF ?_|refine anT ?_|refine anK ?_|refine And.intro (fun h => ?_) (fun h => ?_)|refine Or.inl ?_)
      ·have hm : gZ (au l i) (au l k) ≥ 0 := by rw [← hxe, ← hye]; exact of_decide_eq_true (by assumption)
       have hI : qr l k i = some (i, k, gZ (au l i) (au l k)) := if_pos hm
       have hO : qq l = some (i, k, gZ (au l i) (au l k)) := gH hnk hlt (gH hni hil hI)
       rw [hO]
       exact And.intro (fun _ h => nomatch h) (Ends.mk (Or.inl rfl) (ac (by rw [hxe, hye]; rfl)))
      ·have hm : ¬ gZ (au l i) (au l k) ≥ 0 := by rw [← hxe, ← hye]; exact of_decide_eq_false (by assumption)
       have hI : qr l k i = none := if_neg hm
       conv => whnf
       refine Exists.intro (i + 1) (And.intro ⟨hil, fun j hj => ?_⟩ (And.intro (by omega) (ag (And.intro (congrArg some (am (by omega))) ?_) ?_)))
       ·rcases Nat.lt_or_ge j i with h | h
        ·exact hni j h
        ·have : j = i := by omega
         rw [this]; exact hI
       ·repeat' (first | exact trivial | refine And.intro rfl ?_)
       ·repeat' (first | exact trivial | refine And.intro rfl ?_)
    ·have bbi : decide ((i : Int) < (row.length : Int)) = true → False := fun h => by have := of_decide_eq_true h; omega
     have hJ : uC l k = none := eu fun j hj => hni j (by omega)
     repeat' first|exact (bbi (by assumption)).elim|refine Q1 ?_|refine Q2 ?_|refine Q3 hG aa aN ?_|refine Q4 hG aa aN ?_|refine Q5 hG aa ?_|refine Q6 hG aa ?_|refine Q7 hG aa ?_|refine Q8 hG aa ?_|refine Q9 rfl ?_|refine QF rfl ?_|refine QC rfl ⟨fun h => ?_,fun h => ?_⟩|((conv => whnf); first|refine anF ?_|refine anT ?_|refine anK ?_|refine And.intro (fun h => ?_) (fun h => ?_)|refine Or.inl ?_)
     conv => whnf
     refine Exists.intro (k + 1) (And.intro ⟨hlt, fun j hj => ?_⟩ (And.intro (by omega) (ag (And.intro (congrArg some (am (by omega))) ?_) ?_)))
     ·rcases Nat.lt_or_ge j k with h | h
      ·exact hnk j h
      ·have : j = k := by omega
       rw [this]; exact hJ
     ·repeat' (first | exact trivial | refine And.intro rfl ?_)
     ·repeat' (first | exact trivial | refine And.intro rfl ?_)
  ·have bbk : decide ((k : Int) < ((l.map aD).length : Int)) = true → False := fun h => by have := of_decide_eq_true h; simp at this; omega
   have hO : qq l = none := eu fun j hj => hnk j (by omega)
   rw [hO]
   repeat' first|exact (bbk (by assumption)).elim|refine Q1 ?_|refine Q2 ?_|refine Q3 hG aa aN ?_|refine Q4 hG aa aN ?_|refine Q5 hG aa ?_|refine Q6 hG aa ?_|refine Q7 hG aa ?_|refine Q8 hG aa ?_|refine Q9 rfl ?_|refine QF rfl ?_|refine QC rfl ⟨fun h => ?_,fun h => ?_⟩|((conv => whnf); first|refine anF ?_|refine anT ?_|refine anK ?_|refine And.intro (fun h => ?_) (fun h => ?_)|refine Or.inl ?_)
   exact And.intro (fun _ h => nomatch h) (Ends.mk (Or.inl rfl) (ac rfl))
end Go.Proofs
namespace Go.Proofs
open Go Go.AI
set_option maxRecDepth 10000
structure rL (s : Nat → Int) (l : List Opt) (a b : Int) : Prop where
 hl : l.length ≤ 1000000
 sl : gV l
 sp : (bf l).length ≤ 900000
 val : jR s (aR l) = true
 span : iA a b = true
 can : ∀ o ∈ l, iJ o = true
 mem : dy (aV l) = true
 s10 : inM (s 10) 0 1000000 = true
 ll : (aC l).length ≤ 1000000
 bat : fc s (aC l) a b = true
def A7 (k : Int) (z : Flt) : Flt := ⟨k, z.a, z.b, z.t⟩
def wG : List (List AV) := [[.int .i64 2, .fn 72], [.int .i64 3, .fn 73], [.int .i64 4, .fn 74], [.int .i64 5, .fn 75], [.int .i64 6, .fn 76]]
def EH (s : Nat → Int) (l : List Opt) (a b : Int) (i : Nat) : Prop := ∃ (kind : Int) (f : FuncId) (z : Flt) (ok : Bool), wG[(i : Int).toNat]? = some [.int .i64 kind, .fn f] ∧
 ae Tryz.prog f [.agg (aJ s), ay l, .agg (ar a b)] (.tup [.agg (br z), .bool ok]) ∧ (ma s l a b)[i]? = some (if ok then some (A7 kind z) else none)
theorem pZ (k sat t : Int) : yU k sat t = if (t != -1) = true then some (A7 k ⟨0, sat, 0, t⟩) else none := by
 unfold yU A7
 by_cases h : t = -1 <;> simp [h]
theorem Bd {s : Nat → Int} {l : List Opt} {a b : Int} (h : rL s l a b) : ∀ i, i < 5 → EH s l a b i
 | 0, _ => by
  have c := xw s l a b h.hl h.val
  have e : (ma s l a b)[0]? = some (kT s l) := rfl
  unfold kT at e
  cases hs : gn s (aR l) with
  | none => rw [hs] at c e; exact ⟨2, 72, ⟨0, 0, 0, 0⟩, false, rfl, c, e⟩
  | some p => obtain ⟨i, k⟩ := p; rw [hs] at c e; exact ⟨2, 72, _, true, rfl, c, e⟩
 | 1, _ => ⟨3, 73, _, _, rfl, AE s l a b h.hl h.span h.val, congrArg some (pZ _ _ _)⟩
 | 2, _ => ⟨4, 74, _, _, rfl, xt s l a b h.hl h.sl h.can h.mem h.s10, congrArg some (pZ _ _ _)⟩
 | 3, _ => ⟨5, 75, _, _, rfl, vT s l a b h.hl h.sl h.sp h.ll h.bat, congrArg some (pZ _ _ _)⟩
 | 4, _ => by
  have c := xx s l a b h.hl h.sl
  have e : (ma s l a b)[4]? = some (jX l) := rfl
  unfold jX at e
  cases hs : qq l with
  | none => rw [hs] at c e; exact ⟨6, 76, ⟨0, 0, 0, 0⟩, false, rfl, c, e⟩
  | some p => obtain ⟨i, k, t⟩ := p; rw [hs] at c e; exact ⟨6, 76, _, true, rfl, c, e⟩
def aU (s : Nat → Int) (l : List Opt) (a b : Int) (i : Nat) : List Flt := ((ma s l a b).take i).filterMap id
theorem fV {s : Nat → Int} {l : List Opt} {a b : Int} {i : Nat} {o : Option Flt} (h : (ma s l a b)[i]? = some o) : aU s l a b (i + 1) = aU s l a b i ++ o.toList := by
 unfold aU
 rw [List.take_add_one, h, List.filterMap_append]
 cases o <;> rfl
theorem bK (s : Nat → Int) (l : List Opt) (a b : Int) (i : Nat) : (aU s l a b i).length ≤ 5 := by
 unfold aU
 refine Nat.le_trans (List.length_filterMap_le _ _) ?_
 rw [List.length_take]; simp [ma]; omega
set_option maxHeartbeats 4000000 in
theorem xG (s : Nat → Int) (l : List Opt) (ps : List aG) (a b : Int) (hps : ps.length ≤ 1000000) (hv : bD s l ps a b = true) (h : rL s l a b) : ae Tryz.prog 21 [.agg (aJ s), ay l, aB ps, .agg (ar a b)] (.tup [hU (ew s l a b), .int .i64 0]) := by
 have cV := gM s l ps a b h.hl h.sl hps
 rw [hv] at cV
 refine ah aa Tryz.func21 rfl (by kernel_rfl) af (Nat.le_of_ble_eq_true rfl) ?_
 intro F n' w0 m0 hG hro h1
 repeat' first|refine Q1 ?_|refine Q2 ?_|refine Q3 hG aa dx ?_|refine Q4 hG aa dx ?_|refine Q5 hG aa ?_|refine Q6 hG aa ?_|refine Q7 hG aa ?_|refine Q8 hG aa ?_|refine Q9 rfl ?_|refine QF rfl ?_|refine QC rfl ⟨fun h => ?_,fun h => ?_⟩|((conv => whnf); first|refine anF ?_|refine anT ?_|refine anK ?_|refine Exists.intro _ (And.intro (cV) ?_)|refine And.intro (fun h => ?_) (fun h => ?_)|refine Or.inl ?_)
 refine ap (X := Nat) (fun i => ⟨[(28, .int .i64 i), (27, .int .i64 5), (26, .sl .full 2 wG), (1, ay l), (10, .sl (.id 10) 4 ((aU s l a b i).map br)), (4, .loc 4 0), (7, .loc 7 0)], [(7, ar a b), (4, aJ s)]⟩) (fun i => i ≤ 5) (fun i => 5 - i) 0 (Nat.zero_le _) (ag ?_ ?_) (fun i hi => ?_)
 ·repeat' (first | exact trivial | refine And.intro rfl ?_)
 ·repeat' (first | exact trivial | refine And.intro rfl ?_)
 ·by_cases hlt : i < 5
  ·have bbk : decide ((i : Int) < 5) = false → False := fun h => by have := of_decide_eq_false h; omega
   obtain ⟨kind, f, z, ok, hx, cR, hR⟩ := Bd h i hlt
   have hst := fV hR
   have hln : ((aU s l a b i).map br).length ≤ 5 := by rw [List.length_map]; exact bK s l a b i
   have hrow : (aU s l a b (i + 1)).map br = (aU s l a b i).map br ++ (if ok then [br (A7 kind z)] else []) := by rw [hst, List.map_append]; cases ok <;> rfl
   generalize (aU s l a b i).map br = row at hln hrow
   obtain ⟨rr, hrr⟩ : ∃ rr, rr = wG := ⟨_, rfl⟩
   rw [← hrr] at hx ⊢
   repeat' first|exact (bbk (by assumption)).elim|refine Q1 ?_|refine Q2 ?_|refine Q3 hG aa dx ?_|refine Q4 hG aa dx ?_|refine Q5 hG aa ?_|refine Q6 hG aa ?_|refine Q7 hG aa ?_|refine Q8 hG aa ?_|refine Q9 rfl ?_|refine QF rfl ?_|refine QC rfl ⟨fun h => ?_,fun h => ?_⟩|((conv => whnf); first|refine anF ?_|refine anT ?_|refine anK ?_|refine And.intro (Int.natCast_nonneg i) (Exists.intro _ (And.intro hx ?_))|refine Exists.intro _ (And.intro (cR) ?_)|refine And.intro (show (row.length + 1) * 32 ≤ 70368744177664 by omega) (And.intro (show row.length + 1 ≤ 4611686018427387904 by omega) ?_)|refine And.intro (fun h => ?_) (fun h => ?_)|refine Or.inl ?_)
   ·have hok := (by assumption : ok = true)
    conv => whnf
    refine Exists.intro (i + 1) (And.intro hlt (And.intro (by omega) ?_))
    rw [hrow, if_pos hok]
    refine ag (And.intro (congrArg some (am (by omega))) ?_) ?_
    ·repeat' (first | exact trivial | refine And.intro rfl ?_)
    ·repeat' (first | exact trivial | refine And.intro rfl ?_)
   ·have hok := (by assumption : ok = false)
    conv => whnf
    refine Exists.intro (i + 1) (And.intro hlt (And.intro (by omega) ?_))
    rw [hrow, hok, if_neg (by decide), List.append_nil]
    refine ag (And.intro (congrArg some (am (by omega))) ?_) ?_
    ·repeat' (first | exact trivial | refine And.intro rfl ?_)
    ·repeat' (first | exact trivial | refine And.intro rfl ?_)
  ·have bbk : decide ((i : Int) < 5) = true → False := fun h => by have := of_decide_eq_true h; omega
   have he : i = 5 := by omega
   subst he
   repeat' first|exact (bbk (by assumption)).elim|refine Q1 ?_|refine Q2 ?_|refine Q3 hG aa dx ?_|refine Q4 hG aa dx ?_|refine Q5 hG aa ?_|refine Q6 hG aa ?_|refine Q7 hG aa ?_|refine Q8 hG aa ?_|refine Q9 rfl ?_|refine QF rfl ?_|refine QC rfl ⟨fun h => ?_,fun h => ?_⟩|((conv => whnf); first|refine anF ?_|refine anT ?_|refine anK ?_|refine And.intro (fun h => ?_) (fun h => ?_)|refine Or.inl ?_)
   exact Ends.mk (Or.inl rfl) (ac rfl)
end Go.Proofs
namespace Go.Proofs
open Go Go.AI
structure DU (s : Nat → Int) (o : Opt) (b : Int) : Prop where
 id : 0 ≤ o.id ∧ o.id ≤ 63
 size : 1 ≤ o.size ∧ o.size ≤ s 10
 shot : 0 ≤ o.a ∧ o.a < o.b ∧ o.b ≤ 1000000 ∧ o.b - o.a ≤ 60
 look : inS o.look (w64 (0 - s 9)) (s 9) = true
 len : 1 ≤ o.sl.length ∧ o.sl.length ≤ 6
 slot : ∀ x ∈ o.sl, 0 ≤ x.a ∧ x.a < x.b ∧ x.b ≤ dT o
 last : o.b < dT o ∧ dT o ≤ b
 can : iJ o = true
def jk (t : Int) : List bl → Int
 | [] => t
 | x :: r => jk x.b r
theorem qE (t : Int) : ∀ (l : List bl), l ≠ [] → jk t l = (l.getD (l.length - 1) gU).b
 | [], h => absurd rfl h
 | [x], _ => rfl
 | x :: y :: r, _ => by
  rw [jk, qE _ (y :: r) (by simp)]
  simp
theorem xO {s : Nat → Int} {ps : List aG} {z : Int} (hps : ∀ p ∈ ps, p.sb ≤ 1000001) (hpl : ps.length ≤ 64) : ∀ (l : List bl) (t : Int), bS s ps z t l = true → 0 ≤ t →
  (∀ x ∈ l, t ≤ x.a ∧ x.a < x.b ∧ x.b ≤ jk t l) ∧ t ≤ jk t l ∧ (l ≠ [] → t < jk t l) ∧ fh t l = true
 | [], t, _, _ => ⟨fun _ h => (nomatch h), Int.le_refl _, fun h => absurd rfl h, rfl⟩
 | x :: r, t, h, ht => by
  simp only [bS, gm, Bool.and_eq_true, inS, decide_eq_true_eq, Bool.not_eq_true'] at h
  obtain ⟨⟨h01, ⟨⟨⟨_, h2⟩, h3⟩, h4⟩, _⟩, h5⟩ := h
  obtain ⟨h0, h1⟩ := h01
  have hxa : t ≤ x.a := by omega
  obtain ⟨g1, g2, _, g4⟩ := xO hps hpl r x.b h5 (by omega)
  have hp : (aO ps x.p.toNat).sb ≤ 1000001 := by
   rw [ai (by omega) (by omega)] at h1
   have hlt : x.p.toNat < ps.length := by omega
   unfold aO
   rw [List.getD_eq_getElem?_getD, List.getElem?_eq_getElem hlt]
   exact hps _ (List.getElem_mem hlt)
  refine ⟨fun y hy => ?_, ?_, fun _ => ?_, ?_⟩
  ·rcases List.mem_cons.1 hy with rfl | hy
   ·exact ⟨hxa, h4, g2⟩
   ·have := g1 y hy
    exact ⟨by omega, this.2.1, this.2.2⟩
  ·show t ≤ jk x.b r; omega
  ·show t < jk x.b r; omega
  ·simp only [fh, jM, Bool.and_eq_true, decide_eq_true_eq]
   exact ⟨⟨hxa, ⟨by omega, h4⟩, by omega⟩, g4⟩
theorem Er {ps : List aG} (h : dq ps = true) : (∀ p ∈ ps, p.sb ≤ 1000001) ∧ ps.length ≤ 64 := by
 simp only [dq, Bool.and_eq_true, decide_eq_true_eq, Bool.not_eq_true', List.any_eq_false] at h
 refine ⟨fun p hp => ?_, h.1.1⟩
 have := h.1.2 p hp
 simp only [dA, inS, Bool.and_eq_true, Bool.or_eq_true, decide_eq_true_eq, Bool.not_eq_true, Bool.not_eq_true', Bool.not_eq_false, beq_iff_eq] at this
 omega
theorem D8 {s : Nat → Int} {o : Opt} {ps : List aG} {b : Int} (hps : dq ps = true) (hs : s 10 ≤ 1000000) (h : cu s o ps = true) (hb : dT o ≤ b) : DU s o b := by
 obtain ⟨hp1, hp2⟩ := Er hps
 simp only [cu, ms, o0, oq, uZ, jM, Bool.and_eq_true, decide_eq_true_eq, beq_iff_eq] at h
 obtain ⟨⟨⟨⟨⟨⟨⟨hid, _⟩, _⟩, _⟩, hsz⟩, ⟨⟨⟨_, hsp⟩, _⟩, hlk⟩, hob⟩, hln⟩, hsl⟩ := h
 simp only [inS, Bool.and_eq_true, decide_eq_true_eq] at hid hsz hln
 have hspan : 0 ≤ o.a ∧ o.a < o.b ∧ o.b - o.a ≤ 60 := by
  obtain ⟨⟨⟨q1, q2⟩, q3⟩, q4⟩ := hsp
  rw [ai (by omega) (by omega)] at q4
  exact ⟨q1, q2, q4⟩
 obtain ⟨g1, g2, g3, g4⟩ := xO hp1 hp2 o.sl o.b hsl (by omega)
 have hne : o.sl ≠ [] := fun e => by rw [e] at hln; simp at hln
 have hlast : jk o.b o.sl = dT o := qE _ _ hne
 rw [hlast] at g1 g2 g3
 refine ⟨hid, hsz, ⟨hspan.1, hspan.2.1, hob, hspan.2.2⟩, hlk, by omega, fun x hx => ?_, ⟨g3 hne, hb⟩, ?_⟩
 ·have := g1 x hx; omega
 ·simp only [iJ, Bool.and_eq_true, inS, jM, decide_eq_true_eq]
  exact ⟨g4, ⟨⟨hid, by omega, by omega⟩, ⟨by omega, by omega⟩, by omega⟩, by omega, by omega⟩
theorem lu {s : Nat → Int} {ps : List aG} {a b : Int} : ∀ (l pre : List Opt), dh s ps a b pre l = true → ∀ o ∈ l, cu s o ps = true ∧ a ≤ o.a ∧ dT o ≤ b
 | [], _, _, o, ho => nomatch ho
 | x :: r, pre, h, o, ho => by
  simp only [dh, Bool.and_eq_true] at h
  rcases List.mem_cons.1 ho with rfl | ho
  ·have := h.1
   simp only [iD, Bool.and_eq_true, Bool.not_eq_true', decide_eq_false_iff_not] at this
   exact ⟨this.1.1.1, by omega, by omega⟩
  ·exact lu r _ h.2 o ho
theorem s9 {s : Nat → Int} {l : List Opt} {ps : List aG} {a b : Int} (h : bD s l ps a b = true) : l.length ≤ 8 ∧ (0 ≤ a ∧ a < b ∧ b ≤ 1000000) ∧ b - a ≤ 3000 ∧ dR s = true ∧ dq ps = true ∧ dh s ps a b [] l = true := by
 simp only [bD, Bool.and_eq_true, decide_eq_true_eq, Bool.not_eq_true', decide_eq_false_iff_not] at h
 obtain ⟨⟨⟨⟨⟨h1, h2⟩, h3⟩, h4⟩, h5⟩, h6⟩ := h
 have h2 := mb h2
 rw [ai (by omega) (by omega)] at h3
 exact ⟨h1, h2, by omega, h4, h5, h6⟩
theorem Ej {s : Nat → Int} (h : dR s = true) : 1 ≤ s 10 ∧ s 10 ≤ 1000000 := by
 simp only [dR, inS, Bool.and_eq_true, decide_eq_true_eq] at h
 omega
theorem BB {s : Nat → Int} {ps : List aG} {a b : Int} (hps : dq ps = true) (hs : s 10 ≤ 1000000) (hb : b ≤ 1000000) : ∀ (l pre : List Opt), dh s ps a b pre l = true → dK (aV pre) (aV l) = true
 | [], _, _ => rfl
 | x :: r, pre, h => by
  have hx := lu (x :: r) pre h x (.head _)
  have hf := D8 hps hs hx.1 hx.2.2
  simp only [dh, Bool.and_eq_true] at h
  have ih := BB hps hs hb r _ h.2
  have hid := h.1
  simp only [iD, Bool.and_eq_true, Bool.not_eq_true'] at hid
  have hid := hid.2
  rw [show aV (x :: r) = ⟨x.id, x.size, x.a, dT x⟩ :: aV r from rfl, dK, show aV pre ++ [⟨x.id, x.size, x.a, dT x⟩] = aV (pre ++ [x]) by simp [aV], ih, Bool.and_true]
  have hse : ir (aV pre) x.id = false := by
   rw [← hid]; unfold ir aV; rw [List.any_map]; rfl
  obtain ⟨q1, q2, q3, q4, q5, q6, q7, q8⟩ := hf
  simp only [iE, hse, inM, spM, Bool.and_eq_true, decide_eq_true_eq, Bool.not_false, true_and]
  exact ⟨q1, ⟨q2.1, by omega⟩, q3.1, by omega, by omega⟩
theorem rL.of {s : Nat → Int} {l : List Opt} {ps : List aG} {a b : Int} (h : bD s l ps a b = true) : rL s l a b ∧ ep l ∧ ∀ o ∈ l, DU s o b := by
 obtain ⟨h1, h2, h3, h4, h5, h6⟩ := s9 h
 have h10 := Ej h4
 have hm : ∀ o ∈ l, DU s o b := fun o ho => by
  have := lu l [] h6 o ho
  exact D8 h5 h10.2 this.1 this.2.2
 have hg : ep l := ⟨h1, fun o ho => by
  obtain ⟨q1, q2, q3, q4, q5, q6, q7, q8⟩ := hm o ho
  omega, fun o ho x hx => by
  obtain ⟨q1, q2, q3, q4, q5, q6, q7, q8⟩ := hm o ho
  have := q6 x hx
  omega⟩
 have hlen := x5 hg
 have hrl := hg.len
 refine ⟨⟨by omega, fun o ho => by have := (hm o ho).len; omega, ?_, ?_, ?_, fun o ho => (hm o ho).can, ?_, ?_, by omega, ?_⟩, hg, hm⟩
 ·have := uI l; omega
 ·rw [jR, h4, Bool.and_true, oQ, Bool.and_eq_true]
  refine ⟨List.all_eq_true.2 fun x hx => ?_, by simp [aR]; omega⟩
  obtain ⟨o, ho, rfl⟩ := List.mem_map.1 hx
  obtain ⟨q1, q2, q3, q4, q5, q6, q7, q8⟩ := hm o ho
  simp only [pV, Bool.and_eq_true, decide_eq_true_eq]
  rw [ai (by omega) (by omega)]
  exact ⟨⟨⟨⟨q3.1, q3.2.1⟩, q3.2.2.1⟩, q3.2.2.2⟩, q4⟩
 ·simp only [iA, Bool.and_eq_true, decide_eq_true_eq]
  rw [ai (by omega) (by omega)]
  omega
 ·rw [dy, show dK [] (aV l) = true from BB h5 h10.2 h2.2.2 l [] h6, Bool.true_and]
  simp [aV]; omega
 ·simp only [inM, Bool.and_eq_true, decide_eq_true_eq]; omega
 ·rw [fc, h4, hg.proper, Bool.and_true, Bool.and_true, Bool.and_eq_true]
  refine ⟨dG.2 h2, ?_⟩
  rw [ai (by omega) (by omega)]
  exact decide_eq_true (by omega)
end Go.Proofs
namespace Go.Proofs
open Go Go.AI
set_option maxRecDepth 10000
theorem ld (s : Nat → Int) (l : List Opt) (ps : List aG) (a b : Int) (hl : l.length ≤ 1000000) (hsl : gV l) (hps : ps.length ≤ 1000000) (hv : bD s l ps a b = false) : ae Tryz.prog 21 [.agg (aJ s), ay l, aB ps, .agg (ar a b)] (.tup [hU [], .int .i64 190]) := by
 have cV := gM s l ps a b hl hsl hps
 rw [hv] at cV
 refine ah aa Tryz.func21 rfl (by kernel_rfl) af (Nat.le_of_ble_eq_true rfl) ?_
 intro F n' w0 m0 hG hro h1
 repeat' first|refine Q1 ?_|refine Q2 ?_|refine Q3 hG aa dx ?_|refine Q4 hG aa dx ?_|refine Q5 hG aa ?_|refine Q6 hG aa ?_|refine Q7 hG aa ?_|refine Q8 hG aa ?_|refine Q9 rfl ?_|refine QF rfl ?_|refine QC rfl ⟨fun h => ?_,fun h => ?_⟩|((conv => whnf); first|refine anF ?_|refine anT ?_|refine anK ?_|refine Exists.intro _ (And.intro (cV) ?_)|refine And.intro (fun h => ?_) (fun h => ?_)|refine Or.inl ?_)
 all_goals exact Ends.mk (Or.inl rfl) (ac rfl)
theorem jx (s : Nat → Int) (l : List Opt) (ps : List aG) (a b : Int) (hps : ps.length ≤ 1000000) (hv : bD s l ps a b = true) : ae Tryz.prog 21 [.agg (aJ s), ay l, aB ps, .agg (ar a b)] (.tup [hU (ew s l a b), .int .i64 0]) :=
 xG s l ps a b hps hv (rL.of hv).1
end Go.Proofs
