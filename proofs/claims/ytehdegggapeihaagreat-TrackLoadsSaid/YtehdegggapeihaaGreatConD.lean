/- Contracts of the functions and plain facts about what they reckon, part 4: called with arguments that read so, each hands back what is typed. The conditions are those typed. -/
import Derived.Test.YtehdegggapeihaaGreatConC
import Derived.Shelf.SlLaysF0
set_option linter.unusedSectionVars false
set_option linter.unusedVariables false
set_option linter.unusedSimpArgs false
namespace Go.Proofs
open Go Go.Shelf
def Tryz.sortL_ren : Go.Shelf.Ren := ⟨fun | 6 => 168 | 15 => 190 | 14 => 230 | 28 => 250 | 29 => 251 | 20 => 272 | 21 => 273 | 22 => 274 | 23 => 275 | 24 => 276 | 25 => 277 | 26 => 278 | 27 => 279 | 46 => 306 | 47 => 292 | 48 => 293 | 49 => 307 | 50 => 308 | 57 => 322 | n => n, fun | 22 => 57 | 24 => 74 | 25 => 155 | 3 => 3 | 39 => 254 | 0 => 0 | 53 => 299 | 55 => 301 | 4 => 4 | 46 => 293 | 45 => 292 | 50 => 118 | 5 => 5 | 9 => 9 | 66 => 325 | 70 => 329 | 76 => 346 | 77 => 347 | n => n, fun | n => n⟩
theorem Tryz.sortL : Go.Proofs.SlLaysF0.n6 Tryz.prog Tryz.sortL_ren where
  mixed := by kernel_rfl
  f6 := ⟨Tryz.f168.name, by kernel_rfl, Tryz.func168.trans (congrArg some (by kernel_rfl))⟩
  f14 := ⟨Tryz.f230.name, by kernel_rfl, Tryz.func230.trans (congrArg some (by kernel_rfl))⟩
  f15 := Tryz.func190.trans (congrArg some (by kernel_rfl))
  f20 := ⟨Tryz.f272.name, by kernel_rfl, Tryz.func272.trans (congrArg some (by kernel_rfl))⟩
  f21 := ⟨Tryz.f273.name, by kernel_rfl, Tryz.func273.trans (congrArg some (by kernel_rfl))⟩
  f22 := ⟨Tryz.f274.name, by kernel_rfl, Tryz.func274.trans (congrArg some (by kernel_rfl))⟩
  f23 := ⟨Tryz.f275.name, by kernel_rfl, Tryz.func275.trans (congrArg some (by kernel_rfl))⟩
  f24 := ⟨Tryz.f276.name, by kernel_rfl, Tryz.func276.trans (congrArg some (by kernel_rfl))⟩
  f25 := ⟨Tryz.f277.name, by kernel_rfl, Tryz.func277.trans (congrArg some (by kernel_rfl))⟩
  f26 := ⟨Tryz.f278.name, by kernel_rfl, Tryz.func278.trans (congrArg some (by kernel_rfl))⟩
  f27 := ⟨Tryz.f279.name, by kernel_rfl, Tryz.func279.trans (congrArg some (by kernel_rfl))⟩
  f28 := Tryz.func250.trans (congrArg some (by kernel_rfl))
  f29 := Tryz.func251.trans (congrArg some (by kernel_rfl))
  f46 := ⟨Tryz.f306.name, by kernel_rfl, Tryz.func306.trans (congrArg some (by kernel_rfl))⟩
  f47 := Tryz.func292.trans (congrArg some (by kernel_rfl))
  f48 := Tryz.func293.trans (congrArg some (by kernel_rfl))
  f49 := ⟨Tryz.f307.name, by kernel_rfl, Tryz.func307.trans (congrArg some (by kernel_rfl))⟩
  f50 := ⟨Tryz.f308.name, by kernel_rfl, Tryz.func308.trans (congrArg some (by kernel_rfl))⟩
  f57 := ⟨Tryz.f322.name, by kernel_rfl, Tryz.func322.trans (congrArg some (by kernel_rfl))⟩
  t0 := Tryz.underlying0
  a0 := Tryz.isAgg0
  z0 := Tryz.sizeOf0
  v0 := Tryz.zeroValue0
  t3 := Tryz.underlying3
  a3 := Tryz.isAgg3
  z3 := Tryz.sizeOf3
  v3 := Tryz.zeroValue3
  t4 := Tryz.underlying4
  a4 := Tryz.isAgg4
  z4 := Tryz.sizeOf4
  v4 := Tryz.zeroValue4
  t5 := Tryz.underlying5
  a5 := Tryz.isAgg5
  z5 := Tryz.sizeOf5
  v5 := Tryz.zeroValue5
  t9 := Tryz.underlying9
  a9 := Tryz.isAgg9
  z9 := Tryz.sizeOf9
  v9 := Tryz.zeroValue9
  t22 := Tryz.underlying57
  a22 := Tryz.isAgg57
  z22 := Tryz.sizeOf57
  v22 := Tryz.zeroValue57
  t25 := Tryz.underlying155
  a25 := Tryz.isAgg155
  z25 := Tryz.sizeOf155
  v25 := Tryz.zeroValue155
  t39 := Tryz.underlying254
  a39 := Tryz.isAgg254
  z39 := Tryz.sizeOf254
  v39 := Tryz.zeroValue254
  t45 := Tryz.underlying292
  a45 := Tryz.isAgg292
  z45 := Tryz.sizeOf292
  v45 := Tryz.zeroValue292
  t46 := Tryz.underlying293
  a46 := Tryz.isAgg293
  z46 := Tryz.sizeOf293
  v46 := Tryz.zeroValue293
  t50 := Tryz.underlying118
  a50 := Tryz.isAgg118
  z50 := Tryz.sizeOf118
  v50 := Tryz.zeroValue118
  t53 := Tryz.underlying299
  a53 := Tryz.isAgg299
  z53 := Tryz.sizeOf299
  v53 := Tryz.zeroValue299
  t55 := Tryz.underlying301
  a55 := Tryz.isAgg301
  z55 := Tryz.sizeOf301
  v55 := Tryz.zeroValue301
  t66 := Tryz.underlying325
  a66 := Tryz.isAgg325
  z66 := Tryz.sizeOf325
  v66 := Tryz.zeroValue325
  t70 := Tryz.underlying329
  a70 := Tryz.isAgg329
  z70 := Tryz.sizeOf329
  v70 := Tryz.zeroValue329
  t76 := Tryz.underlying346
  a76 := Tryz.isAgg346
  z76 := Tryz.sizeOf346
  v76 := Tryz.zeroValue346
  t77 := Tryz.underlying347
  a77 := Tryz.isAgg347
  z77 := Tryz.sizeOf347
  v77 := Tryz.zeroValue347
end Go.Proofs
namespace Go.Proofs
open Go Go.Shelf
def Tryz.sortP_ren : Go.Shelf.Ren := ⟨fun | 6 => 172 | 15 => 190 | 14 => 235 | 28 => 250 | 29 => 251 | 20 => 280 | 21 => 281 | 22 => 282 | 23 => 283 | 24 => 284 | 25 => 285 | 26 => 286 | 27 => 287 | 46 => 309 | 47 => 292 | 48 => 293 | 49 => 310 | 50 => 311 | 57 => 323 | n => n, fun | 22 => 239 | 24 => 241 | 25 => 243 | 3 => 3 | 39 => 254 | 0 => 0 | 53 => 299 | 55 => 301 | 4 => 4 | 46 => 293 | 45 => 292 | 50 => 118 | 5 => 5 | 9 => 9 | 66 => 325 | 70 => 329 | 76 => 346 | 77 => 347 | n => n, fun | n => n⟩
theorem Tryz.sortP : Go.Proofs.SlLaysF0.n6 Tryz.prog Tryz.sortP_ren where
  mixed := by kernel_rfl
  f6 := ⟨Tryz.f172.name, by kernel_rfl, Tryz.func172.trans (congrArg some (by kernel_rfl))⟩
  f14 := ⟨Tryz.f235.name, by kernel_rfl, Tryz.func235.trans (congrArg some (by kernel_rfl))⟩
  f15 := Tryz.func190.trans (congrArg some (by kernel_rfl))
  f20 := ⟨Tryz.f280.name, by kernel_rfl, Tryz.func280.trans (congrArg some (by kernel_rfl))⟩
  f21 := ⟨Tryz.f281.name, by kernel_rfl, Tryz.func281.trans (congrArg some (by kernel_rfl))⟩
  f22 := ⟨Tryz.f282.name, by kernel_rfl, Tryz.func282.trans (congrArg some (by kernel_rfl))⟩
  f23 := ⟨Tryz.f283.name, by kernel_rfl, Tryz.func283.trans (congrArg some (by kernel_rfl))⟩
  f24 := ⟨Tryz.f284.name, by kernel_rfl, Tryz.func284.trans (congrArg some (by kernel_rfl))⟩
  f25 := ⟨Tryz.f285.name, by kernel_rfl, Tryz.func285.trans (congrArg some (by kernel_rfl))⟩
  f26 := ⟨Tryz.f286.name, by kernel_rfl, Tryz.func286.trans (congrArg some (by kernel_rfl))⟩
  f27 := ⟨Tryz.f287.name, by kernel_rfl, Tryz.func287.trans (congrArg some (by kernel_rfl))⟩
  f28 := Tryz.func250.trans (congrArg some (by kernel_rfl))
  f29 := Tryz.func251.trans (congrArg some (by kernel_rfl))
  f46 := ⟨Tryz.f309.name, by kernel_rfl, Tryz.func309.trans (congrArg some (by kernel_rfl))⟩
  f47 := Tryz.func292.trans (congrArg some (by kernel_rfl))
  f48 := Tryz.func293.trans (congrArg some (by kernel_rfl))
  f49 := ⟨Tryz.f310.name, by kernel_rfl, Tryz.func310.trans (congrArg some (by kernel_rfl))⟩
  f50 := ⟨Tryz.f311.name, by kernel_rfl, Tryz.func311.trans (congrArg some (by kernel_rfl))⟩
  f57 := ⟨Tryz.f323.name, by kernel_rfl, Tryz.func323.trans (congrArg some (by kernel_rfl))⟩
  t0 := Tryz.underlying0
  a0 := Tryz.isAgg0
  z0 := Tryz.sizeOf0
  v0 := Tryz.zeroValue0
  t3 := Tryz.underlying3
  a3 := Tryz.isAgg3
  z3 := Tryz.sizeOf3
  v3 := Tryz.zeroValue3
  t4 := Tryz.underlying4
  a4 := Tryz.isAgg4
  z4 := Tryz.sizeOf4
  v4 := Tryz.zeroValue4
  t5 := Tryz.underlying5
  a5 := Tryz.isAgg5
  z5 := Tryz.sizeOf5
  v5 := Tryz.zeroValue5
  t9 := Tryz.underlying9
  a9 := Tryz.isAgg9
  z9 := Tryz.sizeOf9
  v9 := Tryz.zeroValue9
  t22 := Tryz.underlying239
  a22 := Tryz.isAgg239
  z22 := Tryz.sizeOf239
  v22 := Tryz.zeroValue239
  t25 := Tryz.underlying243
  a25 := Tryz.isAgg243
  z25 := Tryz.sizeOf243
  v25 := Tryz.zeroValue243
  t39 := Tryz.underlying254
  a39 := Tryz.isAgg254
  z39 := Tryz.sizeOf254
  v39 := Tryz.zeroValue254
  t45 := Tryz.underlying292
  a45 := Tryz.isAgg292
  z45 := Tryz.sizeOf292
  v45 := Tryz.zeroValue292
  t46 := Tryz.underlying293
  a46 := Tryz.isAgg293
  z46 := Tryz.sizeOf293
  v46 := Tryz.zeroValue293
  t50 := Tryz.underlying118
  a50 := Tryz.isAgg118
  z50 := Tryz.sizeOf118
  v50 := Tryz.zeroValue118
  t53 := Tryz.underlying299
  a53 := Tryz.isAgg299
  z53 := Tryz.sizeOf299
  v53 := Tryz.zeroValue299
  t55 := Tryz.underlying301
  a55 := Tryz.isAgg301
  z55 := Tryz.sizeOf301
  v55 := Tryz.zeroValue301
  t66 := Tryz.underlying325
  a66 := Tryz.isAgg325
  z66 := Tryz.sizeOf325
  v66 := Tryz.zeroValue325
  t70 := Tryz.underlying329
  a70 := Tryz.isAgg329
  z70 := Tryz.sizeOf329
  v70 := Tryz.zeroValue329
  t76 := Tryz.underlying346
  a76 := Tryz.isAgg346
  z76 := Tryz.sizeOf346
  v76 := Tryz.zeroValue346
  t77 := Tryz.underlying347
  a77 := Tryz.isAgg347
  z77 := Tryz.sizeOf347
  v77 := Tryz.zeroValue347
end Go.Proofs
namespace Go.Proofs
open Go Go.AI
set_option maxRecDepth 10000
def l3 (x : Load3) : List Int := [x.k, x.a, x.b]
instance : Inhabited Load3 := ⟨⟨0, 0, 0⟩⟩
def cmpL (x y : Load3) : Int := orS [cmpI x.k y.k, cmpI x.a y.a]
theorem Tryz.orderL (x y : Load3) : ACalls Tryz.prog 93 [.agg (loadA x), .agg (loadA y)] (.int .i64 (cmpL x y)) := by
  refine ACalls.ofB Tryz.T Tryz.func93 rfl (by kernel_rfl) Tryz.mixed (Nat.le_of_ble_eq_true rfl) ?_
  intro F n' w0 m0 hG hro h1
  repeat' first|refine Q1 ?_|refine Q2 ?_|refine Q3 hG Tryz.T Tryz.keep93 (by kernel_rfl) ?_|refine Q4 hG Tryz.T Tryz.keep93 (by kernel_rfl) ?_|refine Q5 hG Tryz.T ?_|refine Q6 hG Tryz.T ?_|refine Q7 hG Tryz.T ?_|refine Q8 hG Tryz.T ?_|refine Q9 rfl ?_|refine QF rfl ?_|refine QC rfl (And.intro (fun h => ?_) (fun h => ?_))|((conv => whnf); first|refine anF ?_|refine anT ?_|refine And.intro (by kernel_rfl) ?_|refine Exists.intro _ (And.intro (Tryz.c55 _ _) ?_)|refine Exists.intro _ (And.intro (Tryz.c54 [cmpI x.k y.k, cmpI x.a y.a] (Nat.le_of_ble_eq_true rfl)) ?_)|refine And.intro (fun h => ?_) (fun h => ?_)|refine Or.inl ?_|fail)
  all_goals exact Ends.mk (Or.inl rfl) (AV.weak.of_eq rfl)
def touchS (x y : Load3) : Bool := (x.k == y.k) && decide (y.a ≤ x.b)
theorem Tryz.joinF (x y : Load3) : ACalls Tryz.prog 97 [.agg (loadA x), .agg (loadA y)] (.tup [.agg (loadA ⟨x.k, x.a, max x.b y.b⟩), .bool (touchS x y)]) := by
  refine ACalls.ofB Tryz.T Tryz.func97 rfl (by kernel_rfl) Tryz.mixed (Nat.le_of_ble_eq_true rfl) ?_
  intro F n' w0 m0 hG hro h1
  repeat' first|refine Q1 ?_|refine Q2 ?_|refine Q3 hG Tryz.T Tryz.keep97 (by kernel_rfl) ?_|refine Q4 hG Tryz.T Tryz.keep97 (by kernel_rfl) ?_|refine Q5 hG Tryz.T ?_|refine Q6 hG Tryz.T ?_|refine Q7 hG Tryz.T ?_|refine Q8 hG Tryz.T ?_|refine Q9 rfl ?_|refine QF rfl ?_|refine QC rfl (And.intro (fun h => ?_) (fun h => ?_))|((conv => whnf); first|refine anF ?_|refine anT ?_|refine And.intro (by kernel_rfl) ?_|refine And.intro (fun h => ?_) (fun h => ?_)|refine Or.inl ?_|fail)
  all_goals refine Ends.mk (Or.inl rfl) (AV.weak.of_eq (congrArg (fun z => AV.tup [.agg (loadA ⟨x.k, x.a, max x.b y.b⟩), .bool z]) ?_))
  all_goals simp only [touchS, *, Bool.true_and, Bool.and_true, Bool.false_and, Bool.and_false, Bool.true_or, Bool.or_true, Bool.false_or, Bool.or_false, Bool.not_true, Bool.not_false]
theorem cmpL_lt (x y : Load3) : ltOf cmpL x y = true ↔ x.k < y.k ∨ (x.k = y.k ∧ x.a < y.a) := by
  unfold ltOf cmpL
  simp only [orS, cmpI, decide_eq_true_eq]
  by_cases h1 : x.k < y.k <;> by_cases h2 : y.k < x.k <;> by_cases h3 : x.a < y.a <;> by_cases h4 : y.a < x.a <;> simp [h1, h2, h3, h4] <;> omega
theorem cmpL_ge (x y : Load3) : ltOf cmpL x y = false ↔ leL y x := by
  have h := cmpL_lt x y
  unfold leL
  cases hb : ltOf cmpL x y with
  | true => have := h.1 hb; simp; omega
  | false =>
    have : ¬ (x.k < y.k ∨ (x.k = y.k ∧ x.a < y.a)) := fun g => by rw [h.2 g] at hb; cases hb
    simp; omega
theorem cmpL_swo : Sort.SWO (ltOf cmpL) where
  irrefl x := by rw [cmpL_ge]; unfold leL; omega
  trans x y z h1 h2 := by rw [cmpL_lt] at *; omega
  ntrans x y z h1 h2 := by rw [cmpL_ge] at *; unfold leL at *; omega
theorem Tryz.sortLoads (l : List Load3) (hl : l.length ≤ 1000000) : OCalls Tryz.prog 168 3 (l.map l3) [.fn 93] (fun r rows => r = .tup [] ∧ ∃ l' : List Load3, l'.Perm l ∧ l'.Pairwise (fun x y => ltOf cmpL y x = false) ∧ rows = l'.map l3) :=
  OCalls.sort l3 3 cmpL Tryz.sortL (fun _ => rfl) Tryz.isAgg74 Tryz.sizeOf74 cmpL_swo (fun x y => Tryz.orderL x y) (Tryz.orderL ⟨0, 0, 0⟩ ⟨0, 0, 0⟩).enters (enters_of Tryz.func168 (by kernel_rfl) rfl) l (by omega)
theorem ints_l3 (l : List Load3) : intsR (l.map l3) = l.map loadA := by simp [intsR, l3, loadA]
def rowMg : List Load3 → List (Nat × AV)
  | [] => [(7, .sl .full 0 [])]
  | x :: r => [(7, .me .sl 46 (x :: r).length []), (xk 46, .me .arr 46 3 ((x :: r).map loadA))]
theorem rowMg_snoc (o : List Load3) (z : Load3) : rowMg (o ++ [z]) = [(7, .me .sl 46 (o.length + 1) []), (xk 46, .me .arr 46 3 ((o ++ [z]).map loadA))] := by
  cases o with
  | nil => rfl
  | cons x r => simp [rowMg]
theorem rowMg_snoc2 (o : List Load3) (z x : Load3) : rowMg (o ++ [z] ++ [x]) = [(7, .me .sl 46 (o.length + 1 + 1) []), (xk 46, .me .arr 46 3 ((o ++ [z]).map loadA ++ [loadA x]))] := by
  rw [rowMg_snoc, List.map_append, List.length_append]; rfl
theorem setAt_snoc {α : Type} (a b : α) : ∀ l : List α, setAt (l ++ [a]) l.length b = l ++ [b]
  | [] => rfl
  | x :: l => by simp only [List.cons_append, List.length_cons, setAt, setAt_snoc a b l]
theorem mergeL_ne {l : List Load3} (h : l ≠ []) : ∃ o z, mergeL l = o ++ [z] := by
  rcases snoc_cases l with rfl | ⟨m, x, rfl⟩
  · exact absurd rfl h
  · rw [mergeL, List.foldl_append]
    show ∃ o z, joinL (mergeL m) x = o ++ [z]
    rcases snoc_cases (mergeL m) with e | ⟨o, y, e⟩
    · rw [e]; exact ⟨[], x, rfl⟩
    · rw [e, joinL_snoc]
      split
      · exact ⟨o, _, rfl⟩
      · exact ⟨o ++ [y], x, rfl⟩
set_option maxHeartbeats 8000000 in
theorem Tryz.merge (l : List Load3) (hl : l.length ≤ 1000000) (hne : l ≠ []) : OCalls Tryz.prog 96 3 (l.map l3) [.fn 93, .fn 97] (fun r _ => ∃ l' : List Load3, l'.Perm l ∧ l'.Pairwise leL ∧ r = loadsA (mergeL l')) := by
  refine OCalls.ofRebase Tryz.T Tryz.func96 rfl (by kernel_rfl) Tryz.mixed (Nat.le_of_ble_eq_true rfl) (by kernel_rfl) (by kernel_rfl) (by kernel_rfl) 2 (by kernel_rfl) ?_
  intro F n' b cap hro h1 w0 m0 hG
  refine SPB.out ?_
  refine Q4 hG Tryz.T Tryz.keep96 (by kernel_rfl) ?_
  conv => whnf
  refine And.intro rfl ?_
  conv => whnf
  refine And.intro rfl (And.intro rfl (And.intro rfl (Exists.intro _ (And.intro (Tryz.sortLoads l hl) ?_))))
  rintro r rows ⟨rfl, l', hp, hs, rfl⟩ _ _
  conv => whnf
  intro _ _ w2 m2 hG2
  rw [ints_l3 l']
  have hle : l'.Pairwise leL := hs.imp fun h => (cmpL_ge _ _).1 h
  have hn' : l'.length = l.length := hp.length_eq
  have hpos : 0 < l'.length := by rw [hn']; exact List.length_pos_iff.2 hne
  clear hG
  have hG := hG2
  refine SPB.out ?_
  refine Q1 ?_
  refine SPB.regN hG Tryz.T Tryz.keep96 [7] (by kernel_rfl) ?_
  conv => whnf
  repeat' first|refine Q1 ?_|refine Q2 ?_|refine Q3 hG Tryz.T Tryz.keep96 (by kernel_rfl) ?_|refine Q4 hG Tryz.T Tryz.keep96 (by kernel_rfl) ?_|refine Q5 hG Tryz.T ?_|refine Q6 hG Tryz.T ?_|refine Q7 hG Tryz.T ?_|refine Q8 hG Tryz.T ?_|refine Q9 rfl ?_|refine QF rfl ?_|refine QC rfl (And.intro (fun h => ?_) (fun h => ?_))|((conv => whnf); first|refine anF ?_|refine anT ?_|refine And.intro (by kernel_rfl) ?_|refine And.intro (fun h => ?_) (fun h => ?_)|refine Or.inl ?_|fail)
  refine SPB.loop (X := Nat) (fun i => ⟨(18, .int .i64 i) :: (17, .int .i64 (l'.map loadA).length) :: (16, loadsA l') :: (2, .fn 97) :: rowMg (mergeL (l'.take i)), []⟩) (fun i => i ≤ l'.length) (fun i => l'.length - i) 0 (Nat.zero_le _) (St.le.of ?_ ?_) (fun i hi => ?_)
  · repeat' (first | exact trivial | refine And.intro rfl ?_)
  · repeat' (first | exact trivial | refine And.intro rfl ?_)
  · by_cases hlt : i < l'.length
    · have bbk : decide ((i : Int) < ((l'.map loadA).length : Int)) = false → False := fun h => by have := of_decide_eq_false h; simp at this; omega
      have hx : (l'.map loadA)[(i : Int).toNat]? = some (loadA l'[i]) := by simp [List.getElem?_eq_getElem hlt]
      have hsn : mergeL (l'.take (i + 1)) = joinL (mergeL (l'.take i)) l'[i] := by
        rw [mergeL, List.take_add_one, List.getElem?_eq_getElem hlt, List.foldl_append]; rfl
      have hbd : (mergeL (l'.take i)).length ≤ i := by
        have := mergeL_len (l'.take i) []
        simp only [List.length_nil, Nat.zero_add, List.length_take] at this
        unfold mergeL; omega
      generalize l'[i] = x at hx hsn
      generalize mergeL (l'.take i) = out at hsn hbd
      rcases snoc_cases out with rfl | ⟨o, z, rfl⟩
      · have bb0 : decide ((([] : List (List AV)).length : Int) > 0) = true → False := fun h => by simp at h
        have bb1 : decide ((0 : Int) > 0) = true → False := fun h => by simp at h
        repeat' first|exact (bbk (by assumption)).elim|exact (bb0 (by assumption)).elim|exact (bb1 (by assumption)).elim|refine Q1 ?_|refine Q2 ?_|refine Q3 hG Tryz.T Tryz.keep96 (by kernel_rfl) ?_|refine Q4 hG Tryz.T Tryz.keep96 (by kernel_rfl) ?_|refine Q5 hG Tryz.T ?_|refine Q6 hG Tryz.T ?_|refine Q7 hG Tryz.T ?_|refine Q8 hG Tryz.T ?_|refine Q9 rfl ?_|refine QF rfl ?_|refine QC rfl (And.intro (fun h => ?_) (fun h => ?_))|((conv => whnf); first|refine anF ?_|refine anT ?_|refine And.intro (by kernel_rfl) ?_|refine And.intro (Int.natCast_nonneg i) (Exists.intro _ (And.intro hx ?_))|refine Or.inr (And.intro rfl (And.intro (Nat.le_of_ble_eq_true rfl) (And.intro (Nat.le_of_ble_eq_true rfl) (And.intro (Nat.le_of_ble_eq_true rfl) ?_))))|refine And.intro (fun h => ?_) (fun h => ?_)|refine Or.inl ?_|fail)
        refine Exists.intro (i + 1) (And.intro hlt (And.intro (by omega) ?_))
        dsimp only
        rw [hsn, show joinL [] x = [x] from rfl]
        refine St.le.of (And.intro (congrArg some (le_next (by omega))) ?_) ?_
        · repeat' (first | exact trivial | refine And.intro rfl ?_)
        · repeat' (first | exact trivial | refine And.intro rfl ?_)
      · rw [rowMg_snoc]
        have hgt : decide (((o.length + 1 : Nat) : Int) > 0) = false → False := fun h => by have := of_decide_eq_false h; omega
        have hbo : o.length + 1 ≤ i := by simpa using hbd
        have hln : ((o ++ [z]).map loadA).length = o.length + 1 := by simp
        have hw : IntKind.i64.wrap (((o.length + 1 : Nat) : Int) - 1) = (o.length : Int) := (w64_in (by omega) (by omega)).trans (by omega)
        have h0 : 0 ≤ IntKind.i64.wrap (((o.length + 1 : Nat) : Int) - 1) := by rw [hw]; exact Int.natCast_nonneg _
        have hl1 : IntKind.i64.wrap (((o.length + 1 : Nat) : Int) - 1) < ((o.length + 1 : Nat) : Int) := by rw [hw]; omega
        have hz : ((o ++ [z]).map loadA)[(IntKind.i64.wrap (((o.length + 1 : Nat) : Int) - 1)).toNat]? = some (loadA z) := by rw [hw]; simp
        rw [joinL_snoc] at hsn
        repeat' first|exact (bbk (by assumption)).elim|exact (hgt (by assumption)).elim|refine Q1 ?_|refine Q2 ?_|refine Q3 hG Tryz.T Tryz.keep96 (by kernel_rfl) ?_|refine Q4 hG Tryz.T Tryz.keep96 (by kernel_rfl) ?_|refine Q5 hG Tryz.T ?_|refine Q6 hG Tryz.T ?_|refine Q7 hG Tryz.T ?_|refine Q8 hG Tryz.T ?_|refine Q9 rfl ?_|refine QF rfl ?_|refine QC rfl (And.intro (fun h => ?_) (fun h => ?_))|((conv => whnf); first|refine anF ?_|refine anT ?_|refine And.intro (by kernel_rfl) ?_|refine And.intro (Int.natCast_nonneg i) (Exists.intro _ (And.intro hx ?_))|refine And.intro h0 (And.intro hl1 ?_)|refine Exists.intro _ (And.intro hz ?_)|refine Exists.intro _ (And.intro (Tryz.joinF _ _) ?_)|refine And.intro (Nat.le_of_ble_eq_true rfl) (And.intro (show (((o ++ [z]).map loadA).length + 1) * 24 ≤ 70368744177664 by rw [hln]; omega) (And.intro (show ((o ++ [z]).map loadA).length + 1 ≤ 4611686018427387904 by rw [hln]; omega) ?_))|refine And.intro (fun h => ?_) (fun h => ?_)|refine Or.inl ?_|fail)
        · have ht := (by assumption : touchS z x = true)
          simp only [touchS, Bool.and_eq_true, beq_iff_eq, decide_eq_true_eq] at ht
          rw [if_pos ht] at hsn
          refine Exists.intro (i + 1) (And.intro hlt (And.intro (by omega) ?_))
          dsimp only
          rw [hsn, rowMg_snoc]
          refine St.le.of (And.intro (congrArg some (le_next (by omega))) (And.intro rfl (And.intro rfl (And.intro rfl (And.intro rfl (And.intro (congrArg (fun q => some (AV.me .arr 46 3 q)) ?_) trivial)))))) ?_
          · rw [hw, Int.toNat_natCast]
            have e := setAt_snoc (loadA z) (loadA ⟨z.k, z.a, max z.b x.b⟩) (o.map loadA)
            rw [List.length_map] at e
            rw [List.map_append, List.map_append]
            exact e
          · repeat' (first | exact trivial | refine And.intro rfl ?_)
        · have ht := (by assumption : touchS z x = false)
          have ht : ¬ (z.k = x.k ∧ x.a ≤ z.b) := fun h => by
            have : touchS z x = true := by simp only [touchS, Bool.and_eq_true, beq_iff_eq, decide_eq_true_eq]; exact h
            rw [this] at ht; cases ht
          rw [if_neg ht] at hsn
          refine Exists.intro (i + 1) (And.intro hlt (And.intro (by omega) ?_))
          dsimp only
          rw [hsn, rowMg_snoc2]
          refine St.le.of (And.intro (congrArg some (le_next (by omega))) ?_) ?_
          · repeat' (first | exact trivial | refine And.intro rfl ?_)
          · repeat' (first | exact trivial | refine And.intro rfl ?_)
    · have he : l'.take i = l' := List.take_of_length_le (by omega)
      have bbk : decide ((i : Int) < ((l'.map loadA).length : Int)) = true → False := fun h => by have := of_decide_eq_true h; simp at this; omega
      rw [he]
      obtain ⟨o, z, hoz⟩ := mergeL_ne (l := l') (by intro h; rw [h] at hpos; simp at hpos)
      rw [hoz, rowMg_snoc]
      refine SPB.frz [.tmp 7] ?_
      conv => whnf
      repeat' first|exact (bbk (by assumption)).elim|refine Q1 ?_|refine Q2 ?_|refine Q3 hG Tryz.T Tryz.keep96 (by kernel_rfl) ?_|refine Q4 hG Tryz.T Tryz.keep96 (by kernel_rfl) ?_|refine Q5 hG Tryz.T ?_|refine Q6 hG Tryz.T ?_|refine Q7 hG Tryz.T ?_|refine Q8 hG Tryz.T ?_|refine Q9 rfl ?_|refine QF rfl ?_|refine QC rfl (And.intro (fun h => ?_) (fun h => ?_))|((conv => whnf); first|refine anF ?_|refine anT ?_|refine And.intro (by kernel_rfl) ?_|refine And.intro (fun h => ?_) (fun h => ?_)|refine Or.inl ?_|fail)
      refine Exists.intro (loadsA (mergeL l')) (And.intro ⟨l', hp, hle, rfl⟩ (Ends.mk (Or.inl rfl) (AV.weak.of_eq ?_)))
      rw [hoz]; rfl
end Go.Proofs
namespace Go.Proofs
open Go Go.AI
set_option maxRecDepth 10000
theorem Tryz.mergeNil : ACalls Tryz.prog 96 [.sl .no 3 [], .fn 93, .fn 97] (loadsA []) := by
  have ks := ACalls.sortNil Tryz.sortL (enters_of Tryz.func168 (by kernel_rfl) rfl) 3 93 (o := .no)
  refine ACalls.ofB Tryz.T Tryz.func96 rfl (by kernel_rfl) Tryz.mixed (Nat.le_of_ble_eq_true rfl) ?_
  intro F n' w0 m0 hG hro h1
  repeat' first|refine Q1 ?_|refine Q2 ?_|refine Q3 hG Tryz.T Tryz.keep96 (by kernel_rfl) ?_|refine Q4 hG Tryz.T Tryz.keep96 (by kernel_rfl) ?_|refine Q5 hG Tryz.T ?_|refine Q6 hG Tryz.T ?_|refine Q7 hG Tryz.T ?_|refine Q8 hG Tryz.T ?_|refine Q9 rfl ?_|refine QF rfl ?_|refine QC rfl (And.intro (fun h => ?_) (fun h => ?_))|((conv => whnf); first|refine anF ?_|refine anT ?_|refine And.intro (by kernel_rfl) ?_|refine Exists.intro _ (And.intro (ks) ?_)|refine And.intro (fun h => ?_) (fun h => ?_)|refine Or.inl ?_|fail)
  refine SPB.loop (X := Unit) (fun _ => ⟨[(18, .int .i64 0), (17, .int .i64 0), (7, .sl (.id 7) 3 [])], []⟩) (fun _ => True) (fun _ => 0) () trivial (St.le.of ?_ ?_) (fun i hi => ?_)
  · repeat' (first | exact trivial | refine And.intro rfl ?_)
  · repeat' (first | exact trivial | refine And.intro rfl ?_)
  · have bb : decide ((0 : Int) < 0) = true → False := fun h => by simp at h
    repeat' first|exact (bb (by assumption)).elim|refine Q1 ?_|refine Q2 ?_|refine Q3 hG Tryz.T Tryz.keep96 (by kernel_rfl) ?_|refine Q4 hG Tryz.T Tryz.keep96 (by kernel_rfl) ?_|refine Q5 hG Tryz.T ?_|refine Q6 hG Tryz.T ?_|refine Q7 hG Tryz.T ?_|refine Q8 hG Tryz.T ?_|refine Q9 rfl ?_|refine QF rfl ?_|refine QC rfl (And.intro (fun h => ?_) (fun h => ?_))|((conv => whnf); first|refine anF ?_|refine anT ?_|refine And.intro (by kernel_rfl) ?_|refine And.intro (fun h => ?_) (fun h => ?_)|refine Or.inl ?_|fail)
    exact Ends.mk (Or.inl rfl) (AV.weak.of_eq rfl)
def opt8 (l : List Opt) : Bool := decide (8 < l.length)
theorem badB_sent (l : List Opt) : badB l = (sentP l).any fun x => !rightS x.1 x.2 := by
  unfold badB sentP
  rw [List.any_flatMap]
  congr 1
  funext o
  rw [List.any_map]; rfl
theorem badL_opt (l : List Opt) : badL l = (opt8 l || badA l || (sentP l).any fun x => !rightS x.1 x.2) := by
  unfold badL; rw [badB_sent]; rfl
theorem canonL_nil : canonL [] = [] := by simp [canonL, mergeL]
theorem rawL_len (l : List Opt) : (rawL l).length = l.length + (sentP l).length := by rw [rawL, rawB_eq]; simp [rawA]
set_option maxHeartbeats 16000000 in
theorem Tryz.loads (l : List Opt) (hl : l.length ≤ 1000000) (hs : slens l) (hsp : (sentP l).length ≤ 900000) : ACalls Tryz.prog 27 [optsA l] (loadsA (optLoads l)) := by
  refine ACalls.ofBm Tryz.T Tryz.func27 rfl (by kernel_rfl) Tryz.mixed (Nat.le_of_ble_eq_true rfl) ?_
  intro F n' w0 m0 hG hro h9 hm0
  repeat' first|refine Q1 ?_|refine Q2 ?_|refine Q3 hG Tryz.T Tryz.keep27 (by kernel_rfl) ?_|refine Q4 hG Tryz.T Tryz.keep27 (by kernel_rfl) ?_|refine Q5 hG Tryz.T ?_|refine Q6 hG Tryz.T ?_|refine Q7 hG Tryz.T ?_|refine Q8 hG Tryz.T ?_|refine Q9 rfl ?_|refine QF rfl ?_|refine QC rfl (And.intro (fun h => ?_) (fun h => ?_))|((conv => whnf); first|refine anF ?_|refine anT ?_|refine And.intro (by kernel_rfl) ?_|refine And.intro (fun h => ?_) (fun h => ?_)|refine Or.inl ?_|fail)
  have hn8 : decide (((l.map optA).length : Int) > 8) = opt8 l := by rw [List.length_map]; exact decide_eq_decide.2 (by omega)
  rw [hn8]
  refine SPB.resize 3 0 1003000 3 rfl rfl ?_
  refine SPB.loop (X := Nat) (fun i => ⟨[(14, .int .i64 i), (13, .int .i64 (l.map optA).length), (12, optsA l), (4, .loc 4 0), (3, .loc 3 0), (0, optsA l)], [(4, [.bool (opt8 l || badA (l.take i))]), (3, [.sl (.id 1003000) 3 ((rawA (l.take i)).map loadA)])]⟩) (fun i => i ≤ l.length) (fun i => l.length - i) 0 (Nat.zero_le _) (St.le.of ?_ ?_) (fun i hi => ?_)
  · repeat' (first | exact trivial | refine And.intro rfl ?_)
  · refine And.intro (congrArg (fun z => some [AV.bool z]) (by simp [badA])) ?_
    repeat' (first | exact trivial | refine And.intro rfl ?_)
  · by_cases hlt : i < l.length
    · have bbk : decide ((i : Int) < ((l.map optA).length : Int)) = false → False := fun h => by have := of_decide_eq_false h; simp at this; omega
      have hx := opt_at hlt
      have hsA : rawA (l.take (i + 1)) = rawA (l.take i) ++ [⟨1, (optAt l i).a, (optAt l i).b⟩] := by
        rw [List.take_add_one, List.getElem?_eq_getElem hlt, optAt_eq hlt]; exact List.map_append
      have hbA : badA (l.take (i + 1)) = (badA (l.take i) || (!rightS (optAt l i).a (optAt l i).b || decide (6 < (optAt l i).sl.length))) := by
        rw [List.take_add_one, List.getElem?_eq_getElem hlt, optAt_eq hlt]
        unfold badA
        rw [List.any_append]; simp
      have hln : ((rawA (l.take i)).map loadA).length = i := by simp [rawA]; omega
      generalize optAt l i = x at hx hsA hbA
      have h6 : decide (((x.sl.map slotA).length : Int) > 6) = decide (6 < x.sl.length) := by rw [List.length_map]; exact decide_eq_decide.2 (by omega)
      have hrow : (rawA (l.take (i + 1))).map loadA = (rawA (l.take i)).map loadA ++ [[.int .i64 1, .int .i64 x.a, .int .i64 x.b]] := by rw [hsA, List.map_append]; rfl
      generalize (rawA (l.take i)).map loadA = row at hln hrow
      obtain ⟨wb, hwb⟩ : ∃ wb, wb = (opt8 l || badA (l.take i)) := ⟨_, rfl⟩
      rw [← hwb]
      have hw2 : (opt8 l || badA (l.take (i + 1))) = (wb || (!rightS x.a x.b || decide (6 < x.sl.length))) := by rw [hbA, hwb, Bool.or_assoc]
      repeat' first|exact (bbk (by assumption)).elim|refine Q1 ?_|refine Q2 ?_|refine Q3 hG Tryz.T Tryz.keep27 (by kernel_rfl) ?_|refine Q4 hG Tryz.T Tryz.keep27 (by kernel_rfl) ?_|refine Q5 hG Tryz.T ?_|refine Q6 hG Tryz.T ?_|refine Q7 hG Tryz.T ?_|refine Q8 hG Tryz.T ?_|refine Q9 rfl ?_|refine QF rfl ?_|refine QC rfl (And.intro (fun h => ?_) (fun h => ?_))|((conv => whnf); first|refine anF ?_|refine anT ?_|refine And.intro (by kernel_rfl) ?_|refine And.intro (Int.natCast_nonneg i) (Exists.intro _ (And.intro hx ?_))|refine Exists.intro _ (And.intro (Tryz.z82 _ _) ?_)|refine And.intro (show (row.length + 1) * 24 ≤ 70368744177664 by omega) (And.intro (show row.length + 1 ≤ 4611686018427387904 by omega) ?_)|refine And.intro (fun h => ?_) (fun h => ?_)|refine Or.inl ?_|fail)
      all_goals refine Exists.intro (i + 1) (And.intro hlt (And.intro (by omega) ?_))
      all_goals dsimp only
      all_goals rw [hw2, hrow]
      all_goals refine St.le.of (And.intro (congrArg some (le_next (by omega))) ?_) (And.intro (congrArg (fun z => some [AV.bool z]) ?_) ?_)
      all_goals first
        | (clear hwb hw2; simp only [h6, *, Bool.true_and, Bool.and_true, Bool.false_and, Bool.and_false, Bool.true_or, Bool.or_true, Bool.false_or, Bool.or_false, Bool.not_true, Bool.not_false]; done)
        | (repeat' (first | exact trivial | refine And.intro rfl ?_))
    · have bbk : decide ((i : Int) < ((l.map optA).length : Int)) = true → False := fun h => by have := of_decide_eq_true h; simp at this; omega
      have he : l.take i = l := List.take_of_length_le (by omega)
      rw [he]
      repeat' first|exact (bbk (by assumption)).elim|refine Q1 ?_|refine Q2 ?_|refine Q3 hG Tryz.T Tryz.keep27 (by kernel_rfl) ?_|refine Q4 hG Tryz.T Tryz.keep27 (by kernel_rfl) ?_|refine Q5 hG Tryz.T ?_|refine Q6 hG Tryz.T ?_|refine Q7 hG Tryz.T ?_|refine Q8 hG Tryz.T ?_|refine Q9 rfl ?_|refine QF rfl ?_|refine QC rfl (And.intro (fun h => ?_) (fun h => ?_))|((conv => whnf); first|refine anF ?_|refine anT ?_|refine And.intro (by kernel_rfl) ?_|refine Exists.intro _ (And.intro (Tryz.sent l) ?_)|refine And.intro (fun h => ?_) (fun h => ?_)|refine Or.inl ?_|fail)
      have hAB : rawL l = rawA l ++ (sentP l).map (mkK 2) := by rw [rawL, rawB_eq]
      refine ⟨SP.rangeM hG hro (Nat.le_trans (by decide) h9) (α := Int × Int) spA (f := 166) (cap := [.ref [optsA l]]) (items := sentP l) rfl (Tryz.sentSeq l hl hs) (fun _ => rfl) (fun _ => [(4, .loc 4 0), (3, .loc 3 0)]) [4, 3] (fun _ => rfl)
        (fun pre => [(4, [.bool (opt8 l || badA l || pre.any fun x => !rightS x.1 x.2)]), (3, [.sl (.id 1003000) 3 ((rawA l ++ pre.map (mkK 2)).map loadA)])]) (St.le.of ?_ ?_) (by kernel_rfl) (by decide) ?_ ?_⟩
      · repeat' (first | exact trivial | refine And.intro rfl ?_)
      · refine And.intro (congrArg (fun z => some [AV.bool z]) (by simp)) (And.intro (congrArg (fun z => some [AV.sl (.id 1003000) 3 z]) (by simp)) trivial)
      · intro F' n'' m' hG' pre x rest hx
        clear hG
        have hG := hG'
        have hpl : pre.length < 1000000 := by
          have := congrArg List.length hx
          simp at this; omega
        have hrl : (rawA l).length ≤ 1000000 := by simp [rawA]; omega
        have hrow : (rawA l ++ (pre ++ [x]).map (mkK 2)).map loadA = (rawA l ++ pre.map (mkK 2)).map loadA ++ [[.int .i64 2, .int .i64 x.1, .int .i64 x.2]] := by simp [loadA, mkK]
        have hln : ((rawA l ++ pre.map (mkK 2)).map loadA).length ≤ 3000000 := by simp; omega
        generalize (rawA l ++ pre.map (mkK 2)).map loadA = row at hln hrow
        obtain ⟨wb, hwb⟩ : ∃ wb, wb = (opt8 l || badA l || pre.any fun x => !rightS x.1 x.2) := ⟨_, rfl⟩
        rw [← hwb]
        have hw2 : (opt8 l || badA l || (pre ++ [x]).any fun x => !rightS x.1 x.2) = (wb || !rightS x.1 x.2) := by rw [List.any_append, hwb]; simp [Bool.or_assoc]
        refine SPB.out (Q4 hG Tryz.T Tryz.keep27 (by kernel_rfl) ?_)
        conv => whnf
        refine And.intro rfl (And.intro (St.le.of ?_ ?_) ?_)
        · repeat' (first | exact trivial | refine And.intro rfl ?_)
        · repeat' (first | exact trivial | refine And.intro rfl ?_)
        refine SPB.out ?_
        repeat' first|refine Q1 ?_|refine Q2 ?_|refine Q3 hG Tryz.T Tryz.keep27 (by kernel_rfl) ?_|refine Q4 hG Tryz.T Tryz.keep27 (by kernel_rfl) ?_|refine Q5 hG Tryz.T ?_|refine Q6 hG Tryz.T ?_|refine Q7 hG Tryz.T ?_|refine Q8 hG Tryz.T ?_|refine Q9 rfl ?_|refine QF rfl ?_|refine QC rfl (And.intro (fun h => ?_) (fun h => ?_))|((conv => whnf); first|refine anF ?_|refine anT ?_|refine And.intro (by kernel_rfl) ?_|refine Exists.intro _ (And.intro (Tryz.z82 _ _) ?_)|refine And.intro (show (row.length + 1) * 24 ≤ 70368744177664 by omega) (And.intro (show row.length + 1 ≤ 4611686018427387904 by omega) ?_)|refine And.intro (fun h => ?_) (fun h => ?_)|refine Or.inl ?_|fail)
        all_goals (refine St.le.of ?_ ?_)
        all_goals first
          | (dsimp only; rw [hw2, hrow]; clear hwb hw2; refine And.intro (congrArg (fun z => some [AV.bool z]) ?_) (And.intro rfl trivial); simp only [*, Bool.true_and, Bool.and_true, Bool.false_and, Bool.and_false, Bool.true_or, Bool.or_true, Bool.false_or, Bool.or_false, Bool.not_true, Bool.not_false]; done)
          | (repeat' (first | exact trivial | refine And.intro rfl ?_))
      · conv => whnf
        by_cases hne : rawL l = []
        · rw [← hAB, hne]
          repeat' first|refine Q1 ?_|refine Q2 ?_|refine Q3 hG Tryz.T Tryz.keep27 (by kernel_rfl) ?_|refine Q4 hG Tryz.T Tryz.keep27 (by kernel_rfl) ?_|refine Q5 hG Tryz.T ?_|refine Q6 hG Tryz.T ?_|refine Q7 hG Tryz.T ?_|refine Q8 hG Tryz.T ?_|refine Q9 rfl ?_|refine QF rfl ?_|refine QC rfl (And.intro (fun h => ?_) (fun h => ?_))|((conv => whnf); first|refine anF ?_|refine anT ?_|refine And.intro (by kernel_rfl) ?_|refine Exists.intro _ (And.intro (Tryz.mergeNil) ?_)|refine And.intro (fun h => ?_) (fun h => ?_)|refine Or.inl ?_|fail)
          · refine Ends.mk (Or.inl rfl) (AV.weak.of_eq ?_)
            rw [optLoads, badL_opt, if_pos ‹_›]; rfl
          · refine Ends.mk (Or.inl rfl) (AV.weak.of_eq ?_)
            rw [optLoads, hne, canonL_nil]; split <;> rfl
        · rw [← hAB]
          repeat' first|refine SPB.oreg (id := 16) hG Tryz.T hm0 Tryz.keep27 2 (by kernel_rfl) ?_|refine Q1 ?_|refine Q2 ?_|refine Q3 hG Tryz.T Tryz.keep27 (by kernel_rfl) ?_|refine Q4 hG Tryz.T Tryz.keep27 (by kernel_rfl) ?_|refine Q5 hG Tryz.T ?_|refine Q6 hG Tryz.T ?_|refine Q7 hG Tryz.T ?_|refine Q8 hG Tryz.T ?_|refine Q9 rfl ?_|refine QF rfl ?_|refine QC rfl (And.intro (fun h => ?_) (fun h => ?_))|((conv => whnf); first|refine anF ?_|refine anT ?_|refine And.intro (by kernel_rfl) ?_|refine And.intro (fun h => ?_) (fun h => ?_)|refine Or.inl ?_|fail)
          · refine Ends.mk (Or.inl rfl) (AV.weak.of_eq ?_)
            rw [optLoads, badL_opt, if_pos ‹_›]; rfl
          · have hb : badL l = false := by rw [badL_opt]; assumption
            have h8 : l.length ≤ 8 := by
              have := hb; unfold badL at this; simp at this; omega
            conv => whnf
            refine Exists.intro ((rawL l).map l3) (Exists.intro _ (And.intro (Tryz.merge (rawL l) ?_ hne) (And.intro (ints_l3 _).symm (And.intro ?_ (And.intro (by decide) (And.intro ?_ (And.intro rfl ?_)))))))
            · rw [rawL_len]; omega
            · simpa using hne
            · intro x hx; obtain ⟨y, _, rfl⟩ := List.mem_map.1 hx; rfl
            · rintro r rows ⟨l', hp, hle, rfl⟩ _ _
              repeat' first|refine Q1 ?_|refine Q2 ?_|refine Q3 hG Tryz.T Tryz.keep27 (by kernel_rfl) ?_|refine Q4 hG Tryz.T Tryz.keep27 (by kernel_rfl) ?_|refine Q5 hG Tryz.T ?_|refine Q6 hG Tryz.T ?_|refine Q7 hG Tryz.T ?_|refine Q8 hG Tryz.T ?_|refine Q9 rfl ?_|refine QF rfl ?_|refine QC rfl (And.intro (fun h => ?_) (fun h => ?_))|((conv => whnf); first|refine anF ?_|refine anT ?_|refine And.intro (by kernel_rfl) ?_|refine And.intro (fun h => ?_) (fun h => ?_)|refine Or.inl ?_|fail)
              have hg := good_iff.1 hb
              refine Ends.mk (Or.inl rfl) (AV.weak.of_eq ?_)
              rw [merge_canon (fun x h => (hg.raw x h).2.2.1) hp hle, ← hg.loads]; rfl
end Go.Proofs
namespace Go.Proofs
open Go Go.AI
set_option maxRecDepth 10000
def p2 (x : Int × Int) : List Int := [x.1, x.2]
def pA (x : Int × Int) : List AV := [.int .i64 x.1, .int .i64 x.2]
def cmpT (x y : Int × Int) : Int := cmpI x.1 y.1
theorem cmpT_ge (x y : Int × Int) : ltOf cmpT y x = false ↔ x.1 ≤ y.1 := by
  unfold ltOf cmpT
  simp only [cmpI]
  by_cases h1 : y.1 < x.1 <;> by_cases h2 : x.1 < y.1 <;> simp [h1, h2] <;> omega
theorem cmpT_lt (x y : Int × Int) : ltOf cmpT x y = true ↔ x.1 < y.1 := by
  have := cmpT_ge y x
  cases h : ltOf cmpT x y
  · simp; exact this.1 h
  · simp
    rw [h] at this
    simp at this; exact this
theorem cmpT_swo : Sort.SWO (ltOf cmpT) where
  irrefl x := by rw [cmpT_ge]; omega
  trans x y z h1 h2 := by rw [cmpT_lt] at *; omega
  ntrans x y z h1 h2 := by rw [cmpT_ge] at *; omega
theorem Tryz.cmpStep (x y : Int × Int) : ACalls Tryz.prog 173 [.agg (pA x), .agg (pA y)] (.int .i64 (cmpT x y)) := by
  refine ACalls.ofB Tryz.T Tryz.func173 rfl (by kernel_rfl) Tryz.mixed (Nat.le_of_ble_eq_true rfl) ?_
  intro F n' w0 m0 hG hro h1
  repeat' first|refine Q1 ?_|refine Q2 ?_|refine Q3 hG Tryz.T Tryz.keep173 (by kernel_rfl) ?_|refine Q4 hG Tryz.T Tryz.keep173 (by kernel_rfl) ?_|refine Q5 hG Tryz.T ?_|refine Q6 hG Tryz.T ?_|refine Q7 hG Tryz.T ?_|refine Q8 hG Tryz.T ?_|refine Q9 rfl ?_|refine QF rfl ?_|refine QC rfl (And.intro (fun h => ?_) (fun h => ?_))|((conv => whnf); first|refine anF ?_|refine anT ?_|refine And.intro (by kernel_rfl) ?_|refine Exists.intro _ (And.intro (Tryz.c55 _ _) ?_)|refine And.intro (fun h => ?_) (fun h => ?_)|refine Or.inl ?_|fail)
  all_goals exact Ends.mk (Or.inl rfl) (AV.weak.of_eq rfl)
theorem Tryz.sortSteps (l : List (Int × Int)) (hl : l.length ≤ 4000000) : OCalls Tryz.prog 172 2 (l.map p2) [.fn 173] (fun r rows => r = .tup [] ∧ ∃ l' : List (Int × Int), l'.Perm l ∧ l'.Pairwise (fun x y => ltOf cmpT y x = false) ∧ rows = l'.map p2) :=
  OCalls.sort p2 2 cmpT Tryz.sortP (fun _ => rfl) Tryz.isAgg241 Tryz.sizeOf241 cmpT_swo (fun x y => Tryz.cmpStep x y) (Tryz.cmpStep (0, 0) (0, 0)).enters (enters_of Tryz.func172 (by kernel_rfl) rfl) l (by omega)
theorem ints_p2 (l : List (Int × Int)) : intsR (l.map p2) = l.map pA := by simp [intsR, p2, pA]
def rowSt : List (Int × Int) → List (Nat × AV)
  | [] => [(3, .sl .full 0 [])]
  | x :: r => [(3, .me .sl 30 (x :: r).length []), (xk 30, .me .arr 30 2 ((x :: r).map pA))]
theorem rowSt_snoc (z : Int × Int) (o : List (Int × Int)) (a b : Int × Int) : rowSt (z :: o ++ [a, b]) = [(3, .me .sl 30 ((z :: o).length + 2) []), (xk 30, .me .arr 30 2 ((z :: o).map pA ++ [pA a, pA b]))] := by
  simp [rowSt]
def img0 : Img := ⟨0, 0, 0, 0⟩
theorem steps_take {l : List Img} {i : Nat} (h : i < l.length) : stepsOf (l.take (i + 1)) = stepsOf (l.take i) ++ [((l.getD i img0).a, (l.getD i img0).u), ((l.getD i img0).b, 0 - (l.getD i img0).u)] := by
  induction l generalizing i with
  | nil => simp at h
  | cons x r ih =>
    cases i with
    | zero => rfl
    | succ i => 
      have := ih (i := i) (by simpa using h)
      simp only [List.take_succ_cons, stepsOf, this, List.getD_cons_succ, List.cons_append]
theorem img_at {l : List Img} {i : Nat} (h : i < l.length) : (l.map imgA)[(i : Int).toNat]? = some (imgA (l.getD i img0)) := by simp [List.getElem?_eq_getElem h]
theorem steps_len : ∀ l : List Img, (stepsOf l).length = 2 * l.length
  | [] => rfl
  | x :: r => by simp only [stepsOf, List.length_cons, steps_len r]; omega
theorem fillsR_cons (f : Int) (x y : Int × Int) (r : List (Int × Int)) : fillsR f (x :: y :: r) = if y.1 = x.1 then fillsR (f + x.2) (y :: r) else (x.1, f + x.2) :: fillsR (f + x.2) (y :: r) := rfl
theorem steps_bd : ∀ (l : List Img), (∀ x ∈ l, 0 ≤ x.u ∧ x.u ≤ 1000000) → ∀ p ∈ stepsOf l, -1000000 ≤ p.2 ∧ p.2 ≤ 1000000
  | [], _, p, hp => nomatch hp
  | x :: r, h, p, hp => by
    have h1 := h x (.head _)
    simp only [stepsOf, List.mem_cons] at hp
    rcases hp with rfl | rfl | hp
    · dsimp only; omega
    · dsimp only; omega
    · exact steps_bd r (fun y hy => h y (.tail _ hy)) p hp
theorem drop_get {α : Type} {l : List α} {k : Nat} {a : α} {t : List α} (h : a :: t = l.drop k) : l[k]? = some a ∧ t = l.drop (k + 1) ∧ k < l.length := by
  have h1 : (l.drop k)[0]? = some a := by rw [← h]; rfl
  rw [List.getElem?_drop] at h1
  refine ⟨by simpa using h1, ?_, (List.getElem?_eq_some_iff.1 (by simpa using h1)).1⟩
  have := congrArg List.tail h
  rw [List.tail_drop] at this
  exact this
theorem Tryz.fills (l : List Img) : ACalls Tryz.prog 106 [imgsA l] (.clo 171 [.ref [imgsA l]]) := by
  refine ACalls.ofB Tryz.T Tryz.func106 rfl (by kernel_rfl) Tryz.mixed (Nat.le_of_ble_eq_true rfl) ?_
  intro F n' w0 m0 hG hro h1
  repeat' first|refine Q1 ?_|refine Q2 ?_|refine Q3 hG Tryz.T Tryz.keep106 (by kernel_rfl) ?_|refine Q4 hG Tryz.T Tryz.keep106 (by kernel_rfl) ?_|refine Q5 hG Tryz.T ?_|refine Q6 hG Tryz.T ?_|refine Q7 hG Tryz.T ?_|refine Q8 hG Tryz.T ?_|refine Q9 rfl ?_|refine QF rfl ?_|refine QC rfl (And.intro (fun h => ?_) (fun h => ?_))|((conv => whnf); first|refine anF ?_|refine anT ?_|refine And.intro (by kernel_rfl) ?_|refine And.intro (fun h => ?_) (fun h => ?_)|refine Or.inl ?_|fail)
  all_goals exact Ends.mk (Or.inl rfl) (AV.weak.of_eq rfl)
set_option maxHeartbeats 8000000 in
theorem Tryz.fillsSeq (l : List Img) (hl : l.length ≤ 1000000) (hu : ∀ x ∈ l, 0 ≤ x.u ∧ x.u ≤ 1000000) : ASeqM Tryz.prog pA 171 [.ref [imgsA l]] (fillsL l) := by
  refine ASeqM.of Tryz.func171 rfl (by kernel_rfl) Tryz.mixed (Nat.le_of_ble_eq_true rfl) rfl ?_
  intro F n m y J Jx hY
  have ks := ACalls.sortNil Tryz.sortP (enters_of Tryz.func172 (by kernel_rfl) rfl) 0 173 (o := .full)
  have hbd := steps_bd l hu
  refine MPB.seq ?_
  refine MPB.sp (by kernel_rfl) (fun W0 m0 hG hms => ?_) hY
  refine SPB.regN hG Tryz.T Tryz.keep171 [3] (by kernel_rfl) ?_
  conv => whnf
  refine MPB.seq ?_
  refine MPB.sp (by kernel_rfl) (fun W0 m0 hG hms => ?_) hY
  repeat' first|refine Q1 ?_|refine Q2 ?_|refine Q3 hG Tryz.T Tryz.keep171 (by kernel_rfl) ?_|refine Q4 hG Tryz.T Tryz.keep171 (by kernel_rfl) ?_|refine Q5 hG Tryz.T ?_|refine Q6 hG Tryz.T ?_|refine Q7 hG Tryz.T ?_|refine Q8 hG Tryz.T ?_|refine Q9 rfl ?_|refine QF rfl ?_|refine QC rfl (And.intro (fun h => ?_) (fun h => ?_))|((conv => whnf); first|refine anF ?_|refine anT ?_|refine And.intro (by kernel_rfl) ?_|refine And.intro (fun h => ?_) (fun h => ?_)|refine Or.inl ?_|fail)
  refine SPB.loop (X := Nat) (fun i => ⟨(11, .int .i64 i) :: (10, .int .i64 (l.map imgA).length) :: (9, imgsA l) :: (0, .lit (.func (.yield y) #[] #[])) :: rowSt (stepsOf (l.take i)), []⟩) (fun i => i ≤ l.length) (fun i => l.length - i) 0 (Nat.zero_le _) (St.le.of ?_ ?_) (fun i hi => ?_)
  · repeat' (first | exact trivial | refine And.intro rfl ?_)
  · repeat' (first | exact trivial | refine And.intro rfl ?_)
  · by_cases hlt : i < l.length
    · have bbk : decide ((i : Int) < ((l.map imgA).length : Int)) = false → False := fun h => by have := of_decide_eq_false h; simp at this; omega
      have hx := img_at hlt
      have hux : 0 ≤ (l.getD i img0).u ∧ (l.getD i img0).u ≤ 1000000 := hu _ (by rw [List.getD_eq_getElem?_getD, List.getElem?_eq_getElem hlt]; exact List.getElem_mem hlt)
      have hst := steps_take hlt
      have hln : (stepsOf (l.take i)).length = 2 * i := by rw [steps_len, List.length_take]; omega
      generalize l.getD i img0 = x at hx hux hst
      have hng : IntKind.i64.wrap (0 - x.u) = 0 - x.u := (w64_in (by omega) (by omega)).trans (by omega)
      generalize stepsOf (l.take i) = st at hst hln
      rcases st with _ | ⟨z, o⟩
      · skip
        repeat' first|exact (bbk (by assumption)).elim|refine Q1 ?_|refine Q2 ?_|refine Q3 hG Tryz.T Tryz.keep171 (by kernel_rfl) ?_|refine Q4 hG Tryz.T Tryz.keep171 (by kernel_rfl) ?_|refine Q5 hG Tryz.T ?_|refine Q6 hG Tryz.T ?_|refine Q7 hG Tryz.T ?_|refine Q8 hG Tryz.T ?_|refine Q9 rfl ?_|refine QF rfl ?_|refine QC rfl (And.intro (fun h => ?_) (fun h => ?_))|((conv => whnf); first|refine anF ?_|refine anT ?_|refine And.intro (by kernel_rfl) ?_|refine And.intro (Int.natCast_nonneg i) (Exists.intro _ (And.intro hx ?_))|refine Or.inr (And.intro rfl (And.intro (Nat.le_of_ble_eq_true rfl) (And.intro (Nat.le_of_ble_eq_true rfl) (And.intro (Nat.le_of_ble_eq_true rfl) ?_))))|refine And.intro (fun h => ?_) (fun h => ?_)|refine Or.inl ?_|fail)
        conv => whnf
        refine Exists.intro (i + 1) (And.intro hlt (And.intro (by omega) ?_))
        rw [hst, hng]
        refine St.le.of (And.intro (congrArg some (le_next (by omega))) ?_) ?_
        · repeat' (first | exact trivial | refine And.intro rfl ?_)
        · repeat' (first | exact trivial | refine And.intro rfl ?_)
      · have hml : ((z :: o).map pA).length = 2 * i := by rw [List.length_map]; exact hln
        repeat' first|exact (bbk (by assumption)).elim|refine Q1 ?_|refine Q2 ?_|refine Q3 hG Tryz.T Tryz.keep171 (by kernel_rfl) ?_|refine Q4 hG Tryz.T Tryz.keep171 (by kernel_rfl) ?_|refine Q5 hG Tryz.T ?_|refine Q6 hG Tryz.T ?_|refine Q7 hG Tryz.T ?_|refine Q8 hG Tryz.T ?_|refine Q9 rfl ?_|refine QF rfl ?_|refine QC rfl (And.intro (fun h => ?_) (fun h => ?_))|((conv => whnf); first|refine anF ?_|refine anT ?_|refine And.intro (by kernel_rfl) ?_|refine And.intro (Int.natCast_nonneg i) (Exists.intro _ (And.intro hx ?_))|refine And.intro (Nat.le_of_ble_eq_true rfl) (And.intro (show (((z :: o).map pA).length + 2) * 16 ≤ 70368744177664 by rw [hml]; omega) (And.intro (show ((z :: o).map pA).length + 2 ≤ 4611686018427387904 by rw [hml]; omega) ?_))|refine And.intro (fun h => ?_) (fun h => ?_)|refine Or.inl ?_|fail)
        conv => whnf
        refine Exists.intro (i + 1) (And.intro hlt (And.intro (by omega) ?_))
        rw [hst, rowSt_snoc, hng]
        refine St.le.of (And.intro (congrArg some (le_next (by omega))) ?_) ?_
        · repeat' (first | exact trivial | refine And.intro rfl ?_)
        · repeat' (first | exact trivial | refine And.intro rfl ?_)
    · have he : l.take i = l := List.take_of_length_le (by omega)
      have bbk : decide ((i : Int) < ((l.map imgA).length : Int)) = true → False := fun h => by have := of_decide_eq_true h; simp at this; omega
      rw [he]
      have hln := steps_len l
      have hbd := hbd
      have hfl := fun (s : List (Int × Int)) (hp : s.Perm (stepsOf l)) (hs : s.Pairwise fun x y => x.1 ≤ y.1) => fills_of hp hs
      generalize stepsOf l = st at hln hfl hbd
      rcases st with _ | ⟨z, o⟩
      · have hf0 := hfl [] (.refl _) .nil
        repeat' first|exact (bbk (by assumption)).elim|refine Q1 ?_|refine Q2 ?_|refine Q3 hG Tryz.T Tryz.keep171 (by kernel_rfl) ?_|refine Q4 hG Tryz.T Tryz.keep171 (by kernel_rfl) ?_|refine Q5 hG Tryz.T ?_|refine Q6 hG Tryz.T ?_|refine Q7 hG Tryz.T ?_|refine Q8 hG Tryz.T ?_|refine Q9 rfl ?_|refine QF rfl ?_|refine QC rfl (And.intro (fun h => ?_) (fun h => ?_))|((conv => whnf); first|refine anF ?_|refine anT ?_|refine And.intro (by kernel_rfl) ?_|refine And.intro (fun h => ?_) (fun h => ?_)|refine Or.inl ?_|fail)
        refine MPB.seq ?_
        refine MPB.sp (by kernel_rfl) (fun W0 m0 hG hms => ?_) hY
        refine Q4 hG Tryz.T Tryz.keep171 (by kernel_rfl) ?_
        repeat' first|refine MPB.sp (c := .region _ _ true) (by kernel_rfl) (fun W0 m0 hG hms => ?_) hY|refine Q3 hG Tryz.T Tryz.keep171 (by kernel_rfl) ?_|refine MPB.seq ?_|refine MPB.block ?_|refine MPB.reg hY Tryz.T Tryz.keep171 (by kernel_rfl) ?_|refine MPB.skip ?_|refine MPB.label ?_|refine MPB.ret ?_|refine MPB.exit ?_|refine MPB.condT rfl ?_|refine MPB.condF rfl ?_|refine MPB.cond rfl (And.intro (fun h => ?_) (fun h => ?_))|((conv => whnf); first|refine anF ?_|refine anT ?_|refine And.intro (by kernel_rfl) ?_|refine Exists.intro _ (And.intro (ks) ?_)|refine And.intro (fun h => ?_) (fun h => ?_)|refine Or.inl ?_|fail)
        refine MPB.loop (X := Unit) (fun _ => ((false, 0), ⟨[(36, .int .i64 0), (35, .int .i64 0), (0, .lit (.func (.yield y) #[] #[]))], []⟩)) (fun _ => True) (fun _ => 0) () trivial rfl (St.le.of ?_ ?_) (fun _ _ => ?_)
        · repeat' (first | exact trivial | refine And.intro rfl ?_)
        · repeat' (first | exact trivial | refine And.intro rfl ?_)
        · have bb0 : decide ((0 : Int) < 0) = true → False := fun h => by simp at h
          repeat' first|exact (bb0 (by assumption)).elim|refine MPB.seq ?_|refine MPB.block ?_|refine MPB.reg hY Tryz.T Tryz.keep171 (by kernel_rfl) ?_|refine MPB.skip ?_|refine MPB.label ?_|refine MPB.ret ?_|refine MPB.exit ?_|refine MPB.condT rfl ?_|refine MPB.condF rfl ?_|refine MPB.cond rfl (And.intro (fun h => ?_) (fun h => ?_))|((conv => whnf); first|refine anF ?_|refine anT ?_|refine And.intro (by kernel_rfl) ?_|refine And.intro (fun h => ?_) (fun h => ?_)|refine Or.inl ?_|fail)
          exact EndsY.mk (Or.inr rfl) (Or.inl (congrArg (Prod.mk false) (by rw [← hf0]; rfl)))
      · skip
        repeat' first|exact (bbk (by assumption)).elim|refine Q1 ?_|refine Q2 ?_|refine Q3 hG Tryz.T Tryz.keep171 (by kernel_rfl) ?_|refine Q4 hG Tryz.T Tryz.keep171 (by kernel_rfl) ?_|refine Q5 hG Tryz.T ?_|refine Q6 hG Tryz.T ?_|refine Q7 hG Tryz.T ?_|refine Q8 hG Tryz.T ?_|refine Q9 rfl ?_|refine QF rfl ?_|refine QC rfl (And.intro (fun h => ?_) (fun h => ?_))|((conv => whnf); first|refine anF ?_|refine anT ?_|refine And.intro (by kernel_rfl) ?_|refine And.intro (fun h => ?_) (fun h => ?_)|refine Or.inl ?_|fail)
        refine MPB.seq ?_
        refine MPB.sp (by kernel_rfl) (fun W0 m0 hG hms => ?_) hY
        refine SPB.oregX hG Tryz.T Tryz.keep171 1 (by kernel_rfl) ?_
        conv => whnf
        refine Exists.intro ((z :: o).map p2) (Exists.intro _ (And.intro (Tryz.sortSteps (z :: o) ?_) (And.intro (ints_p2 _).symm (And.intro ?_ ?_))))
        · omega
        · intro x hx; obtain ⟨y, _, rfl⟩ := List.mem_map.1 hx; rfl
        · rintro r rows ⟨rfl, s, hp, hs, rfl⟩ _ _
          conv => whnf
          rw [ints_p2]
          have hs' : s.Pairwise fun x y => x.1 ≤ y.1 := hs.imp fun h => (cmpT_ge _ _).1 h
          have hf := hfl s hp hs'
          have hbs : ∀ p ∈ s, -1000000 ≤ p.2 ∧ p.2 ≤ 1000000 := fun p h => hbd p (hp.mem_iff.1 h)
          have hsl : s.length ≤ 2000000 := by have := hp.length_eq; omega
          repeat' first|refine MPB.seq ?_|refine MPB.block ?_|refine MPB.reg hY Tryz.T Tryz.keep171 (by kernel_rfl) ?_|refine MPB.skip ?_|refine MPB.label ?_|refine MPB.ret ?_|refine MPB.exit ?_|refine MPB.condT rfl ?_|refine MPB.condF rfl ?_|refine MPB.cond rfl (And.intro (fun h => ?_) (fun h => ?_))|((conv => whnf); first|refine anF ?_|refine anT ?_|refine And.intro (by kernel_rfl) ?_|refine And.intro (fun h => ?_) (fun h => ?_)|refine Or.inl ?_|fail)
          refine MPB.loop (X := Nat × Int × Nat) (fun x => ((false, x.2.2), ⟨[(36, .int .i64 x.1), (35, .int .i64 (s.map pA).length), (34, .sl .no 2 (s.map pA)), (3, .sl .no 2 (s.map pA)), (6, .int .i64 x.2.1), (0, .lit (.func (.yield y) #[] #[]))], []⟩)) (fun x => x.1 ≤ s.length ∧ fillsR x.2.1 (s.drop x.1) = (fillsL l).drop x.2.2 ∧ x.2.2 ≤ (fillsL l).length ∧ -1000000 * (x.1 : Int) ≤ x.2.1 ∧ x.2.1 ≤ 1000000 * (x.1 : Int)) (fun x => s.length - x.1) (0, 0, 0) ⟨Nat.zero_le _, hf, Nat.zero_le _, by decide, by decide⟩ rfl (St.le.of ?_ ?_) (fun x hI => ?_)
          · repeat' (first | exact trivial | refine And.intro rfl ?_)
          · repeat' (first | exact trivial | refine And.intro rfl ?_)
          · obtain ⟨j, f, k⟩ := x
            obtain ⟨hj, hfr, hk, hf1, hf2⟩ := hI
            simp only at hj hfr hk hf1 hf2 ⊢
            by_cases hjl : j < s.length
            · have bbj : decide ((j : Int) < ((s.map pA).length : Int)) = false → False := fun h => by have := of_decide_eq_false h; simp at this; omega
              have hx : (s.map pA)[(j : Int).toNat]? = some (pA s[j]) := by simp [List.getElem?_eq_getElem hjl]
              have hxb := hbs s[j] (List.getElem_mem hjl)
              rw [List.drop_eq_getElem_cons hjl] at hfr
              have hw1 : IntKind.i64.wrap ((j : Int) + 1) = ((j + 1 : Nat) : Int) := (w64_in (by omega) (by omega)).trans (by omega)
              generalize s[j] = x at hx hxb hfr
              have hwf : IntKind.i64.wrap (f + x.2) = f + x.2 := w64_in (by omega) (by omega)
              by_cases hj1 : j + 1 < s.length
              · have bb1 : decide (IntKind.i64.wrap ((j : Int) + 1) < ((s.map pA).length : Int)) = false → False := fun h => by rw [hw1] at h; have := of_decide_eq_false h; simp at this; omega
                have hy : (s.map pA)[(IntKind.i64.wrap ((j : Int) + 1)).toNat]? = some (pA s[j + 1]) := by rw [hw1, Int.toNat_natCast]; simp [List.getElem?_eq_getElem hj1]
                have h0 : 0 ≤ IntKind.i64.wrap ((j : Int) + 1) := by rw [hw1]; exact Int.natCast_nonneg _
                rw [List.drop_eq_getElem_cons hj1, fillsR_cons, ← List.drop_eq_getElem_cons hj1] at hfr
                generalize s[j + 1] = z at hy hfr
                repeat' first|exact (bbj (by assumption)).elim|exact (bb1 (by assumption)).elim|refine MPB.sp (c := .region _ _ true) (by kernel_rfl) (fun W0 m0 hG hms => ?_) hY|refine Q3 hG Tryz.T Tryz.keep171 (by kernel_rfl) ?_|refine MPB.seq ?_|refine MPB.block ?_|refine MPB.reg hY Tryz.T Tryz.keep171 (by kernel_rfl) ?_|refine MPB.skip ?_|refine MPB.label ?_|refine MPB.ret ?_|refine MPB.exit ?_|refine MPB.condT rfl ?_|refine MPB.condF rfl ?_|refine MPB.cond rfl (And.intro (fun h => ?_) (fun h => ?_))|((conv => whnf); first|refine anF ?_|refine anT ?_|refine And.intro (by kernel_rfl) ?_|refine And.intro (Int.natCast_nonneg j) (Exists.intro _ (And.intro hx ?_))|refine And.intro h0 (Exists.intro _ (And.intro hy ?_))|refine And.intro (fun h => ?_) (fun h => ?_)|refine Or.inl ?_|fail)
                · have hzx := beq_iff_eq.1 (by assumption : (z.1 == x.1) = true)
                  rw [if_pos hzx] at hfr
                  refine Exists.intro (j + 1, f + x.2, k) (And.intro ⟨hjl, hfr, hk, show -1000000 * ((j + 1 : Nat) : Int) ≤ f + x.2 by omega, show f + x.2 ≤ 1000000 * ((j + 1 : Nat) : Int) by omega⟩ (And.intro (show s.length - (j + 1) < s.length - j by omega) (And.intro rfl (St.le.of ?_ ?_))))
                  · exact And.intro (congrArg some (le_next (by omega))) (And.intro rfl (And.intro rfl (And.intro rfl (And.intro (congrArg (fun z => some (AV.int .i64 z)) hwf) (And.intro rfl trivial)))))
                  · repeat' (first | exact trivial | refine And.intro rfl ?_)
                · have hzx : ¬ z.1 = x.1 := fun h => by have := (by assumption : (z.1 == x.1) = false); rw [h] at this; simp at this
                  rw [if_neg hzx] at hfr
                  obtain ⟨hg1, hg2, hg3⟩ := drop_get hfr
                  refine Exists.intro (x.1, f + x.2) (And.intro hg1 (And.intro (congrArg (fun z => [AV.int .i64 x.1, AV.int .i64 z]) hwf) (fun t ht => ?_)))
                  subst ht
                  refine And.intro ?_ ?_
                  · skip
                    repeat' first|refine MPB.seq ?_|refine MPB.block ?_|refine MPB.reg hY Tryz.T Tryz.keep171 (by kernel_rfl) ?_|refine MPB.skip ?_|refine MPB.label ?_|refine MPB.ret ?_|refine MPB.exit ?_|refine MPB.condT rfl ?_|refine MPB.condF rfl ?_|refine MPB.cond rfl (And.intro (fun h => ?_) (fun h => ?_))|((conv => whnf); first|refine anF ?_|refine anT ?_|refine And.intro (by kernel_rfl) ?_|refine And.intro (fun h => ?_) (fun h => ?_)|refine Or.inl ?_|fail)
                    refine Exists.intro (j + 1, f + x.2, k + 1) (And.intro ⟨hjl, hg2, hg3, show -1000000 * ((j + 1 : Nat) : Int) ≤ f + x.2 by omega, show f + x.2 ≤ 1000000 * ((j + 1 : Nat) : Int) by omega⟩ (And.intro (show s.length - (j + 1) < s.length - j by omega) (And.intro rfl (St.le.of ?_ ?_))))
                    · exact And.intro (congrArg some (le_next (by omega))) (And.intro rfl (And.intro rfl (And.intro rfl (And.intro (congrArg (fun z => some (AV.int .i64 z)) hwf) (And.intro rfl trivial)))))
                    · repeat' (first | exact trivial | refine And.intro rfl ?_)
                  · skip
                    repeat' first|refine MPB.seq ?_|refine MPB.block ?_|refine MPB.reg hY Tryz.T Tryz.keep171 (by kernel_rfl) ?_|refine MPB.skip ?_|refine MPB.label ?_|refine MPB.ret ?_|refine MPB.exit ?_|refine MPB.condT rfl ?_|refine MPB.condF rfl ?_|refine MPB.cond rfl (And.intro (fun h => ?_) (fun h => ?_))|((conv => whnf); first|refine anF ?_|refine anT ?_|refine And.intro (by kernel_rfl) ?_|refine And.intro (fun h => ?_) (fun h => ?_)|refine Or.inl ?_|fail)
                    exact EndsY.mk (Or.inl rfl) (Or.inr rfl)
              · have bb1 : decide (IntKind.i64.wrap ((j : Int) + 1) < ((s.map pA).length : Int)) = true → False := fun h => by rw [hw1] at h; have := of_decide_eq_true h; simp at this; omega
                repeat' first|exact (bbj (by assumption)).elim|exact (bb1 (by assumption)).elim|refine MPB.sp (c := .region _ _ true) (by kernel_rfl) (fun W0 m0 hG hms => ?_) hY|refine Q3 hG Tryz.T Tryz.keep171 (by kernel_rfl) ?_|refine MPB.seq ?_|refine MPB.block ?_|refine MPB.reg hY Tryz.T Tryz.keep171 (by kernel_rfl) ?_|refine MPB.skip ?_|refine MPB.label ?_|refine MPB.ret ?_|refine MPB.exit ?_|refine MPB.condT rfl ?_|refine MPB.condF rfl ?_|refine MPB.cond rfl (And.intro (fun h => ?_) (fun h => ?_))|((conv => whnf); first|refine anF ?_|refine anT ?_|refine And.intro (by kernel_rfl) ?_|refine And.intro (Int.natCast_nonneg j) (Exists.intro _ (And.intro hx ?_))|refine And.intro (fun h => ?_) (fun h => ?_)|refine Or.inl ?_|fail)
                have hde : s.drop (j + 1) = [] := List.drop_of_length_le (by omega)
                rw [hde] at hfr
                obtain ⟨hg1, hg2, hg3⟩ := drop_get (show (x.1, f + x.2) :: [] = (fillsL l).drop k from hfr)
                rw [← show fillsR (f + x.2) (s.drop (j + 1)) = [] by rw [hde]; rfl] at hg2
                refine Exists.intro (x.1, f + x.2) (And.intro hg1 (And.intro (congrArg (fun z => [AV.int .i64 x.1, AV.int .i64 z]) hwf) (fun t ht => ?_)))
                subst ht
                refine And.intro ?_ ?_
                · skip
                  repeat' first|refine MPB.seq ?_|refine MPB.block ?_|refine MPB.reg hY Tryz.T Tryz.keep171 (by kernel_rfl) ?_|refine MPB.skip ?_|refine MPB.label ?_|refine MPB.ret ?_|refine MPB.exit ?_|refine MPB.condT rfl ?_|refine MPB.condF rfl ?_|refine MPB.cond rfl (And.intro (fun h => ?_) (fun h => ?_))|((conv => whnf); first|refine anF ?_|refine anT ?_|refine And.intro (by kernel_rfl) ?_|refine And.intro (fun h => ?_) (fun h => ?_)|refine Or.inl ?_|fail)
                  refine Exists.intro (j + 1, f + x.2, k + 1) (And.intro ⟨hjl, hg2, hg3, show -1000000 * ((j + 1 : Nat) : Int) ≤ f + x.2 by omega, show f + x.2 ≤ 1000000 * ((j + 1 : Nat) : Int) by omega⟩ (And.intro (show s.length - (j + 1) < s.length - j by omega) (And.intro rfl (St.le.of ?_ ?_))))
                  · exact And.intro (congrArg some (le_next (by omega))) (And.intro rfl (And.intro rfl (And.intro rfl (And.intro (congrArg (fun z => some (AV.int .i64 z)) hwf) (And.intro rfl trivial)))))
                  · repeat' (first | exact trivial | refine And.intro rfl ?_)
                · skip
                  repeat' first|refine MPB.seq ?_|refine MPB.block ?_|refine MPB.reg hY Tryz.T Tryz.keep171 (by kernel_rfl) ?_|refine MPB.skip ?_|refine MPB.label ?_|refine MPB.ret ?_|refine MPB.exit ?_|refine MPB.condT rfl ?_|refine MPB.condF rfl ?_|refine MPB.cond rfl (And.intro (fun h => ?_) (fun h => ?_))|((conv => whnf); first|refine anF ?_|refine anT ?_|refine And.intro (by kernel_rfl) ?_|refine And.intro (fun h => ?_) (fun h => ?_)|refine Or.inl ?_|fail)
                  exact EndsY.mk (Or.inl rfl) (Or.inr rfl)
            · have bbj : decide ((j : Int) < ((s.map pA).length : Int)) = true → False := fun h => by have := of_decide_eq_true h; simp at this; omega
              repeat' first|exact (bbj (by assumption)).elim|refine MPB.sp (c := .region _ _ true) (by kernel_rfl) (fun W0 m0 hG hms => ?_) hY|refine Q3 hG Tryz.T Tryz.keep171 (by kernel_rfl) ?_|refine MPB.seq ?_|refine MPB.block ?_|refine MPB.reg hY Tryz.T Tryz.keep171 (by kernel_rfl) ?_|refine MPB.skip ?_|refine MPB.label ?_|refine MPB.ret ?_|refine MPB.exit ?_|refine MPB.condT rfl ?_|refine MPB.condF rfl ?_|refine MPB.cond rfl (And.intro (fun h => ?_) (fun h => ?_))|((conv => whnf); first|refine anF ?_|refine anT ?_|refine And.intro (by kernel_rfl) ?_|refine And.intro (fun h => ?_) (fun h => ?_)|refine Or.inl ?_|fail)
              have hke : k = (fillsL l).length := by
                rw [List.drop_of_length_le (by omega)] at hfr
                have := congrArg List.length hfr
                simp [fillsR] at this; omega
              exact EndsY.mk (Or.inr rfl) (Or.inl (congrArg (Prod.mk false) hke))
end Go.Proofs
namespace Go.Proofs
open Go Go.AI
set_option maxRecDepth 10000
def inM (x lo hi : Int) : Bool := decide (lo ≤ x) && decide (x ≤ hi)
def spM (a b : Int) : Bool := decide (0 ≤ a) && (decide (a < b) && decide (b ≤ 1000001))
theorem Tryz.isIn (x lo hi : Int) : ACalls Tryz.prog 104 [.int .i64 x, .int .i64 lo, .int .i64 hi] (.bool (inM x lo hi)) := by
  refine ACalls.ofB Tryz.T Tryz.func104 rfl (by kernel_rfl) Tryz.mixed (Nat.le_of_ble_eq_true rfl) ?_
  intro F n' w0 m0 hG hro h1
  repeat' first|refine Q1 ?_|refine Q2 ?_|refine Q3 hG Tryz.T Tryz.keep104 (by kernel_rfl) ?_|refine Q4 hG Tryz.T Tryz.keep104 (by kernel_rfl) ?_|refine Q5 hG Tryz.T ?_|refine Q6 hG Tryz.T ?_|refine Q7 hG Tryz.T ?_|refine Q8 hG Tryz.T ?_|refine Q9 rfl ?_|refine QF rfl ?_|refine QC rfl (And.intro (fun h => ?_) (fun h => ?_))|((conv => whnf); first|refine anF ?_|refine anT ?_|refine And.intro (by kernel_rfl) ?_|refine And.intro (fun h => ?_) (fun h => ?_)|refine Or.inl ?_|fail)
  all_goals refine Ends.mk (Or.inl rfl) (AV.weak.of_eq (congrArg AV.bool ?_))
  all_goals simp only [inM, *, Bool.true_and, Bool.and_true, Bool.false_and, Bool.and_false, Bool.true_or, Bool.or_true, Bool.false_or, Bool.or_false, Bool.not_true, Bool.not_false]
theorem Tryz.isSpell (a b : Int) : ACalls Tryz.prog 170 [.agg [.int .i64 a, .int .i64 b]] (.bool (spM a b)) := by
  refine ACalls.ofB Tryz.T Tryz.func170 rfl (by kernel_rfl) Tryz.mixed (Nat.le_of_ble_eq_true rfl) ?_
  intro F n' w0 m0 hG hro h1
  repeat' first|refine Q1 ?_|refine Q2 ?_|refine Q3 hG Tryz.T Tryz.keep170 (by kernel_rfl) ?_|refine Q4 hG Tryz.T Tryz.keep170 (by kernel_rfl) ?_|refine Q5 hG Tryz.T ?_|refine Q6 hG Tryz.T ?_|refine Q7 hG Tryz.T ?_|refine Q8 hG Tryz.T ?_|refine Q9 rfl ?_|refine QF rfl ?_|refine QC rfl (And.intro (fun h => ?_) (fun h => ?_))|((conv => whnf); first|refine anF ?_|refine anT ?_|refine And.intro (by kernel_rfl) ?_|refine And.intro (fun h => ?_) (fun h => ?_)|refine Or.inl ?_|fail)
  all_goals refine Ends.mk (Or.inl rfl) (AV.weak.of_eq (congrArg AV.bool ?_))
  all_goals simp only [spM, *, Bool.true_and, Bool.and_true, Bool.false_and, Bool.and_false, Bool.true_or, Bool.or_true, Bool.false_or, Bool.or_false, Bool.not_true, Bool.not_false]
def seenB (l : List Img) : List Bool := (List.range 64).map fun (k : Nat) => l.any fun x => x.i == (k : Int)
def seenAt (l : List Img) (i : Int) : Bool := l.any fun x => x.i == i
def okImg (pre : List Img) (x : Img) : Bool := inM x.i 0 63 && (!seenAt pre x.i && (inM x.u 1 1000000 && spM x.a x.b))
def okImgs : List Img → List Img → Bool
  | _, [] => true
  | pre, x :: r => okImg pre x && okImgs (pre ++ [x]) r
def validM (l : List Img) : Bool := okImgs [] l && decide (l.length ≤ 24)
theorem seen0 (m : List Img) (h : m = []) : (seenB m).map AV.bool = List.replicate 64 (.bool false) := by
  subst h
  simp only [seenB, List.map_map, List.any_nil, Function.comp_def, List.map_const', List.length_range, List.map_replicate]
theorem load_step {i : TI} {cs : List AV} {n : Nat} {x : AV} {r : List AV} {K : AV → Prop} (h : cs.drop n = x :: r) (hK : (match loadAs i (x :: r) with | some v => K v | none => False)) : (match loadAs i (cs.drop n) with | some v => K v | none => False) := by rw [h]; exact hK
theorem store_step {s : St} {d n : Nat} {vs : List AV} {b' : List (Nat × List AV)} {K : List (Nat × List AV) → Prop} (h : storeB s.b d n vs = some b') (hK : K b') : (match storeB s.b d n vs with | some b => K b | none => False) := by rw [h]; exact hK
theorem storeB_at {bx : List (Nat × List AV)} {d n : Nat} {cs : List AV} {v : AV} (h1 : get bx d = some cs) (h2 : n < cs.length) : storeB bx d n [v] = some ((d, setM cs n [v]) :: bx) := by
  unfold storeB
  rw [h1]
  simp only [List.length_cons, List.length_nil, Nat.zero_add]
  rw [Nat.ble_eq_true_of_le h2]; rfl
theorem seen_drop {l : List Img} {i : Int} (h : inM i 0 63 = true) : ∃ r, ((seenB l).map AV.bool).drop (0 + i.toNat * 1) = .bool (seenAt l i) :: r := by
  simp only [inM, Bool.and_eq_true, decide_eq_true_eq] at h
  have hlt : 0 + i.toNat * 1 < ((seenB l).map AV.bool).length := by simp [seenB]; omega
  refine ⟨_, (List.drop_eq_getElem_cons hlt).trans (congrArg (· :: _) ?_)⟩
  simp only [seenB, List.map_map, List.getElem_map, List.getElem_range, Function.comp, seenAt]
  congr 3
  funext x
  rw [Nat.zero_add, Nat.mul_one, Int.toNat_of_nonneg h.1]
theorem seen_set {l : List Img} {x : Img} (h : inM x.i 0 63 = true) : setM ((seenB l).map AV.bool) (0 + x.i.toNat * 1) [.bool true] = (seenB (l ++ [x])).map AV.bool := by
  simp only [inM, Bool.and_eq_true, decide_eq_true_eq] at h
  rw [setM_eq]
  apply List.ext_getElem?
  intro j
  show (setAt ((seenB l).map AV.bool) (0 + x.i.toNat * 1) (.bool true))[j]? = _
  rw [setAt_get]
  simp only [seenB, List.length_map, List.length_range, List.getElem?_map, Nat.zero_add, Nat.mul_one, List.any_append, List.any_cons, List.any_nil, Bool.or_false]
  by_cases hj : j < 64
  · rw [List.getElem?_range hj]
    simp only [Option.map_some]
    by_cases he : j = x.i.toNat
    · rw [if_pos (by omega)]
      have : (x.i == (j : Int)) = true := by rw [beq_iff_eq]; omega
      rw [this, Bool.or_true]
    · rw [if_neg (by omega)]
      have : (x.i == (j : Int)) = false := by rw [beq_eq_false_iff_ne]; omega
      rw [this, Bool.or_false]
  · rw [if_neg (by omega), List.getElem?_eq_none (by simp; omega)]; rfl
set_option maxHeartbeats 8000000 in
theorem Tryz.memValid (l : List Img) (hl : l.length ≤ 1000000) : ACalls Tryz.prog 105 [imgsA l] (.bool (validM l)) := by
  refine ACalls.ofB Tryz.T Tryz.func105 rfl (by kernel_rfl) Tryz.mixed (Nat.le_of_ble_eq_true rfl) ?_
  intro F n' w0 m0 hG hro h1
  repeat' first|refine Q1 ?_|refine Q2 ?_|refine Q3 hG Tryz.T Tryz.keep105 (by kernel_rfl) ?_|refine Q4 hG Tryz.T Tryz.keep105 (by kernel_rfl) ?_|refine Q5 hG Tryz.T ?_|refine Q6 hG Tryz.T ?_|refine Q7 hG Tryz.T ?_|refine Q8 hG Tryz.T ?_|refine Q9 rfl ?_|refine QF rfl ?_|refine QC rfl (And.intro (fun h => ?_) (fun h => ?_))|((conv => whnf); first|refine anF ?_|refine anT ?_|refine And.intro (by kernel_rfl) ?_|refine And.intro (fun h => ?_) (fun h => ?_)|refine Or.inl ?_|fail)
  refine SPB.loop (X := Nat × List AV) (fun x => ⟨[(8, .int .i64 x.1), (7, .int .i64 (l.map imgA).length), (6, imgsA l), (0, imgsA l), (3, .loc 3 0)], [(3, x.2)]⟩) (fun x => x.1 ≤ l.length ∧ okImgs (l.take x.1) (l.drop x.1) = okImgs [] l ∧ x.2 = (seenB (l.take x.1)).map AV.bool) (fun x => l.length - x.1) (0, List.replicate 64 (.bool false)) ⟨Nat.zero_le _, by simp, (seen0 _ rfl).symm⟩ (St.le.of ?_ ?_) (fun x hi => ?_)
  · repeat' (first | exact trivial | refine And.intro rfl ?_)
  · repeat' (first | exact trivial | refine And.intro rfl ?_)
  · obtain ⟨i, cs⟩ := x
    obtain ⟨hi, hok, hcs⟩ := hi
    simp only at hi hok hcs ⊢
    by_cases hlt : i < l.length
    · have bbk : decide ((i : Int) < ((l.map imgA).length : Int)) = false → False := fun h => by have := of_decide_eq_false h; simp at this; omega
      have hx := img_at hlt
      have htk : l.take (i + 1) = l.take i ++ [l.getD i img0] := by rw [List.take_add_one, List.getD_eq_getElem?_getD, List.getElem?_eq_getElem hlt]; rfl
      have hdr : l.drop i = l.getD i img0 :: l.drop (i + 1) := by rw [List.getD_eq_getElem?_getD, List.getElem?_eq_getElem hlt]; exact List.drop_eq_getElem_cons hlt
      rw [hdr, okImgs, ← htk] at hok
      generalize l.getD i img0 = x at hx htk hok
      have hln : cs.length = 64 := by rw [hcs]; simp [seenB]
      cases hin : inM x.i 0 63 with
      | false =>
        have cIn : ACalls Tryz.prog 104 [.int .i64 x.i, .int .i64 0, .int .i64 63] (.bool false) := by rw [← hin]; exact Tryz.isIn _ _ _
        clear hcs
        repeat' first|exact (bbk (by assumption)).elim|refine Q1 ?_|refine Q2 ?_|refine Q3 hG Tryz.T Tryz.keep105 (by kernel_rfl) ?_|refine Q4 hG Tryz.T Tryz.keep105 (by kernel_rfl) ?_|refine Q5 hG Tryz.T ?_|refine Q6 hG Tryz.T ?_|refine Q7 hG Tryz.T ?_|refine Q8 hG Tryz.T ?_|refine Q9 rfl ?_|refine QF rfl ?_|refine QC rfl (And.intro (fun h => ?_) (fun h => ?_))|((conv => whnf); first|refine anF ?_|refine anT ?_|refine And.intro (by kernel_rfl) ?_|refine And.intro (Int.natCast_nonneg i) (Exists.intro _ (And.intro hx ?_))|refine Exists.intro _ (And.intro (cIn) ?_)|refine Exists.intro _ (And.intro (Tryz.isIn _ _ _) ?_)|refine Exists.intro _ (And.intro (Tryz.isSpell _ _) ?_)|refine Eq.mpr (goL_eq cs _) ?_|refine And.intro (fun h => ?_) (fun h => ?_)|refine Or.inl ?_|fail)
        refine Ends.mk (Or.inl rfl) (AV.weak.of_eq (congrArg AV.bool ?_))
        rw [validM, ← hok, okImg, hin]
        (try simp only [Bool.not_eq_true', Bool.not_eq_false'] at *)
        simp only [*, Bool.true_and, Bool.and_true, Bool.false_and, Bool.and_false, Bool.true_or, Bool.or_true, Bool.false_or, Bool.or_false, Bool.not_true, Bool.not_false]
      | true =>
        have cIn : ACalls Tryz.prog 104 [.int .i64 x.i, .int .i64 0, .int .i64 63] (.bool true) := by rw [← hin]; exact Tryz.isIn _ _ _
        have hst := seen_set (l := l.take i) hin
        rw [← htk] at hst
        obtain ⟨r, hse⟩ := seen_drop (l := l.take i) hin
        have hx0 : 0 ≤ x.i := by have := hin; simp only [inM, Bool.and_eq_true, decide_eq_true_eq] at this; exact this.1
        have hx1 : x.i < ((64 : Nat) : Int) := by have := hin; simp only [inM, Bool.and_eq_true, decide_eq_true_eq] at this; omega
        rw [← hcs] at hst hse
        clear hcs
        obtain ⟨sb, hsb⟩ : ∃ sb, sb = seenAt (l.take i) x.i := ⟨_, rfl⟩
        rw [← hsb] at hse
        have hsl : 0 + x.i.toNat * 1 < cs.length := by rw [hln]; omega
        repeat' first|exact (bbk (by assumption)).elim|refine Q1 ?_|refine Q2 ?_|refine Q3 hG Tryz.T Tryz.keep105 (by kernel_rfl) ?_|refine Q4 hG Tryz.T Tryz.keep105 (by kernel_rfl) ?_|refine Q5 hG Tryz.T ?_|refine Q6 hG Tryz.T ?_|refine Q7 hG Tryz.T ?_|refine Q8 hG Tryz.T ?_|refine Q9 rfl ?_|refine QF rfl ?_|refine QC rfl (And.intro (fun h => ?_) (fun h => ?_))|((conv => whnf); first|refine anF ?_|refine anT ?_|refine And.intro (by kernel_rfl) ?_|refine And.intro (Int.natCast_nonneg i) (Exists.intro _ (And.intro hx ?_))|refine Exists.intro _ (And.intro (cIn) ?_)|refine Exists.intro _ (And.intro (Tryz.isIn _ _ _) ?_)|refine Exists.intro _ (And.intro (Tryz.isSpell _ _) ?_)|refine load_step hse ?_|refine store_step (storeB_at (cs := cs) rfl hsl) ?_|refine Eq.mpr (goL_eq (setM cs _ _) _) ?_|refine And.intro hx0 (And.intro hx1 ?_)|refine Eq.mpr (goL_eq cs _) ?_|refine And.intro (fun h => ?_) (fun h => ?_)|refine Or.inl ?_|fail)
        · refine Ends.mk (Or.inl rfl) (AV.weak.of_eq (congrArg AV.bool ?_))
          subst hsb
          rw [validM, ← hok, okImg, hin]
          (try simp only [Bool.not_eq_true', Bool.not_eq_false'] at *)
          simp only [*, Bool.true_and, Bool.and_true, Bool.false_and, Bool.and_false, Bool.true_or, Bool.or_true, Bool.false_or, Bool.or_false, Bool.not_true, Bool.not_false]
        · refine Ends.mk (Or.inl rfl) (AV.weak.of_eq (congrArg AV.bool ?_))
          subst hsb
          rw [validM, ← hok, okImg, hin]
          (try simp only [Bool.not_eq_true', Bool.not_eq_false'] at *)
          simp only [*, Bool.true_and, Bool.and_true, Bool.false_and, Bool.and_false, Bool.true_or, Bool.or_true, Bool.false_or, Bool.or_false, Bool.not_true, Bool.not_false]
        · refine Ends.mk (Or.inl rfl) (AV.weak.of_eq (congrArg AV.bool ?_))
          subst hsb
          rw [validM, ← hok, okImg, hin]
          (try simp only [Bool.not_eq_true', Bool.not_eq_false'] at *)
          simp only [*, Bool.true_and, Bool.and_true, Bool.false_and, Bool.and_false, Bool.true_or, Bool.or_true, Bool.false_or, Bool.or_false, Bool.not_true, Bool.not_false]
        · conv => whnf
          refine Exists.intro (i + 1, setM cs (0 + x.i.toNat * 1) [.bool true]) (And.intro ⟨hlt, ?_, hst⟩ (And.intro (show l.length - (i + 1) < l.length - i by omega) ?_))
          · subst hsb
            rw [← hok, okImg, hin]
            (try simp only [Bool.not_eq_true', Bool.not_eq_false'] at *)
            simp only [*, Bool.true_and, Bool.and_true, Bool.false_and, Bool.and_false, Bool.true_or, Bool.or_true, Bool.false_or, Bool.or_false, Bool.not_true, Bool.not_false]
          · refine St.le.of (And.intro (congrArg some (le_next (by omega))) ?_) ?_
            · repeat' (first | exact trivial | refine And.intro rfl ?_)
            · repeat' (first | exact trivial | refine And.intro rfl ?_)
    · have bbk : decide ((i : Int) < ((l.map imgA).length : Int)) = true → False := fun h => by have := of_decide_eq_true h; simp at this; omega
      repeat' first|exact (bbk (by assumption)).elim|refine Q1 ?_|refine Q2 ?_|refine Q3 hG Tryz.T Tryz.keep105 (by kernel_rfl) ?_|refine Q4 hG Tryz.T Tryz.keep105 (by kernel_rfl) ?_|refine Q5 hG Tryz.T ?_|refine Q6 hG Tryz.T ?_|refine Q7 hG Tryz.T ?_|refine Q8 hG Tryz.T ?_|refine Q9 rfl ?_|refine QF rfl ?_|refine QC rfl (And.intro (fun h => ?_) (fun h => ?_))|((conv => whnf); first|refine anF ?_|refine anT ?_|refine And.intro (by kernel_rfl) ?_|refine And.intro (fun h => ?_) (fun h => ?_)|refine Or.inl ?_|fail)
      refine Ends.mk (Or.inl rfl) (AV.weak.of_eq (congrArg AV.bool ?_))
      have hdn : l.drop i = [] := List.drop_of_length_le (by omega)
      rw [hdn, okImgs] at hok
      rw [validM, ← hok, List.length_map, Bool.true_and]
      exact decide_eq_decide.2 (by omega)
end Go.Proofs
namespace Go.Proofs
open Go Go.AI
set_option maxRecDepth 10000
theorem over_at {store : Int} {x : Int × Int} {r : List (Int × Int)} (hx : x.2 > store) : ∀ (p : List (Int × Int)), (∀ q ∈ p, q.2 ≤ store) → overL store (p ++ x :: r) = x.1
  | [], _ => by simp only [List.nil_append, overL]; rw [if_pos hx]
  | q :: p, h => by
    have := h q (.head _)
    simp only [List.cons_append, overL]
    rw [if_neg (by omega)]
    exact over_at hx p fun y hy => h y (.tail _ hy)
theorem over_none {store : Int} : ∀ (p : List (Int × Int)), (∀ q ∈ p, q.2 ≤ store) → overL store p = -1
  | [], _ => rfl
  | q :: p, h => by
    have := h q (.head _)
    simp only [overL]
    rw [if_neg (by omega)]
    exact over_none p fun y hy => h y (.tail _ hy)
theorem valid_units : ∀ (l pre : List Img), okImgs pre l = true → ∀ x ∈ l, 0 ≤ x.u ∧ x.u ≤ 1000000
  | [], _, _, x, hx => nomatch hx
  | y :: r, pre, h, x, hx => by
    simp only [okImgs, Bool.and_eq_true] at h
    rcases List.mem_cons.1 hx with rfl | hx
    · have := h.1
      simp only [okImg, inM, Bool.and_eq_true, decide_eq_true_eq] at this
      omega
    · exact valid_units r _ h.2 x hx
set_option maxHeartbeats 4000000 in
theorem Tryz.over (l : List Img) (store : Int) (hl : l.length ≤ 1000000) (hv : validM l = true) (hs : inM store 0 1000000 = true) : ACalls Tryz.prog 37 [imgsA l, .int .i64 store] (.tup [.int .i64 (overL store (fillsL l)), .int .i64 0]) := by
  have cV : ACalls Tryz.prog 105 [imgsA l] (.bool true) := by rw [← hv]; exact Tryz.memValid l hl
  have cS : ACalls Tryz.prog 104 [.int .i64 store, .int .i64 0, .int .i64 1000000] (.bool true) := by rw [← hs]; exact Tryz.isIn _ _ _
  have hu : ∀ x ∈ l, 0 ≤ x.u ∧ x.u ≤ 1000000 := by
    simp only [validM, Bool.and_eq_true] at hv
    exact valid_units l [] hv.1
  have hseq := Tryz.fillsSeq l hl hu
  refine ACalls.ofB Tryz.T Tryz.func37 rfl (by kernel_rfl) Tryz.mixed (Nat.le_of_ble_eq_true rfl) ?_
  intro F n' w0 m0 hG hro h1
  repeat' first|refine Q1 ?_|refine Q2 ?_|refine Q3 hG Tryz.T Tryz.keep37 (by kernel_rfl) ?_|refine Q4 hG Tryz.T Tryz.keep37 (by kernel_rfl) ?_|refine Q5 hG Tryz.T ?_|refine Q6 hG Tryz.T ?_|refine Q7 hG Tryz.T ?_|refine Q8 hG Tryz.T ?_|refine Q9 rfl ?_|refine QF rfl ?_|refine QC rfl (And.intro (fun h => ?_) (fun h => ?_))|((conv => whnf); first|refine anF ?_|refine anT ?_|refine And.intro (by kernel_rfl) ?_|refine Exists.intro _ (And.intro (cV) ?_)|refine Exists.intro _ (And.intro (cS) ?_)|refine Exists.intro _ (And.intro (Tryz.fills l) ?_)|refine And.intro (fun h => ?_) (fun h => ?_)|refine Or.inl ?_|fail)
  generalize fillsL l = items at hseq
  refine ⟨SP.rangeM2I hG hro h1 (α := Int × Int) pA (f := 171) (cap := [.ref [imgsA l]]) (items := items) rfl hseq (fun _ => rfl) (fun _ => [(5, .loc 5 0), (4, .loc 4 0), (3, .loc 3 0)]) [5, 4, 3] (fun _ => rfl)
    (fun _ => [(5, [.int .i64 0]), (4, [.int .i64 0]), (3, [.int .i64 store])]) (St.le.of ?_ ?_) (fun p => ∀ q ∈ p, q.2 ≤ store) (fun _ h => nomatch h) (by kernel_rfl) (by decide) ?_ ?_⟩
  · repeat' (first | exact trivial | refine And.intro rfl ?_)
  · repeat' (first | exact trivial | refine And.intro rfl ?_)
  · intro F' n'' m' hG' _ _ pre x rest hx hI
    clear hG
    have hG := hG'
    refine SPB.out (Q1 ?_)
    repeat' first|refine Q1 ?_|refine Q2 ?_|refine Q3 hG Tryz.T Tryz.keep37 (by kernel_rfl) ?_|refine Q4 hG Tryz.T Tryz.keep37 (by kernel_rfl) ?_|refine Q5 hG Tryz.T ?_|refine Q6 hG Tryz.T ?_|refine Q7 hG Tryz.T ?_|refine Q8 hG Tryz.T ?_|refine Q9 rfl ?_|refine QF rfl ?_|refine QC rfl (And.intro (fun h => ?_) (fun h => ?_))|((conv => whnf); first|refine anF ?_|refine anT ?_|refine And.intro (by kernel_rfl) ?_|refine And.intro (fun h => ?_) (fun h => ?_)|refine Or.inl ?_|fail)
    refine And.intro (St.le.of ?_ ?_) ?_
    · repeat' (first | exact trivial | refine And.intro rfl ?_)
    · repeat' (first | exact trivial | refine And.intro rfl ?_)
    refine SPB.out ?_
    repeat' first|refine Q1 ?_|refine Q2 ?_|refine Q3 hG Tryz.T Tryz.keep37 (by kernel_rfl) ?_|refine Q4 hG Tryz.T Tryz.keep37 (by kernel_rfl) ?_|refine Q5 hG Tryz.T ?_|refine Q6 hG Tryz.T ?_|refine Q7 hG Tryz.T ?_|refine Q8 hG Tryz.T ?_|refine Q9 rfl ?_|refine QF rfl ?_|refine QC rfl (And.intro (fun h => ?_) (fun h => ?_))|((conv => whnf); first|refine anF ?_|refine anT ?_|refine And.intro (by kernel_rfl) ?_|refine And.intro (fun h => ?_) (fun h => ?_)|refine Or.inl ?_|fail)
    · have hgt : x.2 > store := of_decide_eq_true (by assumption)
      have ho := over_at (r := rest) hgt pre hI
      rw [← hx] at ho
      conv => whnf
      refine And.intro (fun h => nomatch h) (Exists.intro [(5, [.int .i64 0]), (4, [.int .i64 x.1]), (3, [.int .i64 store])] (And.intro (St.le.of ?_ ?_) (Ends.mk (Or.inl rfl) (AV.weak.of_eq (by rw [ho]; rfl)))))
      · repeat' (first | exact trivial | refine And.intro rfl ?_)
      · repeat' (first | exact trivial | refine And.intro rfl ?_)
    · have hle : ¬ x.2 > store := of_decide_eq_false (by assumption)
      conv => whnf
      refine And.intro (fun _ q hq => ?_) (St.le.of ?_ ?_)
      · rcases List.mem_append.1 hq with h | h
        · exact hI q h
        · rw [List.mem_singleton.1 h]; omega
      · repeat' (first | exact trivial | refine And.intro rfl ?_)
      · repeat' (first | exact trivial | refine And.intro rfl ?_)
  · intro hI
    conv => whnf
    repeat' first|refine Q1 ?_|refine Q2 ?_|refine Q3 hG Tryz.T Tryz.keep37 (by kernel_rfl) ?_|refine Q4 hG Tryz.T Tryz.keep37 (by kernel_rfl) ?_|refine Q5 hG Tryz.T ?_|refine Q6 hG Tryz.T ?_|refine Q7 hG Tryz.T ?_|refine Q8 hG Tryz.T ?_|refine Q9 rfl ?_|refine QF rfl ?_|refine QC rfl (And.intro (fun h => ?_) (fun h => ?_))|((conv => whnf); first|refine anF ?_|refine anT ?_|refine And.intro (by kernel_rfl) ?_|refine And.intro (fun h => ?_) (fun h => ?_)|refine Or.inl ?_|fail)
    rw [over_none _ hI]
    exact Ends.mk (Or.inl rfl) (AV.weak.of_eq rfl)
end Go.Proofs
namespace Go.Proofs
open Go Go.AI
set_option maxRecDepth 10000
def fltT (s : Nat → Int) (t : Int) : AV := .tup [.agg (fltA ⟨0, s 0, 0, t⟩), .bool (t != -1)]
theorem Tryz.minute (s : Nat → Int) (t : Int) : ACalls Tryz.prog 145 [.agg (satA s), .int .i64 t] (fltT s t) := by
  refine ACalls.ofB Tryz.T Tryz.func145 rfl (by kernel_rfl) Tryz.mixed (Nat.le_of_ble_eq_true rfl) ?_
  intro F n' w0 m0 hG hro h1
  repeat' first|refine Q1 ?_|refine Q2 ?_|refine Q3 hG Tryz.T Tryz.keep145 (by kernel_rfl) ?_|refine Q4 hG Tryz.T Tryz.keep145 (by kernel_rfl) ?_|refine Q5 hG Tryz.T ?_|refine Q6 hG Tryz.T ?_|refine Q7 hG Tryz.T ?_|refine Q8 hG Tryz.T ?_|refine Q9 rfl ?_|refine QF rfl ?_|refine QC rfl (And.intro (fun h => ?_) (fun h => ?_))|((conv => whnf); first|refine anF ?_|refine anT ?_|refine And.intro (by kernel_rfl) ?_|refine And.intro (fun h => ?_) (fun h => ?_)|refine Or.inl ?_|fail)
  all_goals exact Ends.mk (Or.inl rfl) (AV.weak.of_eq rfl)
theorem Tryz.heat (s : Nat → Int) (l : List Opt) (a b : Int) (hl : l.length ≤ 1000000) (hs : spanS a b = true) (hv : valS s (aimsOf l) = true) : ACalls Tryz.prog 73 [.agg (satA s), optsA l, .agg (spellA a b)] (fltT s (hotS s (aimsOf l) a b)) := by
  refine ACalls.ofB Tryz.T Tryz.func73 rfl (by kernel_rfl) Tryz.mixed (Nat.le_of_ble_eq_true rfl) ?_
  intro F n' w0 m0 hG hro h1
  repeat' first|refine Q1 ?_|refine Q2 ?_|refine Q3 hG Tryz.T Tryz.keep73 (by kernel_rfl) ?_|refine Q4 hG Tryz.T Tryz.keep73 (by kernel_rfl) ?_|refine Q5 hG Tryz.T ?_|refine Q6 hG Tryz.T ?_|refine Q7 hG Tryz.T ?_|refine Q8 hG Tryz.T ?_|refine Q9 rfl ?_|refine QF rfl ?_|refine QC rfl (And.intro (fun h => ?_) (fun h => ?_))|((conv => whnf); first|refine anF ?_|refine anT ?_|refine And.intro (by kernel_rfl) ?_|refine Exists.intro _ (And.intro (Tryz.aims l hl) ?_)|refine Exists.intro _ (And.intro (Tryz.pc22 s (aimsOf l) a b (by simpa [aimsOf] using hl) hs hv) ?_)|refine Exists.intro _ (And.intro (Tryz.minute _ _) ?_)|refine And.intro (fun h => ?_) (fun h => ?_)|refine Or.inl ?_|fail)
  all_goals exact Ends.mk (Or.inl rfl) (AV.weak.of_eq rfl)
theorem Tryz.charge (s : Nat → Int) (l : List Opt) (a b : Int) (hl : l.length ≤ 1000000) (hsl : slens l) (hsp : (sentP l).length ≤ 900000) (hll : (optLoads l).length ≤ 1000000) (hv : validS s (optLoads l) a b = true) : ACalls Tryz.prog 75 [.agg (satA s), optsA l, .agg (spellA a b)] (fltT s (emptyS s (optLoads l) a b)) := by
  refine ACalls.ofB Tryz.T Tryz.func75 rfl (by kernel_rfl) Tryz.mixed (Nat.le_of_ble_eq_true rfl) ?_
  intro F n' w0 m0 hG hro h1
  repeat' first|refine Q1 ?_|refine Q2 ?_|refine Q3 hG Tryz.T Tryz.keep75 (by kernel_rfl) ?_|refine Q4 hG Tryz.T Tryz.keep75 (by kernel_rfl) ?_|refine Q5 hG Tryz.T ?_|refine Q6 hG Tryz.T ?_|refine Q7 hG Tryz.T ?_|refine Q8 hG Tryz.T ?_|refine Q9 rfl ?_|refine QF rfl ?_|refine QC rfl (And.intro (fun h => ?_) (fun h => ?_))|((conv => whnf); first|refine anF ?_|refine anT ?_|refine And.intro (by kernel_rfl) ?_|refine Exists.intro _ (And.intro (Tryz.loads l hl hsl hsp) ?_)|refine Exists.intro _ (And.intro (Tryz.c38 s (optLoads l) a b hll hv) ?_)|refine Exists.intro _ (And.intro (Tryz.minute _ _) ?_)|refine And.intro (fun h => ?_) (fun h => ?_)|refine Or.inl ?_|fail)
  all_goals exact Ends.mk (Or.inl rfl) (AV.weak.of_eq rfl)
def slewT (l : List Opt) : Option (Nat × Nat) → AV
  | none => .tup [.agg (fltA ⟨0, 0, 0, 0⟩), .bool false]
  | some (i, k) => .tup [.agg (fltA ⟨0, (optAt l i).id, (optAt l k).id, (optAt l k).a⟩), .bool true]
theorem Tryz.slews (s : Nat → Int) (l : List Opt) (a b : Int) (hl : l.length ≤ 1000000) (hv : valS s (aimsOf l) = true) : ACalls Tryz.prog 72 [.agg (satA s), optsA l, .agg (spellA a b)] (slewT l (slewO s (aimsOf l))) := by
  have c := Tryz.pc16 s (aimsOf l) (by simpa [aimsOf] using hl) hv
  cases hs : slewO s (aimsOf l) with
  | none =>
    rw [hs] at c
    refine ACalls.ofB Tryz.T Tryz.func72 rfl (by kernel_rfl) Tryz.mixed (Nat.le_of_ble_eq_true rfl) ?_
    intro F n' w0 m0 hG hro h1
    repeat' first|refine Q1 ?_|refine Q2 ?_|refine Q3 hG Tryz.T Tryz.keep72 (by kernel_rfl) ?_|refine Q4 hG Tryz.T Tryz.keep72 (by kernel_rfl) ?_|refine Q5 hG Tryz.T ?_|refine Q6 hG Tryz.T ?_|refine Q7 hG Tryz.T ?_|refine Q8 hG Tryz.T ?_|refine Q9 rfl ?_|refine QF rfl ?_|refine QC rfl (And.intro (fun h => ?_) (fun h => ?_))|((conv => whnf); first|refine anF ?_|refine anT ?_|refine And.intro (by kernel_rfl) ?_|refine Exists.intro _ (And.intro (Tryz.aims l hl) ?_)|refine Exists.intro _ (And.intro (c) ?_)|refine And.intro (fun h => ?_) (fun h => ?_)|refine Or.inl ?_|fail)
    all_goals exact Ends.mk (Or.inl rfl) (AV.weak.of_eq rfl)
  | some p =>
    obtain ⟨i, k⟩ := p
    rw [hs] at c
    obtain ⟨hi, hk⟩ : i < l.length ∧ k < l.length := by
      obtain ⟨k', hk', hs'⟩ := List.exists_of_findSome?_eq_some hs
      obtain ⟨i', hi', hs''⟩ := List.exists_of_findSome?_eq_some hs'
      simp only [List.mem_range] at hk' hi'
      rw [show (aimsOf l).length = l.length by simp [aimsOf]] at hk'
      have : (i', k') = (i, k) := by
        unfold slewI at hs''
        split at hs'' <;> simp at hs'' ⊢
        exact hs''
      cases this
      exact ⟨by omega, hk'⟩
    have hx := opt_at hi
    have hy := opt_at hk
    refine ACalls.ofB Tryz.T Tryz.func72 rfl (by kernel_rfl) Tryz.mixed (Nat.le_of_ble_eq_true rfl) ?_
    intro F n' w0 m0 hG hro h1
    repeat' first|refine Q1 ?_|refine Q2 ?_|refine Q3 hG Tryz.T Tryz.keep72 (by kernel_rfl) ?_|refine Q4 hG Tryz.T Tryz.keep72 (by kernel_rfl) ?_|refine Q5 hG Tryz.T ?_|refine Q6 hG Tryz.T ?_|refine Q7 hG Tryz.T ?_|refine Q8 hG Tryz.T ?_|refine Q9 rfl ?_|refine QF rfl ?_|refine QC rfl (And.intro (fun h => ?_) (fun h => ?_))|((conv => whnf); first|refine anF ?_|refine anT ?_|refine And.intro (by kernel_rfl) ?_|refine Exists.intro _ (And.intro (Tryz.aims l hl) ?_)|refine Exists.intro _ (And.intro (c) ?_)|refine And.intro (Int.natCast_nonneg i) (Exists.intro _ (And.intro hx ?_))|refine And.intro (Int.natCast_nonneg k) (Exists.intro _ (And.intro hy ?_))|refine And.intro (fun h => ?_) (fun h => ?_)|refine Or.inl ?_|fail)
    all_goals exact Ends.mk (Or.inl rfl) (AV.weak.of_eq rfl)
end Go.Proofs
namespace Go.Proofs
open Go Go.AI
set_option maxRecDepth 10000
theorem worst_take {l : List Opt} {i : Nat} (h : i < l.length) : worstL (l.take (i + 1)) = worstL (l.take i) ++ [⟨(optAt l i).id, (optAt l i).size, (optAt l i).a, lastB (optAt l i)⟩] := by
  unfold worstL
  rw [List.take_add_one, List.getElem?_eq_getElem h, optAt_eq h, List.map_append]; rfl
set_option maxHeartbeats 4000000 in
theorem Tryz.store (s : Nat → Int) (l : List Opt) (a b : Int) (hl : l.length ≤ 1000000) (hsl : slens l) (hc : ∀ o ∈ l, canS o = true) (hv : validM (worstL l) = true) (h10 : inM (s 10) 0 1000000 = true) : ACalls Tryz.prog 74 [.agg (satA s), optsA l, .agg (spellA a b)] (fltT s (storeT s l)) := by
  refine ACalls.ofB Tryz.T Tryz.func74 rfl (by kernel_rfl) Tryz.mixed (Nat.le_of_ble_eq_true rfl) ?_
  intro F n' w0 m0 hG hro h1
  repeat' first|refine Q1 ?_|refine Q2 ?_|refine Q3 hG Tryz.T Tryz.keep74 (by kernel_rfl) ?_|refine Q4 hG Tryz.T Tryz.keep74 (by kernel_rfl) ?_|refine Q5 hG Tryz.T ?_|refine Q6 hG Tryz.T ?_|refine Q7 hG Tryz.T ?_|refine Q8 hG Tryz.T ?_|refine Q9 rfl ?_|refine QF rfl ?_|refine QC rfl (And.intro (fun h => ?_) (fun h => ?_))|((conv => whnf); first|refine anF ?_|refine anT ?_|refine And.intro (by kernel_rfl) ?_|refine And.intro (fun h => ?_) (fun h => ?_)|refine Or.inl ?_|fail)
  refine SPB.loop (X := Nat) (fun i => ⟨[(17, .int .i64 i), (16, .int .i64 (l.map optA).length), (15, optsA l), (8, .sl (.id 8) 4 ((worstL (l.take i)).map imgA)), (7, .bool false), (6, .loc 6 0), (3, .loc 3 0)], [(6, fltA ⟨0, 0, 0, 0⟩), (3, satA s)]⟩) (fun i => i ≤ l.length) (fun i => l.length - i) 0 (Nat.zero_le _) (St.le.of ?_ ?_) (fun i hi => ?_)
  · repeat' (first | exact trivial | refine And.intro rfl ?_)
  · repeat' (first | exact trivial | refine And.intro rfl ?_)
  · by_cases hlt : i < l.length
    · have bbk : decide ((i : Int) < ((l.map optA).length : Int)) = false → False := fun h => by have := of_decide_eq_false h; simp at this; omega
      have hx := opt_at hlt
      have hcx : canS (optAt l i) = true := hc _ (by rw [optAt_eq hlt]; exact List.getElem_mem hlt)
      have hsx : (optAt l i).sl.length ≤ 1000000 := hsl _ (by rw [optAt_eq hlt]; exact List.getElem_mem hlt)
      have htk := worst_take hlt
      have hln : (worstL (l.take i)).length = i := by simp [worstL]; omega
      generalize optAt l i = x at hx hcx hsx htk
      have hrow : (worstL (l.take (i + 1))).map imgA = (worstL (l.take i)).map imgA ++ [imgA ⟨x.id, x.size, x.a, lastB x⟩] := by rw [htk, List.map_append]; rfl
      have hlr : ((worstL (l.take i)).map imgA).length = i := by rw [List.length_map]; exact hln
      generalize (worstL (l.take i)).map imgA = row at hrow hlr
      repeat' first|exact (bbk (by assumption)).elim|refine Q1 ?_|refine Q2 ?_|refine Q3 hG Tryz.T Tryz.keep74 (by kernel_rfl) ?_|refine Q4 hG Tryz.T Tryz.keep74 (by kernel_rfl) ?_|refine Q5 hG Tryz.T ?_|refine Q6 hG Tryz.T ?_|refine Q7 hG Tryz.T ?_|refine Q8 hG Tryz.T ?_|refine Q9 rfl ?_|refine QF rfl ?_|refine QC rfl (And.intro (fun h => ?_) (fun h => ?_))|((conv => whnf); first|refine anF ?_|refine anT ?_|refine And.intro (by kernel_rfl) ?_|refine And.intro (Int.natCast_nonneg i) (Exists.intro _ (And.intro hx ?_))|refine Exists.intro _ (And.intro (Tryz.worst x hsx hcx) ?_)|refine And.intro (show (row.length + 1) * 32 ≤ 70368744177664 by omega) (And.intro (show row.length + 1 ≤ 4611686018427387904 by omega) ?_)|refine And.intro (fun h => ?_) (fun h => ?_)|refine Or.inl ?_|fail)
      conv => whnf
      refine Exists.intro (i + 1) (And.intro hlt (And.intro (by omega) ?_))
      rw [hrow]
      refine St.le.of (And.intro (congrArg some (le_next (by omega))) ?_) ?_
      · repeat' (first | exact trivial | refine And.intro rfl ?_)
      · repeat' (first | exact trivial | refine And.intro rfl ?_)
    · have bbk : decide ((i : Int) < ((l.map optA).length : Int)) = true → False := fun h => by have := of_decide_eq_true h; simp at this; omega
      have he : l.take i = l := List.take_of_length_le (by omega)
      rw [he]
      repeat' first|exact (bbk (by assumption)).elim|refine Q1 ?_|refine Q2 ?_|refine Q3 hG Tryz.T Tryz.keep74 (by kernel_rfl) ?_|refine Q4 hG Tryz.T Tryz.keep74 (by kernel_rfl) ?_|refine Q5 hG Tryz.T ?_|refine Q6 hG Tryz.T ?_|refine Q7 hG Tryz.T ?_|refine Q8 hG Tryz.T ?_|refine Q9 rfl ?_|refine QF rfl ?_|refine QC rfl (And.intro (fun h => ?_) (fun h => ?_))|((conv => whnf); first|refine anF ?_|refine anT ?_|refine And.intro (by kernel_rfl) ?_|refine Exists.intro _ (And.intro (Tryz.over (worstL l) (s 10) (by simpa [worstL] using hl) hv h10) ?_)|refine Exists.intro _ (And.intro (Tryz.minute _ _) ?_)|refine And.intro (fun h => ?_) (fun h => ?_)|refine Or.inl ?_|fail)
      exact Ends.mk (Or.inl rfl) (AV.weak.of_eq rfl)
end Go.Proofs
namespace Go.Proofs
open Go Go.AI
set_option maxRecDepth 10000
def sendT (l : List Opt) : Option (Nat × Nat × Int) → AV
  | none => .tup [.agg (fltA ⟨0, 0, 0, 0⟩), .bool false]
  | some (i, k, t) => .tup [.agg (fltA ⟨0, (optAt l i).id, (optAt l k).id, t⟩), .bool true]
theorem find_range {α : Type} {f : Nat → Option α} {r : α} : ∀ {n k : Nat}, (∀ j, j < k → f j = none) → k < n → f k = some r → (List.range n).findSome? f = some r
  | 0, _, _, h, _ => absurd h (by omega)
  | n + 1, k, h0, h, hf => by
    rw [List.range_succ, List.findSome?_append]
    rcases Nat.lt_or_ge k n with hk | hk
    · rw [find_range h0 hk hf]; rfl
    · have : k = n := by omega
      subst this
      have h1 : (List.range k).findSome? f = none := List.findSome?_eq_none_iff.2 fun x hx => h0 x (List.mem_range.1 hx)
      rw [h1]
      simp [hf]
theorem find_range_none {α : Type} {f : Nat → Option α} {n : Nat} (h0 : ∀ j, j < n → f j = none) : (List.range n).findSome? f = none := List.findSome?_eq_none_iff.2 fun x hx => h0 x (List.mem_range.1 hx)
def mIn (x : Int × Int) (ys : List (Int × Int)) (f : Int) : Int := ys.foldl (fun f y => meetStep f x y) f
def mOut (xs ys : List (Int × Int)) (f : Int) : Int := xs.foldl (fun f x => mIn x ys f) f
set_option maxHeartbeats 4000000 in
theorem Tryz.sends (s : Nat → Int) (l : List Opt) (a b : Int) (hl : l.length ≤ 1000000) (hsl : slens l) : ACalls Tryz.prog 76 [.agg (satA s), optsA l, .agg (spellA a b)] (sendT l (sendO l)) := by
  refine ACalls.ofBm Tryz.T Tryz.func76 rfl (by kernel_rfl) Tryz.mixed (Nat.le_of_ble_eq_true rfl) ?_
  intro F n' w0 m0 hG hro h9 hm0
  repeat' first|refine Q1 ?_|refine Q2 ?_|refine Q3 hG Tryz.T Tryz.keep76 (by kernel_rfl) ?_|refine Q4 hG Tryz.T Tryz.keep76 (by kernel_rfl) ?_|refine Q5 hG Tryz.T ?_|refine Q6 hG Tryz.T ?_|refine Q7 hG Tryz.T ?_|refine Q8 hG Tryz.T ?_|refine Q9 rfl ?_|refine QF rfl ?_|refine QC rfl (And.intro (fun h => ?_) (fun h => ?_))|((conv => whnf); first|refine anF ?_|refine anT ?_|refine And.intro (by kernel_rfl) ?_|refine And.intro (fun h => ?_) (fun h => ?_)|refine Or.inl ?_|fail)
  refine ⟨SP.scope (SPB.out ?_)⟩
  repeat' first|refine Q1 ?_|refine Q2 ?_|refine Q3 hG Tryz.T Tryz.keep76 (by kernel_rfl) ?_|refine Q4 hG Tryz.T Tryz.keep76 (by kernel_rfl) ?_|refine Q5 hG Tryz.T ?_|refine Q6 hG Tryz.T ?_|refine Q7 hG Tryz.T ?_|refine Q8 hG Tryz.T ?_|refine Q9 rfl ?_|refine QF rfl ?_|refine QC rfl (And.intro (fun h => ?_) (fun h => ?_))|((conv => whnf); first|refine anF ?_|refine anT ?_|refine And.intro (by kernel_rfl) ?_|refine And.intro (fun h => ?_) (fun h => ?_)|refine Or.inl ?_|fail)
  refine SPB.loop (X := Nat) (fun k => ⟨[(20, .int .i64 k), (19, .int .i64 (l.map optA).length), (18, optsA l), (1, optsA l), (9, .bool false), (8, .loc 8 0), (7, .bool false), (6, .loc 6 0)], [(8, fltA ⟨0, 0, 0, 0⟩), (6, fltA ⟨0, 0, 0, 0⟩)]⟩) (fun k => k ≤ l.length ∧ ∀ j, j < k → sendJ l j = none) (fun k => l.length - k) 0 ⟨Nat.zero_le _, fun j h => absurd h (by omega)⟩ (St.le.of ?_ ?_) (fun k hk => ?_)
  · repeat' (first | exact trivial | refine And.intro rfl ?_)
  · repeat' (first | exact trivial | refine And.intro rfl ?_)
  · obtain ⟨hk, hnk⟩ := hk
    by_cases hlt : k < l.length
    · have bbk : decide ((k : Int) < ((l.map optA).length : Int)) = false → False := fun h => by have := of_decide_eq_false h; simp at this; omega
      have hx := opt_at hlt
      have hsx : (optAt l k).sl.length ≤ 1000000 := hsl _ (by rw [optAt_eq hlt]; exact List.getElem_mem hlt)
      have hk0 : 0 ≤ (k : Int) := Int.natCast_nonneg k
      have hkl : (k : Int).toNat ≤ (l.map optA).length := by simp; omega
      obtain ⟨x, hxe⟩ : ∃ x, x = optAt l k := ⟨_, rfl⟩
      rw [← hxe] at hx hsx
      have hkc : (k : Int) ≤ ((l.map optA).length : Int) := by simp; omega
      repeat' first|exact (bbk (by assumption)).elim|refine Q1 ?_|refine Q2 ?_|refine Q3 hG Tryz.T Tryz.keep76 (by kernel_rfl) ?_|refine Q4 hG Tryz.T Tryz.keep76 (by kernel_rfl) ?_|refine Q5 hG Tryz.T ?_|refine Q6 hG Tryz.T ?_|refine Q7 hG Tryz.T ?_|refine Q8 hG Tryz.T ?_|refine Q9 rfl ?_|refine QF rfl ?_|refine QC rfl (And.intro (fun h => ?_) (fun h => ?_))|((conv => whnf); first|refine anF ?_|refine anT ?_|refine And.intro (by kernel_rfl) ?_|refine And.intro (Int.natCast_nonneg k) (Exists.intro _ (And.intro hx ?_))|refine And.intro hk0 (And.intro (Nat.zero_le _) (And.intro hkl ?_))|refine And.intro (fun h => ?_) (fun h => ?_)|refine Or.inl ?_|fail)
      obtain ⟨row, hrow⟩ : ∃ row, row = ((l.map optA).take (k : Int).toNat).drop 0 := ⟨_, rfl⟩
      have hrl : row.length = k := by rw [hrow]; simp; omega
      have hry : ∀ i, i < k → row[(i : Int).toNat]? = some (optA (optAt l i)) := fun i hi => by
        rw [hrow, List.drop_zero, Int.toNat_natCast, List.getElem?_take, if_pos (by omega)]
        exact opt_at (by omega)
      rw [← hrow]
      refine SPB.loop (X := Nat) (fun i => ⟨[(29, .int .i64 i), (28, .int .i64 row.length), (27, .sl .no 9 row), (10, .int .i64 k), (11, .loc 11 0), (20, .int .i64 k), (19, .int .i64 (l.map optA).length), (18, optsA l), (1, optsA l), (9, .bool false), (8, .loc 8 0), (7, .bool false), (6, .loc 6 0)], [(11, optA x), (8, fltA ⟨0, 0, 0, 0⟩), (6, fltA ⟨0, 0, 0, 0⟩)]⟩) (fun i => i ≤ k ∧ ∀ j, j < i → sendI l k j = none) (fun i => k - i) 0 ⟨Nat.zero_le _, fun j h => absurd h (by omega)⟩ (St.le.of ?_ ?_) (fun i hi => ?_)
      · repeat' (first | exact trivial | refine And.intro rfl ?_)
      · repeat' (first | exact trivial | refine And.intro rfl ?_)
      · obtain ⟨hi, hni⟩ := hi
        by_cases hil : i < k
        · have bbi : decide ((i : Int) < (row.length : Int)) = false → False := fun h => by have := of_decide_eq_false h; omega
          have hy := hry i hil
          have hsy : (optAt l i).sl.length ≤ 1000000 := hsl _ (by rw [optAt_eq (show i < l.length by omega)]; exact List.getElem_mem _)
          obtain ⟨y, hye⟩ : ∃ y, y = optAt l i := ⟨_, rfl⟩
          rw [← hye] at hy hsy
          repeat' first|exact (bbi (by assumption)).elim|refine Q1 ?_|refine Q2 ?_|refine Q3 hG Tryz.T Tryz.keep76 (by kernel_rfl) ?_|refine Q4 hG Tryz.T Tryz.keep76 (by kernel_rfl) ?_|refine Q5 hG Tryz.T ?_|refine Q6 hG Tryz.T ?_|refine Q7 hG Tryz.T ?_|refine Q8 hG Tryz.T ?_|refine Q9 rfl ?_|refine QF rfl ?_|refine QC rfl (And.intro (fun h => ?_) (fun h => ?_))|((conv => whnf); first|refine anF ?_|refine anT ?_|refine And.intro (by kernel_rfl) ?_|refine And.intro (Int.natCast_nonneg i) (Exists.intro _ (And.intro hy ?_))|refine Exists.intro _ (And.intro ((Tryz.sent [y]).sl0) ?_)|refine And.intro (fun h => ?_) (fun h => ?_)|refine Or.inl ?_|fail)
          have e1 : sentP [y] = slP y := by simp [sentP, slP]
          have e2 : sentP [x] = slP x := by simp [sentP, slP]
          refine ⟨SP.rangeM2 hG hro (Nat.le_trans (by decide) h9) (α := Int × Int) spA (f := 166) (cap := [.ref [optsA [y]]]) (items := sentP [y]) rfl (Tryz.sentSeq [y] (Nat.le_of_ble_eq_true rfl) (fun o ho => by rw [List.mem_singleton.1 ho]; exact hsy)) (fun _ => rfl) (fun _ => [(14, .loc 14 0), (13, .loc 13 0), (29, .int .i64 i), (28, .int .i64 row.length), (27, .sl .no 9 row), (10, .int .i64 k), (11, .loc 11 0), (20, .int .i64 k), (19, .int .i64 (l.map optA).length), (18, optsA l), (1, optsA l), (9, .bool false), (8, .loc 8 0), (7, .bool false), (6, .loc 6 0)]) [14, 13, 29, 28, 27, 10, 11, 20, 19, 18, 1, 9, 8, 7, 6] (fun _ => rfl)
            (fun pre => [(14, [.int .i64 (mOut pre (slP x) (-1))]), (13, optA y), (11, optA x), (8, fltA ⟨0, 0, 0, 0⟩), (6, fltA ⟨0, 0, 0, 0⟩)]) (St.le.of ?_ ?_) (by kernel_rfl) (by decide) ?_ ?_⟩
          · repeat' (first | exact trivial | refine And.intro rfl ?_)
          · repeat' (first | exact trivial | refine And.intro rfl ?_)
          · intro F' n'' m' hG' hr' hn'' pre u rest hpre
            obtain ⟨l0, hr'⟩ := hr'
            clear hG
            have hG := hG'
            refine SPB.out (Q4 hG Tryz.T Tryz.keep76 (by kernel_rfl) ?_)
            conv => whnf
            refine And.intro rfl (And.intro (St.le.of ?_ ?_) ?_)
            · repeat' (first | exact trivial | refine And.intro rfl ?_)
            · repeat' (first | exact trivial | refine And.intro rfl ?_)
            refine SPB.out ?_
            repeat' first|refine Q1 ?_|refine Q2 ?_|refine Q3 hG Tryz.T Tryz.keep76 (by kernel_rfl) ?_|refine Q4 hG Tryz.T Tryz.keep76 (by kernel_rfl) ?_|refine Q5 hG Tryz.T ?_|refine Q6 hG Tryz.T ?_|refine Q7 hG Tryz.T ?_|refine Q8 hG Tryz.T ?_|refine Q9 rfl ?_|refine QF rfl ?_|refine QC rfl (And.intro (fun h => ?_) (fun h => ?_))|((conv => whnf); first|refine anF ?_|refine anT ?_|refine And.intro (by kernel_rfl) ?_|refine Exists.intro _ (And.intro ((Tryz.sent [x]).sl0) ?_)|refine And.intro (fun h => ?_) (fun h => ?_)|refine Or.inl ?_|fail)
            obtain ⟨f0, hf0⟩ : ∃ f0, f0 = mOut pre (slP x) (-1) := ⟨_, rfl⟩
            have hf1 : mOut (pre ++ [u]) (slP x) (-1) = mIn u (slP x) f0 := by rw [hf0]; simp [mOut]
            rw [← hf0]
            refine ⟨SP.rangeMi hG hr' (by rw [hn'']; show 1 ≤ n' - 1 - 1; omega) (α := Int × Int) spA (f := 166) (cap := [.ref [optsA [x]]]) (items := sentP [x]) rfl (Tryz.sentSeq [x] (Nat.le_of_ble_eq_true rfl) (fun o ho => by rw [List.mem_singleton.1 ho]; exact hsx)) (fun _ => rfl) (fun _ => [(15, .loc 15 0), (14, .loc 14 0), (13, .loc 13 0), (29, .int .i64 i), (28, .int .i64 row.length), (27, .sl .no 9 row), (10, .int .i64 k), (11, .loc 11 0), (20, .int .i64 k), (19, .int .i64 (l.map optA).length), (18, optsA l), (1, optsA l), (9, .bool false), (8, .loc 8 0), (7, .bool false), (6, .loc 6 0)]) [15, 14, 13, 29, 28, 27, 10, 11, 20, 19, 18, 1, 9, 8, 7, 6] (fun _ => rfl)
              (fun pre2 => [(14, [.int .i64 (mIn u pre2 f0)]), (15, [.int .i64 u.1, .int .i64 u.2]), (13, optA y), (11, optA x), (8, fltA ⟨0, 0, 0, 0⟩), (6, fltA ⟨0, 0, 0, 0⟩)]) (St.le.of ?_ ?_) (by kernel_rfl) (by decide) ?_ ?_⟩
            · repeat' (first | exact trivial | refine And.intro rfl ?_)
            · repeat' (first | exact trivial | refine And.intro rfl ?_)
            · intro F3 n3 m3 hG3 _ _ pre2 v rest2 hpre2
              clear hG
              have hG := hG3
              obtain ⟨g, hg⟩ : ∃ g, g = mIn u pre2 f0 := ⟨_, rfl⟩
              have hg1 : mIn u (pre2 ++ [v]) f0 = meetStep g u v := by rw [hg]; simp [mIn]
              rw [← hg]
              refine SPB.out (Q4 hG Tryz.T Tryz.keep76 (by kernel_rfl) ?_)
              conv => whnf
              refine And.intro rfl (And.intro (St.le.of ?_ ?_) ?_)
              · repeat' (first | exact trivial | refine And.intro rfl ?_)
              · repeat' (first | exact trivial | refine And.intro rfl ?_)
              refine SPB.out ?_
              repeat' first|refine Q1 ?_|refine Q2 ?_|refine Q3 hG Tryz.T Tryz.keep76 (by kernel_rfl) ?_|refine Q4 hG Tryz.T Tryz.keep76 (by kernel_rfl) ?_|refine Q5 hG Tryz.T ?_|refine Q6 hG Tryz.T ?_|refine Q7 hG Tryz.T ?_|refine Q8 hG Tryz.T ?_|refine Q9 rfl ?_|refine QF rfl ?_|refine QC rfl (And.intro (fun h => ?_) (fun h => ?_))|((conv => whnf); first|refine anF ?_|refine anT ?_|refine And.intro (by kernel_rfl) ?_|refine And.intro (fun h => ?_) (fun h => ?_)|refine Or.inl ?_|fail)
              all_goals conv => whnf
              all_goals refine St.le.of ?_ ?_
              all_goals first
                | (refine And.intro (congrArg (fun z => some [AV.int .i64 z]) (by rw [hg1]; unfold meetStep; (try simp only [decide_eq_true_eq, decide_eq_false_iff_not, gt_iff_lt, cond_true, cond_false] at *); split <;> omega)) ?_; repeat' (first | exact trivial | refine And.intro rfl ?_))
                | (repeat' (first | exact trivial | refine And.intro rfl ?_))
            · rw [e2]
              conv => whnf
              repeat' first|refine Q1 ?_|refine Q2 ?_|refine Q3 hG Tryz.T Tryz.keep76 (by kernel_rfl) ?_|refine Q4 hG Tryz.T Tryz.keep76 (by kernel_rfl) ?_|refine Q5 hG Tryz.T ?_|refine Q6 hG Tryz.T ?_|refine Q7 hG Tryz.T ?_|refine Q8 hG Tryz.T ?_|refine Q9 rfl ?_|refine QF rfl ?_|refine QC rfl (And.intro (fun h => ?_) (fun h => ?_))|((conv => whnf); first|refine anF ?_|refine anT ?_|refine And.intro (by kernel_rfl) ?_|refine And.intro (fun h => ?_) (fun h => ?_)|refine Or.inl ?_|fail)
              refine St.le.of ?_ ?_
              · repeat' (first | exact trivial | refine And.intro rfl ?_)
              · refine And.intro (congrArg (fun z => some [AV.int .i64 z]) hf1.symm) ?_
                repeat' (first | exact trivial | refine And.intro rfl ?_)
          · rw [e1]
            conv => whnf
            repeat' first|refine Q1 ?_|refine Q2 ?_|refine Q3 hG Tryz.T Tryz.keep76 (by kernel_rfl) ?_|refine Q4 hG Tryz.T Tryz.keep76 (by kernel_rfl) ?_|refine Q5 hG Tryz.T ?_|refine Q6 hG Tryz.T ?_|refine Q7 hG Tryz.T ?_|refine Q8 hG Tryz.T ?_|refine Q9 rfl ?_|refine QF rfl ?_|refine QC rfl (And.intro (fun h => ?_) (fun h => ?_))|((conv => whnf); first|refine anF ?_|refine anT ?_|refine And.intro (by kernel_rfl) ?_|refine And.intro (fun h => ?_) (fun h => ?_)|refine Or.inl ?_|fail)
            · have hm : meetL (optAt l i) (optAt l k) ≥ 0 := by rw [← hxe, ← hye]; exact of_decide_eq_true (by assumption)
              have hI : sendI l k i = some (i, k, meetL (optAt l i) (optAt l k)) := if_pos hm
              have hO : sendO l = some (i, k, meetL (optAt l i) (optAt l k)) := find_range hnk hlt (find_range hni hil hI)
              rw [hO]
              exact And.intro (fun _ h => nomatch h) (Ends.mk (Or.inl rfl) (AV.weak.of_eq (by rw [hxe, hye]; rfl)))
            · have hm : ¬ meetL (optAt l i) (optAt l k) ≥ 0 := by rw [← hxe, ← hye]; exact of_decide_eq_false (by assumption)
              have hI : sendI l k i = none := if_neg hm
              conv => whnf
              refine Exists.intro (i + 1) (And.intro ⟨hil, fun j hj => ?_⟩ (And.intro (by omega) (St.le.of (And.intro (congrArg some (le_next (by omega))) ?_) ?_)))
              · rcases Nat.lt_or_ge j i with h | h
                · exact hni j h
                · have : j = i := by omega
                  rw [this]; exact hI
              · repeat' (first | exact trivial | refine And.intro rfl ?_)
              · repeat' (first | exact trivial | refine And.intro rfl ?_)
        · have bbi : decide ((i : Int) < (row.length : Int)) = true → False := fun h => by have := of_decide_eq_true h; omega
          have hJ : sendJ l k = none := find_range_none fun j hj => hni j (by omega)
          repeat' first|exact (bbi (by assumption)).elim|refine Q1 ?_|refine Q2 ?_|refine Q3 hG Tryz.T Tryz.keep76 (by kernel_rfl) ?_|refine Q4 hG Tryz.T Tryz.keep76 (by kernel_rfl) ?_|refine Q5 hG Tryz.T ?_|refine Q6 hG Tryz.T ?_|refine Q7 hG Tryz.T ?_|refine Q8 hG Tryz.T ?_|refine Q9 rfl ?_|refine QF rfl ?_|refine QC rfl (And.intro (fun h => ?_) (fun h => ?_))|((conv => whnf); first|refine anF ?_|refine anT ?_|refine And.intro (by kernel_rfl) ?_|refine And.intro (fun h => ?_) (fun h => ?_)|refine Or.inl ?_|fail)
          conv => whnf
          refine Exists.intro (k + 1) (And.intro ⟨hlt, fun j hj => ?_⟩ (And.intro (by omega) (St.le.of (And.intro (congrArg some (le_next (by omega))) ?_) ?_)))
          · rcases Nat.lt_or_ge j k with h | h
            · exact hnk j h
            · have : j = k := by omega
              rw [this]; exact hJ
          · repeat' (first | exact trivial | refine And.intro rfl ?_)
          · repeat' (first | exact trivial | refine And.intro rfl ?_)
    · have bbk : decide ((k : Int) < ((l.map optA).length : Int)) = true → False := fun h => by have := of_decide_eq_true h; simp at this; omega
      have hO : sendO l = none := find_range_none fun j hj => hnk j (by omega)
      rw [hO]
      repeat' first|exact (bbk (by assumption)).elim|refine Q1 ?_|refine Q2 ?_|refine Q3 hG Tryz.T Tryz.keep76 (by kernel_rfl) ?_|refine Q4 hG Tryz.T Tryz.keep76 (by kernel_rfl) ?_|refine Q5 hG Tryz.T ?_|refine Q6 hG Tryz.T ?_|refine Q7 hG Tryz.T ?_|refine Q8 hG Tryz.T ?_|refine Q9 rfl ?_|refine QF rfl ?_|refine QC rfl (And.intro (fun h => ?_) (fun h => ?_))|((conv => whnf); first|refine anF ?_|refine anT ?_|refine And.intro (by kernel_rfl) ?_|refine And.intro (fun h => ?_) (fun h => ?_)|refine Or.inl ?_|fail)
      exact And.intro (fun _ h => nomatch h) (Ends.mk (Or.inl rfl) (AV.weak.of_eq rfl))
end Go.Proofs
namespace Go.Proofs
open Go Go.AI
set_option maxRecDepth 10000
structure ChkH (s : Nat → Int) (l : List Opt) (a b : Int) : Prop where
  hl : l.length ≤ 1000000
  sl : slens l
  sp : (sentP l).length ≤ 900000
  val : valS s (aimsOf l) = true
  span : spanS a b = true
  can : ∀ o ∈ l, canS o = true
  mem : validM (worstL l) = true
  s10 : inM (s 10) 0 1000000 = true
  ll : (optLoads l).length ≤ 1000000
  bat : validS s (optLoads l) a b = true
def setK (k : Int) (z : Flt) : Flt := ⟨k, z.a, z.b, z.t⟩
def rulesR : List (List AV) := [[.int .i64 2, .fn 72], [.int .i64 3, .fn 73], [.int .i64 4, .fn 74], [.int .i64 5, .fn 75], [.int .i64 6, .fn 76]]
def RuleOK (s : Nat → Int) (l : List Opt) (a b : Int) (i : Nat) : Prop := ∃ (kind : Int) (f : FuncId) (z : Flt) (ok : Bool), rulesR[(i : Int).toNat]? = some [.int .i64 kind, .fn f] ∧
  ACalls Tryz.prog f [.agg (satA s), optsA l, .agg (spellA a b)] (.tup [.agg (fltA z), .bool ok]) ∧ (ruleF s l a b)[i]? = some (if ok then some (setK kind z) else none)
theorem minF_ok (k sat t : Int) : minF k sat t = if (t != -1) = true then some (setK k ⟨0, sat, 0, t⟩) else none := by
  unfold minF setK
  by_cases h : t = -1 <;> simp [h]
theorem rules_ok {s : Nat → Int} {l : List Opt} {a b : Int} (h : ChkH s l a b) : ∀ i, i < 5 → RuleOK s l a b i
  | 0, _ => by
    have c := Tryz.slews s l a b h.hl h.val
    have e : (ruleF s l a b)[0]? = some (slewF s l) := rfl
    unfold slewF at e
    cases hs : slewO s (aimsOf l) with
    | none => rw [hs] at c e; exact ⟨2, 72, ⟨0, 0, 0, 0⟩, false, rfl, c, e⟩
    | some p => obtain ⟨i, k⟩ := p; rw [hs] at c e; exact ⟨2, 72, _, true, rfl, c, e⟩
  | 1, _ => ⟨3, 73, _, _, rfl, Tryz.heat s l a b h.hl h.span h.val, congrArg some (minF_ok _ _ _)⟩
  | 2, _ => ⟨4, 74, _, _, rfl, Tryz.store s l a b h.hl h.sl h.can h.mem h.s10, congrArg some (minF_ok _ _ _)⟩
  | 3, _ => ⟨5, 75, _, _, rfl, Tryz.charge s l a b h.hl h.sl h.sp h.ll h.bat, congrArg some (minF_ok _ _ _)⟩
  | 4, _ => by
    have c := Tryz.sends s l a b h.hl h.sl
    have e : (ruleF s l a b)[4]? = some (sendF l) := rfl
    unfold sendF at e
    cases hs : sendO l with
    | none => rw [hs] at c e; exact ⟨6, 76, ⟨0, 0, 0, 0⟩, false, rfl, c, e⟩
    | some p => obtain ⟨i, k, t⟩ := p; rw [hs] at c e; exact ⟨6, 76, _, true, rfl, c, e⟩
def fltTake (s : Nat → Int) (l : List Opt) (a b : Int) (i : Nat) : List Flt := ((ruleF s l a b).take i).filterMap id
theorem fltTake_succ {s : Nat → Int} {l : List Opt} {a b : Int} {i : Nat} {o : Option Flt} (h : (ruleF s l a b)[i]? = some o) : fltTake s l a b (i + 1) = fltTake s l a b i ++ o.toList := by
  unfold fltTake
  rw [List.take_add_one, h, List.filterMap_append]
  cases o <;> rfl
theorem fltTake_len (s : Nat → Int) (l : List Opt) (a b : Int) (i : Nat) : (fltTake s l a b i).length ≤ 5 := by
  unfold fltTake
  refine Nat.le_trans (List.length_filterMap_le _ _) ?_
  rw [List.length_take]; simp [ruleF]; omega
set_option maxHeartbeats 4000000 in
theorem Tryz.check (s : Nat → Int) (l : List Opt) (ps : List PassT) (a b : Int) (hps : ps.length ≤ 1000000) (hv : trackS s l ps a b = true) (h : ChkH s l a b) : ACalls Tryz.prog 21 [.agg (satA s), optsA l, passesA ps, .agg (spellA a b)] (.tup [fltsA (faultsL s l a b), .int .i64 0]) := by
  have cV := Tryz.valid s l ps a b h.hl h.sl hps
  rw [hv] at cV
  refine ACalls.ofB Tryz.T Tryz.func21 rfl (by kernel_rfl) Tryz.mixed (Nat.le_of_ble_eq_true rfl) ?_
  intro F n' w0 m0 hG hro h1
  repeat' first|refine Q1 ?_|refine Q2 ?_|refine Q3 hG Tryz.T Tryz.keep21 (by kernel_rfl) ?_|refine Q4 hG Tryz.T Tryz.keep21 (by kernel_rfl) ?_|refine Q5 hG Tryz.T ?_|refine Q6 hG Tryz.T ?_|refine Q7 hG Tryz.T ?_|refine Q8 hG Tryz.T ?_|refine Q9 rfl ?_|refine QF rfl ?_|refine QC rfl (And.intro (fun h => ?_) (fun h => ?_))|((conv => whnf); first|refine anF ?_|refine anT ?_|refine And.intro (by kernel_rfl) ?_|refine Exists.intro _ (And.intro (cV) ?_)|refine And.intro (fun h => ?_) (fun h => ?_)|refine Or.inl ?_|fail)
  refine SPB.loop (X := Nat) (fun i => ⟨[(28, .int .i64 i), (27, .int .i64 5), (26, .sl .full 2 rulesR), (1, optsA l), (10, .sl (.id 10) 4 ((fltTake s l a b i).map fltA)), (4, .loc 4 0), (7, .loc 7 0)], [(7, spellA a b), (4, satA s)]⟩) (fun i => i ≤ 5) (fun i => 5 - i) 0 (Nat.zero_le _) (St.le.of ?_ ?_) (fun i hi => ?_)
  · repeat' (first | exact trivial | refine And.intro rfl ?_)
  · repeat' (first | exact trivial | refine And.intro rfl ?_)
  · by_cases hlt : i < 5
    · have bbk : decide ((i : Int) < 5) = false → False := fun h => by have := of_decide_eq_false h; omega
      obtain ⟨kind, f, z, ok, hx, cR, hR⟩ := rules_ok h i hlt
      have hst := fltTake_succ hR
      have hln : ((fltTake s l a b i).map fltA).length ≤ 5 := by rw [List.length_map]; exact fltTake_len s l a b i
      have hrow : (fltTake s l a b (i + 1)).map fltA = (fltTake s l a b i).map fltA ++ (if ok then [fltA (setK kind z)] else []) := by rw [hst, List.map_append]; cases ok <;> rfl
      generalize (fltTake s l a b i).map fltA = row at hln hrow
      obtain ⟨rr, hrr⟩ : ∃ rr, rr = rulesR := ⟨_, rfl⟩
      rw [← hrr] at hx ⊢
      repeat' first|exact (bbk (by assumption)).elim|refine Q1 ?_|refine Q2 ?_|refine Q3 hG Tryz.T Tryz.keep21 (by kernel_rfl) ?_|refine Q4 hG Tryz.T Tryz.keep21 (by kernel_rfl) ?_|refine Q5 hG Tryz.T ?_|refine Q6 hG Tryz.T ?_|refine Q7 hG Tryz.T ?_|refine Q8 hG Tryz.T ?_|refine Q9 rfl ?_|refine QF rfl ?_|refine QC rfl (And.intro (fun h => ?_) (fun h => ?_))|((conv => whnf); first|refine anF ?_|refine anT ?_|refine And.intro (by kernel_rfl) ?_|refine And.intro (Int.natCast_nonneg i) (Exists.intro _ (And.intro hx ?_))|refine Exists.intro _ (And.intro (cR) ?_)|refine And.intro (show (row.length + 1) * 32 ≤ 70368744177664 by omega) (And.intro (show row.length + 1 ≤ 4611686018427387904 by omega) ?_)|refine And.intro (fun h => ?_) (fun h => ?_)|refine Or.inl ?_|fail)
      · have hok := (by assumption : ok = true)
        conv => whnf
        refine Exists.intro (i + 1) (And.intro hlt (And.intro (by omega) ?_))
        rw [hrow, if_pos hok]
        refine St.le.of (And.intro (congrArg some (le_next (by omega))) ?_) ?_
        · repeat' (first | exact trivial | refine And.intro rfl ?_)
        · repeat' (first | exact trivial | refine And.intro rfl ?_)
      · have hok := (by assumption : ok = false)
        conv => whnf
        refine Exists.intro (i + 1) (And.intro hlt (And.intro (by omega) ?_))
        rw [hrow, hok, if_neg (by decide), List.append_nil]
        refine St.le.of (And.intro (congrArg some (le_next (by omega))) ?_) ?_
        · repeat' (first | exact trivial | refine And.intro rfl ?_)
        · repeat' (first | exact trivial | refine And.intro rfl ?_)
    · have bbk : decide ((i : Int) < 5) = true → False := fun h => by have := of_decide_eq_true h; omega
      have he : i = 5 := by omega
      subst he
      repeat' first|exact (bbk (by assumption)).elim|refine Q1 ?_|refine Q2 ?_|refine Q3 hG Tryz.T Tryz.keep21 (by kernel_rfl) ?_|refine Q4 hG Tryz.T Tryz.keep21 (by kernel_rfl) ?_|refine Q5 hG Tryz.T ?_|refine Q6 hG Tryz.T ?_|refine Q7 hG Tryz.T ?_|refine Q8 hG Tryz.T ?_|refine Q9 rfl ?_|refine QF rfl ?_|refine QC rfl (And.intro (fun h => ?_) (fun h => ?_))|((conv => whnf); first|refine anF ?_|refine anT ?_|refine And.intro (by kernel_rfl) ?_|refine And.intro (fun h => ?_) (fun h => ?_)|refine Or.inl ?_|fail)
      exact Ends.mk (Or.inl rfl) (AV.weak.of_eq rfl)
end Go.Proofs
namespace Go.Proofs
open Go Go.AI
structure FitH (s : Nat → Int) (o : Opt) (b : Int) : Prop where
  id : 0 ≤ o.id ∧ o.id ≤ 63
  size : 1 ≤ o.size ∧ o.size ≤ s 10
  shot : 0 ≤ o.a ∧ o.a < o.b ∧ o.b ≤ 1000000 ∧ o.b - o.a ≤ 60
  look : inS o.look (w64 (0 - s 9)) (s 9) = true
  len : 1 ≤ o.sl.length ∧ o.sl.length ≤ 6
  slot : ∀ x ∈ o.sl, 0 ≤ x.a ∧ x.a < x.b ∧ x.b ≤ lastB o
  last : o.b < lastB o ∧ lastB o ≤ b
  can : canS o = true
def lastOf (t : Int) : List SlotT → Int
  | [] => t
  | x :: r => lastOf x.b r
theorem lastOf_get (t : Int) : ∀ (l : List SlotT), l ≠ [] → lastOf t l = (l.getD (l.length - 1) slot0).b
  | [], h => absurd rfl h
  | [x], _ => rfl
  | x :: y :: r, _ => by
    rw [lastOf, lastOf_get _ (y :: r) (by simp)]
    simp
theorem slots_h {s : Nat → Int} {ps : List PassT} {z : Int} (hps : ∀ p ∈ ps, p.sb ≤ 1000001) (hpl : ps.length ≤ 64) : ∀ (l : List SlotT) (t : Int), slotsOK s ps z t l = true → 0 ≤ t →
    (∀ x ∈ l, t ≤ x.a ∧ x.a < x.b ∧ x.b ≤ lastOf t l) ∧ t ≤ lastOf t l ∧ (l ≠ [] → t < lastOf t l) ∧ follow t l = true
  | [], t, _, _ => ⟨fun _ h => (nomatch h), Int.le_refl _, fun h => absurd rfl h, rfl⟩
  | x :: r, t, h, ht => by
    simp only [slotsOK, slotOK, Bool.and_eq_true, inS, decide_eq_true_eq, Bool.not_eq_true'] at h
    obtain ⟨⟨h01, ⟨⟨⟨_, h2⟩, h3⟩, h4⟩, _⟩, h5⟩ := h
    obtain ⟨h0, h1⟩ := h01
    have hxa : t ≤ x.a := by omega
    obtain ⟨g1, g2, _, g4⟩ := slots_h hps hpl r x.b h5 (by omega)
    have hp : (passAt ps x.p.toNat).sb ≤ 1000001 := by
      rw [w64_in (by omega) (by omega)] at h1
      have hlt : x.p.toNat < ps.length := by omega
      unfold passAt
      rw [List.getD_eq_getElem?_getD, List.getElem?_eq_getElem hlt]
      exact hps _ (List.getElem_mem hlt)
    refine ⟨fun y hy => ?_, ?_, fun _ => ?_, ?_⟩
    · rcases List.mem_cons.1 hy with rfl | hy
      · exact ⟨hxa, h4, g2⟩
      · have := g1 y hy
        exact ⟨by omega, this.2.1, this.2.2⟩
    · show t ≤ lastOf x.b r; omega
    · show t < lastOf x.b r; omega
    · simp only [follow, isSp, Bool.and_eq_true, decide_eq_true_eq]
      exact ⟨⟨hxa, ⟨by omega, h4⟩, by omega⟩, g4⟩
theorem pass_b {ps : List PassT} (h : passS ps = true) : (∀ p ∈ ps, p.sb ≤ 1000001) ∧ ps.length ≤ 64 := by
  simp only [passS, Bool.and_eq_true, decide_eq_true_eq, Bool.not_eq_true', List.any_eq_false] at h
  refine ⟨fun p hp => ?_, h.1.1⟩
  have := h.1.2 p hp
  simp only [isPassS, inS, Bool.and_eq_true, Bool.or_eq_true, decide_eq_true_eq, Bool.not_eq_true, Bool.not_eq_true', Bool.not_eq_false, beq_iff_eq] at this
  omega
theorem fit_h {s : Nat → Int} {o : Opt} {ps : List PassT} {b : Int} (hps : passS ps = true) (hs : s 10 ≤ 1000000) (h : fitsS s o ps = true) (hb : lastB o ≤ b) : FitH s o b := by
  obtain ⟨hp1, hp2⟩ := pass_b hps
  simp only [fitsS, headS, shotS, swathS, isSpM, isSp, Bool.and_eq_true, decide_eq_true_eq, beq_iff_eq] at h
  obtain ⟨⟨⟨⟨⟨⟨⟨hid, _⟩, _⟩, _⟩, hsz⟩, ⟨⟨⟨_, hsp⟩, _⟩, hlk⟩, hob⟩, hln⟩, hsl⟩ := h
  simp only [inS, Bool.and_eq_true, decide_eq_true_eq] at hid hsz hln
  have hspan : 0 ≤ o.a ∧ o.a < o.b ∧ o.b - o.a ≤ 60 := by
    obtain ⟨⟨⟨q1, q2⟩, q3⟩, q4⟩ := hsp
    rw [w64_in (by omega) (by omega)] at q4
    exact ⟨q1, q2, q4⟩
  obtain ⟨g1, g2, g3, g4⟩ := slots_h hp1 hp2 o.sl o.b hsl (by omega)
  have hne : o.sl ≠ [] := fun e => by rw [e] at hln; simp at hln
  have hlast : lastOf o.b o.sl = lastB o := lastOf_get _ _ hne
  rw [hlast] at g1 g2 g3
  refine ⟨hid, hsz, ⟨hspan.1, hspan.2.1, hob, hspan.2.2⟩, hlk, by omega, fun x hx => ?_, ⟨g3 hne, hb⟩, ?_⟩
  · have := g1 x hx; omega
  · simp only [canS, Bool.and_eq_true, inS, isSp, decide_eq_true_eq]
    exact ⟨g4, ⟨⟨hid, by omega, by omega⟩, ⟨by omega, by omega⟩, by omega⟩, by omega, by omega⟩
theorem optsOK_mem {s : Nat → Int} {ps : List PassT} {a b : Int} : ∀ (l pre : List Opt), optsOK s ps a b pre l = true → ∀ o ∈ l, fitsS s o ps = true ∧ a ≤ o.a ∧ lastB o ≤ b
  | [], _, _, o, ho => nomatch ho
  | x :: r, pre, h, o, ho => by
    simp only [optsOK, Bool.and_eq_true] at h
    rcases List.mem_cons.1 ho with rfl | ho
    · have := h.1
      simp only [okOpt, Bool.and_eq_true, Bool.not_eq_true', decide_eq_false_iff_not] at this
      exact ⟨this.1.1.1, by omega, by omega⟩
    · exact optsOK_mem r _ h.2 o ho
theorem track_h {s : Nat → Int} {l : List Opt} {ps : List PassT} {a b : Int} (h : trackS s l ps a b = true) : l.length ≤ 8 ∧ (0 ≤ a ∧ a < b ∧ b ≤ 1000000) ∧ b - a ≤ 3000 ∧ satS s = true ∧ passS ps = true ∧ optsOK s ps a b [] l = true := by
  simp only [trackS, Bool.and_eq_true, decide_eq_true_eq, Bool.not_eq_true', decide_eq_false_iff_not] at h
  obtain ⟨⟨⟨⟨⟨h1, h2⟩, h3⟩, h4⟩, h5⟩, h6⟩ := h
  have h2 := right_b h2
  rw [w64_in (by omega) (by omega)] at h3
  exact ⟨h1, h2, by omega, h4, h5, h6⟩
theorem sat_10 {s : Nat → Int} (h : satS s = true) : 1 ≤ s 10 ∧ s 10 ≤ 1000000 := by
  simp only [satS, inS, Bool.and_eq_true, decide_eq_true_eq] at h
  omega
theorem ids_ok {s : Nat → Int} {ps : List PassT} {a b : Int} (hps : passS ps = true) (hs : s 10 ≤ 1000000) (hb : b ≤ 1000000) : ∀ (l pre : List Opt), optsOK s ps a b pre l = true → okImgs (worstL pre) (worstL l) = true
  | [], _, _ => rfl
  | x :: r, pre, h => by
    have hx := optsOK_mem (x :: r) pre h x (.head _)
    have hf := fit_h hps hs hx.1 hx.2.2
    simp only [optsOK, Bool.and_eq_true] at h
    have ih := ids_ok hps hs hb r _ h.2
    have hid := h.1
    simp only [okOpt, Bool.and_eq_true, Bool.not_eq_true'] at hid
    have hid := hid.2
    rw [show worstL (x :: r) = ⟨x.id, x.size, x.a, lastB x⟩ :: worstL r from rfl, okImgs, show worstL pre ++ [⟨x.id, x.size, x.a, lastB x⟩] = worstL (pre ++ [x]) by simp [worstL], ih, Bool.and_true]
    have hse : seenAt (worstL pre) x.id = false := by
      rw [← hid]; unfold seenAt worstL; rw [List.any_map]; rfl
    obtain ⟨q1, q2, q3, q4, q5, q6, q7, q8⟩ := hf
    simp only [okImg, hse, inM, spM, Bool.and_eq_true, decide_eq_true_eq, Bool.not_false, true_and]
    exact ⟨q1, ⟨q2.1, by omega⟩, q3.1, by omega, by omega⟩
theorem ChkH.of {s : Nat → Int} {l : List Opt} {ps : List PassT} {a b : Int} (h : trackS s l ps a b = true) : ChkH s l a b ∧ GoodL l ∧ ∀ o ∈ l, FitH s o b := by
  obtain ⟨h1, h2, h3, h4, h5, h6⟩ := track_h h
  have h10 := sat_10 h4
  have hm : ∀ o ∈ l, FitH s o b := fun o ho => by
    have := optsOK_mem l [] h6 o ho
    exact fit_h h5 h10.2 this.1 this.2.2
  have hg : GoodL l := ⟨h1, fun o ho => by
    obtain ⟨q1, q2, q3, q4, q5, q6, q7, q8⟩ := hm o ho
    omega, fun o ho x hx => by
    obtain ⟨q1, q2, q3, q4, q5, q6, q7, q8⟩ := hm o ho
    have := q6 x hx
    omega⟩
  have hlen := opt_len hg
  have hrl := hg.len
  refine ⟨⟨by omega, fun o ho => by have := (hm o ho).len; omega, ?_, ?_, ?_, fun o ho => (hm o ho).can, ?_, ?_, by omega, ?_⟩, hg, hm⟩
  · have := rawL_len l; omega
  · rw [valS, h4, Bool.and_true, areS, Bool.and_eq_true]
    refine ⟨List.all_eq_true.2 fun x hx => ?_, by simp [aimsOf]; omega⟩
    obtain ⟨o, ho, rfl⟩ := List.mem_map.1 hx
    obtain ⟨q1, q2, q3, q4, q5, q6, q7, q8⟩ := hm o ho
    simp only [aimS, Bool.and_eq_true, decide_eq_true_eq]
    rw [w64_in (by omega) (by omega)]
    exact ⟨⟨⟨⟨q3.1, q3.2.1⟩, q3.2.2.1⟩, q3.2.2.2⟩, q4⟩
  · simp only [spanS, Bool.and_eq_true, decide_eq_true_eq]
    rw [w64_in (by omega) (by omega)]
    omega
  · rw [validM, show okImgs [] (worstL l) = true from ids_ok h5 h10.2 h2.2.2 l [] h6, Bool.true_and]
    simp [worstL]; omega
  · simp only [inM, Bool.and_eq_true, decide_eq_true_eq]; omega
  · rw [validS, h4, hg.proper, Bool.and_true, Bool.and_true, Bool.and_eq_true]
    refine ⟨right_iff.2 h2, ?_⟩
    rw [w64_in (by omega) (by omega)]
    exact decide_eq_true (by omega)
end Go.Proofs
namespace Go.Proofs
open Go Go.AI
set_option maxRecDepth 10000
theorem Tryz.checkNot (s : Nat → Int) (l : List Opt) (ps : List PassT) (a b : Int) (hl : l.length ≤ 1000000) (hsl : slens l) (hps : ps.length ≤ 1000000) (hv : trackS s l ps a b = false) : ACalls Tryz.prog 21 [.agg (satA s), optsA l, passesA ps, .agg (spellA a b)] (.tup [fltsA [], .int .i64 190]) := by
  have cV := Tryz.valid s l ps a b hl hsl hps
  rw [hv] at cV
  refine ACalls.ofB Tryz.T Tryz.func21 rfl (by kernel_rfl) Tryz.mixed (Nat.le_of_ble_eq_true rfl) ?_
  intro F n' w0 m0 hG hro h1
  repeat' first|refine Q1 ?_|refine Q2 ?_|refine Q3 hG Tryz.T Tryz.keep21 (by kernel_rfl) ?_|refine Q4 hG Tryz.T Tryz.keep21 (by kernel_rfl) ?_|refine Q5 hG Tryz.T ?_|refine Q6 hG Tryz.T ?_|refine Q7 hG Tryz.T ?_|refine Q8 hG Tryz.T ?_|refine Q9 rfl ?_|refine QF rfl ?_|refine QC rfl (And.intro (fun h => ?_) (fun h => ?_))|((conv => whnf); first|refine anF ?_|refine anT ?_|refine And.intro (by kernel_rfl) ?_|refine Exists.intro _ (And.intro (cV) ?_)|refine And.intro (fun h => ?_) (fun h => ?_)|refine Or.inl ?_|fail)
  all_goals exact Ends.mk (Or.inl rfl) (AV.weak.of_eq rfl)
theorem Tryz.checkOf (s : Nat → Int) (l : List Opt) (ps : List PassT) (a b : Int) (hps : ps.length ≤ 1000000) (hv : trackS s l ps a b = true) : ACalls Tryz.prog 21 [.agg (satA s), optsA l, passesA ps, .agg (spellA a b)] (.tup [fltsA (faultsL s l a b), .int .i64 0]) :=
  Tryz.check s l ps a b hps hv (ChkH.of hv).1
end Go.Proofs
