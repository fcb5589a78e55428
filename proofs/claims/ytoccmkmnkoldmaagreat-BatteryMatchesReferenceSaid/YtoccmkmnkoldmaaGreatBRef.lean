/- BatteryMatchesReference answers true, whatever the input; no condition. -/
import Derived.Test.YtoccmkmnkoldmaaGreatRefA
import Derived.Test.YtoccmkmnkoldmaaGreatRows
set_option linter.unusedSectionVars false
set_option linter.unusedVariables false
set_option linter.unusedSimpArgs false
namespace Go.Proofs
open Go Go.AI
set_option maxRecDepth 10000
set_option linter.unusedSimpArgs false

/-- What is known of the best window, once those that begin before i, and those that begin at i and end by k, were looked at. -/
structure Gd (f : Nat → Int) (N i k bi bj : Nat) : Prop where
  all : ∀ p q, p < q → q ≤ N → (p < i ∨ p = i ∧ q ≤ k) → psum f q - psum f p ≤ psum f bj - psum f bi ∧ (psum f q - psum f p = psum f bj - psum f bi → bi < p ∨ bi = p ∧ bj ≤ q)
  lt : bi < bj
  le : bj ≤ N
  fr : (bi = 0 ∧ bj = 1) ∨ bi < i ∨ (bi = i ∧ bj ≤ k)
theorem Gd.keep {f : Nat → Int} {N i k bi bj : Nat} (h : Gd f N i k bi bj) (hk : i ≤ k) (hle : psum f (k + 1) - psum f i ≤ psum f bj - psum f bi) : Gd f N i (k + 1) bi bj := by
  refine ⟨fun p q hpq hq hpr => ?_, h.lt, h.le, ?_⟩
  · by_cases hold : p < i ∨ p = i ∧ q ≤ k
    · exact h.all p q hpq hq hold
    · have hp : p = i := by omega
      have hqk : q = k + 1 := by omega
      subst hp; subst hqk
      refine ⟨hle, fun _ => ?_⟩
      have := h.fr
      omega
  · have := h.fr
    omega
theorem Gd.new {f : Nat → Int} {N i k bi bj : Nat} (h : Gd f N i k bi bj) (hk : i ≤ k) (hN : k + 1 ≤ N) (hgt : psum f (k + 1) - psum f i > psum f bj - psum f bi) : Gd f N i (k + 1) i (k + 1) := by
  refine ⟨fun p q hpq hq hpr => ?_, by omega, hN, by omega⟩
  by_cases hold : p < i ∨ p = i ∧ q ≤ k
  · have := (h.all p q hpq hq hold).1
    exact ⟨by omega, fun e => by omega⟩
  · have hp : p = i := by omega
    have hqk : q = k + 1 := by omega
    subst hp; subst hqk
    exact ⟨Int.le_refl _, fun _ => Or.inr ⟨rfl, Nat.le_refl _⟩⟩
theorem Gd.row {f : Nat → Int} {N i bi bj : Nat} (h : Gd f N i N bi bj) : Gd f N (i + 1) (i + 1) bi bj :=
  ⟨fun p q hpq hq hpr => h.all p q hpq hq (by omega), h.lt, h.le, by have := h.fr; omega⟩
theorem Gd.start {f : Nat → Int} {N : Nat} (h : 1 ≤ N) : Gd f N 0 0 0 1 := ⟨fun p q hpq hq hpr => by omega, by omega, h, by omega⟩
theorem Gd.kad {f : Nat → Int} {N bi bj i0 j0 e0 : Nat} {a : Int} {r : W6} (h : Gd f N N N bi bj) (k : Kad a f N r i0 j0 e0) : bi = i0 ∧ bj = j0 := by
  have h1 := h.all i0 j0 k.hi k.hj (by have := k.hi; have := k.hj; omega)
  have h2 := k.all bi bj h.lt h.le
  have := k.fn
  have e1 := h1.2 (by omega)
  have e2 := h2.2 (by omega)
  omega
set_option maxHeartbeats 4000000 in
theorem Tryz.z21 (s : Nat → Int) (l : List Load3) (a b : Int) (hl : l.length ≤ 1000000) (hv : validS s l a b = true) : ACalls Tryz.prog 21 [.agg (satA s), loadsA l, .agg (spellA a b)] (.tup [.agg (spellA (worstRun (netsL s l a b)).ff (worstRun (netsL s l a b)).ft), .int .i64 (worstRun (netsL s l a b)).fn, .int .i64 0]) := by
  obtain ⟨hab, h43, hp, hs⟩ := valid_b hv
  have k23 := Tryz.z23 s l a b hl
  rw [hv] at k23
  have k55 := Tryz.z55 s l a b hl hv
  rw [nets_pf]
  have hl64 := proper_len hp
  have hfd := sat_fedZ hs
  obtain ⟨f, hf⟩ : ∃ f : Nat → Int, f = fun i : Nat => netS s l (a + (i : Int)) := ⟨_, rfl⟩
  have hfb : ∀ i, -1000000 ≤ f i ∧ f i ≤ 1000000 := fun i => by
    have := net_eq hfd (a + (i : Int)) l (litS (orbO s) (a + (i : Int))) (by omega)
    have e : f i = netP s l (litS (orbO s) (a + (i : Int))) (a + (i : Int)) := by rw [hf]; exact this.1
    omega
  have hps := psum_rng hfb
  obtain ⟨N, hN⟩ : ∃ N, N = (b - a).toNat := ⟨_, rfl⟩
  rw [← hN] at k55 ⊢
  rw [← hf]
  obtain ⟨i0, j0, e0, kk⟩ := kad hfb (a := a) (by omega) N (by omega) (by omega)
  have hget : ∀ i, i < N → (netsV s l a N).getD i 0 = f i := fun i hi => by rw [netsV_get s l a hi, hf]
  have hx0 : ((netsV s l a N).map fun h => [AV.int .i64 h])[(0 : Int).toNat]? = some [.int .i64 (f 0)] := by
    have := ints_get (netsV s l a N) 0 (by rw [netsV_len]; omega)
    rw [hget 0 (by omega)] at this
    exact this
  refine ACalls.ofB Tryz.TT_ok Tryz.func21 rfl (by kernel_rfl) Tryz.mixed (Nat.le_of_ble_eq_true rfl) ?_
  intro F n' w0 m0 hG hro h1
  repeat' first
    | refine SPB.seq ?_
    | refine SPB.block ?_
    | refine SPB.draw hG Tryz.TT_ok Tryz.keep21 (by kernel_rfl) ?_
    | refine SPB.reg hG Tryz.TT_ok Tryz.keep21 (by kernel_rfl) ?_
    | refine SPB.skip hG Tryz.TT_ok ?_
    | refine SPB.label hG Tryz.TT_ok ?_
    | refine SPB.ret hG Tryz.TT_ok ?_
    | refine SPB.exit hG Tryz.TT_ok ?_
    | refine SPB.condT rfl ?_
    | refine SPB.condF rfl ?_
    | refine SPB.cond rfl (And.intro (fun h => ?_) (fun h => ?_))
    | (conv => whnf
       first
         | refine And.intro (fun h => Bool.noConfusion (h : false = true)) (fun _ => ?_)
         | refine And.intro (fun _ => ?_) (fun h => Bool.noConfusion (h : true = false))
         | refine And.intro (by kernel_rfl) ?_
         | refine Exists.intro _ (And.intro (k23) ?_)
         | refine Exists.intro _ (And.intro (k55) ?_)
         | refine And.intro (Int.le_refl 0) (Exists.intro _ (And.intro hx0 ?_))
         | refine And.intro (fun h => ?_) (fun h => ?_)
         | refine Or.inl ?_
         | fail)
  refine SPB.loop (X := Nat × Nat × Nat) (fun q => ⟨[(12, .int .i64 q.1), (11, .loc 11 0), (10, .int .i64 (psum f q.2.2 - psum f q.2.1)), (9, intsA (netsV s l a N)), (6, .loc 6 0), (5, .loc 5 0)], [(11, spellA (a + (q.2.1 : Int)) (a + (q.2.2 : Int))), (6, [.int .i64 0, .int .i64 0]), (5, spellA a b)]⟩)
    (fun q => q.1 ≤ N ∧ Gd f N q.1 q.1 q.2.1 q.2.2) (fun q => N - q.1) (0, 0, 1) ⟨Nat.zero_le _, Gd.start (by omega)⟩ (St.le.of ?_ ?_) (fun q hq => ?_)
  · refine And.intro rfl (And.intro rfl (And.intro (congrArg (fun z => some (AV.int .i64 z)) ?_) ?_))
    · simp [psum]
    · repeat' (first | exact trivial | refine And.intro rfl ?_)
  · refine And.intro (show some (spellA a (IntKind.i64.wrap (a + 1))) = some (spellA (a + ((0 : Nat) : Int)) (a + ((1 : Nat) : Int))) from ?_) ?_
    · rw [show IntKind.i64.wrap (a + 1) = a + ((1 : Nat) : Int) from (w64_in (by omega) (by omega)).trans (by omega), show a + ((0 : Nat) : Int) = a by omega]
    · repeat' (first | exact trivial | refine And.intro rfl ?_)
  · obtain ⟨i, bi, bj⟩ := q
    obtain ⟨hi, hg⟩ := hq
    have hi : i ≤ N := hi
    have hg : Gd f N i i bi bj := hg
    by_cases hlt : i < N
    · have bbk : decide ((i : Int) < (((netsV s l a N).map fun h => [AV.int .i64 h]).length : Int)) = false → False := fun h => by have := of_decide_eq_false h; rw [List.length_map, netsV_len] at this; omega
      repeat' first
        | exact (bbk (by assumption)).elim
        | refine SPB.seq ?_
        | refine SPB.block ?_
        | refine SPB.draw hG Tryz.TT_ok Tryz.keep21 (by kernel_rfl) ?_
        | refine SPB.reg hG Tryz.TT_ok Tryz.keep21 (by kernel_rfl) ?_
        | refine SPB.skip hG Tryz.TT_ok ?_
        | refine SPB.label hG Tryz.TT_ok ?_
        | refine SPB.ret hG Tryz.TT_ok ?_
        | refine SPB.exit hG Tryz.TT_ok ?_
        | refine SPB.condT rfl ?_
        | refine SPB.condF rfl ?_
        | refine SPB.cond rfl (And.intro (fun h => ?_) (fun h => ?_))
        | (conv => whnf
           first
             | refine And.intro (fun h => Bool.noConfusion (h : false = true)) (fun _ => ?_)
             | refine And.intro (fun _ => ?_) (fun h => Bool.noConfusion (h : true = false))
             | refine And.intro (by kernel_rfl) ?_
             | refine And.intro (fun h => ?_) (fun h => ?_)
             | refine Or.inl ?_
             | fail)
      refine SPB.loop (X := Nat × Nat × Nat) (fun q => ⟨[(14, .int .i64 q.1), (13, .int .i64 (psum f q.1 - psum f i)), (12, .int .i64 i), (11, .loc 11 0), (10, .int .i64 (psum f q.2.2 - psum f q.2.1)), (9, intsA (netsV s l a N)), (6, .loc 6 0), (5, .loc 5 0)], [(11, spellA (a + (q.2.1 : Int)) (a + (q.2.2 : Int))), (6, [.int .i64 0, .int .i64 0]), (5, spellA a b)]⟩)
        (fun q => i ≤ q.1 ∧ q.1 ≤ N ∧ Gd f N i q.1 q.2.1 q.2.2) (fun q => N - q.1) (i, bi, bj) ⟨Nat.le_refl _, hi, hg⟩ (St.le.of ?_ ?_) (fun q hq => ?_)
      · refine And.intro rfl (And.intro (congrArg (fun z => some (AV.int .i64 z)) (by simp)) ?_)
        repeat' (first | exact trivial | refine And.intro rfl ?_)
      · repeat' (first | exact trivial | refine And.intro rfl ?_)
      · obtain ⟨k, ci, cj⟩ := q
        obtain ⟨hik, hkN, hg2⟩ := hq
        have hik : i ≤ k := hik
        have hkN : k ≤ N := hkN
        have hg2 : Gd f N i k ci cj := hg2
        have p1 := hps k
        have p2 := hps i
        have p3 := hps cj
        have p4 := hps ci
        have hlt2 := hg2.lt
        have hle2 := hg2.le
        by_cases hkl : k < N
        · have bbi : decide ((k : Int) < (((netsV s l a N).map fun h => [AV.int .i64 h]).length : Int)) = false → False := fun h => by have := of_decide_eq_false h; rw [List.length_map, netsV_len] at this; omega
          have hx := ints_get (netsV s l a N) k (by rw [netsV_len]; exact hkl)
          rw [hget k hkl] at hx
          have hfk := hfb k
          have hsum : IntKind.i64.wrap (psum f k - psum f i + f k) = psum f (k + 1) - psum f i := (w64_in (by omega) (by omega)).trans (by simp only [psum]; omega)
          have w1 : IntKind.i64.wrap (a + (i : Int)) = a + (i : Int) := w64_in (by omega) (by omega)
          have w2 : IntKind.i64.wrap (IntKind.i64.wrap (a + (k : Int)) + 1) = a + ((k + 1 : Nat) : Int) := by
            rw [show IntKind.i64.wrap (a + (k : Int)) = a + (k : Int) from w64_in (by omega) (by omega)]
            exact (w64_in (by omega) (by omega)).trans (by omega)
          repeat' first
            | exact (bbi (by assumption)).elim
            | refine SPB.seq ?_
            | refine SPB.block ?_
            | refine SPB.draw hG Tryz.TT_ok Tryz.keep21 (by kernel_rfl) ?_
            | refine SPB.reg hG Tryz.TT_ok Tryz.keep21 (by kernel_rfl) ?_
            | refine SPB.skip hG Tryz.TT_ok ?_
            | refine SPB.label hG Tryz.TT_ok ?_
            | refine SPB.ret hG Tryz.TT_ok ?_
            | refine SPB.exit hG Tryz.TT_ok ?_
            | refine SPB.condT rfl ?_
            | refine SPB.condF rfl ?_
            | refine SPB.cond rfl (And.intro (fun h => ?_) (fun h => ?_))
            | (conv => whnf
               first
                 | refine And.intro (fun h => Bool.noConfusion (h : false = true)) (fun _ => ?_)
                 | refine And.intro (fun _ => ?_) (fun h => Bool.noConfusion (h : true = false))
                 | refine And.intro (by kernel_rfl) ?_
                 | refine And.intro (Int.natCast_nonneg k) (Exists.intro _ (And.intro hx ?_))
                 | refine And.intro (fun h => ?_) (fun h => ?_)
                 | refine Or.inl ?_
                 | fail)
          · have hgt := of_decide_eq_true (by assumption : decide (IntKind.i64.wrap (psum f k - psum f i + f k) > psum f cj - psum f ci) = true)
            rw [hsum] at hgt
            refine Exists.intro (k + 1, i, k + 1) (And.intro ⟨by show i ≤ k + 1; omega, hkl, hg2.new hik hkl hgt⟩ (And.intro (by show N - (k + 1) < N - k; omega) (St.le.of ?_ ?_)))
            · refine And.intro (congrArg some (le_next (by omega))) (And.intro (congrArg (fun z => some (AV.int .i64 z)) hsum) (And.intro rfl (And.intro rfl (And.intro (congrArg (fun z => some (AV.int .i64 z)) hsum) ?_))))
              repeat' (first | exact trivial | refine And.intro rfl ?_)
            · refine And.intro (show some (spellA (IntKind.i64.wrap (a + (i : Int))) (IntKind.i64.wrap (IntKind.i64.wrap (a + (k : Int)) + 1))) = some (spellA (a + (i : Int)) (a + ((k + 1 : Nat) : Int))) by rw [w1, w2]) ?_
              repeat' (first | exact trivial | refine And.intro rfl ?_)
          · have hgt := of_decide_eq_false (by assumption : decide (IntKind.i64.wrap (psum f k - psum f i + f k) > psum f cj - psum f ci) = false)
            rw [hsum] at hgt
            refine Exists.intro (k + 1, ci, cj) (And.intro ⟨by show i ≤ k + 1; omega, hkl, hg2.keep hik (by omega)⟩ (And.intro (by show N - (k + 1) < N - k; omega) (St.le.of ?_ ?_)))
            · refine And.intro (congrArg some (le_next (by omega))) (And.intro (congrArg (fun z => some (AV.int .i64 z)) hsum) ?_)
              repeat' (first | exact trivial | refine And.intro rfl ?_)
            · repeat' (first | exact trivial | refine And.intro rfl ?_)
        · have hke : k = N := by omega
          have bbi : decide ((k : Int) < (((netsV s l a N).map fun h => [AV.int .i64 h]).length : Int)) = true → False := fun h => by have := of_decide_eq_true h; rw [List.length_map, netsV_len] at this; omega
          repeat' first
            | exact (bbi (by assumption)).elim
            | refine SPB.seq ?_
            | refine SPB.block ?_
            | refine SPB.draw hG Tryz.TT_ok Tryz.keep21 (by kernel_rfl) ?_
            | refine SPB.reg hG Tryz.TT_ok Tryz.keep21 (by kernel_rfl) ?_
            | refine SPB.skip hG Tryz.TT_ok ?_
            | refine SPB.label hG Tryz.TT_ok ?_
            | refine SPB.ret hG Tryz.TT_ok ?_
            | refine SPB.exit hG Tryz.TT_ok ?_
            | refine SPB.condT rfl ?_
            | refine SPB.condF rfl ?_
            | refine SPB.cond rfl (And.intro (fun h => ?_) (fun h => ?_))
            | (conv => whnf
               first
                 | refine And.intro (fun h => Bool.noConfusion (h : false = true)) (fun _ => ?_)
                 | refine And.intro (fun _ => ?_) (fun h => Bool.noConfusion (h : true = false))
                 | refine And.intro (by kernel_rfl) ?_
                 | refine And.intro (fun h => ?_) (fun h => ?_)
                 | refine Or.inl ?_
                 | fail)
          all_goals
            rw [hke] at hg2
            refine Exists.intro (i + 1, ci, cj) (And.intro ⟨hlt, hg2.row⟩ (And.intro (by show N - (i + 1) < N - i; omega) (St.le.of ?_ ?_)))
            · refine And.intro (congrArg some (le_next (by omega))) ?_
              repeat' (first | exact trivial | refine And.intro rfl ?_)
            · repeat' (first | exact trivial | refine And.intro rfl ?_)
    · have hge : i = N := by omega
      subst hge
      obtain ⟨rfl, rfl⟩ := hg.kad kk
      have bbk : decide ((i : Int) < (((netsV s l a i).map fun h => [AV.int .i64 h]).length : Int)) = true → False := fun h => by have := of_decide_eq_true h; rw [List.length_map, netsV_len] at this; omega
      rw [kk.ff, kk.ft, kk.fn]
      repeat' first
        | exact (bbk (by assumption)).elim
        | refine SPB.seq ?_
        | refine SPB.block ?_
        | refine SPB.draw hG Tryz.TT_ok Tryz.keep21 (by kernel_rfl) ?_
        | refine SPB.reg hG Tryz.TT_ok Tryz.keep21 (by kernel_rfl) ?_
        | refine SPB.skip hG Tryz.TT_ok ?_
        | refine SPB.label hG Tryz.TT_ok ?_
        | refine SPB.ret hG Tryz.TT_ok ?_
        | refine SPB.exit hG Tryz.TT_ok ?_
        | refine SPB.condT rfl ?_
        | refine SPB.condF rfl ?_
        | refine SPB.cond rfl (And.intro (fun h => ?_) (fun h => ?_))
        | (conv => whnf
           first
             | refine And.intro (fun h => Bool.noConfusion (h : false = true)) (fun _ => ?_)
             | refine And.intro (fun _ => ?_) (fun h => Bool.noConfusion (h : true = false))
             | refine And.intro (by kernel_rfl) ?_
             | refine And.intro (fun h => ?_) (fun h => ?_)
             | refine Or.inl ?_
             | fail)
      all_goals exact Ends.mk (Or.inl rfl) (AV.weak.of_eq rfl)
end Go.Proofs


namespace Go.Proofs
open Go Go.AI
set_option maxRecDepth 10000
set_option linter.unusedSimpArgs false

def sndC : Code → Code
  | .seq _ b => b
  | c => c
def fstC : Code → Code
  | .seq a _ => a
  | c => c
def inC : Code → Code
  | .block _ c => c
  | .loop c => c
  | c => c
theorem nnI {n : Int} : ¬ (n != n) = true := by simp
theorem nnB {b : Bool} : ¬ (b != b) = true := by simp
theorem nnS {x y : Int} : ¬ (!((x == x) && ((y == y) && true))) = true := by simp
theorem SPB.cutF {Γ : Base} {s : St} {K : Exit → St → Prop} {c : Code} {X : Type} (l : List Operand) (sh : X → St) (P : X → Prop) (h : SPB Γ s c fun e s' => e = .normal ∧ frzAll s' l fun s2 => ∃ x, P x ∧ s2.le (sh x)) (k : ∀ x, P x → K .normal (sh x)) : SPB Γ s c K := by
  refine ⟨fun a w hI => wpIn_mono (h.out a w hI) ?_⟩
  rintro e a' w' ⟨hN, hF, s', hI', rfl, hfr⟩
  obtain ⟨s2, ⟨x, hx, hle⟩, hI2⟩ := frzAll_spec _ _ hfr hI'
  exact ⟨hN, hF, sh x, hI2.less hle, k x hx⟩
def demV (k : Nat) (s : St) : St := ⟨mapT (AV.dem k) s.t, s.b⟩
theorem demV_inv {Γ : Base} {s : St} {a : Act} {w : World} (k : Nat) (h : Inv Γ s a w) : Inv Γ (demV k s) a w := by
  obtain ⟨⟨cx, hW, ht⟩, h2, h3⟩ := h
  refine ⟨⟨cx, hW, fun d y hy => ?_⟩, h2, h3⟩
  have hy : get (mapT (AV.dem k) s.t) d = some y := hy
  rw [get_mapT] at hy
  obtain ⟨z, hz, rfl⟩ := Option.map_eq_some_iff.1 hy
  exact (ht d z hz).dem k
theorem SPB.demV {Γ : Base} {s : St} {c : Code} {K : Exit → St → Prop} (k : Nat) (h : SPB Γ (demV k s) c K) : SPB Γ s c K := ⟨fun a w hI => h.out a w (demV_inv k hI)⟩
/-- Both answers are one. -/
theorem both36 (s : Nat → Int) (l : List Load3) (a b : Int) (hl : l.length ≤ 1000000) : ∃ (L : List Int) (e : Int), L.length ≤ 1000000 ∧ ACalls Tryz.prog 14 [.agg (satA s), loadsA l, .agg (spellA a b)] (.tup [intsA L, .int .i64 e]) ∧ ACalls Tryz.prog 15 [.agg (satA s), loadsA l, .agg (spellA a b)] (.tup [intsA L, .int .i64 e]) := by
  cases hv : validS s l a b
  · exact ⟨[], 100, by simp, Tryz.b36 s l a b hl hv, Tryz.zb15 s l a b hl hv⟩
  · refine ⟨_, 0, ?_, Tryz.c36 s l a b hl hv, Tryz.z15 s l a b hl hv⟩
    have := valid_b hv
    rw [levRun_len, nets_len]; omega
theorem both38 (s : Nat → Int) (l : List Load3) (a b : Int) (hl : l.length ≤ 1000000) : ∃ (v e : Int), ACalls Tryz.prog 16 [.agg (satA s), loadsA l, .agg (spellA a b)] (.tup [.int .i64 v, .int .i64 e]) ∧ ACalls Tryz.prog 17 [.agg (satA s), loadsA l, .agg (spellA a b)] (.tup [.int .i64 v, .int .i64 e]) := by
  cases hv : validS s l a b
  · exact ⟨0, 100, Tryz.b38 s l a b hl hv, Tryz.zb17 s l a b hl hv⟩
  · exact ⟨_, 0, Tryz.c38 s l a b hl hv, Tryz.z17 s l a b hl hv⟩
theorem both40 (s : Nat → Int) (l : List Load3) (a b : Int) (hl : l.length ≤ 1000000) : ∃ (v e : Int), ACalls Tryz.prog 18 [.agg (satA s), loadsA l, .agg (spellA a b)] (.tup [.int .i64 v, .int .i64 e]) ∧ ACalls Tryz.prog 19 [.agg (satA s), loadsA l, .agg (spellA a b)] (.tup [.int .i64 v, .int .i64 e]) := by
  cases hv : validS s l a b
  · exact ⟨0, 100, Tryz.b40 s l a b hl hv, Tryz.zb19 s l a b hl hv⟩
  · exact ⟨_, 0, Tryz.c40 s l a b hl hv, Tryz.z19 s l a b hl hv⟩
theorem both37 (s : Nat → Int) (l : List Load3) (a b : Int) (hl : l.length ≤ 1000000) : ∃ (f t v e : Int), ACalls Tryz.prog 20 [.agg (satA s), loadsA l, .agg (spellA a b)] (.tup [.agg (spellA f t), .int .i64 v, .int .i64 e]) ∧ ACalls Tryz.prog 21 [.agg (satA s), loadsA l, .agg (spellA a b)] (.tup [.agg (spellA f t), .int .i64 v, .int .i64 e]) := by
  cases hv : validS s l a b
  · exact ⟨0, 0, 0, 100, Tryz.b37 s l a b hl hv, Tryz.zb21 s l a b hl hv⟩
  · exact ⟨_, _, _, 0, Tryz.c37 s l a b hl hv, Tryz.z21 s l a b hl hv⟩
theorem same58 {L : List Int} (h : L.length ≤ 1000000) : ACalls Tryz.prog 24 [intsA L, intsA L] (.bool true) := by
  have := Tryz.c58 L L h
  rwa [decide_eq_true (rfl : L = L)] at this
theorem setAt_set {α : Type} (l : List α) (n : Nat) (v : α) : setAt l n v = l.set n v := by
  refine List.ext_getElem? fun p => ?_
  rw [setAt_get, List.getElem?_set]
  by_cases h : n = p
  · subst h
    by_cases h2 : n < l.length
    · rw [if_pos ⟨rfl, h2⟩, if_pos rfl, if_pos h2]
    · rw [if_neg (fun g => h2 g.2), if_pos rfl, if_neg h2, List.getElem?_eq_none (by omega)]
  · rw [if_neg (fun g => h g.1), if_neg h]
theorem set_row (l : List Load3) (n : Nat) (x : Load3) : setAt (l.map loadA) n (loadA x) = (l.set n x).map loadA := by rw [setAt_set, List.map_set]
def selS (s odd : Nat → Int) (i : Nat) : Nat → Int := match i with | 1 => odd | _ => s
def selL (l B F : List Load3) (i : Nat) : List Load3 := match i with | 2 => B | 3 => F | _ => l
def selP (a b p d : Int) (i : Nat) : Int × Int := match i with | 4 => (p, d) | _ => (a, b)
def sel2 {α : Type} (x y : α) (i : Nat) : α := match i with | 0 => x | _ => y
theorem five {i : Nat} (h : i < 5) : i = 0 ∨ i = 1 ∨ i = 2 ∨ i = 3 ∨ i = 4 := by omega
theorem selS_at (s odd : Nat → Int) {i : Nat} (h : i < 5) : [satA s, satA odd, satA s, satA s, satA s][(i : Int).toNat]? = some (satA (selS s odd i)) := by
  obtain rfl | rfl | rfl | rfl | rfl := five h <;> rfl
theorem selL_at (l B F : List Load3) {i : Nat} (h : i < 5) : [[loadsA l], [loadsA l], [loadsA B], [loadsA F], [loadsA l]][(i : Int).toNat]? = some [loadsA (selL l B F i)] := by
  obtain rfl | rfl | rfl | rfl | rfl := five h <;> rfl
theorem selP_at (a b p d : Int) {i : Nat} (h : i < 5) : [spellA a b, spellA a b, spellA a b, spellA a b, spellA p d][(i : Int).toNat]? = some (spellA (selP a b p d i).1 (selP a b p d i).2) := by
  obtain rfl | rfl | rfl | rfl | rfl := five h <;> rfl
theorem selL_len {l B F : List Load3} (h1 : l.length ≤ 1000000) (h2 : B.length ≤ 1000000) (h3 : F.length ≤ 1000000) {i : Nat} (h : i < 5) : (selL l B F i).length ≤ 1000000 := by
  obtain rfl | rfl | rfl | rfl | rfl := five h <;> assumption
theorem sel2_at' {x y : Int} {j : Nat} (h : j < 2) : [[AV.int .i64 x], [AV.int .i64 y]][(j : Int).toNat]? = some [.int .i64 (sel2 x y j)] := by
  obtain rfl | rfl : j = 0 ∨ j = 1 := by omega
  · rfl
  · rfl

set_option maxHeartbeats 16000000 in
theorem Tryz.m3b (s odd : Nat → Int) (l B raw : List Load3) (a b p d t : Int) (hl : l.length ≤ 1000000) (hB : B.length ≤ 1000000) {F' : Fence} {n' : Nat} {w0 : World} {m0 : Mem} (hG : Base.OK ⟨Tryz.prog, F', n', w0, m0, Tryz.f3.ntmps⟩) :
    SPB ⟨Tryz.prog, F', n', w0, m0, Tryz.f3.ntmps⟩ ⟨[(24, loadsA B), (23, .loc 23 0), (22, loadsA l), (21, .loc 21 0), (18, .loc 18 0), (15, .loc 15 0), (9, .int .i64 t), (7, loadsA raw)], [(23, spellA a b), (21, satA s), (18, spellA p d), (15, satA odd)]⟩ (match Tryz.f3.body with | some c => sndC (sndC (sndC (sndC (sndC (sndC (c)))))) | none => .skip) (Go.AI.Ends Tryz.TT Tryz.f3.results.toList (.bool true)) := by
  obtain ⟨F, hF⟩ : ∃ F, F = raw.take (min ((raw.map loadA).length : Int) 66).toNat := ⟨_, rfl⟩
  have hmn : (0 : Int) ≤ min ((raw.map loadA).length : Int) 66 := by omega
  have hml : (min ((raw.map loadA).length : Int) 66).toNat ≤ (raw.map loadA).length := by omega
  have hFl : F.length ≤ 1000000 := by rw [hF, List.length_take]; omega
  have eF : ((raw.map loadA).take (min ((raw.map loadA).length : Int) 66).toNat).drop 0 = F.map loadA := by rw [hF, List.drop_zero, List.map_take]
  repeat' first
    | refine SPB.seq ?_
    | refine SPB.block ?_
    | refine SPB.draw hG Tryz.TT_ok Tryz.keep3 (by kernel_rfl) ?_
    | refine SPB.reg hG Tryz.TT_ok Tryz.keep3 (by kernel_rfl) ?_
    | refine SPB.skip hG Tryz.TT_ok ?_
    | refine SPB.label hG Tryz.TT_ok ?_
    | refine SPB.ret hG Tryz.TT_ok ?_
    | refine SPB.exit hG Tryz.TT_ok ?_
    | refine SPB.condT rfl ?_
    | refine SPB.condF rfl ?_
    | refine SPB.cond rfl (And.intro (fun h => ?_) (fun h => ?_))
    | (conv => whnf
       first
         | refine And.intro (fun h => Bool.noConfusion (h : false = true)) (fun _ => ?_)
         | refine And.intro (fun _ => ?_) (fun h => Bool.noConfusion (h : true = false))
         | refine And.intro (by kernel_rfl) ?_
         | refine And.intro (fun h => ?_) (fun h => ?_)
         | refine Or.inl ?_
         | fail)
  refine SPB.loop (X := Nat) (fun i => ⟨[(25, .int .i64 i), (24, loadsA B), (23, .loc 23 0), (22, loadsA l), (21, .loc 21 0), (18, .loc 18 0), (15, .loc 15 0), (9, .int .i64 t), (7, loadsA raw)], [(23, spellA a b), (21, satA s), (18, spellA p d), (15, satA odd)]⟩) (fun i => i ≤ 5) (fun i => 5 - i) 0 (Nat.zero_le _) (St.le.of ?_ ?_) (fun i hi => ?_)
  · repeat' (first | exact trivial | refine And.intro rfl ?_)
  · repeat' (first | exact trivial | refine And.intro rfl ?_)
  · by_cases hlt : i < 5
    · have bbk : decide ((i : Int) < 5) = false → False := fun h => by have := of_decide_eq_false h; omega
      have hS := selS_at s odd hlt
      have hL := selL_at l B F hlt
      have hP := selP_at a b p d hlt
      have hkl := selL_len hl hB hFl hlt
      rw [show loadsA F = .sl .no 3 (F.map loadA) from rfl, ← eF] at hL
      generalize selS s odd i = e at hS
      generalize selL l B F i = k at hL hkl
      generalize (selP a b p d i).1 = q1 at hP
      generalize (selP a b p d i).2 = q2 at hP
      obtain ⟨L, e1, hLl, k14, k15⟩ := both36 e k q1 q2 hkl
      obtain ⟨v2, e2, k16, k17⟩ := both38 e k q1 q2 hkl
      obtain ⟨v3, e3, k18, k19⟩ := both40 e k q1 q2 hkl
      obtain ⟨f4, t4, v4, e4, k20, k21⟩ := both37 e k q1 q2 hkl
      have k22 := Tryz.c59 e k q1 q2 hkl
      have k23 := Tryz.z23 e k q1 q2 hkl
      have k24 := same58 hLl
      have k13 := Tryz.c39 t 200 (by decide)
      generalize hu : IntKind.i64.wrap (a + pickS t 200) = u

      repeat' first
        | exact (bbk (by assumption)).elim
        | exact (nnI (by assumption)).elim
        | exact (nnB (by assumption)).elim
        | exact (nnS (by assumption)).elim
        | refine SPB.seq ?_
        | refine SPB.block ?_
        | refine SPB.draw hG Tryz.TT_ok Tryz.keep3 (by kernel_rfl) ?_
        | refine SPB.reg hG Tryz.TT_ok Tryz.keep3 (by kernel_rfl) ?_
        | refine SPB.skip hG Tryz.TT_ok ?_
        | refine SPB.label hG Tryz.TT_ok ?_
        | refine SPB.ret hG Tryz.TT_ok ?_
        | refine SPB.exit hG Tryz.TT_ok ?_
        | refine SPB.condT rfl ?_
        | refine SPB.condF rfl ?_
        | refine SPB.cond rfl (And.intro (fun h => ?_) (fun h => ?_))
        | (conv => whnf
           first
             | refine And.intro (fun h => Bool.noConfusion (h : false = true)) (fun _ => ?_)
             | refine And.intro (fun _ => ?_) (fun h => Bool.noConfusion (h : true = false))
             | refine And.intro (by kernel_rfl) ?_
             | refine And.intro (Int.natCast_nonneg i) (Exists.intro _ (And.intro hS ?_))
             | refine And.intro hmn (And.intro (Nat.zero_le _) (And.intro hml ?_))
             | refine And.intro (Int.natCast_nonneg i) (Exists.intro _ (And.intro hL ?_))
             | refine And.intro (Int.natCast_nonneg i) (Exists.intro _ (And.intro hP ?_))
             | refine Exists.intro _ (And.intro (k14) ?_)
             | refine Exists.intro _ (And.intro (k15) ?_)
             | refine Exists.intro _ (And.intro (k16) ?_)
             | refine Exists.intro _ (And.intro (k17) ?_)
             | refine Exists.intro _ (And.intro (k18) ?_)
             | refine Exists.intro _ (And.intro (k19) ?_)
             | refine Exists.intro _ (And.intro (k20) ?_)
             | refine Exists.intro _ (And.intro (k21) ?_)
             | refine Exists.intro _ (And.intro (k22) ?_)
             | refine Exists.intro _ (And.intro (k23) ?_)
             | refine Exists.intro _ (And.intro (k24) ?_)
             | refine Exists.intro _ (And.intro (k13) ?_)
             | refine And.intro (fun h => ?_) (fun h => ?_)
             | refine Or.inl ?_
             | fail)
      refine SPB.loop (X := Nat) (fun j => ⟨[(255, .int .i64 j), (254, .int .i64 2), (253, .sl .full 1 [[.int .i64 t], [.int .i64 u]]), (27, loadsA k), (26, .loc 26 0), (25, .int .i64 i), (24, loadsA B), (23, .loc 23 0), (22, loadsA l), (21, .loc 21 0), (18, .loc 18 0), (15, .loc 15 0), (9, .int .i64 t), (7, loadsA raw)], (26, satA e) :: [(23, spellA a b), (21, satA s), (18, spellA p d), (15, satA odd)]⟩) (fun j => j ≤ 2) (fun j => 2 - j) 0 (Nat.zero_le _) (St.le.of ?_ ?_) (fun j hj => ?_)
      · subst hu
        repeat' (first | exact trivial | refine And.intro rfl ?_)
      · repeat' (first | exact trivial | refine And.intro rfl ?_)
      · by_cases hj2 : j < 2
        · have bbj : decide ((j : Int) < 2) = false → False := fun h => by have := of_decide_eq_false h; omega
          have hJ := sel2_at' (x := t) (y := u) hj2
          generalize sel2 t u j = g at hJ
          have k25 := Tryz.c60 e g
          have k26 := Tryz.z26 e g
          have k27 := Tryz.c42 e k g hkl
          have k28 := Tryz.z28 e k g hkl
          repeat' first
            | exact (bbj (by assumption)).elim
            | exact (nnI (by assumption)).elim
            | exact (nnB (by assumption)).elim
            | exact (nnS (by assumption)).elim
            | refine SPB.seq ?_
            | refine SPB.block ?_
            | refine SPB.draw hG Tryz.TT_ok Tryz.keep3 (by kernel_rfl) ?_
            | refine SPB.reg hG Tryz.TT_ok Tryz.keep3 (by kernel_rfl) ?_
            | refine SPB.skip hG Tryz.TT_ok ?_
            | refine SPB.label hG Tryz.TT_ok ?_
            | refine SPB.ret hG Tryz.TT_ok ?_
            | refine SPB.exit hG Tryz.TT_ok ?_
            | refine SPB.condT rfl ?_
            | refine SPB.condF rfl ?_
            | refine SPB.cond rfl (And.intro (fun h => ?_) (fun h => ?_))
            | (conv => whnf
               first
                 | refine And.intro (fun h => Bool.noConfusion (h : false = true)) (fun _ => ?_)
                 | refine And.intro (fun _ => ?_) (fun h => Bool.noConfusion (h : true = false))
                 | refine And.intro (by kernel_rfl) ?_
                 | refine And.intro (Int.natCast_nonneg j) (Exists.intro _ (And.intro hJ ?_))
                 | refine Exists.intro _ (And.intro (k25) ?_)
                 | refine Exists.intro _ (And.intro (k26) ?_)
                 | refine Exists.intro _ (And.intro (k27) ?_)
                 | refine Exists.intro _ (And.intro (k28) ?_)
                 | refine And.intro (fun h => ?_) (fun h => ?_)
                 | refine Or.inl ?_
                 | fail)
          all_goals
            refine Exists.intro (j + 1) (And.intro hj2 (And.intro (by omega) (St.le.of ?_ ?_)))
            · refine And.intro (congrArg some (le_next (by omega))) ?_
              repeat' (first | exact trivial | refine And.intro rfl ?_)
            · repeat' (first | exact trivial | refine And.intro rfl ?_)
        · have hje : j = 2 := by omega
          subst hje
          repeat' first
            | refine SPB.seq ?_
            | refine SPB.block ?_
            | refine SPB.draw hG Tryz.TT_ok Tryz.keep3 (by kernel_rfl) ?_
            | refine SPB.reg hG Tryz.TT_ok Tryz.keep3 (by kernel_rfl) ?_
            | refine SPB.skip hG Tryz.TT_ok ?_
            | refine SPB.label hG Tryz.TT_ok ?_
            | refine SPB.ret hG Tryz.TT_ok ?_
            | refine SPB.exit hG Tryz.TT_ok ?_
            | refine SPB.condT rfl ?_
            | refine SPB.condF rfl ?_
            | refine SPB.cond rfl (And.intro (fun h => ?_) (fun h => ?_))
            | (conv => whnf
               first
                 | refine And.intro (fun h => Bool.noConfusion (h : false = true)) (fun _ => ?_)
                 | refine And.intro (fun _ => ?_) (fun h => Bool.noConfusion (h : true = false))
                 | refine And.intro (by kernel_rfl) ?_
                 | refine And.intro (fun h => ?_) (fun h => ?_)
                 | refine Or.inl ?_
                 | fail)
          all_goals
            refine Exists.intro (i + 1) (And.intro hlt (And.intro (by omega) (St.le.of ?_ ?_)))
            · refine And.intro (congrArg some (le_next (by omega))) ?_
              repeat' (first | exact trivial | refine And.intro rfl ?_)
            · repeat' (first | exact trivial | refine And.intro rfl ?_)
    · have hie : i = 5 := by omega
      subst hie
      repeat' first
        | refine SPB.seq ?_
        | refine SPB.block ?_
        | refine SPB.draw hG Tryz.TT_ok Tryz.keep3 (by kernel_rfl) ?_
        | refine SPB.reg hG Tryz.TT_ok Tryz.keep3 (by kernel_rfl) ?_
        | refine SPB.skip hG Tryz.TT_ok ?_
        | refine SPB.label hG Tryz.TT_ok ?_
        | refine SPB.ret hG Tryz.TT_ok ?_
        | refine SPB.exit hG Tryz.TT_ok ?_
        | refine SPB.condT rfl ?_
        | refine SPB.condF rfl ?_
        | refine SPB.cond rfl (And.intro (fun h => ?_) (fun h => ?_))
        | (conv => whnf
           first
             | refine And.intro (fun h => Bool.noConfusion (h : false = true)) (fun _ => ?_)
             | refine And.intro (fun _ => ?_) (fun h => Bool.noConfusion (h : true = false))
             | refine And.intro (by kernel_rfl) ?_
             | refine And.intro (fun h => ?_) (fun h => ?_)
             | refine Or.inl ?_
             | fail)
      all_goals exact Ends.mk (Or.inl rfl) (AV.weak.of_eq rfl)

set_option maxHeartbeats 8000000 in
theorem Tryz.m3a (s odd : Nat → Int) (l B raw : List Load3) (a b p d t : Int) (hl : l.length ≤ 1000000) (hB : B.length ≤ 1000000) {F' : Fence} {n' : Nat} {w0 : World} {m0 : Mem} (hG : Base.OK ⟨Tryz.prog, F', n', w0, m0, Tryz.f3.ntmps⟩) :
    SPB ⟨Tryz.prog, F', n', w0, m0, Tryz.f3.ntmps⟩ ⟨[(24, loadsA B), (23, .loc 23 0), (22, loadsA l), (21, .loc 21 0), (18, .loc 18 0), (15, .loc 15 0), (9, .int .i64 t), (7, loadsA raw)], [(23, spellA a b), (21, satA s), (18, spellA p d), (15, satA odd)]⟩ (match Tryz.f3.body with | some c => sndC (sndC (sndC (sndC (sndC (c))))) | none => .skip) (Go.AI.Ends Tryz.TT Tryz.f3.results.toList (.bool true)) := by
  refine SPB.seq ?_
  refine SPB.cut (X := Int) (fun y => ⟨[(24, loadsA B), (23, .loc 23 0), (22, loadsA l), (21, .loc 21 0), (18, .loc 18 0), (15, .loc 15 0), (9, .int .i64 t), (7, loadsA raw)], [(23, spellA a b), (21, satA s), (18, spellA p y), (15, satA odd)]⟩) (fun _ => True) ?_ (fun y _ => Tryz.m3b s odd l B raw a b p y t hl hB hG)
  · skip
    repeat' first
      | refine SPB.seq ?_
      | refine SPB.block ?_
      | refine SPB.draw hG Tryz.TT_ok Tryz.keep3 (by kernel_rfl) ?_
      | refine SPB.reg hG Tryz.TT_ok Tryz.keep3 (by kernel_rfl) ?_
      | refine SPB.skip hG Tryz.TT_ok ?_
      | refine SPB.label hG Tryz.TT_ok ?_
      | refine SPB.ret hG Tryz.TT_ok ?_
      | refine SPB.exit hG Tryz.TT_ok ?_
      | refine SPB.condT rfl ?_
      | refine SPB.condF rfl ?_
      | refine SPB.cond rfl (And.intro (fun h => ?_) (fun h => ?_))
      | (conv => whnf
         first
           | refine And.intro (fun h => Bool.noConfusion (h : false = true)) (fun _ => ?_)
           | refine And.intro (fun _ => ?_) (fun h => Bool.noConfusion (h : true = false))
           | refine And.intro (by kernel_rfl) ?_
           | refine And.intro (fun h => ?_) (fun h => ?_)
           | refine Or.inl ?_
           | fail)
    · refine Exists.intro (IntKind.i64.wrap (p + 200)) (And.intro trivial (St.le.of ?_ ?_))
      · repeat' (first | exact trivial | refine And.intro rfl ?_)
      · repeat' (first | exact trivial | refine And.intro rfl ?_)
    · refine Exists.intro d (And.intro trivial (St.le.of ?_ ?_))
      · repeat' (first | exact trivial | refine And.intro rfl ?_)
      · repeat' (first | exact trivial | refine And.intro rfl ?_)
    · refine Exists.intro d (And.intro trivial (St.le.of ?_ ?_))
      · repeat' (first | exact trivial | refine And.intro rfl ?_)
      · repeat' (first | exact trivial | refine And.intro rfl ?_)
    · refine Exists.intro d (And.intro trivial (St.le.of ?_ ?_))
      · repeat' (first | exact trivial | refine And.intro rfl ?_)
      · repeat' (first | exact trivial | refine And.intro rfl ?_)

set_option maxHeartbeats 8000000 in
theorem Tryz.x3 (c : BCase) (odd : Nat → Int) (load : Load3) (raw : List Load3) (p d t : Int) (ht : inI t) : ACalls Tryz.prog 3 [.agg (orbA c.x), .agg (i4A c.y), .sl .no 3 (c.z.map row3A), .int .i64 c.from_, .int .i64 c.long, .agg (satA odd), .agg (loadA load), loadsA raw, .agg (spellA p d), .int .i64 t] (.bool true) := by
  have k35 := Tryz.c35 c
  have hl10 := c.len
  generalize c.l = l at *
  generalize c.s = s at *
  generalize c.a = a at *
  generalize c.b = b at *
  refine ACalls.ofB Tryz.TT_ok Tryz.func3 rfl (by kernel_rfl) Tryz.mixed (Nat.le_of_ble_eq_true rfl) ?_
  intro F n' w0 m0 hG hro h1
  repeat' first
    | refine SPB.seq ?_
    | refine SPB.block ?_
    | refine SPB.draw hG Tryz.TT_ok Tryz.keep3 (by kernel_rfl) ?_
    | refine SPB.reg hG Tryz.TT_ok Tryz.keep3 (by kernel_rfl) ?_
    | refine SPB.skip hG Tryz.TT_ok ?_
    | refine SPB.label hG Tryz.TT_ok ?_
    | refine SPB.ret hG Tryz.TT_ok ?_
    | refine SPB.exit hG Tryz.TT_ok ?_
    | refine SPB.condT rfl ?_
    | refine SPB.condF rfl ?_
    | refine SPB.cond rfl (And.intro (fun h => ?_) (fun h => ?_))
    | (conv => whnf
       first
         | refine And.intro (fun h => Bool.noConfusion (h : false = true)) (fun _ => ?_)
         | refine And.intro (fun _ => ?_) (fun h => Bool.noConfusion (h : true = false))
         | refine And.intro (by kernel_rfl) ?_
         | refine And.intro (fun h => ?_) (fun h => ?_)
         | refine Or.inl ?_
         | fail)
  conv => whnf
  refine Exists.intro _ (And.intro (Tryz.c34) ?_)
  repeat' first
    | refine SPB.seq ?_
    | refine SPB.block ?_
    | refine SPB.draw hG Tryz.TT_ok Tryz.keep3 (by kernel_rfl) ?_
    | refine SPB.reg hG Tryz.TT_ok Tryz.keep3 (by kernel_rfl) ?_
    | refine SPB.skip hG Tryz.TT_ok ?_
    | refine SPB.label hG Tryz.TT_ok ?_
    | refine SPB.ret hG Tryz.TT_ok ?_
    | refine SPB.exit hG Tryz.TT_ok ?_
    | refine SPB.condT rfl ?_
    | refine SPB.condF rfl ?_
    | refine SPB.cond rfl (And.intro (fun h => ?_) (fun h => ?_))
    | (conv => whnf
       first
         | refine And.intro (fun h => Bool.noConfusion (h : false = true)) (fun _ => ?_)
         | refine And.intro (fun _ => ?_) (fun h => Bool.noConfusion (h : true = false))
         | refine And.intro (by kernel_rfl) ?_
         | refine And.intro (fun h => ?_) (fun h => ?_)
         | refine Or.inl ?_
         | fail)
  conv => whnf
  refine Exists.intro _ (And.intro (k35) ?_)
  conv => whnf
  refine SPB.seq ?_
  refine SPB.reg hG Tryz.TT_ok Tryz.keep3 (by kernel_rfl) ?_
  conv => whnf
  by_cases hl0 : l = []
  · subst hl0
    refine Or.inl ?_
    conv => whnf
    refine And.intro (show 0 ≤ 70368744177664 from Nat.zero_le _) (And.intro (show 0 ≤ 4611686018427387904 from Nat.zero_le _) ?_)
    conv => whnf
    refine SPB.seq ?_
    refine SPB.cut (X := Unit) (fun _ => ⟨[(24, .sl (.id 63) 3 []), (23, .loc 23 0), (22, loadsA []), (21, .loc 21 0), (18, .loc 18 0), (15, .loc 15 0), (9, .int .i64 t), (7, loadsA raw)], [(23, spellA a b), (21, satA s), (18, spellA p d), (15, satA odd)]⟩) (fun _ => True) ?_ (fun _ _ => SPB.demV 63 (SPB.le (St.le.of ?_ ?_) (Tryz.m3a s odd [] [] raw a b p d t (by simp) (by simp) hG)))
    repeat' first
      | refine SPB.seq ?_
      | refine SPB.block ?_
      | refine SPB.draw hG Tryz.TT_ok Tryz.keep3 (by kernel_rfl) ?_
      | refine SPB.reg hG Tryz.TT_ok Tryz.keep3 (by kernel_rfl) ?_
      | refine SPB.skip hG Tryz.TT_ok ?_
      | refine SPB.label hG Tryz.TT_ok ?_
      | refine SPB.ret hG Tryz.TT_ok ?_
      | refine SPB.exit hG Tryz.TT_ok ?_
      | refine SPB.condT rfl ?_
      | refine SPB.condF rfl ?_
      | refine SPB.cond rfl (And.intro (fun h => ?_) (fun h => ?_))
      | (conv => whnf
         first
           | refine And.intro (fun h => Bool.noConfusion (h : false = true)) (fun _ => ?_)
           | refine And.intro (fun _ => ?_) (fun h => Bool.noConfusion (h : true = false))
           | refine And.intro (by kernel_rfl) ?_
           | refine And.intro (fun h => ?_) (fun h => ?_)
           | refine Or.inl ?_
           | fail)
    · refine Exists.intro () (And.intro trivial (St.le.of ?_ ?_))
      · repeat' (first | exact trivial | refine And.intro rfl ?_)
      · repeat' (first | exact trivial | refine And.intro rfl ?_)
    · repeat' (first | exact trivial | refine And.intro rfl ?_)
    · repeat' (first | exact trivial | refine And.intro rfl ?_)
  · have hpos : 0 < l.length := by cases l with | nil => exact absurd rfl hl0 | cons _ _ => simp
    have hpos' : 0 < (l.map loadA).length := by rw [List.length_map]; exact hpos
    have k39 := Tryz.c39 t ((l.map loadA).length : Int) (by omega)
    have q := pick_rng ht (n := ((l.map loadA).length : Int)) (by omega)
    obtain ⟨kn, hkn⟩ : ∃ kn : Nat, (kn : Int) = pickS t ((l.map loadA).length : Int) := ⟨(pickS t ((l.map loadA).length : Int)).toNat, by omega⟩
    rw [← hkn] at k39 q
    have bbn : decide (((l.map loadA).length : Int) > 0) = false → False := fun h => by have := of_decide_eq_false h; omega
    have hk2 : kn < l.length := by have := q.2; rw [List.length_map] at this; omega
    have hrow : (l.map loadA)[kn]? = some (loadA (l.getD kn ⟨0, 0, 0⟩)) := by simp [List.getElem?_eq_getElem hk2]
    refine Or.inr (And.intro rfl ?_)
    conv => whnf
    refine And.intro hpos' (And.intro (show _ * 24 ≤ 70368744177664 by rw [List.length_map]; omega) (And.intro (show _ ≤ 4611686018427387904 by rw [List.length_map]; omega) ?_))
    conv => whnf
    refine SPB.seq ?_
    refine SPB.cutF [.tmp 24] (X := List Load3) (fun B => ⟨[(24, loadsA B), (23, .loc 23 0), (22, loadsA l), (21, .loc 21 0), (18, .loc 18 0), (15, .loc 15 0), (9, .int .i64 t), (7, loadsA raw)], [(23, spellA a b), (21, satA s), (18, spellA p d), (15, satA odd)]⟩) (fun B => B.length ≤ 1000000) ?_ (fun B hB => Tryz.m3a s odd l B raw a b p d t (by omega) hB hG)
    · skip
      repeat' first
        | exact (bbn (by assumption)).elim
        | refine SPB.seq ?_
        | refine SPB.block ?_
        | refine SPB.draw hG Tryz.TT_ok Tryz.keep3 (by kernel_rfl) ?_
        | refine SPB.reg hG Tryz.TT_ok Tryz.keep3 (by kernel_rfl) ?_
        | refine SPB.skip hG Tryz.TT_ok ?_
        | refine SPB.label hG Tryz.TT_ok ?_
        | refine SPB.ret hG Tryz.TT_ok ?_
        | refine SPB.exit hG Tryz.TT_ok ?_
        | refine SPB.condT rfl ?_
        | refine SPB.condF rfl ?_
        | refine SPB.cond rfl (And.intro (fun h => ?_) (fun h => ?_))
        | (conv => whnf
           first
             | refine And.intro (fun h => Bool.noConfusion (h : false = true)) (fun _ => ?_)
             | refine And.intro (fun _ => ?_) (fun h => Bool.noConfusion (h : true = false))
             | refine And.intro (by kernel_rfl) ?_
             | refine Exists.intro _ (And.intro (k39) ?_)
             | refine And.intro (Int.natCast_nonneg kn) (And.intro q.2 ?_)
             | refine Exists.intro _ (And.intro hrow ?_)
             | refine And.intro (fun h => ?_) (fun h => ?_)
             | refine Or.inl ?_
             | fail)
      all_goals
        conv => whnf
        refine Exists.intro (l.set kn load) (And.intro (by rw [List.length_set]; omega) (St.le.of ?_ ?_))
        · refine And.intro (congrArg (fun z => some (AV.sl .no 3 z)) (set_row l kn load)) ?_
          repeat' (first | exact trivial | refine And.intro rfl ?_)
        · repeat' (first | exact trivial | refine And.intro rfl ?_)
end Go.Proofs


namespace Go.Proofs
open Go Go.AI Go.Proofs.YtoccmkmnkoldmaaGreat
set_option maxRecDepth 100000
theorem Tryz.own : ownKnob Tryz.prog.godebug = none := by kernel_rfl
theorem Tryz.laidOut : laidOutB Tryz.prog = true := by kernel_rfl
theorem Tryz.reads3 : (Tryz.prog.readableRec 3 && Nat.blt 3 Tryz.prog.types.size) = true := by kernel_rfl
theorem Tryz.reads22 : (Tryz.prog.readableRec 22 && Nat.blt 22 Tryz.prog.types.size) = true := by kernel_rfl
theorem Tryz.reads23 : (Tryz.prog.readableRec 23 && Nat.blt 23 Tryz.prog.types.size) = true := by kernel_rfl
theorem Tryz.reads24 : (Tryz.prog.readableRec 24 && Nat.blt 24 Tryz.prog.types.size) = true := by kernel_rfl
theorem Tryz.reads28 : (Tryz.prog.readableRec 28 && Nat.blt 28 Tryz.prog.types.size) = true := by kernel_rfl
theorem Tryz.reads30 : (Tryz.prog.readableRec 30 && Nat.blt 30 Tryz.prog.types.size) = true := by kernel_rfl
theorem Tryz.reads32 : (Tryz.prog.readableRec 32 && Nat.blt 32 Tryz.prog.types.size) = true := by kernel_rfl
theorem Tryz.reads33 : (Tryz.prog.readableRec 33 && Nat.blt 33 Tryz.prog.types.size) = true := by kernel_rfl
def seven0 : Value := .agg #[.int .i64 0, .int .i64 0, .int .i64 0, .int .i64 0, .int .i64 0, .int .i64 0, .int .i64 0]
def sevenSh : List Sh := [.int .i64, .int .i64, .int .i64, .int .i64, .int .i64, .int .i64, .int .i64]
def lawSh : List (Bool × List Sh) := [(true, [.int .i64, .int .i64, .int .i64, .int .i64, .int .i64, .int .i64, .int .i64]), (true, [.int .i64, .int .i64, .int .i64, .int .i64]), (false, [.sl [.int .i64, .int .i64, .int .i64]]), (false, [.int .i64]), (false, [.int .i64]), (true, [.int .i64, .int .i64, .int .i64, .int .i64, .int .i64, .int .i64, .int .i64, .int .i64, .int .i64, .int .i64, .int .i64, .int .i64, .int .i64, .int .i64, .int .i64, .int .i64, .int .i64, .int .i64, .int .i64, .int .i64, .int .i64]), (true, [.int .i64, .int .i64, .int .i64]), (false, [.sl [.int .i64, .int .i64, .int .i64]]), (true, [.int .i64, .int .i64]), (false, [.int .i64])]
theorem Tryz.shs : paramSh Tryz.prog 8 [22, 23, 24, 3, 3, 28, 32, 33, 30, 3] = some lawSh := by kernel_rfl
theorem Tryz.lifted (law : ∀ avs, PArgs 8 lawSh avs → ACalls Tryz.prog 3 avs (.bool true)) (os : Os) (started : os.Started) (H : Type) (enc : TypeId × Value → H) :
    ReturnsInHanded {} Tryz.checked os 3 .any (Rows.batteryMatchesReferenceSpec.pre6 enc Tryz.prog Tryz.f3 Rows.batteryMatchesReferenceRow.domain false) (Rows.batteryMatchesReferenceSpec.post enc Tryz.prog Tryz.f3 false true false false) :=
  law_lifted (C := Tryz.checked) (tb := 4) Tryz.own started (by kernel_rfl) Tryz.func3
    (ChangeSpec.witness6 (enc := enc) (C := Tryz.checked) false ⟨#[], #[.agg #[.int .i64 0, .int .i64 0, .int .i64 0, .int .i64 0, .int .i64 0, .int .i64 0, .int .i64 0], .agg #[.int .i64 0, .int .i64 0, .int .i64 0, .int .i64 0], .slice none 0 0, .int .i64 0, .int .i64 0, .agg #[.int .i64 0, .int .i64 0, .int .i64 0, .int .i64 0, .int .i64 0, .int .i64 0, .int .i64 0, .int .i64 0, .int .i64 0, .int .i64 0, .int .i64 0, .int .i64 0, .int .i64 0, .int .i64 0, .int .i64 0, .int .i64 0, .int .i64 0, .int .i64 0, .int .i64 0, .int .i64 0, .int .i64 0], .agg #[.int .i64 0, .int .i64 0, .int .i64 0], .slice none 0 0, .agg #[.int .i64 0, .int .i64 0], .int .i64 0], []⟩ 8 (by kernel_rfl) (by kernel_rfl) (by kernel_rfl) (by kernel_rfl))
    rfl (by kernel_rfl) (by kernel_rfl) (fun ds h => by
      match ds, h with
      | [d0, d1, d2, d3, d4, d5, d6, d7, d8, d9], _ => rfl) Tryz.shs Tryz.laidOut (fun t ht => by
      have e : Tryz.f3.params.toList = [22, 23, 24, 3, 3, 28, 32, 33, 30, 3] := by kernel_rfl
      rw [e] at ht
      simp only [List.mem_cons, List.not_mem_nil, or_false] at ht
      have h3 := Tryz.reads3
      have h22 := Tryz.reads22
      have h23 := Tryz.reads23
      have h24 := Tryz.reads24
      have h28 := Tryz.reads28
      have h30 := Tryz.reads30
      have h32 := Tryz.reads32
      have h33 := Tryz.reads33
      simp only [Bool.and_eq_true] at h3 h22 h23 h24 h28 h30 h32 h33
      rcases ht with h | h | h | h | h | h | h | h | h | h <;> subst h <;> first | exact ⟨h3.1, Nat.le_of_ble_eq_true h3.2⟩ | exact ⟨h22.1, Nat.le_of_ble_eq_true h22.2⟩ | exact ⟨h23.1, Nat.le_of_ble_eq_true h23.2⟩ | exact ⟨h24.1, Nat.le_of_ble_eq_true h24.2⟩ | exact ⟨h28.1, Nat.le_of_ble_eq_true h28.2⟩ | exact ⟨h30.1, Nat.le_of_ble_eq_true h30.2⟩ | exact ⟨h32.1, Nat.le_of_ble_eq_true h32.2⟩ | exact ⟨h33.1, Nat.le_of_ble_eq_true h33.2⟩) law
theorem Tryz.row (law : ∀ avs, PArgs 8 lawSh avs → ACalls Tryz.prog 3 avs (.bool true)) : Rows.BatteryMatchesReferenceSaid :=
  OpenClaim.holds_of_wide (p := Tryz.pinned) (s := Rows.batteryMatchesReferenceSpec) (c := Rows.batteryMatchesReferenceRow) 3 Tryz.f3 rfl rfl rfl rfl rfl rfl rfl ⟨rfl, rfl, rfl, rfl, rfl⟩ rfl rfl rfl rfl rfl (by kernel_rfl) Tryz.func3 (by kernel_rfl)
    (of_decide_eq_true (by kernel_rfl)) (by unfold Func.isWrapper; first | (rw [if_pos (by decide +kernel)]; kernel_rfl) | (rw [if_neg (by decide +kernel)]; exact ⟨rfl, rfl⟩))
    (fun os started H enc _ => Tryz.lifted law os started H enc)
theorem pargs_agg {n : Nat} {L : List Sh} {r : List (Bool × List Sh)} {avs : List AV} (h : PArgs n ((true, L) :: r) avs) : ∃ cs q, avs = .agg cs :: q ∧ Fa (ShOK n) L cs ∧ PArgs n r q := by
  match avs, h with
  | _ :: q, h =>
    obtain ⟨⟨cs, rfl, h1⟩, h2⟩ := h
    exact ⟨cs, q, rfl, h1, h2⟩
  | [], h => exact h.elim
theorem pargs_int {n : Nat} {r : List (Bool × List Sh)} {avs : List AV} (h : PArgs (n + 1) ((false, [.int .i64]) :: r) avs) : ∃ z q, avs = .int .i64 z :: q ∧ inI z ∧ PArgs (n + 1) r q := by
  match avs, h with
  | _ :: q, h =>
    obtain ⟨⟨s, e, h1⟩, h2⟩ := h
    cases e
    obtain ⟨z, rfl, hz⟩ := int_inv h1
    exact ⟨z, q, rfl, hz, h2⟩
  | [], h => exact h.elim
theorem pargs_sl {n : Nat} {e : List Sh} {r : List (Bool × List Sh)} {avs : List AV} (h : PArgs n ((false, [.sl e]) :: r) avs) : ∃ z q, avs = z :: q ∧ ShOK n (.sl e) z ∧ PArgs n r q := by
  match avs, h with
  | _ :: q, h =>
    obtain ⟨⟨s, e, h1⟩, h2⟩ := h
    cases e
    exact ⟨_, q, rfl, h1, h2⟩
  | [], h => exact h.elim
theorem ints_of {n : Nat} : ∀ (k : Nat) {cs : List AV}, Fa (ShOK (n + 1)) (List.replicate k (.int .i64)) cs → ∃ zs : List Int, zs.length = k ∧ cs = zs.map (AV.int .i64)
  | 0, cs, h => ⟨[], rfl, Fa.nil_inv h⟩
  | k + 1, cs, h => by
    obtain ⟨b, q, rfl, h0, h'⟩ := Fa.cons_inv (show Fa (ShOK (n + 1)) (.int .i64 :: List.replicate k (.int .i64)) cs from h)
    obtain ⟨z, rfl, _⟩ := int_inv h0
    obtain ⟨zs, e, rfl⟩ := ints_of k h'
    exact ⟨z :: zs, by rw [List.length_cons, e], rfl⟩
theorem sat_of {n : Nat} {cs : List AV} (h : Fa (ShOK (n + 1)) [.int .i64, .int .i64, .int .i64, .int .i64, .int .i64, .int .i64, .int .i64, .int .i64, .int .i64, .int .i64, .int .i64, .int .i64, .int .i64, .int .i64, .int .i64, .int .i64, .int .i64, .int .i64, .int .i64, .int .i64, .int .i64] cs) : ∃ s : Nat → Int, cs = satA s := by
  obtain ⟨zs, e, rfl⟩ := ints_of 21 (show Fa (ShOK (n + 1)) (List.replicate 21 (.int .i64)) cs from h)
  refine ⟨fun i => zs.getD i 0, ?_⟩
  match zs, e with
  | [z0, z1, z2, z3, z4, z5, z6, z7, z8, z9, z10, z11, z12, z13, z14, z15, z16, z17, z18, z19, z20], _ => rfl
theorem load_of {n : Nat} {cs : List AV} (h : Fa (ShOK (n + 1)) [.int .i64, .int .i64, .int .i64] cs) : ∃ x : Load3, cs = loadA x := by
  obtain ⟨zs, e, rfl⟩ := ints_of 3 (show Fa (ShOK (n + 1)) (List.replicate 3 (.int .i64)) cs from h)
  match zs, e with
  | [a, b, c], _ => exact ⟨⟨a, b, c⟩, rfl⟩
theorem spell_of {n : Nat} {cs : List AV} (h : Fa (ShOK (n + 1)) [.int .i64, .int .i64] cs) : ∃ a b : Int, cs = spellA a b := by
  obtain ⟨zs, e, rfl⟩ := ints_of 2 (show Fa (ShOK (n + 1)) (List.replicate 2 (.int .i64)) cs from h)
  match zs, e with
  | [a, b], _ => exact ⟨a, b, rfl⟩
theorem loads_of {n : Nat} {a : AV} (h : ShOK (n + 2) (.sl [.int .i64, .int .i64, .int .i64]) a) : ∃ l : List Load3, a = loadsA l := by
  obtain ⟨xs, rfl, h2⟩ := h
  suffices hs : ∀ l : List (List AV), (∀ x ∈ l, Fa (ShOK (n + 1)) [.int .i64, .int .i64, .int .i64] x) → ∃ z : List Load3, l = z.map loadA by
    obtain ⟨z, g2⟩ := hs xs h2
    exact ⟨z, congrArg (AV.sl .no 3) g2⟩
  intro l
  induction l with
  | nil => exact fun _ => ⟨[], rfl⟩
  | cons y r ih =>
    intro h
    obtain ⟨z, rfl⟩ := ih (fun x hx => h x (List.mem_cons_of_mem _ hx))
    obtain ⟨x, rfl⟩ := load_of (h y List.mem_cons_self)
    exact ⟨x :: z, rfl⟩
theorem pargs_nil {n : Nat} {avs : List AV} (h : PArgs n [] avs) : avs = [] := by
  match avs, h with
  | [], _ => rfl
  | _ :: _, h => exact h.elim
end Go.Proofs
namespace Go.Proofs.YtoccmkmnkoldmaaGreat
open Go Go.AI
/-- BatteryMatchesReference answers true, whatever the input. -/
theorem batteryMatchesReference : Rows.BatteryMatchesReferenceSaid := Tryz.row fun avs h => by
  obtain ⟨cs, q, rfl, h1, h⟩ := pargs_agg h
  obtain ⟨ds, q, rfl, h2, h⟩ := pargs_agg h
  obtain ⟨z, q, rfl, h3, h⟩ := pargs_sl h
  obtain ⟨z0, q, rfl, i0, h⟩ := pargs_int h
  obtain ⟨z1, q, rfl, i1, h⟩ := pargs_int h
  obtain ⟨es, q, rfl, h4, h⟩ := pargs_agg h
  obtain ⟨fs, q, rfl, h5, h⟩ := pargs_agg h
  obtain ⟨r, q, rfl, h6, h⟩ := pargs_sl h
  obtain ⟨gs, q, rfl, h7, h⟩ := pargs_agg h
  obtain ⟨z2, q, rfl, i2, h⟩ := pargs_int h
  obtain rfl := pargs_nil h
  obtain ⟨x, hx, rfl⟩ := seven_of h1
  obtain ⟨y, hy, rfl⟩ := four_of h2
  obtain ⟨w, hw, rfl⟩ := rows_of h3
  obtain ⟨odd, rfl⟩ := sat_of h4
  obtain ⟨load, rfl⟩ := load_of h5
  obtain ⟨raw, rfl⟩ := loads_of h6
  obtain ⟨p, d, rfl⟩ := spell_of h7
  exact Go.Proofs.Tryz.x3 ⟨x, y, w, z0, z1, hx, hy, hw, i0, i1⟩ odd load raw p d z2 i2
end Go.Proofs.YtoccmkmnkoldmaaGreat


