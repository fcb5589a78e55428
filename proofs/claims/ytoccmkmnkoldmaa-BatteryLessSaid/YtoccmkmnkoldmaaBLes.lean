/- BatteryLess answers true, whatever the input; no condition. -/
import Derived.Test.YtoccmkmnkoldmaaBatC
import Derived.Test.YtoccmkmnkoldmaaRows
set_option linter.unusedSectionVars false
set_option linter.unusedVariables false
set_option linter.unusedSimpArgs false
namespace Go.Proofs
open Go Go.AI
set_option maxRecDepth 10000
set_option linter.unusedSimpArgs false

theorem SPB.cutF {Γ : Base} {s : St} {K : Exit → St → Prop} {c : Code} {X : Type} (l : List Operand) (sh : X → St) (P : X → Prop) (h : SPB Γ s c fun e s' => e = .normal ∧ frzAll s' l fun s2 => ∃ x, P x ∧ s2.le (sh x)) (k : ∀ x, P x → K .normal (sh x)) : SPB Γ s c K := by
  refine ⟨fun a w hI => wpIn_mono (h.out a w hI) ?_⟩
  rintro e a' w' ⟨hN, hF, s', hI', rfl, hfr⟩
  obtain ⟨s2, ⟨x, hx, hle⟩, hI2⟩ := frzAll_spec _ _ hfr hI'
  exact ⟨hN, hF, sh x, hI2.less hle, k x hx⟩
def demV (k : Nat) (s : St) : St := ⟨mapT (AV.dem k) s.t, s.b⟩
theorem demV_inv {Γ : Base} {s : St} {a : Act} {w : World} (k : Nat) (h : Inv Γ s a w) : Inv Γ (demV k s) a w := by
  obtain ⟨⟨cx, hW, ht⟩, h2, h3⟩ := h
  refine ⟨⟨cx, hW, fun d y hy => ?_⟩, h2, h3⟩
  have hy : get (mapT (AV.dem k) s.t) d = some y := hy
  rw [get_mapT] at hy
  obtain ⟨z, hz, rfl⟩ := Option.map_eq_some_iff.1 hy
  exact (ht d z hz).dem k
theorem SPB.demV {Γ : Base} {s : St} {c : Code} {K : Exit → St → Prop} (k : Nat) (h : SPB Γ (demV k s) c K) : SPB Γ s c K := ⟨fun a w hI => h.out a w (demV_inv k hI)⟩
def setS (s : Nat → Int) (i : Nat) (v : Int) : Nat → Int := fun j => match Nat.beq j i with | true => v | false => s j
/-- What becomes easier. -/
inductive WayL (s : Nat → Int) (l : List Load3) (by_ : Int) (kn : Nat) : (Nat → Int) → List Load3 → Prop
  | wsame : WayL s l by_ kn s l
  | wcut (hk : kn < l.length) : WayL s l by_ kn s (l.take kn ++ l.drop (kn + 1))
  | wc : WayL s l by_ kn (setS s 11 (IntKind.i64.wrap (s 11 + pickS by_ 500))) l
  | wu : WayL s l by_ kn (setS s 12 (IntKind.i64.wrap (s 12 + pickS by_ 20))) l
  | wi : WayL s l by_ kn (setS s 13 (IntKind.i64.wrap (s 13 - pickS by_ (IntKind.i64.wrap (s 13 + 1))))) l
  | wh : WayL s l by_ kn (setS s 14 (IntKind.i64.wrap (s 14 - pickS by_ (IntKind.i64.wrap (s 14 + 1))))) l
  | wd : WayL s l by_ kn (setS s 15 (IntKind.i64.wrap (s 15 - pickS by_ (IntKind.i64.wrap (s 15 + 1))))) l
set_option maxHeartbeats 16000000 in
theorem Try.y12 (x y s : Nat → Int) (l : List Load3) (z : List (Int × Int × Int)) (from_ long how by_ a b A0 net wf wt : Int) (kn : Nat) (B n ef et : (Nat → Int) → List Load3 → Int) (hl : l.length ≤ 1000)
    (k35 : ACalls Try.prog 35 [.agg (orbA x), .agg (i4A y), .sl .no 3 (z.map row3A), .int .i64 from_, .int .i64 long] (.tup [.agg (satA s), loadsA l, .agg (spellA a b)]))
    (h13 : IntKind.i64.wrap (s 13 + 1) ≠ 0) (h14 : IntKind.i64.wrap (s 14 + 1) ≠ 0) (h15 : IntKind.i64.wrap (s 15 + 1) ≠ 0)
    (hkn : 0 < l.length → pickS by_ (l.length : Int) = kn ∧ kn < l.length)
    (k38 : ACalls Try.prog 38 [.agg (satA s), loadsA l, .agg (spellA a b)] (.tup [.int .i64 A0, .int .i64 0]))
    (k37 : ACalls Try.prog 37 [.agg (satA s), loadsA l, .agg (spellA a b)] (.tup [.agg (spellA wf wt), .int .i64 net, .int .i64 0]))
    (k38e : ∀ e k, WayL s l by_ kn e k → ACalls Try.prog 38 [.agg (satA e), loadsA k, .agg (spellA a b)] (.tup [.int .i64 (B e k), .int .i64 0]))
    (k37e : ∀ e k, WayL s l by_ kn e k → ACalls Try.prog 37 [.agg (satA e), loadsA k, .agg (spellA a b)] (.tup [.agg (spellA (ef e k) (et e k)), .int .i64 (n e k), .int .i64 0]))
    (f1 : ∀ e k, WayL s l by_ kn e k → (A0 != -1) = false → (B e k == -1) = true)
    (f2 : ∀ e k, WayL s l by_ kn e k → (B e k == -1) = false → decide (B e k ≥ A0) = true)
    (f3 : ∀ e k, WayL s l by_ kn e k → decide (n e k ≤ net) = true) :
    ACalls Try.prog 12 [.agg (orbA x), .agg (i4A y), .sl .no 3 (z.map row3A), .int .i64 from_, .int .i64 long, .int .i64 how, .int .i64 by_] (.bool true) := by
  refine ACalls.ofB Try.TT_ok Try.func12 rfl (by kernel_rfl) Try.mixed (Nat.le_of_ble_eq_true rfl) ?_
  intro F n' w0 m0 hG hro h1
  repeat' first
    | refine SPB.seq ?_
    | refine SPB.block ?_
    | refine SPB.draw hG Try.TT_ok Try.keep12 (by kernel_rfl) ?_
    | refine SPB.reg hG Try.TT_ok Try.keep12 (by kernel_rfl) ?_
    | refine SPB.skip hG Try.TT_ok ?_
    | refine SPB.label hG Try.TT_ok ?_
    | refine SPB.ret hG Try.TT_ok ?_
    | refine SPB.exit hG Try.TT_ok ?_
    | refine SPB.condT rfl ?_
    | refine SPB.condF rfl ?_
    | refine SPB.cond rfl (And.intro (fun h => ?_) (fun h => ?_))
    | (conv => whnf
       first
         | refine And.intro (fun h => Bool.noConfusion (h : false = true)) (fun _ => ?_)
         | refine And.intro (fun _ => ?_) (fun h => Bool.noConfusion (h : true = false))
         | refine And.intro (by kernel_rfl) ?_
         | refine And.intro (fun h => ?_) (fun h => ?_)
         | refine Or.inl ?_
         | fail)
  conv => whnf
  refine Exists.intro _ (And.intro (Try.c34) ?_)
  repeat' first
    | refine SPB.seq ?_
    | refine SPB.block ?_
    | refine SPB.draw hG Try.TT_ok Try.keep12 (by kernel_rfl) ?_
    | refine SPB.reg hG Try.TT_ok Try.keep12 (by kernel_rfl) ?_
    | refine SPB.skip hG Try.TT_ok ?_
    | refine SPB.label hG Try.TT_ok ?_
    | refine SPB.ret hG Try.TT_ok ?_
    | refine SPB.exit hG Try.TT_ok ?_
    | refine SPB.condT rfl ?_
    | refine SPB.condF rfl ?_
    | refine SPB.cond rfl (And.intro (fun h => ?_) (fun h => ?_))
    | (conv => whnf
       first
         | refine And.intro (fun h => Bool.noConfusion (h : false = true)) (fun _ => ?_)
         | refine And.intro (fun _ => ?_) (fun h => Bool.noConfusion (h : true = false))
         | refine And.intro (by kernel_rfl) ?_
         | refine And.intro (fun h => ?_) (fun h => ?_)
         | refine Or.inl ?_
         | fail)
  conv => whnf
  refine Exists.intro _ (And.intro (k35) ?_)

  conv => whnf
  by_cases hl0 : l = []
  · subst hl0
    refine SPB.seq ?_
    refine SPB.reg hG Try.TT_ok Try.keep12 (by kernel_rfl) ?_
    conv => whnf
    refine SPB.seq ?_
    refine SPB.reg hG Try.TT_ok Try.keep12 (by kernel_rfl) ?_
    conv => whnf
    refine Or.inl ?_
    conv => whnf
    refine And.intro (show 0 ≤ 70368744177664 from Nat.zero_le _) (And.intro (show 0 ≤ 4611686018427387904 from Nat.zero_le _) ?_)
    conv => whnf
    refine SPB.seq ?_
    refine SPB.cut (X := Nat → Int) (fun e => ⟨[(19, .sl (.id 46) 3 []), (18, .loc 18 0), (17, .loc 17 0), (16, loadsA []), (15, .loc 15 0)], [(18, satA e), (17, spellA a b), (15, satA s)]⟩) (fun e => WayL s [] by_ kn e []) ?_ (fun e he => ?_)
    · repeat' first
        | refine SPB.seq ?_
        | refine SPB.block ?_
        | refine SPB.draw hG Try.TT_ok Try.keep12 (by kernel_rfl) ?_
        | refine SPB.reg hG Try.TT_ok Try.keep12 (by kernel_rfl) ?_
        | refine SPB.skip hG Try.TT_ok ?_
        | refine SPB.label hG Try.TT_ok ?_
        | refine SPB.ret hG Try.TT_ok ?_
        | refine SPB.exit hG Try.TT_ok ?_
        | refine SPB.condT rfl ?_
        | refine SPB.condF rfl ?_
        | refine SPB.cond rfl (And.intro (fun h => ?_) (fun h => ?_))
        | (conv => whnf
           first
             | refine And.intro (fun h => Bool.noConfusion (h : false = true)) (fun _ => ?_)
             | refine And.intro (fun _ => ?_) (fun h => Bool.noConfusion (h : true = false))
             | refine And.intro (by kernel_rfl) ?_
             | refine Exists.intro _ (And.intro (Try.c39 _ _ h13) ?_)
             | refine Exists.intro _ (And.intro (Try.c39 _ _ h14) ?_)
             | refine Exists.intro _ (And.intro (Try.c39 _ _ h15) ?_)
             | refine Exists.intro _ (And.intro (Try.c39 _ _ (by decide)) ?_)
             | refine And.intro (fun h => ?_) (fun h => ?_)
             | refine Or.inl ?_
             | fail)
      · refine Exists.intro s (And.intro WayL.wsame (St.le.of ?_ ?_))
        · repeat' (first | exact trivial | refine And.intro rfl ?_)
        · repeat' (first | exact trivial | refine And.intro rfl ?_)
      · refine Exists.intro (setS s 11 (IntKind.i64.wrap (s 11 + pickS by_ 500))) (And.intro WayL.wc (St.le.of ?_ ?_))
        · repeat' (first | exact trivial | refine And.intro rfl ?_)
        · repeat' (first | exact trivial | refine And.intro rfl ?_)
      · refine Exists.intro (setS s 12 (IntKind.i64.wrap (s 12 + pickS by_ 20))) (And.intro WayL.wu (St.le.of ?_ ?_))
        · repeat' (first | exact trivial | refine And.intro rfl ?_)
        · repeat' (first | exact trivial | refine And.intro rfl ?_)
      · refine Exists.intro (setS s 13 (IntKind.i64.wrap (s 13 - pickS by_ (IntKind.i64.wrap (s 13 + 1))))) (And.intro WayL.wi (St.le.of ?_ ?_))
        · repeat' (first | exact trivial | refine And.intro rfl ?_)
        · repeat' (first | exact trivial | refine And.intro rfl ?_)
      · refine Exists.intro (setS s 14 (IntKind.i64.wrap (s 14 - pickS by_ (IntKind.i64.wrap (s 14 + 1))))) (And.intro WayL.wh (St.le.of ?_ ?_))
        · repeat' (first | exact trivial | refine And.intro rfl ?_)
        · repeat' (first | exact trivial | refine And.intro rfl ?_)
      · refine Exists.intro (setS s 15 (IntKind.i64.wrap (s 15 - pickS by_ (IntKind.i64.wrap (s 15 + 1))))) (And.intro WayL.wd (St.le.of ?_ ?_))
        · repeat' (first | exact trivial | refine And.intro rfl ?_)
        · repeat' (first | exact trivial | refine And.intro rfl ?_)
      · refine Exists.intro s (And.intro WayL.wsame (St.le.of ?_ ?_))
        · repeat' (first | exact trivial | refine And.intro rfl ?_)
        · repeat' (first | exact trivial | refine And.intro rfl ?_)
    · refine SPB.demV 46 (SPB.le (s' := ⟨[(19, loadsA []), (18, .loc 18 0), (17, .loc 17 0), (16, loadsA [] ), (15, .loc 15 0)], [(18, satA e), (17, spellA a b), (15, satA s)]⟩) (St.le.of ?_ ?_) ?_)
      · repeat' (first | exact trivial | refine And.intro rfl ?_)
      · repeat' (first | exact trivial | refine And.intro rfl ?_)
      · obtain ⟨k, hk⟩ : ∃ k : List Load3, k = [] := ⟨_, rfl⟩
        have hq : WayL s [] by_ kn e k := by rw [hk]; exact he
        rw [show loadsA [] = loadsA k by rw [hk]] at k38 k37 ⊢
        have g38 := k38e e k hq
        have g37 := k37e e k hq
        have bb1 : (A0 != -1) = false → (B e k == -1) = false → False := fun h h2 => tf (f1 e k hq h) h2
        have bb2 : (B e k == -1) = false → decide (B e k ≥ A0) = false → False := fun h h2 => tf (f2 e k hq h) h2
        have bb3 : decide (n e k ≤ net) = false → False := fun h => tf (f3 e k hq) h
        repeat' first
          | refine SPB.seq ?_
          | refine SPB.block ?_
          | refine SPB.draw hG Try.TT_ok Try.keep12 (by kernel_rfl) ?_
          | refine SPB.reg hG Try.TT_ok Try.keep12 (by kernel_rfl) ?_
          | refine SPB.skip hG Try.TT_ok ?_
          | refine SPB.label hG Try.TT_ok ?_
          | refine SPB.ret hG Try.TT_ok ?_
          | refine SPB.exit hG Try.TT_ok ?_
          | refine SPB.condT rfl ?_
          | refine SPB.condF rfl ?_
          | refine SPB.cond rfl (And.intro (fun h => ?_) (fun h => ?_))
          | (conv => whnf
             first
               | refine And.intro (fun h => Bool.noConfusion (h : false = true)) (fun _ => ?_)
               | refine And.intro (fun _ => ?_) (fun h => Bool.noConfusion (h : true = false))
               | refine And.intro (by kernel_rfl) ?_
               | refine And.intro (fun h => ?_) (fun h => ?_)
               | refine Or.inl ?_
               | fail)
        conv => whnf
        refine Exists.intro _ (And.intro (k38) ?_)
        repeat' first
          | refine SPB.seq ?_
          | refine SPB.block ?_
          | refine SPB.draw hG Try.TT_ok Try.keep12 (by kernel_rfl) ?_
          | refine SPB.reg hG Try.TT_ok Try.keep12 (by kernel_rfl) ?_
          | refine SPB.skip hG Try.TT_ok ?_
          | refine SPB.label hG Try.TT_ok ?_
          | refine SPB.ret hG Try.TT_ok ?_
          | refine SPB.exit hG Try.TT_ok ?_
          | refine SPB.condT rfl ?_
          | refine SPB.condF rfl ?_
          | refine SPB.cond rfl (And.intro (fun h => ?_) (fun h => ?_))
          | (conv => whnf
             first
               | refine And.intro (fun h => Bool.noConfusion (h : false = true)) (fun _ => ?_)
               | refine And.intro (fun _ => ?_) (fun h => Bool.noConfusion (h : true = false))
               | refine And.intro (by kernel_rfl) ?_
               | refine And.intro (fun h => ?_) (fun h => ?_)
               | refine Or.inl ?_
               | fail)
        conv => whnf
        refine Exists.intro _ (And.intro (g38) ?_)
        repeat' first
          | refine SPB.seq ?_
          | refine SPB.block ?_
          | refine SPB.draw hG Try.TT_ok Try.keep12 (by kernel_rfl) ?_
          | refine SPB.reg hG Try.TT_ok Try.keep12 (by kernel_rfl) ?_
          | refine SPB.skip hG Try.TT_ok ?_
          | refine SPB.label hG Try.TT_ok ?_
          | refine SPB.ret hG Try.TT_ok ?_
          | refine SPB.exit hG Try.TT_ok ?_
          | refine SPB.condT rfl ?_
          | refine SPB.condF rfl ?_
          | refine SPB.cond rfl (And.intro (fun h => ?_) (fun h => ?_))
          | (conv => whnf
             first
               | refine And.intro (fun h => Bool.noConfusion (h : false = true)) (fun _ => ?_)
               | refine And.intro (fun _ => ?_) (fun h => Bool.noConfusion (h : true = false))
               | refine And.intro (by kernel_rfl) ?_
               | refine And.intro (fun h => ?_) (fun h => ?_)
               | refine Or.inl ?_
               | fail)
        conv => whnf
        refine Exists.intro _ (And.intro (k37) ?_)
        repeat' first
          | refine SPB.seq ?_
          | refine SPB.block ?_
          | refine SPB.draw hG Try.TT_ok Try.keep12 (by kernel_rfl) ?_
          | refine SPB.reg hG Try.TT_ok Try.keep12 (by kernel_rfl) ?_
          | refine SPB.skip hG Try.TT_ok ?_
          | refine SPB.label hG Try.TT_ok ?_
          | refine SPB.ret hG Try.TT_ok ?_
          | refine SPB.exit hG Try.TT_ok ?_
          | refine SPB.condT rfl ?_
          | refine SPB.condF rfl ?_
          | refine SPB.cond rfl (And.intro (fun h => ?_) (fun h => ?_))
          | (conv => whnf
             first
               | refine And.intro (fun h => Bool.noConfusion (h : false = true)) (fun _ => ?_)
               | refine And.intro (fun _ => ?_) (fun h => Bool.noConfusion (h : true = false))
               | refine And.intro (by kernel_rfl) ?_
               | refine And.intro (fun h => ?_) (fun h => ?_)
               | refine Or.inl ?_
               | fail)
        conv => whnf
        refine Exists.intro _ (And.intro (g37) ?_)
        repeat' first
          | exact (bb1 (by assumption) (by assumption)).elim
          | exact (bb2 (by assumption) (by assumption)).elim
          | exact (bb3 (by assumption)).elim
          | refine SPB.seq ?_
          | refine SPB.block ?_
          | refine SPB.draw hG Try.TT_ok Try.keep12 (by kernel_rfl) ?_
          | refine SPB.reg hG Try.TT_ok Try.keep12 (by kernel_rfl) ?_
          | refine SPB.skip hG Try.TT_ok ?_
          | refine SPB.label hG Try.TT_ok ?_
          | refine SPB.ret hG Try.TT_ok ?_
          | refine SPB.exit hG Try.TT_ok ?_
          | refine SPB.condT rfl ?_
          | refine SPB.condF rfl ?_
          | refine SPB.cond rfl (And.intro (fun h => ?_) (fun h => ?_))
          | (conv => whnf
             first
               | refine And.intro (fun h => Bool.noConfusion (h : false = true)) (fun _ => ?_)
               | refine And.intro (fun _ => ?_) (fun h => Bool.noConfusion (h : true = false))
               | refine And.intro (by kernel_rfl) ?_
               | refine And.intro (fun h => ?_) (fun h => ?_)
               | refine Or.inl ?_
               | fail)
        all_goals exact Ends.mk (Or.inl rfl) (AV.weak.of_eq (congrArg AV.bool (by first | rfl | exact f3 e k hq | simp_all)))

  · have hpos : 0 < l.length := by cases l with | nil => exact absurd rfl hl0 | cons _ _ => simp
    have hpos' : 0 < (l.map loadA).length := by rw [List.length_map]; exact hpos
    obtain ⟨hk1, hk2⟩ := hkn hpos
    have k39l := Try.c39 by_ ((l.map loadA).length : Int) (by omega)
    rw [List.length_map, hk1, ← List.length_map (f := loadA)] at k39l
    have bbn : decide (((l.map loadA).length : Int) > 0) = false → False := fun h => by have := of_decide_eq_false h; omega
    have hw : IntKind.i64.wrap ((kn : Int) + 1) = ((kn + 1 : Nat) : Int) := (w64_in (by omega) (by omega)).trans (by omega)
    have hw0 : 0 ≤ IntKind.i64.wrap ((kn : Int) + 1) := by rw [hw]; omega
    have hle1 : (kn : Int).toNat ≤ (l.map loadA).length := by rw [List.length_map]; omega
    have hw1 : (IntKind.i64.wrap ((kn : Int) + 1)).toNat ≤ (l.map loadA).length := by rw [hw, List.length_map]; omega
    have hcut : ((kn : Int).toNat - 0) + ((l.map loadA).length - (IntKind.i64.wrap ((kn : Int) + 1)).toNat) ≤ (l.map loadA).length := by rw [hw, List.length_map]; omega
    have hrow : (l.map loadA).take ((kn : Int).toNat - 0) ++ ((l.map loadA).drop (IntKind.i64.wrap ((kn : Int) + 1)).toNat).take ((l.map loadA).length - (IntKind.i64.wrap ((kn : Int) + 1)).toNat) = (l.take kn ++ l.drop (kn + 1)).map loadA := by
      rw [hw, show (kn : Int).toNat - 0 = kn by omega, Int.toNat_natCast, List.map_append, List.map_take, List.map_drop]
      congr 1
      exact List.take_of_length_le (by simp)
    refine SPB.seq ?_
    refine SPB.reg hG Try.TT_ok Try.keep12 (by kernel_rfl) ?_
    conv => whnf
    refine SPB.seq ?_
    refine SPB.reg hG Try.TT_ok Try.keep12 (by kernel_rfl) ?_
    conv => whnf
    refine Or.inr (And.intro rfl ?_)
    conv => whnf
    refine And.intro hpos' (And.intro (show _ * 24 ≤ 70368744177664 by rw [List.length_map]; omega) (And.intro (show _ ≤ 4611686018427387904 by rw [List.length_map]; omega) ?_))
    conv => whnf
    refine SPB.seq ?_
    refine SPB.cutF [.tmp 19] (X := (Nat → Int) × List Load3) (fun q => ⟨[(19, loadsA q.2), (18, .loc 18 0), (17, .loc 17 0), (16, loadsA l), (15, .loc 15 0)], [(18, satA q.1), (17, spellA a b), (15, satA s)]⟩) (fun q => WayL s l by_ kn q.1 q.2) ?_ (fun q hq => ?_)
    · repeat' first
        | exact (bbn (by assumption)).elim
        | refine SPB.seq ?_
        | refine SPB.block ?_
        | refine SPB.draw hG Try.TT_ok Try.keep12 (by kernel_rfl) ?_
        | refine SPB.reg hG Try.TT_ok Try.keep12 (by kernel_rfl) ?_
        | refine SPB.skip hG Try.TT_ok ?_
        | refine SPB.label hG Try.TT_ok ?_
        | refine SPB.ret hG Try.TT_ok ?_
        | refine SPB.exit hG Try.TT_ok ?_
        | refine SPB.condT rfl ?_
        | refine SPB.condF rfl ?_
        | refine SPB.cond rfl (And.intro (fun h => ?_) (fun h => ?_))
        | (conv => whnf
           first
             | refine And.intro (fun h => Bool.noConfusion (h : false = true)) (fun _ => ?_)
             | refine And.intro (fun _ => ?_) (fun h => Bool.noConfusion (h : true = false))
             | refine And.intro (by kernel_rfl) ?_
             | refine Exists.intro _ (And.intro (k39l) ?_)
             | refine Exists.intro _ (And.intro (Try.c39 _ _ h13) ?_)
             | refine Exists.intro _ (And.intro (Try.c39 _ _ h14) ?_)
             | refine Exists.intro _ (And.intro (Try.c39 _ _ h15) ?_)
             | refine Exists.intro _ (And.intro (Try.c39 _ _ (by decide)) ?_)
             | refine And.intro (Int.natCast_nonneg kn) (And.intro (Nat.zero_le _) (And.intro hle1 ?_))
             | refine And.intro hw0 (And.intro hw1 (And.intro (Nat.le_refl _) ?_))
             | refine And.intro hcut ?_
             | refine And.intro (fun h => ?_) (fun h => ?_)
             | refine Or.inl ?_
             | fail)
      · conv => whnf
        refine Exists.intro (s, l.take kn ++ l.drop (kn + 1)) (And.intro (WayL.wcut hk2) (St.le.of ?_ ?_))
        · refine And.intro (congrArg (fun z => some (AV.sl .no 3 z)) hrow) ?_
          repeat' (first | exact trivial | refine And.intro rfl ?_)
        · repeat' (first | exact trivial | refine And.intro rfl ?_)
      · conv => whnf
        refine Exists.intro ((setS s 11 (IntKind.i64.wrap (s 11 + pickS by_ 500))), l) (And.intro WayL.wc (St.le.of ?_ ?_))
        · repeat' (first | exact trivial | refine And.intro rfl ?_)
        · repeat' (first | exact trivial | refine And.intro rfl ?_)
      · conv => whnf
        refine Exists.intro ((setS s 12 (IntKind.i64.wrap (s 12 + pickS by_ 20))), l) (And.intro WayL.wu (St.le.of ?_ ?_))
        · repeat' (first | exact trivial | refine And.intro rfl ?_)
        · repeat' (first | exact trivial | refine And.intro rfl ?_)
      · conv => whnf
        refine Exists.intro ((setS s 13 (IntKind.i64.wrap (s 13 - pickS by_ (IntKind.i64.wrap (s 13 + 1))))), l) (And.intro WayL.wi (St.le.of ?_ ?_))
        · repeat' (first | exact trivial | refine And.intro rfl ?_)
        · repeat' (first | exact trivial | refine And.intro rfl ?_)
      · conv => whnf
        refine Exists.intro ((setS s 14 (IntKind.i64.wrap (s 14 - pickS by_ (IntKind.i64.wrap (s 14 + 1))))), l) (And.intro WayL.wh (St.le.of ?_ ?_))
        · repeat' (first | exact trivial | refine And.intro rfl ?_)
        · repeat' (first | exact trivial | refine And.intro rfl ?_)
      · conv => whnf
        refine Exists.intro ((setS s 15 (IntKind.i64.wrap (s 15 - pickS by_ (IntKind.i64.wrap (s 15 + 1))))), l) (And.intro WayL.wd (St.le.of ?_ ?_))
        · repeat' (first | exact trivial | refine And.intro rfl ?_)
        · repeat' (first | exact trivial | refine And.intro rfl ?_)
      · conv => whnf
        refine Exists.intro (s, l) (And.intro WayL.wsame (St.le.of ?_ ?_))
        · repeat' (first | exact trivial | refine And.intro rfl ?_)
        · repeat' (first | exact trivial | refine And.intro rfl ?_)
    · obtain ⟨e, k⟩ := q
      have hq : WayL s l by_ kn e k := hq
      have g38 := k38e e k hq
      have g37 := k37e e k hq
      have bb1 : (A0 != -1) = false → (B e k == -1) = false → False := fun h h2 => tf (f1 e k hq h) h2
      have bb2 : (B e k == -1) = false → decide (B e k ≥ A0) = false → False := fun h h2 => tf (f2 e k hq h) h2
      have bb3 : decide (n e k ≤ net) = false → False := fun h => tf (f3 e k hq) h
      repeat' first
        | refine SPB.seq ?_
        | refine SPB.block ?_
        | refine SPB.draw hG Try.TT_ok Try.keep12 (by kernel_rfl) ?_
        | refine SPB.reg hG Try.TT_ok Try.keep12 (by kernel_rfl) ?_
        | refine SPB.skip hG Try.TT_ok ?_
        | refine SPB.label hG Try.TT_ok ?_
        | refine SPB.ret hG Try.TT_ok ?_
        | refine SPB.exit hG Try.TT_ok ?_
        | refine SPB.condT rfl ?_
        | refine SPB.condF rfl ?_
        | refine SPB.cond rfl (And.intro (fun h => ?_) (fun h => ?_))
        | (conv => whnf
           first
             | refine And.intro (fun h => Bool.noConfusion (h : false = true)) (fun _ => ?_)
             | refine And.intro (fun _ => ?_) (fun h => Bool.noConfusion (h : true = false))
             | refine And.intro (by kernel_rfl) ?_
             | refine And.intro (fun h => ?_) (fun h => ?_)
             | refine Or.inl ?_
             | fail)
      conv => whnf
      refine Exists.intro _ (And.intro (k38) ?_)
      repeat' first
        | refine SPB.seq ?_
        | refine SPB.block ?_
        | refine SPB.draw hG Try.TT_ok Try.keep12 (by kernel_rfl) ?_
        | refine SPB.reg hG Try.TT_ok Try.keep12 (by kernel_rfl) ?_
        | refine SPB.skip hG Try.TT_ok ?_
        | refine SPB.label hG Try.TT_ok ?_
        | refine SPB.ret hG Try.TT_ok ?_
        | refine SPB.exit hG Try.TT_ok ?_
        | refine SPB.condT rfl ?_
        | refine SPB.condF rfl ?_
        | refine SPB.cond rfl (And.intro (fun h => ?_) (fun h => ?_))
        | (conv => whnf
           first
             | refine And.intro (fun h => Bool.noConfusion (h : false = true)) (fun _ => ?_)
             | refine And.intro (fun _ => ?_) (fun h => Bool.noConfusion (h : true = false))
             | refine And.intro (by kernel_rfl) ?_
             | refine And.intro (fun h => ?_) (fun h => ?_)
             | refine Or.inl ?_
             | fail)
      conv => whnf
      refine Exists.intro _ (And.intro (g38) ?_)
      repeat' first
        | refine SPB.seq ?_
        | refine SPB.block ?_
        | refine SPB.draw hG Try.TT_ok Try.keep12 (by kernel_rfl) ?_
        | refine SPB.reg hG Try.TT_ok Try.keep12 (by kernel_rfl) ?_
        | refine SPB.skip hG Try.TT_ok ?_
        | refine SPB.label hG Try.TT_ok ?_
        | refine SPB.ret hG Try.TT_ok ?_
        | refine SPB.exit hG Try.TT_ok ?_
        | refine SPB.condT rfl ?_
        | refine SPB.condF rfl ?_
        | refine SPB.cond rfl (And.intro (fun h => ?_) (fun h => ?_))
        | (conv => whnf
           first
             | refine And.intro (fun h => Bool.noConfusion (h : false = true)) (fun _ => ?_)
             | refine And.intro (fun _ => ?_) (fun h => Bool.noConfusion (h : true = false))
             | refine And.intro (by kernel_rfl) ?_
             | refine And.intro (fun h => ?_) (fun h => ?_)
             | refine Or.inl ?_
             | fail)
      conv => whnf
      refine Exists.intro _ (And.intro (k37) ?_)
      repeat' first
        | refine SPB.seq ?_
        | refine SPB.block ?_
        | refine SPB.draw hG Try.TT_ok Try.keep12 (by kernel_rfl) ?_
        | refine SPB.reg hG Try.TT_ok Try.keep12 (by kernel_rfl) ?_
        | refine SPB.skip hG Try.TT_ok ?_
        | refine SPB.label hG Try.TT_ok ?_
        | refine SPB.ret hG Try.TT_ok ?_
        | refine SPB.exit hG Try.TT_ok ?_
        | refine SPB.condT rfl ?_
        | refine SPB.condF rfl ?_
        | refine SPB.cond rfl (And.intro (fun h => ?_) (fun h => ?_))
        | (conv => whnf
           first
             | refine And.intro (fun h => Bool.noConfusion (h : false = true)) (fun _ => ?_)
             | refine And.intro (fun _ => ?_) (fun h => Bool.noConfusion (h : true = false))
             | refine And.intro (by kernel_rfl) ?_
             | refine And.intro (fun h => ?_) (fun h => ?_)
             | refine Or.inl ?_
             | fail)
      conv => whnf
      refine Exists.intro _ (And.intro (g37) ?_)
      repeat' first
        | exact (bb1 (by assumption) (by assumption)).elim
        | exact (bb2 (by assumption) (by assumption)).elim
        | exact (bb3 (by assumption)).elim
        | refine SPB.seq ?_
        | refine SPB.block ?_
        | refine SPB.draw hG Try.TT_ok Try.keep12 (by kernel_rfl) ?_
        | refine SPB.reg hG Try.TT_ok Try.keep12 (by kernel_rfl) ?_
        | refine SPB.skip hG Try.TT_ok ?_
        | refine SPB.label hG Try.TT_ok ?_
        | refine SPB.ret hG Try.TT_ok ?_
        | refine SPB.exit hG Try.TT_ok ?_
        | refine SPB.condT rfl ?_
        | refine SPB.condF rfl ?_
        | refine SPB.cond rfl (And.intro (fun h => ?_) (fun h => ?_))
        | (conv => whnf
           first
             | refine And.intro (fun h => Bool.noConfusion (h : false = true)) (fun _ => ?_)
             | refine And.intro (fun _ => ?_) (fun h => Bool.noConfusion (h : true = false))
             | refine And.intro (by kernel_rfl) ?_
             | refine And.intro (fun h => ?_) (fun h => ?_)
             | refine Or.inl ?_
             | fail)
      all_goals exact Ends.mk (Or.inl rfl) (AV.weak.of_eq (congrArg AV.bool (by first | rfl | exact f3 e k hq | simp_all)))

end Go.Proofs


namespace Go.Proofs
open Go Go.AI
set_option maxRecDepth 10000
set_option linter.unusedSimpArgs false
/-- The loads of a row, some of them left out, still are valid. -/
theorem any_sub {p : Load3 → Bool} {l k : List Load3} (h : ∀ x ∈ k, x ∈ l) (hl : l.any p = false) : k.any p = false := by
  rw [List.any_eq_false] at hl ⊢
  exact fun x hx => hl x (h x hx)
theorem okL_sub : ∀ (l k p q : List Load3), k.Sublist l → (∀ x ∈ q, x ∈ p) → okL p l = true → okL q k = true
  | _, _, _, _, .slnil, _, _ => rfl
  | _, _, p, q, .cons a h, hs, ho => by
    simp only [okL, Bool.and_eq_true] at ho
    exact okL_sub _ _ (p ++ [a]) q h (fun x hx => List.mem_append_left _ (hs x hx)) ho.2
  | _, _, p, q, .cons_cons a h, hs, ho => by
    simp only [okL, loadOK, Bool.and_eq_true, Bool.not_eq_true'] at ho ⊢
    refine ⟨⟨ho.1.1, any_sub hs ho.1.2⟩, okL_sub _ _ (p ++ [a]) (q ++ [a]) h (fun x hx => ?_) ho.2⟩
    rcases List.mem_append.1 hx with hx | hx
    · exact List.mem_append_left _ (hs x hx)
    · exact List.mem_append_right _ hx
theorem cut_sub {α : Type} (l : List α) (k : Nat) : (l.take k ++ l.drop (k + 1)).Sublist l := by
  conv => rhs; rw [← List.take_append_drop k l]
  refine List.Sublist.append (List.Sublist.refl _) ?_
  rw [← List.drop_drop]
  exact List.drop_sublist 1 _
theorem proper_sub {l k : List Load3} (h : k.Sublist l) (hp : properS l = true) : properS k = true := by
  simp only [properS, Bool.and_eq_true, decide_eq_true_eq] at hp ⊢
  exact ⟨Nat.le_trans h.length_le hp.1, okL_sub l k [] [] h (fun x hx => by simp at hx) hp.2⟩
theorem add_sub {s : Nat → Int} (h : Fed s) (t : Int) {l k : List Load3} (hs : k.Sublist l) : addS s t k ≤ addS s t l := by
  induction hs with
  | slnil => exact Int.le_refl _
  | cons a _ ih => have := one_rng h t a; simp only [addS]; omega
  | cons_cons a _ ih => simp only [addS]; omega
theorem one_mono {s e : Nat → Int} (h1 : e 14 ≤ s 14) (h2 : e 15 ≤ s 15) (h3 : 0 ≤ e 14) (h4 : 0 ≤ e 15) (t : Int) (x : Load3) : oneS e t x ≤ oneS s t x := by
  unfold oneS costS
  split
  · split <;> omega
  · omega
theorem add_mono {s e : Nat → Int} (h1 : e 14 ≤ s 14) (h2 : e 15 ≤ s 15) (h3 : 0 ≤ e 14) (h4 : 0 ≤ e 15) (t : Int) : ∀ l : List Load3, addS e t l ≤ addS s t l
  | [] => Int.le_refl _
  | x :: r => by have := add_mono h1 h2 h3 h4 t r; have := one_mono h1 h2 h3 h4 t x; simp only [addS]; omega
/-- What a way changes makes nothing harder. -/
structure Easy (s : Nat → Int) (l : List Load3) (e : Nat → Int) (k : List Load3) : Prop where
  orb : ∀ i, i < 7 → e (i + 2) = s (i + 2)
  sat : satS e = true
  prop : properS k = true
  c : s 11 ≤ e 11
  u : s 12 ≤ e 12
  i : e 13 ≤ s 13
  h : e 14 ≤ s 14
  d : e 15 ≤ s 15
  sub : k.Sublist l
theorem sat_fed {s : Nat → Int} (h : satS s = true) : Fed s := by
  simp only [satS, inS, Bool.and_eq_true, decide_eq_true_eq] at h
  exact ⟨by omega, by omega, by omega, by omega, by omega⟩
theorem inS_sub {n a b : Int} (h : inS n a b = true) : a ≤ n ∧ n ≤ b := by simpa only [inS, Bool.and_eq_true, decide_eq_true_eq] using h
theorem BCase.easy (c : BCase) {by_ : Int} (hb : inI by_) {kn : Nat} {e : Nat → Int} {k : List Load3} (hw : WayL c.s c.l by_ kn e k) : Easy c.s c.l e k := by
  have hs := c.sat
  have hp := c.proper
  have mc := c.mfed.c; have mu := c.mfed.u; have mi := c.mfed.i; have mh := c.mfed.h; have md := c.mfed.d
  have key : ∀ (i : Nat) (v : Int), (i = 11 ∨ i = 12 ∨ i = 13 ∨ i = 14 ∨ i = 15) → inS v (if i = 11 then 1 else 0) (if i = 11 then 1000000 else 10000) = true → satS (setS c.s i v) = true := by
    intro i v hi hv
    have ho : orbS (fun j => setS c.s i v (j + 2)) = orbS (fun j => c.s (j + 2)) := orbS_ext fun j hj => by
      unfold setS
      have : Nat.beq (j + 2) i = false := by
        cases hb : Nat.beq (j + 2) i with
        | false => rfl
        | true => have := Nat.eq_of_beq_eq_true hb; omega
      rw [this]
    simp only [satS, Bool.and_eq_true] at hs ⊢
    rw [ho]
    rcases hi with rfl | rfl | rfl | rfl | rfl
    · exact ⟨⟨⟨hs.1.1.1, ⟨hv, hs.1.1.2.2⟩⟩, hs.1.2⟩, hs.2⟩
    · exact ⟨⟨⟨hs.1.1.1, ⟨hs.1.1.2.1, ⟨hv, hs.1.1.2.2.2⟩⟩⟩, hs.1.2⟩, hs.2⟩
    · exact ⟨⟨⟨hs.1.1.1, ⟨hs.1.1.2.1, ⟨hs.1.1.2.2.1, ⟨hv, hs.1.1.2.2.2.2⟩⟩⟩⟩, hs.1.2⟩, hs.2⟩
    · exact ⟨⟨⟨hs.1.1.1, ⟨hs.1.1.2.1, ⟨hs.1.1.2.2.1, ⟨hs.1.1.2.2.2.1, ⟨hv, hs.1.1.2.2.2.2.2⟩⟩⟩⟩⟩, hs.1.2⟩, hs.2⟩
    · exact ⟨⟨⟨hs.1.1.1, ⟨hs.1.1.2.1, ⟨hs.1.1.2.2.1, ⟨hs.1.1.2.2.2.1, ⟨hs.1.1.2.2.2.2.1, hv⟩⟩⟩⟩⟩, hs.1.2⟩, hs.2⟩
  have horb : ∀ (i : Nat) (v : Int), 11 ≤ i → ∀ j, j < 7 → setS c.s i v (j + 2) = c.s (j + 2) := fun i v hi j hj => by
    unfold setS
    have : Nat.beq (j + 2) i = false := by
      cases hb : Nat.beq (j + 2) i with
      | false => rfl
      | true => have := Nat.eq_of_beq_eq_true hb; omega
    rw [this]
  have q5 := pick_rng hb (n := 500) (by omega)
  have q2 := pick_rng hb (n := 20) (by omega)
  have w13 : IntKind.i64.wrap (c.s 13 + 1) = c.s 13 + 1 := w64_in (by omega) (by omega)
  have w14 : IntKind.i64.wrap (c.s 14 + 1) = c.s 14 + 1 := w64_in (by omega) (by omega)
  have w15 : IntKind.i64.wrap (c.s 15 + 1) = c.s 15 + 1 := w64_in (by omega) (by omega)
  have p13 := pick_rng hb (n := c.s 13 + 1) (by omega)
  have p14 := pick_rng hb (n := c.s 14 + 1) (by omega)
  have p15 := pick_rng hb (n := c.s 15 + 1) (by omega)
  cases hw with
  | wsame => exact ⟨fun _ _ => rfl, hs, hp, Int.le_refl _, Int.le_refl _, Int.le_refl _, Int.le_refl _, Int.le_refl _, List.Sublist.refl _⟩
  | wcut h => exact ⟨fun _ _ => rfl, hs, proper_sub (cut_sub _ _) hp, Int.le_refl _, Int.le_refl _, Int.le_refl _, Int.le_refl _, Int.le_refl _, cut_sub _ _⟩
  | wc =>
    have e : IntKind.i64.wrap (c.s 11 + pickS by_ 500) = c.s 11 + pickS by_ 500 := w64_in (by omega) (by omega)
    rw [e]
    refine ⟨horb 11 _ (by omega), key 11 _ (by omega) (inS_ok ?_), hp, ?_, Int.le_refl _, Int.le_refl _, Int.le_refl _, Int.le_refl _, List.Sublist.refl _⟩
    · rw [if_pos rfl, if_pos rfl]; omega
    · show c.s 11 ≤ c.s 11 + pickS by_ 500; omega
  | wu =>
    have e : IntKind.i64.wrap (c.s 12 + pickS by_ 20) = c.s 12 + pickS by_ 20 := w64_in (by omega) (by omega)
    rw [e]
    refine ⟨horb 12 _ (by omega), key 12 _ (by omega) (inS_ok ?_), hp, Int.le_refl _, ?_, Int.le_refl _, Int.le_refl _, Int.le_refl _, List.Sublist.refl _⟩
    · rw [if_neg (by omega), if_neg (by omega)]; omega
    · show c.s 12 ≤ c.s 12 + pickS by_ 20; omega
  | wi =>
    rw [w13]
    have e : IntKind.i64.wrap (c.s 13 - pickS by_ (c.s 13 + 1)) = c.s 13 - pickS by_ (c.s 13 + 1) := w64_in (by omega) (by omega)
    rw [e]
    refine ⟨horb 13 _ (by omega), key 13 _ (by omega) (inS_ok ?_), hp, Int.le_refl _, Int.le_refl _, ?_, Int.le_refl _, Int.le_refl _, List.Sublist.refl _⟩
    · rw [if_neg (by omega), if_neg (by omega)]; omega
    · show c.s 13 - pickS by_ (c.s 13 + 1) ≤ c.s 13; omega
  | wh =>
    rw [w14]
    have e : IntKind.i64.wrap (c.s 14 - pickS by_ (c.s 14 + 1)) = c.s 14 - pickS by_ (c.s 14 + 1) := w64_in (by omega) (by omega)
    rw [e]
    refine ⟨horb 14 _ (by omega), key 14 _ (by omega) (inS_ok ?_), hp, Int.le_refl _, Int.le_refl _, Int.le_refl _, ?_, Int.le_refl _, List.Sublist.refl _⟩
    · rw [if_neg (by omega), if_neg (by omega)]; omega
    · show c.s 14 - pickS by_ (c.s 14 + 1) ≤ c.s 14; omega
  | wd =>
    rw [w15]
    have e : IntKind.i64.wrap (c.s 15 - pickS by_ (c.s 15 + 1)) = c.s 15 - pickS by_ (c.s 15 + 1) := w64_in (by omega) (by omega)
    rw [e]
    refine ⟨horb 15 _ (by omega), key 15 _ (by omega) (inS_ok ?_), hp, Int.le_refl _, Int.le_refl _, Int.le_refl _, Int.le_refl _, ?_, List.Sublist.refl _⟩
    · rw [if_neg (by omega), if_neg (by omega)]; omega
    · show c.s 15 - pickS by_ (c.s 15 + 1) ≤ c.s 15; omega
theorem cel_ext {o p : Nat → Int} (h : ∀ i, i < 7 → o i = p i) (t : Int) : celW o t = celW p t := by
  simp only [celW, rowW, colW, h 0 (by omega), h 1 (by omega), h 2 (by omega), h 3 (by omega), h 4 (by omega), h 5 (by omega)]
theorem could_ext {o p : Nat → Int} (h : ∀ i, i < 7 → o i = p i) (t : Int) : couldL o t = couldL p t := by
  have hd : delL o t = delL p t := by unfold delL; rw [h 6 (by omega)]
  have hk : ∀ l : List Int, keysOf o l = keysOf p l := fun l => by
    unfold keysOf
    congr 1
    funext a b
    rw [cel_ext h]
  unfold couldL
  rw [hd, hk]
theorem lit_ext {o p : Nat → Int} (h : ∀ i, i < 7 → o i = p i) (t : Int) : litS o t = litS p t := by
  unfold litS
  rw [could_ext h]
  congr 1
  simp only [atS, orbS_ext h]
/-- The nets of what is easier are nowhere greater. -/
theorem Easy.net {s : Nat → Int} {l : List Load3} {e : Nat → Int} {k : List Load3} (h : Easy s l e k) (hs : satS s = true) (hl : l.length ≤ 80) (t : Int) : netS e k t ≤ netS s l t ∧ -1000000 ≤ netS e k t ∧ netS e k t ≤ 1000000 := by
  have he := sat_fed h.sat
  have hf := sat_fed hs
  have h1 := net_eq he t k (litS (orbO e) t) (Nat.le_trans h.sub.length_le hl)
  have h2 := net_eq hf t l (litS (orbO s) t) hl
  have e1 : netS e k t = netP e k (litS (orbO e) t) t := h1.1
  have e2 : netS s l t = netP s l (litS (orbO s) t) t := h2.1
  have hlit : litS (orbO e) t = litS (orbO s) t := lit_ext h.orb t
  have a1 := add_mono h.h h.d he.h.1 he.d.1 t k
  have a2 := add_sub hf t h.sub
  have := h.i
  have := h.u
  rw [e1, e2, hlit]
  refine ⟨?_, by rw [← hlit]; omega, by rw [← hlit]; omega⟩
  unfold netP
  cases litS (orbO s) t
  · simp only [Bool.false_eq_true, if_false]; omega
  · simp only [if_true]; omega
theorem levs {s : Nat → Int} {l : List Load3} {a : Int} {N : Nat} (hc : 0 ≤ s 11 ∧ s 11 ≤ 10000000) (hf : ∀ i : Nat, -1000000 ≤ netS s l (a + (i : Int)) ∧ netS s l (a + (i : Int)) ≤ 1000000) (hN : N ≤ 10000) :
    (levRun (s 11) (netsL s l a (a + (N : Int)))).2 = (List.range N).map fun i => levF (s 11) (fun i : Nat => netS s l (a + (i : Int))) (i + 1) := by
  have e := netsL_eq s l a 0 N (Nat.zero_le _)
  rw [show a + ((0 : Nat) : Int) = a by omega] at e
  rw [e, show (fun k => netS s l (a + ((0 + k : Nat) : Int))) = (fun k : Nat => netS s l (a + (k : Int))) from by funext k; rw [Nat.zero_add], Nat.sub_zero, lev_ok hc hf _ _ hN]
theorem nets0 (s : Nat → Int) (l : List Load3) (a : Int) (N : Nat) : netsL s l a (a + (N : Int)) = pairsF a (fun i : Nat => netS s l (a + (i : Int))) N := by
  have e := netsL_eq s l a 0 N (Nat.zero_le _)
  rw [show a + ((0 : Nat) : Int) = a by omega] at e
  rw [e, show (fun k => netS s l (a + ((0 + k : Nat) : Int))) = (fun k : Nat => netS s l (a + (k : Int))) from by funext k; rw [Nat.zero_add], Nat.sub_zero]
/-- The first place of a row whose elements are less comes no later. -/
theorem idx_le {p : Int → Bool} (hp : ∀ x y, x ≤ y → p y = true → p x = true) : ∀ (L K : List Int) (k : Nat), L.length = K.length → (∀ i, L.getD i 0 ≤ K.getD i 0) → idxF p K k = -1 ∨ (idxF p L k ≠ -1 ∧ idxF p L k ≤ idxF p K k)
  | [], [], _, _, _ => Or.inl rfl
  | [], _ :: _, _, h, _ => by simp at h
  | _ :: _, [], _, h, _ => by simp at h
  | x :: L, y :: K, k, h, hle => by
    have h0 : x ≤ y := hle 0
    simp only [idxF]
    by_cases hy : p y = true
    · rw [if_pos hy, if_pos (hp x y h0 hy)]; exact Or.inr ⟨by omega, Int.le_refl _⟩
    · rw [if_neg hy]
      have ih := idx_le hp L K (k + 1) (by simpa using h) (fun i => hle (i + 1))
      rcases idx_spec (p := p) K (k + 1) with ⟨g1, _⟩ | ⟨g1, _, _⟩
      · exact Or.inl g1
      · by_cases hx : p x = true
        · rw [if_pos hx]; exact Or.inr ⟨by omega, by omega⟩
        · rw [if_neg hx]; exact ih
theorem Try.x12 (c : BCase) (how by_ : Int) (_hh : inI how) (hb : inI by_) : ACalls Try.prog 12 [.agg (orbA c.x), .agg (i4A c.y), .sl .no 3 (c.z.map row3A), .int .i64 c.from_, .int .i64 c.long, .int .i64 how, .int .i64 by_] (.bool true) := by
  have hr := c.rng
  have hN : 1 ≤ c.N ∧ c.N ≤ 200 := by unfold BCase.N; omega
  have hbN := c.bN
  have hl10 := c.len
  have hlen : c.l.length ≤ 1000000 := by omega
  have mc := c.mfed.c; have mi := c.mfed.i; have mh := c.mfed.h; have md := c.mfed.d
  have w13 : IntKind.i64.wrap (c.s 13 + 1) = c.s 13 + 1 := w64_in (by omega) (by omega)
  have w14 : IntKind.i64.wrap (c.s 14 + 1) = c.s 14 + 1 := w64_in (by omega) (by omega)
  have w15 : IntKind.i64.wrap (c.s 15 + 1) = c.s 15 + 1 := w64_in (by omega) (by omega)
  have hv := c.valid (a := c.a) (b := c.b) (by omega) (by omega) (by omega) (by omega)
  have hve : ∀ {e k kn}, WayL c.s c.l by_ kn e k → validS e k c.a c.b = true := fun h => by
    have he := c.easy hb h
    simp only [validS, Bool.and_eq_true] at hv ⊢
    exact ⟨⟨hv.1.1, he.prop⟩, he.sat⟩
  have hsame : ∀ kn, WayL c.s c.l by_ kn c.s c.l := fun kn => WayL.wsame
  have hfe : ∀ {e k kn}, WayL c.s c.l by_ kn e k → ∀ i : Nat, netS e k (c.a + (i : Int)) ≤ netS c.s c.l (c.a + (i : Int)) ∧ -1000000 ≤ netS e k (c.a + (i : Int)) ∧ netS e k (c.a + (i : Int)) ≤ 1000000 := fun h i => (c.easy hb h).net c.sat (by omega) _
  have hke : ∀ {e k kn}, WayL c.s c.l by_ kn e k → k.length ≤ 1000000 := fun h => by have := (c.easy hb h).sub.length_le; omega
  -- levels of a way
  have hlv : ∀ {e k kn}, WayL c.s c.l by_ kn e k → (levRun (e 11) (netsL e k c.a c.b)).2 = (List.range c.N).map fun i => levF (e 11) (fun i : Nat => netS e k (c.a + (i : Int))) (i + 1) := fun {e k kn} h => by
    rw [hbN]
    have := (sat_fed (c.easy hb h).sat).c
    exact levs (by omega) (fun i => (hfe h i).2) (by omega)
  have hemp : ∀ {e k kn}, WayL c.s c.l by_ kn e k → (emptyS e k c.a c.b = -1 ∨ (emptyS c.s c.l c.a c.b ≠ -1 ∧ emptyS c.s c.l c.a c.b ≤ emptyS e k c.a c.b)) := fun {e k kn} h => by
    have he := c.easy hb h
    have i1 := idx_le (p := fun n => decide (n < 0)) (fun x y hxy hy => decide_eq_true (by have := of_decide_eq_true hy; omega)) (levRun (c.s 11) (netsL c.s c.l c.a c.b)).2 (levRun (e 11) (netsL e k c.a c.b)).2 0
      (by rw [levRun_len, levRun_len, nets_len, nets_len]) (fun i => by
        rw [hlv h, hlv (hsame 0)]
        by_cases hi : i < c.N
        · rw [List.getD_eq_getElem?_getD, List.getD_eq_getElem?_getD, List.getElem?_map, List.getElem?_map, List.getElem?_range hi]
          exact levF_mono he.c (fun m => (hfe h m).1) (i + 1)
        · rw [List.getD_eq_getElem?_getD, List.getD_eq_getElem?_getD, List.getElem?_eq_none (by simp; omega), List.getElem?_eq_none (by simp; omega)]; exact Int.le_refl _)
    have hb2 := idx_spec (p := fun n => decide (n < 0)) (levRun (c.s 11) (netsL c.s c.l c.a c.b)).2 0
    have hb3 := idx_spec (p := fun n => decide (n < 0)) (levRun (e 11) (netsL e k c.a c.b)).2 0
    rw [levRun_len, nets_len] at hb2 hb3
    have hnn : ((c.b - c.a).toNat : Int) = (c.N : Int) := by omega
    unfold emptyS
    generalize idxF (fun n => decide (n < 0)) (levRun (c.s 11) (netsL c.s c.l c.a c.b)).2 0 = j1 at i1 hb2
    generalize idxF (fun n => decide (n < 0)) (levRun (e 11) (netsL e k c.a c.b)).2 0 = j2 at i1 hb3
    rcases i1 with rfl | ⟨g1, g2⟩
    · exact Or.inl rfl
    · refine Or.inr ?_
      have h1 : 0 ≤ j1 ∧ j1 < (c.N : Int) := by
        rcases hb2 with ⟨h, _⟩ | ⟨h, h', _⟩
        · exact absurd h g1
        · omega
      have h2 : 0 ≤ j2 ∧ j2 < (c.N : Int) := by
        rcases hb3 with ⟨h, _⟩ | ⟨h, h', _⟩
        · omega
        · omega
      simp only [if_pos h1.1, if_pos h2.1]
      rw [w64_in (by omega) (by omega), w64_in (by omega) (by omega)]
      omega
  have hworst : ∀ {e k kn}, WayL c.s c.l by_ kn e k → (worstRun (netsL e k c.a c.b)).fn ≤ (worstRun (netsL c.s c.l c.a c.b)).fn := fun {e k kn} h => by
    rw [hbN, nets0, nets0]
    obtain ⟨i0, j0, e0, k1⟩ := kad (fun i => (hfe h i).2) (a := c.a) (by omega) c.N hN.1 (by omega)
    obtain ⟨i0', j0', e0', k2⟩ := kad (fun i => (hfe (hsame 0) i).2) (a := c.a) (by omega) c.N hN.1 (by omega)
    have hi := k1.hi
    have g := (k2.all i0 j0 k1.hi k1.hj).1
    have := psum_diff i0 j0 (by omega) (fun m => (hfe h m).1)
    rw [k1.fn]
    omega
  refine Try.y12 c.x c.y c.s c.l c.z c.from_ c.long how by_ c.a c.b (emptyS c.s c.l c.a c.b) _ _ _ (pickS by_ (c.l.length : Int)).toNat (fun e k => emptyS e k c.a c.b) (fun e k => (worstRun (netsL e k c.a c.b)).fn) (fun e k => (worstRun (netsL e k c.a c.b)).ff) (fun e k => (worstRun (netsL e k c.a c.b)).ft) (by omega) (Try.c35 c) (by rw [w13]; omega) (by rw [w14]; omega) (by rw [w15]; omega) (fun h => ?_)
    (Try.c38 c.s c.l c.a c.b hlen hv) (Try.c37 c.s c.l c.a c.b hlen hv) (fun e k h => Try.c38 e k c.a c.b (hke h) (hve h)) (fun e k h => Try.c37 e k c.a c.b (hke h) (hve h)) (fun e k h h1 => ?_) (fun e k h h1 => ?_) (fun e k h => decide_eq_true (hworst h))
  · have := pick_rng hb (n := (c.l.length : Int)) (by omega)
    omega
  · have h1 : emptyS c.s c.l c.a c.b = -1 := by simpa using h1
    rcases hemp h with g | g
    · simpa using g
    · exact absurd h1 g.1
  · rcases hemp h with g | g
    · rw [g] at h1; simp at h1
    · exact decide_eq_true g.2
end Go.Proofs


namespace Go.Proofs
open Go Go.AI Go.Proofs.Ytoccmkmnkoldmaa
set_option maxRecDepth 100000
theorem Try.own : ownKnob Try.prog.godebug = none := by kernel_rfl
theorem Try.laidOut : laidOutB Try.prog = true := by kernel_rfl
theorem Try.reads22 : (Try.prog.readableRec 22 && Nat.blt 22 Try.prog.types.size) = true := by kernel_rfl
theorem Try.reads54 : (Try.prog.readableRec 54 && Nat.blt 54 Try.prog.types.size) = true := by kernel_rfl
theorem Try.reads55 : (Try.prog.readableRec 55 && Nat.blt 55 Try.prog.types.size) = true := by kernel_rfl
theorem Try.reads3 : (Try.prog.readableRec 3 && Nat.blt 3 Try.prog.types.size) = true := by kernel_rfl
def seven0 : Value := .agg #[.int .i64 0, .int .i64 0, .int .i64 0, .int .i64 0, .int .i64 0, .int .i64 0, .int .i64 0]
def sevenSh : List Sh := [.int .i64, .int .i64, .int .i64, .int .i64, .int .i64, .int .i64, .int .i64]
def lawSh : List (Bool × List Sh) := [(true, sevenSh), (true, [.int .i64, .int .i64, .int .i64, .int .i64]), (false, [.sl [.int .i64, .int .i64, .int .i64]]), (false, [.int .i64]), (false, [.int .i64]), (false, [.int .i64]), (false, [.int .i64])]
theorem Try.shs : paramSh Try.prog 8 [22, 54, 55, 3, 3, 3, 3] = some lawSh := by kernel_rfl
theorem Try.lifted (law : ∀ avs, PArgs 8 lawSh avs → ACalls Try.prog 12 avs (.bool true)) (os : Os) (started : os.Started) (H : Type) (enc : TypeId × Value → H) :
    ReturnsInHanded {} Try.checked os 12 .any (Rows.batteryLessSpec.pre6 enc Try.prog Try.f12 Rows.batteryLessRow.domain false) (Rows.batteryLessSpec.post enc Try.prog Try.f12 false true false false) :=
  law_lifted (C := Try.checked) (tb := 4) Try.own started (by kernel_rfl) Try.func12
    (ChangeSpec.witness6 (enc := enc) (C := Try.checked) false ⟨#[], #[seven0, .agg #[.int .i64 0, .int .i64 0, .int .i64 0, .int .i64 0], .slice none 0 0, .int .i64 0, .int .i64 0, .int .i64 0, .int .i64 0], []⟩ 8 (by kernel_rfl) (by kernel_rfl) (by kernel_rfl) (by kernel_rfl))
    rfl (by kernel_rfl) (by kernel_rfl) (fun ds h => by
      match ds, h with
      | [d, da, db, d0, d1, d2, d3], _ => rfl) Try.shs Try.laidOut (fun t ht => by
      have e : Try.f12.params.toList = [22, 54, 55, 3, 3, 3, 3] := by kernel_rfl
      rw [e] at ht
      simp only [List.mem_cons, List.not_mem_nil, or_false] at ht
      have h22 := Try.reads22
      have h3 := Try.reads3
      have h54 := Try.reads54
      have h55 := Try.reads55
      simp only [Bool.and_eq_true] at h22 h3 h54 h55
      have g : t = 22 ∨ t = 54 ∨ t = 55 ∨ t = 3 := by rcases ht with h | h | h | h | h | h | h <;> first | exact .inl h | exact .inr (.inl h) | exact .inr (.inr (.inl h)) | exact .inr (.inr (.inr h))
      rcases g with rfl | rfl | rfl | rfl
      · exact ⟨h22.1, Nat.le_of_ble_eq_true h22.2⟩
      · exact ⟨h54.1, Nat.le_of_ble_eq_true h54.2⟩
      · exact ⟨h55.1, Nat.le_of_ble_eq_true h55.2⟩
      · exact ⟨h3.1, Nat.le_of_ble_eq_true h3.2⟩) law
theorem Try.row (law : ∀ avs, PArgs 8 lawSh avs → ACalls Try.prog 12 avs (.bool true)) : Rows.BatteryLessSaid :=
  OpenClaim.holds_of_wide (p := Try.pinned) (s := Rows.batteryLessSpec) (c := Rows.batteryLessRow) 12 Try.f12 rfl rfl rfl rfl rfl rfl rfl ⟨rfl, rfl, rfl, rfl, rfl⟩ rfl rfl rfl rfl rfl (by kernel_rfl) Try.func12 (by kernel_rfl)
    (of_decide_eq_true (by kernel_rfl)) (by unfold Func.isWrapper; first | (rw [if_pos (by decide +kernel)]; kernel_rfl) | (rw [if_neg (by decide +kernel)]; exact ⟨rfl, rfl⟩))
    (fun os started H enc _ => Try.lifted law os started H enc)
theorem pargs_agg {n : Nat} {L : List Sh} {r : List (Bool × List Sh)} {avs : List AV} (h : PArgs n ((true, L) :: r) avs) : ∃ cs q, avs = .agg cs :: q ∧ Fa (ShOK n) L cs ∧ PArgs n r q := by
  match avs, h with
  | _ :: q, h =>
    obtain ⟨⟨cs, rfl, h1⟩, h2⟩ := h
    exact ⟨cs, q, rfl, h1, h2⟩
  | [], h => exact h.elim
theorem pargs_int {n : Nat} {r : List (Bool × List Sh)} {avs : List AV} (h : PArgs (n + 1) ((false, [.int .i64]) :: r) avs) : ∃ z q, avs = .int .i64 z :: q ∧ inI z ∧ PArgs (n + 1) r q := by
  match avs, h with
  | _ :: q, h =>
    obtain ⟨⟨s, e, h1⟩, h2⟩ := h
    cases e
    obtain ⟨z, rfl, hz⟩ := int_inv h1
    exact ⟨z, q, rfl, hz, h2⟩
  | [], h => exact h.elim
theorem pargs_sl {n : Nat} {e : List Sh} {r : List (Bool × List Sh)} {avs : List AV} (h : PArgs n ((false, [.sl e]) :: r) avs) : ∃ z q, avs = z :: q ∧ ShOK n (.sl e) z ∧ PArgs n r q := by
  match avs, h with
  | _ :: q, h =>
    obtain ⟨⟨s, e, h1⟩, h2⟩ := h
    cases e
    exact ⟨_, q, rfl, h1, h2⟩
  | [], h => exact h.elim
theorem pargs_nil {n : Nat} {avs : List AV} (h : PArgs n [] avs) : avs = [] := by
  match avs, h with
  | [], _ => rfl
  | _ :: _, h => exact h.elim
end Go.Proofs
namespace Go.Proofs.Ytoccmkmnkoldmaa
open Go Go.AI
/-- BatteryLess answers true, whatever the input. -/
theorem batteryLess : Rows.BatteryLessSaid := Try.row fun avs h => by
  obtain ⟨cs, q, rfl, h1, h⟩ := pargs_agg h
  obtain ⟨ds, q, rfl, h2, h⟩ := pargs_agg h
  obtain ⟨z, q, rfl, h3, h⟩ := pargs_sl h
  obtain ⟨z0, q, rfl, i0, h⟩ := pargs_int h
  obtain ⟨z1, q, rfl, i1, h⟩ := pargs_int h
  obtain ⟨z2, q, rfl, i2, h⟩ := pargs_int h
  obtain ⟨z3, q, rfl, i3, h⟩ := pargs_int h
  obtain rfl := pargs_nil h
  obtain ⟨x, hx, rfl⟩ := seven_of h1
  obtain ⟨y, hy, rfl⟩ := four_of h2
  obtain ⟨w, hw, rfl⟩ := rows_of h3
  exact Go.Proofs.Try.x12 ⟨x, y, w, z0, z1, hx, hy, hw, i0, i1⟩ z2 z3 i2 i3
end Go.Proofs.Ytoccmkmnkoldmaa


