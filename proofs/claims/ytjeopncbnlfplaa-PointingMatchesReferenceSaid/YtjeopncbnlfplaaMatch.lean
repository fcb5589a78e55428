/- The law PointingMatchesReference. -/
import Derived.Test.YtjeopncbnlfplaaRefB
import Derived.Test.YtjeopncbnlfplaaRows
set_option linter.unusedSectionVars false
set_option linter.unusedVariables false
set_option linter.unusedSimpArgs false
namespace Go.Proofs
open Go Go.AI
set_option maxRecDepth 10000
set_option linter.unusedSimpArgs false

theorem setAt_map {α β : Type} (f : α → β) : ∀ (l : List α) (n : Nat) (v : α), setAt (l.map f) n (f v) = (setAt l n v).map f
  | [], _, _ => rfl
  | _ :: _, 0, _ => rfl
  | x :: r, n + 1, v => by simp only [List.map_cons, setAt, setAt_map f r n v]
theorem SPB.demT {Γ : Base} {s : St} {c : Code} {K : Exit → St → Prop} (k : Nat) (h : SPB Γ ⟨mapT (AV.dem k) s.t, s.b⟩ c K) : SPB Γ s c K := by
  refine ⟨fun a w hI => h.out a w ?_⟩
  obtain ⟨⟨cx, hW, ht⟩, h2, h3⟩ := hI
  refine ⟨⟨cx, hW, fun d y hy => ?_⟩, h2, h3⟩
  have hy : get (mapT (AV.dem k) s.t) d = some y := hy
  rw [get_mapT] at hy
  obtain ⟨z, hz, rfl⟩ := Option.map_eq_some_iff.1 hy
  exact (ht d z hz).dem k
set_option maxHeartbeats 8000000 in
theorem Try.x3 (c : Case) (hc : c.ok) (odd : Nat → Int) (raw : List Aim3) (wh w1 w2 mi lo : Int) (hwh : inI wh) (hw : inI w1 ∧ inI w2) :
    ACalls Try.prog 3 [.agg c.A, .agg (satA odd), aimsA raw, .int .i64 wh, .agg (spellA w1 w2), .int .i64 mi, .int .i64 lo] (.bool true) := by
  have hr := Case.rng hc
  have hlen := c.len
  have k12 := Try.c12 c hc
  have hab : 0 ≤ c.a ∧ c.a < c.b ∧ c.b ≤ 1000000 := by omega
  generalize c.s = s at *
  generalize c.a = a at *
  generalize c.b = b at *
  generalize c.l = L at *
  have hmr : ((raw.map aimA).length : Int) = raw.length := by rw [List.length_map]
  have hF : (raw.take (min ((raw.map aimA).length : Int) 5).toNat).length ≤ 1000000 := by rw [List.length_take]; omega
  have eF : aimsA (raw.take (min ((raw.map aimA).length : Int) 5).toNat) = .sl .no 3 (((raw.map aimA).take (min ((raw.map aimA).length : Int) 5).toNat).drop 0) := by unfold aimsA; rw [List.drop_zero, List.map_take]
  have h5 : 0 ≤ min ((raw.map aimA).length : Int) 5 := by omega
  have h6 : (min ((raw.map aimA).length : Int) 5).toNat ≤ (raw.map aimA).length := by omega
  refine ACalls.ofB Try.TT_ok Try.func3 rfl (by kernel_rfl) Try.mixed (Nat.le_of_ble_eq_true rfl) ?_
  intro F n' w0 m0 hG hro h1
  repeat' first
    | refine SPB.seq ?_
    | refine SPB.block ?_
    | refine SPB.draw hG Try.TT_ok Try.keep3 (by kernel_rfl) ?_
    | refine SPB.reg hG Try.TT_ok Try.keep3 (by kernel_rfl) ?_
    | refine SPB.skip hG Try.TT_ok ?_
    | refine SPB.label hG Try.TT_ok ?_
    | refine SPB.ret hG Try.TT_ok ?_
    | refine SPB.exit hG Try.TT_ok ?_
    | refine SPB.condT rfl ?_
    | refine SPB.condF rfl ?_
    | refine SPB.cond rfl (And.intro (fun h => ?_) (fun h => ?_))
    | (conv => whnf
       first
         | refine And.intro (fun h => Bool.noConfusion (h : false = true)) (fun _ => ?_)
         | refine And.intro (fun _ => ?_) (fun h => Bool.noConfusion (h : true = false))
         | refine And.intro (by kernel_rfl) ?_
         | refine And.intro (fun h => ?_) (fun h => ?_)
         | refine Or.inl ?_
         | fail)
  conv => whnf
  refine Exists.intro _ (And.intro (Try.c11) ?_)
  repeat' first
    | refine SPB.seq ?_
    | refine SPB.block ?_
    | refine SPB.draw hG Try.TT_ok Try.keep3 (by kernel_rfl) ?_
    | refine SPB.reg hG Try.TT_ok Try.keep3 (by kernel_rfl) ?_
    | refine SPB.skip hG Try.TT_ok ?_
    | refine SPB.label hG Try.TT_ok ?_
    | refine SPB.ret hG Try.TT_ok ?_
    | refine SPB.exit hG Try.TT_ok ?_
    | refine SPB.condT rfl ?_
    | refine SPB.condF rfl ?_
    | refine SPB.cond rfl (And.intro (fun h => ?_) (fun h => ?_))
    | (conv => whnf
       first
         | refine And.intro (fun h => Bool.noConfusion (h : false = true)) (fun _ => ?_)
         | refine And.intro (fun _ => ?_) (fun h => Bool.noConfusion (h : true = false))
         | refine And.intro (by kernel_rfl) ?_
         | refine And.intro (fun h => ?_) (fun h => ?_)
         | refine Or.inl ?_
         | fail)
  conv => whnf
  refine Exists.intro _ (And.intro (k12) ?_)
  rcases L with _ | ⟨x0, l0⟩
  · refine SPB.seq ?_
    refine SPB.reg hG Try.TT_ok Try.keep3 (by kernel_rfl) ?_
    conv => whnf
    refine Or.inl ?_
    conv => whnf
    refine And.intro (show _ * 24 ≤ 70368744177664 by simp) (And.intro (show _ + _ ≤ 4611686018427387904 by simp) ?_)
    refine SPB.seq ?_
    refine SPB.reg hG Try.TT_ok Try.keep3 (by kernel_rfl) ?_
    conv => whnf
    refine And.intro h5 (And.intro (Nat.zero_le _) (And.intro h6 ?_))
    refine SPB.seq ?_
    refine SPB.cut (X := Unit) (fun _ => ⟨[(18, .sl (.id 60) 3 []), (16, aimsA []), (19, aimsA (raw.take (min ((raw.map aimA).length : Int) 5).toNat)), (5, .int .i64 mi), (6, .int .i64 lo), (15, .loc 15 0), (8, .loc 8 0), (17, .loc 17 0), (11, .loc 11 0)], m3B s odd a b w1 w2⟩) (fun _ => True) ?_ (fun _ _ => SPB.demT 60 (SPB.le (St.le.of ?_ ?_) (Try.m3 s odd [] [] (raw.take (min ((raw.map aimA).length : Int) 5).toNat) a b w1 w2 mi lo (by simp) (by simp) hF hab hw hG)))
    repeat' first
      | refine SPB.seq ?_
      | refine SPB.block ?_
      | refine SPB.draw hG Try.TT_ok Try.keep3 (by kernel_rfl) ?_
      | refine SPB.reg hG Try.TT_ok Try.keep3 (by kernel_rfl) ?_
      | refine SPB.skip hG Try.TT_ok ?_
      | refine SPB.label hG Try.TT_ok ?_
      | refine SPB.ret hG Try.TT_ok ?_
      | refine SPB.exit hG Try.TT_ok ?_
      | refine SPB.condT rfl ?_
      | refine SPB.condF rfl ?_
      | refine SPB.cond rfl (And.intro (fun h => ?_) (fun h => ?_))
      | (conv => whnf
         first
           | refine And.intro (fun h => Bool.noConfusion (h : false = true)) (fun _ => ?_)
           | refine And.intro (fun _ => ?_) (fun h => Bool.noConfusion (h : true = false))
           | refine And.intro (by kernel_rfl) ?_
           | refine And.intro (fun h => ?_) (fun h => ?_)
           | refine Or.inl ?_
           | fail)
    refine Exists.intro () (And.intro trivial (St.le.of ?_ ?_))
    · refine And.intro rfl (And.intro rfl (And.intro (congrArg some eF.symm) ?_))
      repeat' (first | exact trivial | refine And.intro rfl ?_)
    · repeat' (first | exact trivial | refine And.intro rfl ?_)
    · repeat' (first | exact trivial | refine And.intro rfl ?_)
    · repeat' (first | exact trivial | refine And.intro rfl ?_)
  · have hL0 : 0 < ((x0 :: l0).map aimA).length := by simp
    have hL1 : ((x0 :: l0).map aimA).length = (x0 :: l0).length := by rw [List.length_map]
    have kwh := Try.c13 wh (((x0 :: l0).map aimA).length : Int) (by omega)
    have pwh := pick_rng hwh (n := (((x0 :: l0).map aimA).length : Int)) (by omega)
    refine SPB.seq ?_
    refine SPB.reg hG Try.TT_ok Try.keep3 (by kernel_rfl) ?_
    conv => whnf
    refine Or.inr (And.intro rfl ?_)
    conv => whnf
    refine And.intro hL0 (And.intro (show _ * 24 ≤ 70368744177664 by simp at hlen ⊢; omega) (And.intro (show _ ≤ 4611686018427387904 by simp at hlen ⊢; omega) ?_))
    generalize hLL : x0 :: l0 = L at *
    refine SPB.seq ?_
    refine SPB.reg hG Try.TT_ok Try.keep3 (by kernel_rfl) ?_
    conv => whnf
    refine And.intro h5 (And.intro (Nat.zero_le _) (And.intro h6 ?_))
    refine SPB.seq ?_
    generalize hFL : raw.take (min ((raw.map aimA).length : Int) 5).toNat = F at *
    refine SPB.cut (X := List Aim3) (fun B => ⟨[(18, .me .sl 60 (L.map aimA).length []), (xk 60, .me .arr 60 3 (B.map aimA)), (16, aimsA L), (19, aimsA F), (5, .int .i64 mi), (6, .int .i64 lo), (15, .loc 15 0), (8, .loc 8 0), (17, .loc 17 0), (11, .loc 11 0)], m3B s odd a b w1 w2⟩) (fun B => B.length ≤ 1000000) ?_ (fun B hB => ?_)
    · have hF0 : decide (((((raw.map aimA).take (min ((raw.map aimA).length : Int) 5).toNat).drop 0).length : Int) > 0) = true → (0 : Int) ≤ 0 ∧ (((raw.map aimA).take (min ((raw.map aimA).length : Int) 5).toNat).drop 0)[(0 : Int).toNat]? = some (aimA (aimAt F 0)) := fun h => by
        have e : ((raw.map aimA).take (min ((raw.map aimA).length : Int) 5).toNat).drop 0 = F.map aimA := by rw [← hFL, List.drop_zero, List.map_take]
        rw [e] at h ⊢
        exact hx_at (i := 0) (by have := of_decide_eq_true h; rw [List.length_map] at this; omega) rfl
      have hidx := hx_at (l := L) (i := (pickS wh ((L.map aimA).length : Int)).toNat) (z := pickS wh ((L.map aimA).length : Int)) (by omega) (by omega)
      repeat' first
        | refine SPB.seq ?_
        | refine SPB.block ?_
        | refine SPB.draw hG Try.TT_ok Try.keep3 (by kernel_rfl) ?_
        | refine SPB.reg hG Try.TT_ok Try.keep3 (by kernel_rfl) ?_
        | refine SPB.skip hG Try.TT_ok ?_
        | refine SPB.label hG Try.TT_ok ?_
        | refine SPB.ret hG Try.TT_ok ?_
        | refine SPB.exit hG Try.TT_ok ?_
        | refine SPB.condT rfl ?_
        | refine SPB.condF rfl ?_
        | refine SPB.cond rfl (And.intro (fun h => ?_) (fun h => ?_))
        | (conv => whnf
           first
             | refine And.intro (fun h => Bool.noConfusion (h : false = true)) (fun _ => ?_)
             | refine And.intro (fun _ => ?_) (fun h => Bool.noConfusion (h : true = false))
             | refine And.intro (by kernel_rfl) ?_
             | refine And.intro (hF0 (by assumption)).1 (Exists.intro _ (And.intro (hF0 (by assumption)).2 ?_))
             | refine And.intro pwh.1 (And.intro pwh.2 ?_)
             | refine Exists.intro _ (And.intro hidx.2 ?_)
             | refine Exists.intro _ (And.intro (kwh) ?_)
             | refine And.intro (fun h => ?_) (fun h => ?_)
             | refine Or.inl ?_
             | fail)
      · refine Exists.intro (setAt L (pickS wh ((L.map aimA).length : Int)).toNat (aimAt F 0)) (And.intro (show _ ≤ _ by rw [setAt_len]; omega) (St.le.of ?_ ?_))
        · refine And.intro rfl (And.intro (congrArg (fun z => some (AV.me .arr 60 3 z)) (setAt_map aimA _ _ _)) (And.intro rfl (And.intro (congrArg some eF.symm) ?_)))
          repeat' (first | exact trivial | refine And.intro rfl ?_)
        · repeat' (first | exact trivial | refine And.intro rfl ?_)
      · refine Exists.intro L (And.intro (show _ ≤ _ by omega) (St.le.of ?_ ?_))
        · refine And.intro rfl (And.intro rfl (And.intro rfl (And.intro (congrArg some eF.symm) ?_)))
          repeat' (first | exact trivial | refine And.intro rfl ?_)
        · repeat' (first | exact trivial | refine And.intro rfl ?_)
      · refine Exists.intro L (And.intro (show _ ≤ _ by omega) (St.le.of ?_ ?_))
        · refine And.intro rfl (And.intro rfl (And.intro rfl (And.intro (congrArg some eF.symm) ?_)))
          repeat' (first | exact trivial | refine And.intro rfl ?_)
        · repeat' (first | exact trivial | refine And.intro rfl ?_)
    · refine SPB.frz [.tmp 18] ?_
      conv => whnf
      refine SPB.le (St.le.of ?_ ?_) (Try.m3 s odd L B F a b w1 w2 mi lo (by omega) hB hF hab hw hG)
      · repeat' (first | exact trivial | refine And.intro rfl ?_)
      · repeat' (first | exact trivial | refine And.intro rfl ?_)
end Go.Proofs


namespace Go.Proofs
open Go Go.AI Go.Proofs.Ytjeopncbnlfplaa
set_option maxRecDepth 100000
theorem Try.own : ownKnob Try.prog.godebug = none := by kernel_rfl
theorem Try.laidOut : laidOutB Try.prog = true := by kernel_rfl
theorem Try.reads26 : (Try.prog.readableRec 26 && Nat.blt 26 Try.prog.types.size) = true := by kernel_rfl
theorem Try.reads30 : (Try.prog.readableRec 30 && Nat.blt 30 Try.prog.types.size) = true := by kernel_rfl
theorem Try.reads31 : (Try.prog.readableRec 31 && Nat.blt 31 Try.prog.types.size) = true := by kernel_rfl
theorem Try.reads3 : (Try.prog.readableRec 3 && Nat.blt 3 Try.prog.types.size) = true := by kernel_rfl
theorem Try.reads33 : (Try.prog.readableRec 33 && Nat.blt 33 Try.prog.types.size) = true := by kernel_rfl
def case0 : Value := .agg #[.int .i64 0, .int .i64 0, .int .i64 0, .int .i64 0, .int .i64 0, .int .i64 0, .int .i64 0, .int .i64 0, .int .i64 0, .int .i64 0, .int .i64 0, .int .i64 0, .slice none 0 0]
def sat0 : Value := .agg #[.int .i64 0, .int .i64 0, .int .i64 0, .int .i64 0, .int .i64 0, .int .i64 0, .int .i64 0, .int .i64 0, .int .i64 0, .int .i64 0, .int .i64 0, .int .i64 0, .int .i64 0, .int .i64 0, .int .i64 0, .int .i64 0, .int .i64 0, .int .i64 0, .int .i64 0, .int .i64 0, .int .i64 0]
def satSh : List Sh := [.int .i64, .int .i64, .int .i64, .int .i64, .int .i64, .int .i64, .int .i64, .int .i64, .int .i64, .int .i64, .int .i64, .int .i64, .int .i64, .int .i64, .int .i64, .int .i64, .int .i64, .int .i64, .int .i64, .int .i64, .int .i64]
def lawSh : List (Bool × List Sh) := [(true, caseSh), (true, satSh), (false, [.sl [.int .i64, .int .i64, .int .i64]]), (false, [.int .i64]), (true, [.int .i64, .int .i64]), (false, [.int .i64]), (false, [.int .i64])]
theorem Try.shs : paramSh Try.prog 8 [26, 30, 31, 3, 33, 3, 3] = some lawSh := by kernel_rfl
theorem Try.lifted (law : ∀ avs, PArgs 8 lawSh avs → ACalls Try.prog 3 avs (.bool true)) (os : Os) (started : os.Started) (H : Type) (enc : TypeId × Value → H) :
    ReturnsInHanded {} Try.checked os 3 .any (Rows.pointingMatchesReferenceSpec.pre6 enc Try.prog Try.f3 Rows.pointingMatchesReferenceRow.domain false) (Rows.pointingMatchesReferenceSpec.post enc Try.prog Try.f3 false true false false) :=
  law_lifted (C := Try.checked) (tb := 4) Try.own started (by kernel_rfl) Try.func3
    (ChangeSpec.witness6 (enc := enc) (C := Try.checked) false ⟨#[], #[case0, sat0, .slice none 0 0, .int .i64 0, .agg #[.int .i64 0, .int .i64 0], .int .i64 0, .int .i64 0], []⟩ 8 (by kernel_rfl) (by kernel_rfl) (by kernel_rfl) (by kernel_rfl))
    rfl (by kernel_rfl) (by kernel_rfl) (fun ds h => by
      match ds, h with
      | [d, d0, d1, d2, d3, d4, d5], _ => rfl) Try.shs Try.laidOut (fun t ht => by
      have e : Try.f3.params.toList = [26, 30, 31, 3, 33, 3, 3] := by kernel_rfl
      rw [e] at ht
      simp only [List.mem_cons, List.not_mem_nil, or_false] at ht
      have h26 := Try.reads26
      have h30 := Try.reads30
      have h31 := Try.reads31
      have h3 := Try.reads3
      have h33 := Try.reads33
      simp only [Bool.and_eq_true] at h26 h30 h31 h3 h33
      rcases ht with h | h | h | h | h | h | h <;> subst h
      · exact ⟨h26.1, Nat.le_of_ble_eq_true h26.2⟩
      · exact ⟨h30.1, Nat.le_of_ble_eq_true h30.2⟩
      · exact ⟨h31.1, Nat.le_of_ble_eq_true h31.2⟩
      · exact ⟨h3.1, Nat.le_of_ble_eq_true h3.2⟩
      · exact ⟨h33.1, Nat.le_of_ble_eq_true h33.2⟩
      · exact ⟨h3.1, Nat.le_of_ble_eq_true h3.2⟩
      · exact ⟨h3.1, Nat.le_of_ble_eq_true h3.2⟩) law
theorem Try.row (law : ∀ avs, PArgs 8 lawSh avs → ACalls Try.prog 3 avs (.bool true)) : Rows.PointingMatchesReferenceSaid :=
  OpenClaim.holds_of_wide (p := Try.pinned) (s := Rows.pointingMatchesReferenceSpec) (c := Rows.pointingMatchesReferenceRow) 3 Try.f3 rfl rfl rfl rfl rfl rfl rfl ⟨rfl, rfl, rfl, rfl, rfl⟩ rfl rfl rfl rfl rfl (by kernel_rfl) Try.func3 (by kernel_rfl)
    (of_decide_eq_true (by kernel_rfl)) (by unfold Func.isWrapper; first | (rw [if_pos (by decide +kernel)]; kernel_rfl) | (rw [if_neg (by decide +kernel)]; exact ⟨rfl, rfl⟩))
    (fun os started H enc _ => Try.lifted law os started H enc)
theorem pargs_agg {n : Nat} {L : List Sh} {r : List (Bool × List Sh)} {avs : List AV} (h : PArgs n ((true, L) :: r) avs) : ∃ cs q, avs = .agg cs :: q ∧ Fa (ShOK n) L cs ∧ PArgs n r q := by
  match avs, h with
  | _ :: q, h =>
    obtain ⟨⟨cs, rfl, h1⟩, h2⟩ := h
    exact ⟨cs, q, rfl, h1, h2⟩
  | [], h => exact h.elim
theorem pargs_int {n : Nat} {r : List (Bool × List Sh)} {avs : List AV} (h : PArgs (n + 1) ((false, [.int .i64]) :: r) avs) : ∃ z q, avs = .int .i64 z :: q ∧ inI z ∧ PArgs (n + 1) r q := by
  match avs, h with
  | _ :: q, h =>
    obtain ⟨⟨s, e, h1⟩, h2⟩ := h
    cases e
    obtain ⟨z, rfl, hz⟩ := int_inv h1
    exact ⟨z, q, rfl, hz, h2⟩
  | [], h => exact h.elim
theorem pargs_rows {r : List (Bool × List Sh)} {avs : List AV} (h : PArgs 8 ((false, [.sl [.int .i64, .int .i64, .int .i64]]) :: r) avs) : ∃ rows q, avs = aimsA rows :: q ∧ PArgs 8 r q := by
  match avs, h with
  | _ :: q, h =>
    obtain ⟨⟨s, e, h1⟩, h2⟩ := h
    cases e
    obtain ⟨xs, rfl, hx⟩ := h1
    obtain ⟨rows, rfl, hr⟩ := rows_inv xs hx
    exact ⟨rows, q, rfl, h2⟩
  | [], h => exact h.elim
theorem pargs_nil {n : Nat} {avs : List AV} (h : PArgs n [] avs) : avs = [] := by
  match avs, h with
  | [], _ => rfl
  | _ :: _, h => exact h.elim
/-- The second argument is a satellite. -/
theorem sat_of {cs : List AV} (h : Fa (ShOK 8) satSh cs) : ∃ s : Nat → Int, cs = satA s := by
  unfold satSh at h
  obtain ⟨a0, q, rfl, h0, h⟩ := Fa.cons_inv h
  obtain ⟨a1, q, rfl, h1, h⟩ := Fa.cons_inv h
  obtain ⟨a2, q, rfl, h2, h⟩ := Fa.cons_inv h
  obtain ⟨a3, q, rfl, h3, h⟩ := Fa.cons_inv h
  obtain ⟨a4, q, rfl, h4, h⟩ := Fa.cons_inv h
  obtain ⟨a5, q, rfl, h5, h⟩ := Fa.cons_inv h
  obtain ⟨a6, q, rfl, h6, h⟩ := Fa.cons_inv h
  obtain ⟨a7, q, rfl, h7, h⟩ := Fa.cons_inv h
  obtain ⟨a8, q, rfl, h8, h⟩ := Fa.cons_inv h
  obtain ⟨a9, q, rfl, h9, h⟩ := Fa.cons_inv h
  obtain ⟨a10, q, rfl, h10, h⟩ := Fa.cons_inv h
  obtain ⟨a11, q, rfl, h11, h⟩ := Fa.cons_inv h
  obtain ⟨a12, q, rfl, h12, h⟩ := Fa.cons_inv h
  obtain ⟨a13, q, rfl, h13, h⟩ := Fa.cons_inv h
  obtain ⟨a14, q, rfl, h14, h⟩ := Fa.cons_inv h
  obtain ⟨a15, q, rfl, h15, h⟩ := Fa.cons_inv h
  obtain ⟨a16, q, rfl, h16, h⟩ := Fa.cons_inv h
  obtain ⟨a17, q, rfl, h17, h⟩ := Fa.cons_inv h
  obtain ⟨a18, q, rfl, h18, h⟩ := Fa.cons_inv h
  obtain ⟨a19, q, rfl, h19, h⟩ := Fa.cons_inv h
  obtain ⟨a20, q, rfl, h20, h⟩ := Fa.cons_inv h
  obtain rfl := Fa.nil_inv h
  obtain ⟨z0, rfl, i0⟩ := int_inv h0
  obtain ⟨z1, rfl, i1⟩ := int_inv h1
  obtain ⟨z2, rfl, i2⟩ := int_inv h2
  obtain ⟨z3, rfl, i3⟩ := int_inv h3
  obtain ⟨z4, rfl, i4⟩ := int_inv h4
  obtain ⟨z5, rfl, i5⟩ := int_inv h5
  obtain ⟨z6, rfl, i6⟩ := int_inv h6
  obtain ⟨z7, rfl, i7⟩ := int_inv h7
  obtain ⟨z8, rfl, i8⟩ := int_inv h8
  obtain ⟨z9, rfl, i9⟩ := int_inv h9
  obtain ⟨z10, rfl, i10⟩ := int_inv h10
  obtain ⟨z11, rfl, i11⟩ := int_inv h11
  obtain ⟨z12, rfl, i12⟩ := int_inv h12
  obtain ⟨z13, rfl, i13⟩ := int_inv h13
  obtain ⟨z14, rfl, i14⟩ := int_inv h14
  obtain ⟨z15, rfl, i15⟩ := int_inv h15
  obtain ⟨z16, rfl, i16⟩ := int_inv h16
  obtain ⟨z17, rfl, i17⟩ := int_inv h17
  obtain ⟨z18, rfl, i18⟩ := int_inv h18
  obtain ⟨z19, rfl, i19⟩ := int_inv h19
  obtain ⟨z20, rfl, i20⟩ := int_inv h20
  exact ⟨fun i => match i with | 0 => z0 | 1 => z1 | 2 => z2 | 3 => z3 | 4 => z4 | 5 => z5 | 6 => z6 | 7 => z7 | 8 => z8 | 9 => z9 | 10 => z10 | 11 => z11 | 12 => z12 | 13 => z13 | 14 => z14 | 15 => z15 | 16 => z16 | 17 => z17 | 18 => z18 | 19 => z19 | _ => z20, rfl⟩
/-- A spell is two ints. -/
theorem spell_of {cs : List AV} (h : Fa (ShOK 8) [.int .i64, .int .i64] cs) : ∃ a b : Int, cs = spellA a b ∧ inI a ∧ inI b := by
  obtain ⟨a0, q, rfl, h0, h⟩ := Fa.cons_inv h
  obtain ⟨a1, q, rfl, h1, h⟩ := Fa.cons_inv h
  obtain rfl := Fa.nil_inv h
  obtain ⟨z0, rfl, i0⟩ := int_inv h0
  obtain ⟨z1, rfl, i1⟩ := int_inv h1
  exact ⟨z0, z1, rfl, i0, i1⟩
end Go.Proofs
namespace Go.Proofs.Ytjeopncbnlfplaa
open Go Go.AI
/-- PointingMatchesReference answers true, whatever the input. -/
theorem pointingMatchesReference : Rows.PointingMatchesReferenceSaid := Try.row fun avs h => by
  obtain ⟨cs, q, rfl, h1, h⟩ := pargs_agg h
  obtain ⟨ss, q, rfl, h2, h⟩ := pargs_agg h
  obtain ⟨raw, q, rfl, h'⟩ := pargs_rows h
  obtain ⟨wh, q, rfl, hwh, h⟩ := pargs_int h'
  obtain ⟨ws, q, rfl, h3, h⟩ := pargs_agg h
  obtain ⟨mi, q, rfl, hmi, h⟩ := pargs_int h
  obtain ⟨lo, q, rfl, hlo, h⟩ := pargs_int h
  obtain rfl := pargs_nil h
  obtain ⟨c, hc, rfl⟩ := case_of h1
  obtain ⟨odd, rfl⟩ := sat_of h2
  obtain ⟨w1, w2, rfl, i1, i2⟩ := spell_of h3
  exact Go.Proofs.Try.x3 c hc odd raw wh w1 w2 mi lo hwh ⟨i1, i2⟩
end Go.Proofs.Ytjeopncbnlfplaa


