/- The statement PointingParts: for every input the law answers true and the input reads as it did. No condition. -/
import Derived.Test.YtjeopncbnlfplaaConB
import Derived.Test.YtjeopncbnlfplaaRows
set_option linter.unusedSectionVars false
set_option linter.unusedVariables false
set_option linter.unusedSimpArgs false
namespace Go.Proofs
open Go Go.AI
set_option maxRecDepth 10000
structure HotOK (s : Nat → Int) (l : List Aim3) : Prop where
  w0 : 0 ≤ s 16
  w1 : s 16 ≤ 10000
  c0 : 0 ≤ s 17
  c1 : s 17 ≤ 10000
  ln : l.length ≤ 64
theorem inS_inv {n a b : Int} (h : inS n a b = true) : a ≤ n ∧ n ≤ b := by simpa [inS] using h
theorem HotOK.of {s : Nat → Int} {l : List Aim3} (h : valS s l = true) : HotOK s l := by
  simp only [valS, areS, satS, Bool.and_eq_true, decide_eq_true_eq] at h
  obtain ⟨⟨_, hl⟩, ⟨⟨⟨_, _⟩, hw, hc, _⟩, _⟩⟩ := h
  have := inS_inv hw; have := inS_inv hc
  constructor <;> omega
/-- How many exposures a minute is in. -/
def cnt (t : Int) (l : List Aim3) : Nat := (l.filter (hit t)).length
theorem cnt_le (t : Int) (l : List Aim3) : cnt t l ≤ l.length := List.length_filter_le _ _
def gS (s : Nat → Int) (l : List Aim3) (t : Int) : Int := gainS (s 16) (s 17) t l
theorem mul_rng {w : Int} {n : Nat} (h0 : 0 ≤ w) (h1 : w ≤ 10000) (hn : n ≤ 64) : 0 ≤ w * n ∧ w * n ≤ 640000 :=
  ⟨Int.mul_nonneg h0 (by omega), Int.le_trans (Int.mul_le_mul h1 (show (n : Int) ≤ 64 by omega) (by omega) (by omega)) (by omega)⟩
/-- The gain of a minute, in plain numbers. -/
theorem gS_eq {s : Nat → Int} {l : List Aim3} (h : HotOK s l) (t : Int) : gS s l t = s 16 * cnt t l - s 17 := by
  obtain ⟨w0, w1, c0, c1, ln⟩ := h
  have key : ∀ i : Nat, i ≤ l.length → gainS (s 16) (s 17) t (l.take i) = s 16 * cnt t (l.take i) - s 17 := by
    intro i
    induction i with
    | zero => intro _; simp [gainS, cnt]; exact (w64_in (by omega) (by omega)).trans (by omega)
    | succ i ih =>
      intro hi
      have hi2 : i < l.length := hi
      rw [take_snoc hi2, gainS_snoc, ih (by omega)]
      have hc := cnt_le t (l.take i)
      rw [List.length_take] at hc
      have hm := mul_rng w0 w1 (n := cnt t (l.take i)) (by omega)
      have e : cnt t (l.take i ++ [l[i]]) = cnt t (l.take i) + if hit t l[i] then 1 else 0 := by
        unfold cnt; rw [List.filter_append, List.length_append]; congr 1
        simp only [List.filter_cons, List.filter_nil]; split <;> rfl
      rw [e]
      split
      · rw [w64_in (by omega) (by omega)]; rw [Int.natCast_add, Int.mul_add]; simp; omega
      · simp
  have := key l.length (Nat.le_refl _)
  rwa [List.take_length] at this
theorem gS_rng {s : Nat → Int} {l : List Aim3} (h : HotOK s l) (t : Int) : -10000 ≤ gS s l t ∧ gS s l t ≤ 640000 := by
  rw [gS_eq h]
  obtain ⟨w0, w1, c0, c1, ln⟩ := h
  have := mul_rng w0 w1 (n := cnt t l) (by have := cnt_le t l; omega)
  omega
/-- The heat after so many minutes. -/
def hv (g : Int → Int) (a : Int) : Nat → Int
  | 0 => 0
  | n + 1 => max 0 (hv g a n + g (a + n))
theorem hv_rng {g : Int → Int} (hg : ∀ t, -10000 ≤ g t ∧ g t ≤ 640000) (a : Int) : ∀ n : Nat, 0 ≤ hv g a n ∧ hv g a n ≤ 640000 * (n : Int)
  | 0 => by simp [hv]
  | n + 1 => by
    have h1 := hv_rng hg a n
    have h2 := hg (a + n)
    simp only [hv]
    omega
theorem heat_run {s : Nat → Int} {l : List Aim3} (h : HotOK s l) (a : Int) : ∀ n : Nat, n ≤ 3000 →
    heatRun ((List.range n).map fun (i : Nat) => (a + i, gainS (s 16) (s 17) (a + (i : Int)) l)) = (hv (gS s l) a n, (List.range n).map fun i => hv (gS s l) a (i + 1))
  | 0, _ => rfl
  | n + 1, hn => by
    have ih := heat_run h a n (by omega)
    have h1 := hv_rng (gS_rng h) a n
    have h2 := gS_rng h (a + n)
    rw [List.range_succ, List.map_append, List.map_cons, List.map_nil, heatRun_snoc, ih]
    have e : max 0 (w64 (hv (gS s l) a n + gainS (s 16) (s 17) (a + (n : Int)) l)) = hv (gS s l) a (n + 1) := by
      rw [w64_in (by unfold gS at h2; omega) (by unfold gS at h2; omega)]; rfl
    simp [e]
theorem heats_eq {s : Nat → Int} {l : List Aim3} (h : HotOK s l) {a b : Int} (hab : b - a ≤ 3000) : heatsL s l a b = (List.range (b - a).toNat).map fun i => hv (gS s l) a (i + 1) := by
  unfold heatsL gainsL
  rw [heat_run h a _ (by omega)]
/-- Heats of a span that begins later are no greater. -/
theorem hv_late (g : Int → Int) (a : Int) (d : Nat) : ∀ n : Nat, hv g (a + d) n ≤ hv g a (d + n) ∧ 0 ≤ hv g a (d + n)
  | 0 => by
    have : 0 ≤ hv g a (d + 0) := by cases d with | zero => simp [hv] | succ d => simp only [Nat.add_zero, hv]; omega
    exact ⟨by simpa [hv] using this, this⟩
  | n + 1 => by
    have ih := hv_late g a d n
    have e1 : hv g a (d + (n + 1)) = max 0 (hv g a (d + n) + g (a + ((d + n : Nat) : Int))) := rfl
    have e2 : hv g (a + d) (n + 1) = max 0 (hv g (a + d) n + g (a + (d : Int) + n)) := rfl
    have e : a + (d : Int) + n = a + ((d + n : Nat) : Int) := by omega
    rw [e1, e2, e]
    omega
end Go.Proofs


namespace Go.Proofs
open Go Go.AI
set_option maxRecDepth 10000
set_option linter.unusedSimpArgs false

def Case.se (c : Case) (e : Int) : Int := w64 (w64 (c.a + 1) + pickS e (w64 (c.b - c.a)))
def Case.lf (c : Case) (e : Int) : Int := w64 (c.a + pickS e (w64 (c.b - c.a)))
theorem Case.rng {c : Case} (h : c.ok) : 0 ≤ c.a ∧ c.a + 10 ≤ c.b ∧ c.b ≤ c.a + 193 ∧ c.b ≤ 900189 ∧ w64 (c.b - c.a) = c.b - c.a := by
  have ht := Case.ht h
  have := Case.ab h
  have e : w64 (c.b - c.a) = c.b - c.a := w64_in (by omega) (by omega)
  omega
theorem Case.se_eq {c : Case} (h : c.ok) {e : Int} (he : inI e) : c.se e = c.a + 1 + pickS e (c.b - c.a) ∧ 0 ≤ pickS e (c.b - c.a) ∧ pickS e (c.b - c.a) < c.b - c.a := by
  have hr := Case.rng h
  have p := pick_rng he (n := c.b - c.a) (by omega)
  refine ⟨?_, p⟩
  unfold Case.se
  rw [hr.2.2.2.2, w64_in (n := c.a + 1) (by omega) (by omega), w64_in (by omega) (by omega)]
theorem Case.lf_eq {c : Case} (h : c.ok) {e : Int} (he : inI e) : c.lf e = c.a + pickS e (c.b - c.a) ∧ 0 ≤ pickS e (c.b - c.a) ∧ pickS e (c.b - c.a) < c.b - c.a := by
  have hr := Case.rng h
  have p := pick_rng he (n := c.b - c.a) (by omega)
  refine ⟨?_, p⟩
  unfold Case.lf
  rw [hr.2.2.2.2, w64_in (by omega) (by omega)]
theorem span_of {a b : Int} (h1 : 0 ≤ a) (h2 : a < b) (h3 : b ≤ 1000000) (h4 : b - a ≤ 3000) : spanS a b = true := by
  simp only [spanS, Bool.and_eq_true, decide_eq_true_eq]
  rw [w64_in (by omega) (by omega)]
  omega
theorem hL_at {l : List Int} {i : Nat} {z : Int} (h : i < l.length) (hz : z = i) : 0 ≤ z ∧ (l.map fun h => [AV.int .i64 h])[z.toNat]? = some [AV.int .i64 (l.getD i 0)] := by
  subst hz
  exact ⟨by omega, by simp [List.getElem?_eq_getElem h]⟩
theorem getD_range {f : Nat → Int} {n i : Nat} (h : i < n) : ((List.range n).map f).getD i 0 = f i := by simp [List.getElem?_map, List.getElem?_range h]
set_option maxHeartbeats 8000000 in
theorem Try.x10 (c : Case) (hc : c.ok) (en bg : Int) (he : inI en) (hb : inI bg) : ACalls Try.prog 10 [.agg c.A, .int .i64 en, .int .i64 bg] (.bool true) := by
  have hr := Case.rng hc
  have hlen := c.len
  have hval := Case.val hc
  have hH := HotOK.of hval
  have se := Case.se_eq hc he
  have lf := Case.lf_eq hc hb
  have hne : w64 (c.b - c.a) ≠ 0 := by rw [hr.2.2.2.2]; omega
  have kA := Try.c20 c.s c.l c.a c.b (by omega) (Case.span hc) hval
  have kS := Try.c20 c.s c.l c.a (c.se en) (by omega) (span_of (by omega) (by omega) (by omega) (by omega)) hval
  have kL := Try.c20 c.s c.l (c.lf bg) c.b (by omega) (span_of (by omega) (by omega) (by omega) (by omega)) hval
  have lA := heatsL_len c.s c.l c.a c.b
  have lS := heatsL_len c.s c.l c.a (c.se en)
  have lL := heatsL_len c.s c.l (c.lf bg) c.b
  have eA := heats_eq hH (a := c.a) (b := c.b) (by omega)
  have eS := heats_eq hH (a := c.a) (b := c.se en) (by omega)
  have eL := heats_eq hH (a := c.lf bg) (b := c.b) (by omega)
  generalize heatsL c.s c.l c.a c.b = A at *
  generalize heatsL c.s c.l c.a (c.se en) = S at *
  generalize heatsL c.s c.l (c.lf bg) c.b = D at *
  have mA : ((A.map fun h => [AV.int .i64 h]).length : Int) = A.length := by rw [List.length_map]
  have mS : ((S.map fun h => [AV.int .i64 h]).length : Int) = S.length := by rw [List.length_map]
  have mD : ((D.map fun h => [AV.int .i64 h]).length : Int) = D.length := by rw [List.length_map]
  have wA : IntKind.i64.wrap (c.b - c.a) = c.b - c.a := hr.2.2.2.2
  have wS : IntKind.i64.wrap (c.se en - c.a) = c.se en - c.a := w64_in (by omega) (by omega)
  have wD : IntKind.i64.wrap (c.b - c.lf bg) = c.b - c.lf bg := w64_in (by omega) (by omega)
  refine ACalls.ofB Try.TT_ok Try.func10 rfl (by kernel_rfl) Try.mixed (Nat.le_of_ble_eq_true rfl) ?_
  intro F n' w0 m0 hG hro h1
  repeat' first
    | refine SPB.seq ?_
    | refine SPB.block ?_
    | refine SPB.draw hG Try.TT_ok Try.keep10 (by kernel_rfl) ?_
    | refine SPB.reg hG Try.TT_ok Try.keep10 (by kernel_rfl) ?_
    | refine SPB.skip hG Try.TT_ok ?_
    | refine SPB.label hG Try.TT_ok ?_
    | refine SPB.ret hG Try.TT_ok ?_
    | refine SPB.exit hG Try.TT_ok ?_
    | refine SPB.condT rfl ?_
    | refine SPB.condF rfl ?_
    | refine SPB.cond rfl (And.intro (fun h => ?_) (fun h => ?_))
    | (conv => whnf
       first
         | refine And.intro (fun h => Bool.noConfusion (h : false = true)) (fun _ => ?_)
         | refine And.intro (fun _ => ?_) (fun h => Bool.noConfusion (h : true = false))
         | refine And.intro (by kernel_rfl) ?_
         | refine Exists.intro _ (And.intro (Try.c11) ?_)
         | refine Exists.intro _ (And.intro (Try.c12 c hc) ?_)
         | refine Exists.intro _ (And.intro (Try.c13 en (w64 (c.b - c.a)) hne) ?_)
         | refine Exists.intro _ (And.intro (Try.c13 bg (w64 (c.b - c.a)) hne) ?_)
         | refine Exists.intro _ (And.intro (kA) ?_)
         | refine Exists.intro _ (And.intro (kS) ?_)
         | refine Exists.intro _ (And.intro (kL) ?_)
         | refine And.intro (fun h => ?_) (fun h => ?_))
  · have h := (by assumption : (((A.map fun h => [AV.int .i64 h]).length : Int) != IntKind.i64.wrap (c.b - c.a)) = true)
    rw [mA, wA] at h; simp at h; omega
  · have h := (by assumption : (((S.map fun h => [AV.int .i64 h]).length : Int) != IntKind.i64.wrap (c.se en - c.a)) = true)
    rw [mS, wS] at h; simp at h; omega
  · have h := (by assumption : (((D.map fun h => [AV.int .i64 h]).length : Int) != IntKind.i64.wrap (c.b - c.lf bg)) = true)
    rw [mD, wD] at h; simp at h; omega
  refine SPB.loop (X := Nat) (fun i => ⟨[(18, .int .i64 i), (16, intsA D), (12, intsA A), (14, intsA S), (11, .loc 11 0), (9, .loc 9 0)], [(11, [.int .i64 (c.lf bg), .int .i64 c.b]), (9, [.int .i64 c.a, .int .i64 c.b])]⟩)
    (fun i => i ≤ D.length) (fun i => D.length - i) 0 (Nat.zero_le _) (St.le.of ?_ ?_) (fun i hi => ?_)
  · repeat' (first | exact trivial | refine And.intro rfl ?_)
  · repeat' (first | exact trivial | refine And.intro rfl ?_)
  · have hlt : decide ((i : Int) < ((D.map fun h => [AV.int .i64 h]).length : Int)) = true → i < D.length := fun h => by have := of_decide_eq_true h; omega
    have dd : (pickS bg (c.b - c.a)).toNat = (c.lf bg - c.a).toNat := by omega
    have wz : i < D.length → IntKind.i64.wrap (IntKind.i64.wrap (c.lf bg - c.a) + (i : Int)) = (((c.lf bg - c.a).toNat + i : Nat) : Int) := fun h => by
      have e1 : IntKind.i64.wrap (c.lf bg - c.a) = c.lf bg - c.a := w64_in (by omega) (by omega)
      rw [e1]
      exact (w64_in (by omega) (by omega)).trans (by omega)
    have cD := fun h => hL_at (l := D) (i := i) (hlt h) rfl
    have cA := fun h => hL_at (l := A) (i := (c.lf bg - c.a).toNat + i) (by have := hlt h; omega) (wz (hlt h))
    have k24 := Try.c24 S (A.take S.length) (by omega)
    have et : (A.take S.length).map (fun h => [AV.int .i64 h]) = ((A.map fun h => [AV.int .i64 h]).take ((S.map fun h => [AV.int .i64 h]).length : Int).toNat).drop 0 := by
      rw [mS]; simp
    rw [show intsA (A.take S.length) = .sl .no 1 (((A.map fun h => [AV.int .i64 h]).take ((S.map fun h => [AV.int .i64 h]).length : Int).toNat).drop 0) by rw [← et]; rfl] at k24
    repeat' first
      | refine SPB.seq ?_
      | refine SPB.block ?_
      | refine SPB.draw hG Try.TT_ok Try.keep10 (by kernel_rfl) ?_
      | refine SPB.reg hG Try.TT_ok Try.keep10 (by kernel_rfl) ?_
      | refine SPB.skip hG Try.TT_ok ?_
      | refine SPB.label hG Try.TT_ok ?_
      | refine SPB.ret hG Try.TT_ok ?_
      | refine SPB.exit hG Try.TT_ok ?_
      | refine SPB.condT rfl ?_
      | refine SPB.condF rfl ?_
      | refine SPB.cond rfl (And.intro (fun h => ?_) (fun h => ?_))
      | (conv => whnf
         first
           | refine And.intro (fun h => Bool.noConfusion (h : false = true)) (fun _ => ?_)
           | refine And.intro (fun _ => ?_) (fun h => Bool.noConfusion (h : true = false))
           | refine And.intro (by kernel_rfl) ?_
           | refine And.intro (cD (by assumption)).1 (Exists.intro _ (And.intro (cD (by assumption)).2 ?_))
           | refine And.intro (cA (by assumption)).1 (Exists.intro _ (And.intro (cA (by assumption)).2 ?_))
           | refine And.intro (show 0 ≤ ((S.map fun h => [AV.int .i64 h]).length : Int) by omega) (And.intro (Nat.zero_le _) (And.intro (show ((S.map fun h => [AV.int .i64 h]).length : Int).toNat ≤ (A.map fun h => [AV.int .i64 h]).length by rw [List.length_map, List.length_map]; omega) ?_))
           | refine Exists.intro _ (And.intro (k24) ?_)
           | refine And.intro (fun h => ?_) (fun h => ?_))
    · have hlt2 := hlt (by assumption : decide ((i : Int) < ((D.map fun h => [AV.int .i64 h]).length : Int)) = true)
      have h := of_decide_eq_true (by assumption : decide (D.getD i 0 > A.getD ((c.lf bg - c.a).toNat + i) 0) = true)
      have q := (hv_late (gS c.s c.l) c.a (c.lf bg - c.a).toNat (i + 1)).1
      rw [show c.a + (((c.lf bg - c.a).toNat : Nat) : Int) = c.lf bg by omega] at q
      rw [eL, eA, getD_range (by omega), getD_range (by omega)] at h
      have q2 : hv (gS c.s c.l) c.a ((c.lf bg - c.a).toNat + (i + 1)) = hv (gS c.s c.l) c.a ((c.lf bg - c.a).toNat + i + 1) := rfl
      omega
    · have hlt2 := hlt (by assumption : decide ((i : Int) < ((D.map fun h => [AV.int .i64 h]).length : Int)) = true)
      refine Exists.intro (i + 1) (And.intro hlt2 (And.intro (by omega) (St.le.of ?_ ?_)))
      · refine And.intro (congrArg some (le_next (by omega))) ?_
        repeat' (first | exact trivial | refine And.intro rfl ?_)
      · repeat' (first | exact trivial | refine And.intro rfl ?_)
    · refine Ends.mk (Or.inl rfl) (AV.weak.of_eq (congrArg AV.bool ?_))
      refine decide_eq_true ?_
      rw [lS, eA, eS, ← List.map_take, List.take_range]
      congr 2
      omega

end Go.Proofs


namespace Go.Proofs
open Go Go.AI Go.Proofs.Ytjeopncbnlfplaa
set_option maxRecDepth 100000
theorem Try.own : ownKnob Try.prog.godebug = none := by kernel_rfl
theorem Try.laidOut : laidOutB Try.prog = true := by kernel_rfl
theorem Try.reads26 : (Try.prog.readableRec 26 && Nat.blt 26 Try.prog.types.size) = true := by kernel_rfl
theorem Try.reads3 : (Try.prog.readableRec 3 && Nat.blt 3 Try.prog.types.size) = true := by kernel_rfl
def case0 : Value := .agg #[.int .i64 0, .int .i64 0, .int .i64 0, .int .i64 0, .int .i64 0, .int .i64 0, .int .i64 0, .int .i64 0, .int .i64 0, .int .i64 0, .int .i64 0, .int .i64 0, .slice none 0 0]
def lawSh : List (Bool × List Sh) := [(true, caseSh), (false, [.int .i64]), (false, [.int .i64])]
theorem Try.shs : paramSh Try.prog 8 [26, 3, 3] = some lawSh := by kernel_rfl
theorem Try.lifted (law : ∀ avs, PArgs 8 lawSh avs → ACalls Try.prog 10 avs (.bool true)) (os : Os) (started : os.Started) (H : Type) (enc : TypeId × Value → H) :
    ReturnsInHanded {} Try.checked os 10 .any (Rows.pointingPartsSpec.pre6 enc Try.prog Try.f10 Rows.pointingPartsRow.domain false) (Rows.pointingPartsSpec.post enc Try.prog Try.f10 false true false false) :=
  law_lifted (C := Try.checked) (tb := 4) Try.own started (by kernel_rfl) Try.func10
    (ChangeSpec.witness6 (enc := enc) (C := Try.checked) false ⟨#[], #[case0, .int .i64 0, .int .i64 0], []⟩ 8 (by kernel_rfl) (by kernel_rfl) (by kernel_rfl) (by kernel_rfl))
    rfl (by kernel_rfl) (by kernel_rfl) (fun ds h => by
      match ds, h with
      | [d, d0, d1], _ => rfl) Try.shs Try.laidOut (fun t ht => by
      have e : Try.f10.params.toList = [26, 3, 3] := by kernel_rfl
      rw [e] at ht
      simp only [List.mem_cons, List.not_mem_nil, or_false] at ht
      have h26 := Try.reads26
      have h3 := Try.reads3
      simp only [Bool.and_eq_true] at h26 h3
      have g : t = 26 ∨ t = 3 := by rcases ht with h | h | h <;> first | exact .inl h | exact .inr h
      rcases g with rfl | rfl
      · exact ⟨h26.1, Nat.le_of_ble_eq_true h26.2⟩
      · exact ⟨h3.1, Nat.le_of_ble_eq_true h3.2⟩) law
theorem Try.row (law : ∀ avs, PArgs 8 lawSh avs → ACalls Try.prog 10 avs (.bool true)) : Rows.PointingPartsSaid :=
  OpenClaim.holds_of_wide (p := Try.pinned) (s := Rows.pointingPartsSpec) (c := Rows.pointingPartsRow) 10 Try.f10 rfl rfl rfl rfl rfl rfl rfl ⟨rfl, rfl, rfl, rfl, rfl⟩ rfl rfl rfl rfl rfl (by kernel_rfl) Try.func10 (by kernel_rfl)
    (of_decide_eq_true (by kernel_rfl)) (by unfold Func.isWrapper; first | (rw [if_pos (by decide +kernel)]; kernel_rfl) | (rw [if_neg (by decide +kernel)]; exact ⟨rfl, rfl⟩))
    (fun os started H enc _ => Try.lifted law os started H enc)
theorem pargs_agg {n : Nat} {L : List Sh} {r : List (Bool × List Sh)} {avs : List AV} (h : PArgs n ((true, L) :: r) avs) : ∃ cs q, avs = .agg cs :: q ∧ Fa (ShOK n) L cs ∧ PArgs n r q := by
  match avs, h with
  | _ :: q, h =>
    obtain ⟨⟨cs, rfl, h1⟩, h2⟩ := h
    exact ⟨cs, q, rfl, h1, h2⟩
  | [], h => exact h.elim
theorem pargs_int {n : Nat} {r : List (Bool × List Sh)} {avs : List AV} (h : PArgs (n + 1) ((false, [.int .i64]) :: r) avs) : ∃ z q, avs = .int .i64 z :: q ∧ inI z ∧ PArgs (n + 1) r q := by
  match avs, h with
  | _ :: q, h =>
    obtain ⟨⟨s, e, h1⟩, h2⟩ := h
    cases e
    obtain ⟨z, rfl, hz⟩ := int_inv h1
    exact ⟨z, q, rfl, hz, h2⟩
  | [], h => exact h.elim
theorem pargs_nil {n : Nat} {avs : List AV} (h : PArgs n [] avs) : avs = [] := by
  match avs, h with
  | [], _ => rfl
  | _ :: _, h => exact h.elim
end Go.Proofs
namespace Go.Proofs.Ytjeopncbnlfplaa
open Go Go.AI
/-- PointingParts answers true, whatever the input. -/
theorem pointingParts : Rows.PointingPartsSaid := Try.row fun avs h => by
  obtain ⟨cs, q, rfl, h1, h⟩ := pargs_agg h
  obtain ⟨z0, q, rfl, i0, h⟩ := pargs_int h
  obtain ⟨z1, q, rfl, i1, h⟩ := pargs_int h
  obtain rfl := pargs_nil h
  obtain ⟨c, hc, rfl⟩ := case_of h1
  exact Go.Proofs.Try.x10 c hc z0 z1 i0 i1
end Go.Proofs.Ytjeopncbnlfplaa


