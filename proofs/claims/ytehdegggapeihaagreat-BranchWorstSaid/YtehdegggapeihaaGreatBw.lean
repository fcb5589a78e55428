/- BranchWorst answers true, whatever the input; no condition. -/
import Derived.Test.YtehdegggapeihaaGreatWConE
import Derived.Test.YtehdegggapeihaaGreatRows
set_option linter.unusedSectionVars false
set_option linter.unusedVariables false
set_option linter.unusedSimpArgs false
namespace Go.Proofs
open Go Go.AI
theorem zV {s : Nat → Int} {l : List Opt} {ps : List aj} {a b : Int} (h : aT s l ps a b = true) {D D' : List Opt} (hg : c6 D) (hg' : c6 D') (hc : ∀ k t, dx (gZ D') k t → dx (gZ D) k t) (i : Nat) : kn s (aq D') a i ≤ kn s (aq D) a i := by
 obtain ⟨_, _, _, hsat, _⟩ := aY.1 h
 have hf := lR hsat
 have hd := iU hg; have hd' := iU hg'
 unfold kn
 exact Fg hf hf rfl rfl (fun _ => rfl) (by omega) (by omega) (Fx hf hg.can.1 hg.kinds hg'.can.1 hg'.kinds fun k hk => (hg.can.2 k _).2 (hc k _ ((hg'.can.2 k _).1 hk)))
theorem Ej {s : Nat → Int} {l : List Opt} {ps : List aj} {a b : Int} (h : aT s l ps a b = true) {D D' : List Opt} (hg : c6 D) (hg' : c6 D') (hc : ∀ k t, dx (gZ D') k t → dx (gZ D) k t) :
  t8 (lvL s (aq D) a b) ≤ t8 (lvL s (aq D') a b) := by
 obtain ⟨q1, _⟩ := qO h hg
 obtain ⟨q2, _⟩ := qO h hg'
 have n1 := ge (oB h hg).1
 have n2 := ge (oB h hg').1
 have hm := n2.1
 generalize t8 (lvL s (aq D') a b) = m at hm
 rw [q2] at hm
 obtain ⟨i, hi, e⟩ := List.mem_map.1 hm
 rw [← e]
 refine Int.le_trans (n1.2 (hU (s 11) (kn s (aq D) a) (i + 1)) ?_) ?_
 ·rw [q1]; exact List.mem_map.2 ⟨i, hi, rfl⟩
 ·exact s5 (Int.le_refl _) (fun j => zV h hg hg' hc j) (i + 1)
end Go.Proofs
namespace Go.Proofs
open Go Go.AI
theorem sH (f : List Int) (b : Nat) : ∀ n, n ≤ f.length → (gK f b n).Sublist (f.take n)
 | 0, _ => by simp [gK]
 | n + 1, h => by
  rw [qv (by omega), iG (by omega)]
  refine (sH f b n (by omega)).append ?_
  split
  ·exact List.Sublist.refl _
  ·exact List.nil_sublist _
theorem zA {f : List Int} {b : Nat} (h : (iK f b).length = f.length) : iK f b = f := by
 have := sH f b f.length (Nat.le_refl _)
 rw [List.take_length] at this
 exact this.eq_of_length h
theorem s8 {α : Type} {p : α → Bool} : ∀ (l : List α) (k : Nat), (∀ x ∈ l, p x = false) → bj p l k = -1
 | [], _, _ => rfl
 | x :: l, k, h => by
  rw [bj, if_neg (by rw [h x List.mem_cons_self]; decide)]
  exact s8 l (k + 1) fun y hy => h y (List.mem_cons_of_mem _ hy)
theorem CP {l : List Opt} (h8 : l.length ≤ 8) (h6 : ∀ o ∈ l, o.sl.length ≤ 6) : ∀ o ∈ l, kS o (ax l) = o.sl.length := fun o ho => by
 have h : il o (ax l) = -1 := s8 _ _ fun y hy => by
  have hm : y.p ∈ ax l := by
   rw [oz, sj, List.mem_flatMap]
   refine ⟨o, by rw [List.take_of_length_le h8]; exact ho, ?_⟩
   rw [List.take_of_length_le (h6 o ho)]
   exact List.mem_map.2 ⟨y, hy, rfl⟩
  have : inP (ax l) y.p = true := by
   unfold inP
   exact List.any_eq_true.2 ⟨y.p, hm, by simp⟩
  rw [this]; rfl
 unfold kS
 rw [if_neg (by omega)]
theorem xm {l : List Opt} (h8 : l.length ≤ 8) (h6 : ∀ o ∈ l, o.sl.length ≤ 6) : eL l (ax l) = ba l ∧ dv l (ax l) = l := by
 have h := CP h8 h6
 constructor
 ·unfold eL ba
  refine List.map_congr_left fun o ho => ?_
  rw [h o ho, oG, if_neg (by omega)]
 ·unfold dv
  conv => rhs; rw [← List.map_id l]
  refine List.map_congr_left fun o ho => ?_
  rw [h o ho, l9, if_neg (by omega)]; rfl
theorem uo {l : List Opt} (q : Opt → Nat) (k t : Int) : dx (gZ (l.map fun o => l9 o (q o))) k t → dx (gZ l) k t := by
 rintro ⟨x, hx, h⟩
 refine ⟨x, ?_, h⟩
 rcases lV.1 hx with ⟨o, ho, e⟩ | ⟨o, ho, y, hy, e⟩
 ·obtain ⟨p, hp, rfl⟩ := List.mem_map.1 ho
  refine lV.2 (.inl ⟨p, hp, ?_⟩)
  rw [e]; unfold l9; split <;> rfl
 ·obtain ⟨p, hp, rfl⟩ := List.mem_map.1 ho
  refine lV.2 (.inr ⟨p, hp, y, ?_, e⟩)
  unfold l9 at hy
  split at hy
  ·exact List.mem_of_mem_take hy
  ·exact hy
theorem Fm {s : Nat → Int} {l : List Opt} {ps : List aj} {a b : Int} (h : aT s l ps a b = true) (q : Opt → Nat) (t : Int) : eR t (l.map fun o => oG o (q o)) ≤ eR t (ba l) := by
 unfold ba
 refine px fun o ho => ?_
 obtain ⟨e1, e2, e3, e4, e5⟩ := oF h q o ho
 obtain ⟨_, _, hfit⟩ := ku.of h
 have f2 := (hfit o ho).size
 rw [e2, e3]
 simp only
 split <;> split <;> omega
theorem sI {s : Nat → Int} {l : List Opt} {ps : List aj} {a b : Int} (h : aT s l ps a b = true) : (iL s l).isSome = false ↔ ∀ t, eR t (ba l) ≤ s 10 := by
 have hT := w9.of h
 have hq := sO (aY.1 h).2.2.2.1
 unfold iL
 rw [sX]
 unfold xw
 rcases xI (Cf hT.span) (store := s 10) (by omega) with ⟨h1, h2⟩ | ⟨h1, h2, _⟩
 ·exact ⟨fun _ => h2, fun _ => h1⟩
 ·refine ⟨fun h3 => by omega, fun h3 => ?_⟩
  have := h3 (gM (s 10) (bf (ba l)))
  simp only at h2
  omega
theorem rv {s : Nat → Int} {l : List Opt} {ps : List aj} {a b : Int} (h : aT s l ps a b = true) : (fR s l a b).isSome = false ↔ ∀ x ∈ lvL s (aq l) a b, 0 ≤ x := by
 obtain ⟨hl, hr, hab, hsat, _⟩ := aY.1 h
 have hT := w9.of h
 have hd := iU hT.good
 obtain ⟨e, _⟩ := qO h hT.good
 unfold fR
 rw [sX, e]
 rcases Aw (l := aq l) (a := a) (b := b) (lR hsat) (by omega) (by omega) (by omega) with ⟨h1, h2⟩ | ⟨h1, i, h2, h3⟩
 ·refine ⟨fun _ x hx => ?_, fun _ => h1⟩
  obtain ⟨i, hi, rfl⟩ := List.mem_map.1 hx
  exact h2 i (List.mem_range.1 hi)
 ·refine ⟨fun h => by omega, fun hall => ?_⟩
  have h4 : 0 ≤ hU (s 11) (kn s (aq l) a) (i + 1) := hall _ (List.mem_map.2 ⟨i, List.mem_range.2 h2, rfl⟩)
  have h5 : hU (s 11) (kn s (aq l) a) (i + 1) < 0 := h3
  omega
def At (s : Nat → Int) (l : List Opt) (ps : List aj) (k a b : Int) : Bool := decide ((pkS l ps k).n ≤ s 10) && decide (lowV s l ps k a b ≥ 0)
def tc (s : Nat → Int) (l : List Opt) (a b : Int) : Bool := !(iL s l).isSome && !(fR s l a b).isSome
theorem ta {s : Nat → Int} {l : List Opt} {ps : List aj} {a b k : Int} (h : aT s l ps a b = true) (h0 : 0 ≤ k) (h3 : k ≤ 3) (hf : tc s l a b = true) : At s l ps k a b = true := by
 simp only [tc, Bool.and_eq_true, Bool.not_eq_true'] at hf
 obtain ⟨hf1, hf2⟩ := hf
 rw [sI h] at hf1
 rw [rv h] at hf2
 have hT := w9.of h
 obtain ⟨hl, _, _, hsat, hp, _⟩ := aY.1 h
 have hq := sO hsat
 obtain ⟨m1, m2, _, _⟩ := ux (m := pkM l) (qh (f := ax l) hp h0 h3)
 obtain ⟨n1, n2, _, _⟩ := uf h h0 h3
 simp only [At, Bool.and_eq_true, decide_eq_true_eq]
 constructor
 ·show (dM (pkM l) _).n ≤ _
  rw [m2]
  generalize (dM (pkM l) (bz (ax l) ps k)).what = x
  have hi : ∀ z ∈ eL l x, z.a < z.b := fun z hz => by
   obtain ⟨o, ho, rfl⟩ := List.mem_map.1 hz
   have := oF h (fun o => kS o x) o ho; omega
  by_cases hpos : 0 < (pkM l x).1
  ·have e := Eg hi hpos
   show (ea (bf (eL l x))).1 ≤ _
   rw [← e]
   exact Int.le_trans (Fm h (fun o => kS o x) _) (hf1 _)
  ·omega
 ·rw [n2]
  generalize (loS s l ps k a b).what = x
  have h4 := Ej h hT.good (j7 h fun o => kS o x) (uo _)
  have h5 := ge (oB h hT.good).1
  have h6 := hf2 _ h5.1
  exact Int.le_trans h6 h4
theorem As {s : Nat → Int} {l : List Opt} {ps : List aj} {a b k : Int} (h : aT s l ps a b = true) (h0 : 0 ≤ k) (h3 : k ≤ 3) (hm : ax l ∈ bz (ax l) ps k) (hf : At s l ps k a b = true) : tc s l a b = true := by
 simp only [At, Bool.and_eq_true, decide_eq_true_eq] at hf
 obtain ⟨hf1, hf2⟩ := hf
 have hT := w9.of h
 obtain ⟨hl, _, _, hsat, hp, _⟩ := aY.1 h
 obtain ⟨_, _, hfit⟩ := ku.of h
 obtain ⟨w1, w2⟩ := xm (l := l) hl fun o ho => (hfit o ho).len.2
 obtain ⟨_, _, _, m4⟩ := ux (m := pkM l) (qh (f := ax l) hp h0 h3)
 obtain ⟨_, _, _, n4⟩ := uf h h0 h3
 have m5 := m4 _ hm
 have n5 := n4 _ hm
 unfold pkM at m5
 unfold kF at n5
 rw [w1] at m5
 rw [w2] at n5
 simp only [tc, Bool.and_eq_true, Bool.not_eq_true']
 rw [sI h, rv h]
 constructor
 ·intro t
  have := zX (I := ba l) (fun x hx => (Cf hT.span x hx).2) t
  have h7 : (pkS l ps k).n = (dM (fun lost => ea (bf (eL l lost))) (bz (ax l) ps k)).n := rfl
  omega
 ·intro x hx
  have := (ge (oB h hT.good).1).2 x hx
  omega
theorem BO {l : List Opt} {ps : List aj} {k : Int} {x : List Int} (hx : x ∈ bz (ax l) ps k) (hl : x.length = (ax l).length) : x = ax l := by
 obtain ⟨_, b, _, rfl⟩ := qy hx
 exact zA hl
end Go.Proofs
namespace Go.Proofs
open Go Go.AI
set_option maxRecDepth 10000
theorem zF {s : Nat → Int} {l : List Opt} {ps : List aj} {a b k : Int} (h : aT s l ps a b = true) (h6 : ps.length ≤ 6) (h0 : 0 ≤ k) (h3 : k ≤ 3) : ae Tryz.prog 48 [aP l, au ps, .int .i64 k] (.tup [ky (bz (ax l) ps k), .int .i64 0]) := by
 obtain ⟨h1, h2, h4⟩ := fp h
 have c := lz l ps k h1 h2 h4
 rw [sK, yH h h6 h0 h3, if_neg (by decide)] at c
 exact c
theorem xz {s : Nat → Int} {l : List Opt} {ps : List aj} {a b k : Int} (h : aT s l ps a b = true) (h6 : ps.length ≤ 6) : (bz (ax l) ps k).length ≤ 64 ∧ ∀ x ∈ bz (ax l) ps k, x.length ≤ 1000000 := by
 have hf := oJ h
 refine ⟨?_, fun x hx => ?_⟩
 ·unfold bz ei
  refine Nat.le_trans (List.length_filter_le _ _) ?_
  rw [List.length_map, List.length_range]; exact xH (by omega)
 ·obtain ⟨_, b, _, rfl⟩ := qy hx
  exact yB (by omega)
theorem Co {L : List (List Int)} {i : Nat} (h : i < L.length) : L.getD i [] ∈ L := by
 rw [List.getD_eq_getElem?_getD, List.getElem?_eq_getElem h]; exact List.getElem_mem h
end Go.Proofs
namespace Go.Proofs
open Go Go.AI
set_option maxRecDepth 10000
def js (F : List Flt) : Bool := F.all fun x => x.k != 4 && x.k != 5
theorem vU : ∀ F : List Flt, js F = (!xZ F 4 && !xZ F 5)
 | [] => rfl
 | x :: r => by
  have h := vU r
  simp only [js, xZ, List.all_cons, List.any_cons] at h ⊢
  rw [h]
  have e4 : (x.k != 4) = !decide (x.k = 4) := by by_cases h : x.k = 4 <;> simp [h]
  have e5 : (x.k != 5) = !decide (x.k = 5) := by by_cases h : x.k = 5 <;> simp [h]
  rw [e4, e5]
  cases decide (x.k = 4) <;> cases decide (x.k = 5) <;> cases r.any (fun x => decide (x.k = 4)) <;> cases r.any (fun x => decide (x.k = 5)) <;> rfl
set_option maxHeartbeats 8000000 in
theorem CR (c : bN) (losses k : Int) (s : Nat → Int) (l : List Opt) (ps : List aj) (a b : Int) (Fl : List Flt) (A : List (List Int)) (fs : List Int) (fit : Bool)
  (kS : ae Tryz.prog 41 [] (.bool true)) (kM : ae Tryz.prog 42 [.agg (wq c)] (.tup [.agg (aX s), aP l, au ps, .agg (aQ a b)]))
  (kP : ae Tryz.prog 44 [.int .i64 losses, .int .i64 4] (.int .i64 k))
  (k1 : ae Tryz.prog 21 [.agg (aX s), aP l, au ps, .agg (aQ a b)] (.tup [zf Fl, .int .i64 0]))
  (k2 : ae Tryz.prog 48 [aP l, au ps, .int .i64 k] (.tup [ky A, .int .i64 0]))
  (k3 : ae Tryz.prog 60 [.agg (aX s), aP l, au ps, .int .i64 k, .agg (aQ a b)] (.bool fit)) (k4 : ae Tryz.prog 47 [aP l] (aB fs))
  (hF : Fl.length ≤ 1000000) (hA : A.length ≤ 1000000) (hne : A ≠ [])
  (hfree : js Fl = true → fit = true) (hall : (A.getD (A.length - 1) []).length = fs.length → fit = js Fl) :
  ae Tryz.prog 15 [.agg (wq c), .int .i64 losses] (.bool true) := by
 have hA0 : 0 < A.length := List.length_pos_iff.2 hne
 have hAm : ((A.map fun x => [aB x]).length : Int) = (A.length : Int) := by rw [List.length_map]
 have b1 : (((A.map fun x => [aB x]).length : Int) == 0) = true → False := fun h => by have := eq_of_beq h; omega
 have hw : IntKind.i64.wrap (((A.map fun x => [aB x]).length : Int) - 1) = ((A.length - 1 : Nat) : Int) := by rw [hAm]; exact (am (by omega) (by omega)).trans (by omega)
 have hw0 : 0 ≤ IntKind.i64.wrap (((A.map fun x => [aB x]).length : Int) - 1) := by rw [hw]; exact Int.natCast_nonneg _
 have hwx : (A.map fun x => [aB x])[(IntKind.i64.wrap (((A.map fun x => [aB x]).length : Int) - 1)).toNat]? = some [aB (A.getD (A.length - 1) [])] := by rw [hw]; exact jG (f := fun x => [aB x]) [] (by omega)
 refine ag aa Tryz.func15 rfl (by kernel_rfl) af (Nat.le_of_ble_eq_true rfl) ?_
 intro F n' w0 m0 hG hro h1
 repeat' first|exact (b1 (by assumption)).elim|refine Q1 ?_|refine Q2 ?_|refine Q3 hG aa eK ?_|refine Q4 hG aa eK ?_|refine Q5 hG aa ?_|refine Q6 hG aa ?_|refine Q7 hG aa ?_|refine Q8 hG aa ?_|refine Q9 rfl ?_|refine QF rfl ?_|refine QC rfl ⟨fun h => ?_,fun h => ?_⟩|((conv => whnf); first|refine anF ?_|refine anT ?_|refine anK ?_|refine Exists.intro _ (And.intro (kS) ?_)|refine Exists.intro _ (And.intro (kM) ?_)|refine Exists.intro _ (And.intro (kP) ?_)|refine Exists.intro _ (And.intro (k1) ?_)|refine Exists.intro _ (And.intro (k2) ?_)|refine And.intro (fun h => ?_) (fun h => ?_)|refine Or.inl ?_)
 refine aw (X := Nat) (fun x => ⟨[(15, .int .i64 x), (14, .bool (js (Fl.take x))), (5, .loc 5 0), (6, aP l), (7, au ps), (8, .loc 8 0), (9, .int .i64 k), (10, zf Fl), (12, ky A)], [(5, aX s), (8, aQ a b)]⟩) (fun x => x ≤ Fl.length) (fun x => Fl.length - x) 0 (Nat.zero_le _) (ah ?_ ?_) (fun x hx => ?_)
 ·repeat' (first | exact trivial | refine And.intro rfl ?_)
 ·repeat' (first | exact trivial | refine And.intro rfl ?_)
 ·rename Nat => i
  have hi := hx
  by_cases hlt_i : i < Fl.length
  ·have bbk : decide ((i : Int) < ((Fl.map fI).length : Int)) = false → False := fun h => by have := of_decide_eq_false h; simp at this; omega
   have hx := jG (f := fI) Cq hlt_i
   have hn1 : js (Fl.take (i + 1)) = (js (Fl.take i) && ((Fl.getD i Cq).k != 4 && (Fl.getD i Cq).k != 5)) := by
    rw [js, f9 Cq hlt_i, List.all_append]; simp [js]
   generalize Fl.getD i Cq = u at *
   generalize js (Fl.take i) = z at *
   repeat' first|exact (bbk (by assumption)).elim|refine Q1 ?_|refine Q2 ?_|refine Q3 hG aa eK ?_|refine Q4 hG aa eK ?_|refine Q5 hG aa ?_|refine Q6 hG aa ?_|refine Q7 hG aa ?_|refine Q8 hG aa ?_|refine Q9 rfl ?_|refine QF rfl ?_|refine QC rfl ⟨fun h => ?_,fun h => ?_⟩|((conv => whnf); first|refine anF ?_|refine anT ?_|refine anK ?_|refine And.intro (Int.natCast_nonneg i) (Exists.intro _ (And.intro hx ?_))|refine And.intro (fun h => ?_) (fun h => ?_)|refine Or.inl ?_)
   all_goals (refine Exists.intro (i + 1) (And.intro hlt_i (And.intro (by omega) (ah ?_ ?_))))
   all_goals first
    |(refine And.intro (congrArg some (ap (by omega))) (And.intro (congrArg (fun z => some (AV.bool z)) ?_) ?_)
      ·(rw [hn1]; generalize (u.k != 4) = p4 at *; generalize (u.k != 5) = p5 at *; clear hn1 hx hwx hall hfree; cases z <;> cases p4 <;> cases p5 <;> first | rfl | (simp_all; done))
      ·repeat' (first | exact trivial | refine And.intro rfl ?_))
    |(repeat' (first | exact trivial | refine And.intro rfl ?_))
  ·have bbk : decide ((i : Int) < ((Fl.map fI).length : Int)) = true → False := fun h => by have := of_decide_eq_true h; simp at this; omega
   have he : Fl.take i = Fl := List.take_of_length_le (by omega)
   rw [he]
   generalize js Fl = z at *
   repeat' first|exact (bbk (by assumption)).elim|refine Q1 ?_|refine Q2 ?_|refine Q3 hG aa eK ?_|refine Q4 hG aa eK ?_|refine Q5 hG aa ?_|refine Q6 hG aa ?_|refine Q7 hG aa ?_|refine Q8 hG aa ?_|refine Q9 rfl ?_|refine QF rfl ?_|refine QC rfl ⟨fun h => ?_,fun h => ?_⟩|((conv => whnf); first|refine anF ?_|refine anT ?_|refine anK ?_|refine Exists.intro _ (And.intro (k3) ?_)|refine Exists.intro _ (And.intro (k4) ?_)|refine And.intro hw0 (Exists.intro _ (And.intro hwx ?_))|refine And.intro (fun h => ?_) (fun h => ?_)|refine Or.inl ?_)
   all_goals refine Ends.mk (Or.inl rfl) (ac (congrArg AV.bool ?_))
   all_goals (have hall' : ((((A.getD (A.length - 1) []).map fun h => [AV.int .i64 h]).length : Int) == ((fs.map fun h => [AV.int .i64 h]).length : Int)) = true → fit = z := fun h => hall (by have := eq_of_beq h; simp only [List.length_map] at this; omega))
   all_goals first
    | rfl
    |(exfalso; have h1 := (by assumption : (!z) = false); have h2 := (by assumption : fit = false); rw [hfree (by simpa using h1)] at h2; cases h2)
    |(have e := hall' (by have h := (by assumption : (!(_ == _)) = false); simpa using h); rw [e]; exact beq_self_eq_true z)
theorem x4 (s : Nat → Int) (l : List Opt) (a b : Int) : (fi s l a b).length ≤ 5 := Nat.le_trans (List.length_filterMap_le _ _) (Nat.le_refl _)
theorem FZ (c : bN) (losses : Int) (hl : inI losses) : ae Tryz.prog 15 [.agg (wq c), .int .i64 losses] (.bool true) := by
 have hT := c.gvalid
 have h6 := c.gpasses.2.1
 obtain ⟨q1, q2⟩ := aJ hl (n := 4) (by omega)
 have kP := r8 losses 4 (by decide)
 generalize ak losses 4 = k at *
 have v1 := jz (k := k) hT h6 q1 (by omega)
 obtain ⟨_, _, _, _, hp, _⟩ := aY.1 hT
 have hne := qh (f := ax c.gl) (k := k) hp q1 (by omega)
 obtain ⟨g1, g2, g3⟩ := fp hT
 obtain ⟨z1, z2⟩ := xz (k := k) hT h6
 have hf : js (fi c.s c.gl c.ga c.gb) = tc c.s c.gl c.ga c.gb := by rw [vU, F7, F6]; rfl
 refine CR c losses k c.s c.gl c.gps c.ga c.gb (fi c.s c.gl c.ga c.gb) (bz (ax c.gl) c.gps k) (ax c.gl) (At c.s c.gl c.gps k c.ga c.gb) wD (yx c) kP (uU _ _ _ _ _ g3 hT) (zF hT h6 q1 (by omega)) (lC v1) (fe c.gl g1 g2) (by have := x4 c.s c.gl c.ga c.gb; omega) (by omega) hne (fun h => ?_) fun h => ?_
 ·rw [hf] at h; exact ta hT q1 (by omega) h
 ·rw [hf]
  have hpos : 0 < (bz (ax c.gl) c.gps k).length := List.length_pos_iff.2 hne
  have hm := Co (L := bz (ax c.gl) c.gps k) (i := (bz (ax c.gl) c.gps k).length - 1) (by omega)
  have e := BO hm h
  rw [e] at hm
  have i1 := fun h => ta hT q1 (by omega) (s := c.s) (l := c.gl) (ps := c.gps) (a := c.ga) (b := c.gb) (k := k) h
  have i2 := fun h => As hT q1 (by omega) hm h
  cases hz : tc c.s c.gl c.ga c.gb with
  | true => exact i1 hz
  | false =>
   cases hy : At c.s c.gl c.gps k c.ga c.gb with
   | false => rfl
   | true => rw [i2 hy] at hz; exact hz
end Go.Proofs
namespace Go.Proofs
open Go Go.AI Go.Proofs.YtehdegggapeihaaGreat
set_option maxRecDepth 100000
theorem C0 : ownKnob Tryz.prog.godebug = none := by kernel_rfl
theorem uH : laidOutB Tryz.prog = true := by kernel_rfl
theorem wG : (Tryz.prog.readableRec 3 && Nat.blt 3 Tryz.prog.types.size) = true := by kernel_rfl
theorem uD : (Tryz.prog.readableRec 95 && Nat.blt 95 Tryz.prog.types.size) = true := by kernel_rfl
def CD : List Sh := [.int .i64, .int .i64, .int .i64, .int .i64, .int .i64, .int .i64, .int .i64, .int .i64, .int .i64, .int .i64, .int .i64, .sl [.int .i64, .int .i64, .int .i64], .sl [.int .i64, .int .i64, .int .i64, .int .i64, .int .i64], .int .i64]
def Cc : List (Bool × List Sh) := [(true, CD), (false, [.int .i64])]
theorem CU : iS Tryz.prog 8 [95, 3] = some Cc := by kernel_rfl
theorem wI (law : ∀ avs, iC 8 Cc avs → ae Tryz.prog 15 avs (.bool true)) (os : Os) (started : os.Started) (H : Type) (enc : TypeId × Value → H) :
  ReturnsInHanded {} Tryz.checked os 15 .any (Rows.branchWorstSpec.pre6 enc Tryz.prog Tryz.f15 Rows.branchWorstRow.domain false) (Rows.branchWorstSpec.post enc Tryz.prog Tryz.f15 false true false false) :=
 xU (C := Tryz.checked) (tb := 4) C0 started (by kernel_rfl) Tryz.func15
  (ChangeSpec.witness6 (enc := enc) (C := Tryz.checked) false ⟨#[], #[.agg #[.int .i64 0, .int .i64 0, .int .i64 0, .int .i64 0, .int .i64 0, .int .i64 0, .int .i64 0, .int .i64 0, .int .i64 0, .int .i64 0, .int .i64 0, .slice none 0 0, .slice none 0 0, .int .i64 0], .int .i64 0], []⟩ 8 (by kernel_rfl) (by kernel_rfl) (by kernel_rfl) (by kernel_rfl))
  rfl (by kernel_rfl) (by kernel_rfl) (fun ds h => by
   match ds, h with
   | [d0, d1], _ => rfl) CU uH (fun t ht => by
   have e : Tryz.f15.params.toList = [95, 3] := by kernel_rfl
   rw [e] at ht
   simp only [List.mem_cons, List.not_mem_nil, or_false] at ht
   have h3 := wG
   have h95 := uD
   simp only [Bool.and_eq_true] at h3 h95
   rcases ht with h | h <;> subst h <;> first | exact ⟨h3.1, Nat.le_of_ble_eq_true h3.2⟩ | exact ⟨h95.1, Nat.le_of_ble_eq_true h95.2⟩) law
theorem Db : (Rows.branchWorstRow.wf (OpenSpec.ofChange Rows.branchWorstSpec) : Bool) = true := by kernel_rfl
theorem Da : (laidOutB Tryz.pinned.checked.prog : Bool) = true := by kernel_rfl
theorem C9 : (mapsRowed Tryz.pinned.checked.prog : Bool) = true := by kernel_rfl
theorem C8 : (Tryz.f15.params.all (Tryz.pinned.checked.prog.readableRec ·) : Bool) = true := by kernel_rfl
theorem C7 : (namedTie Tryz.pinned.checked.prog Rows.branchWorstRow.named Rows.branchWorstSpec.vars : Bool) = true := by kernel_rfl
theorem C6 : ((Rows.branchWorstRow.stops == []) : Bool) = true := by kernel_rfl
theorem C5 : ((Tryz.pinned.checked.prog.stops == []) : Bool) = true := by kernel_rfl
theorem C4 : ((Rows.branchWorstRow.knobs == []) : Bool) = true := by kernel_rfl
theorem C3 : ((Tryz.pinned.checked.prog.stopKnobs == []) : Bool) = true := by kernel_rfl
theorem C2 : ((Rows.branchWorstRow.inPlace == Tryz.pinned.checked.prog.inPlace 15) : Bool) = true := by kernel_rfl
theorem Bs : ((Rows.branchWorstRow.unfollowed == Tryz.pinned.checked.prog.unfollowed 15) : Bool) = true := by kernel_rfl
theorem Br : ((Rows.branchWorstRow.recurses == Tryz.pinned.checked.prog.recurses 15) : Bool) = true := by kernel_rfl
theorem Bq : ((Rows.branchWorstRow.named == Tryz.pinned.checked.prog.varsNamed 15) : Bool) = true := by kernel_rfl
theorem Bp : ((Rows.branchWorstRow.maps == (Tryz.f15.params.toList ++ Rows.branchWorstSpec.plain.varTypes Tryz.pinned.checked.prog).any (Tryz.pinned.checked.prog.mapsRec ·)) : Bool) = true := by kernel_rfl
theorem Bo : ((Rows.branchWorstRow.ifaces == (Tryz.f15.params.toList ++ Rows.branchWorstSpec.plain.varTypes Tryz.pinned.checked.prog).any (Tryz.pinned.checked.prog.ifacesRec ·)) : Bool) = true := by kernel_rfl
theorem Bn : ((Rows.branchWorstRow.mapsOut == Tryz.pinned.checked.prog.mapsAmong Tryz.f15.resultTypes.toList) : Bool) = true := by kernel_rfl
theorem Bm : ((Rows.branchWorstRow.loops == (Tryz.f15.params.toList ++ Rows.branchWorstSpec.plain.varTypes Tryz.pinned.checked.prog).any (Tryz.pinned.checked.prog.loopsFrom ·)) : Bool) = true := by kernel_rfl
theorem Bl : ((Rows.branchWorstRow.wideKeys == (Tryz.f15.params.toList ++ Rows.branchWorstSpec.plain.varTypes Tryz.pinned.checked.prog ++ Tryz.f15.resultTypes.toList).any (Tryz.pinned.checked.prog.wideKeysFrom ·)) : Bool) = true := by kernel_rfl
theorem Bk : (Rows.branchWorstSpec.vars.all (Tryz.pinned.checked.prog.varReadable ·) : Bool) = true := by kernel_rfl
theorem Bj : (Tryz.f15.resultTypes.all (fun t => Tryz.pinned.checked.prog.readableRec t && decide (t < Tryz.pinned.checked.prog.types.size)) : Bool) = true := by kernel_rfl
theorem Bi : ((Rows.branchWorstRow.ifacesOut == Tryz.f15.resultTypes.toList.any (Tryz.pinned.checked.prog.ifacesRec ·)) : Bool) = true := by kernel_rfl
theorem Bh : ((Rows.branchWorstRow.loopsOut == Tryz.f15.resultTypes.toList.any (Tryz.pinned.checked.prog.loopsFrom ·)) : Bool) = true := by kernel_rfl
theorem Bg : ((Rows.branchWorstRow.plainKeys == Tryz.pinned.checked.prog.plainKeys) : Bool) = true := by kernel_rfl
theorem Be : (Rows.branchWorstRow.shortTexts.isNone : Bool) = true := by kernel_rfl
theorem Bd : (Tryz.pinned.checked.prog.stopsHeard : Bool) = true := by kernel_rfl
theorem Bc : (Tryz.pinned.checked.prog.mayEnter : Bool) = true := by kernel_rfl
theorem Bb : ((Rows.branchWorstRow.lifted == Tryz.pinned.checked.prog.liftsFinal) : Bool) = true := by kernel_rfl
theorem Ba : ((Tryz.pinned.checked.prog.make == some Rows.branchWorstRow.make) : Bool) = true := by kernel_rfl
theorem A9 : ((Rows.branchWorstRow.kinds == (if Rows.branchWorstRow.domain.isEmpty then [] else Tryz.f15.params.toList.map fun t => match Tryz.pinned.checked.prog.underlying t with | some (.int k) => some k | _ => none)) : Bool) = true := by kernel_rfl
theorem A8 : ((Rows.branchWorstRow.pinned == Rows.branchWorstRow.pinnedBy) : Bool) = true := by kernel_rfl
theorem A7 : ((Rows.branchWorstRow.veiled == (Tryz.f15.params.toList ++ Rows.branchWorstSpec.plain.varTypes Tryz.pinned.checked.prog ++ Tryz.f15.resultTypes.toList).any (Tryz.pinned.checked.prog.veiledRec ·)) : Bool) = true := by kernel_rfl
theorem A6 : (Rows.branchWorstRow.veiledFits Tryz.pinned.checked.prog Tryz.f15.params.toList (Tryz.f15.params.toList ++ Rows.branchWorstSpec.plain.varTypes Tryz.pinned.checked.prog ++ Tryz.f15.resultTypes.toList) : Bool) = true := by kernel_rfl
theorem bX {a b : Bool} (h : a = true) (k : b = true) : (a && b) = true := by rw [h, k]; rfl
theorem EF : joinedFacts Tryz.pinned.checked.prog 15 Tryz.f15 Rows.branchWorstSpec Rows.branchWorstRow = true := by
 unfold joinedFacts
 exact bX (bX (bX (bX (bX (bX (bX (bX (bX (bX (bX (bX (bX (bX (bX (bX (bX (bX (bX (bX (bX (bX (bX (bX (bX (bX (bX (bX (bX (bX (bX (Db) Da) C9) C8) C7) C6) C5) C4) C3) C2) Bs) Br) Bq) Bp) Bo) Bn) Bm) Bl) Bk) Bj) Bi) Bh) Bg) Be) Bd) Bc) Bb) Ba) A9) A8) A7) A6
theorem CX (law : ∀ avs, iC 8 Cc avs → ae Tryz.prog 15 avs (.bool true)) : Rows.BranchWorstSaid :=
 OpenClaim.holds_of_wide (p := Tryz.pinned) (s := Rows.branchWorstSpec) (c := Rows.branchWorstRow) 15 Tryz.f15 rfl rfl rfl rfl rfl rfl rfl ⟨rfl, rfl, rfl, rfl, rfl⟩ rfl rfl rfl rfl rfl (by kernel_rfl) Tryz.func15 EF
  (of_decide_eq_true (by kernel_rfl)) (by unfold Func.isWrapper; first | (rw [if_pos (by decide +kernel)]; kernel_rfl) | (rw [if_neg (by decide +kernel)]; exact ⟨rfl, rfl⟩))
  (fun os started H enc _ => wI law os started H enc)
theorem zP {n : Nat} {L : List Sh} {r : List (Bool × List Sh)} {avs : List AV} (h : iC n ((true, L) :: r) avs) : ∃ cs q, avs = .agg cs :: q ∧ Fa (eV n) L cs ∧ iC n r q := by
 match avs, h with
 | _ :: q, h =>
  obtain ⟨⟨cs, rfl, h1⟩, h2⟩ := h
  exact ⟨cs, q, rfl, h1, h2⟩
 | [], h => exact h.elim
theorem zO {n : Nat} {r : List (Bool × List Sh)} {avs : List AV} (h : iC (n + 1) ((false, [.int .i64]) :: r) avs) : ∃ z q, avs = .int .i64 z :: q ∧ inI z ∧ iC (n + 1) r q := by
 match avs, h with
 | _ :: q, h =>
  obtain ⟨⟨s, e, h1⟩, h2⟩ := h
  cases e
  obtain ⟨z, rfl, hz⟩ := bt h1
  exact ⟨z, q, rfl, hz, h2⟩
 | [], h => exact h.elim
theorem FI {n : Nat} {e : List Sh} {r : List (Bool × List Sh)} {avs : List AV} (h : iC n ((false, [.sl e]) :: r) avs) : ∃ z q, avs = z :: q ∧ eV n (.sl e) z ∧ iC n r q := by
 match avs, h with
 | _ :: q, h =>
  obtain ⟨⟨s, e, h1⟩, h2⟩ := h
  cases e
  exact ⟨_, q, rfl, h1, h2⟩
 | [], h => exact h.elim
theorem zN {n : Nat} {avs : List AV} (h : iC n [] avs) : avs = [] := by
 match avs, h with
 | [], _ => rfl
 | _ :: _, h => exact h.elim
theorem FK {n : Nat} {a : AV} (h : eV (n + 2) (.sl [.int .i64]) a) : ∃ z : List Int, (∀ x ∈ z, inI x) ∧ a = aB z := by
 obtain ⟨xs, rfl, h2⟩ := h
 suffices hs : ∀ l : List (List AV), (∀ x ∈ l, Fa (eV (n + 1)) [.int .i64] x) → ∃ z : List Int, (∀ x ∈ z, inI x) ∧ l = z.map fun h => [AV.int .i64 h] by
  obtain ⟨z, g1, g2⟩ := hs xs h2
  exact ⟨z, g1, congrArg (AV.sl .no 1) g2⟩
 intro l
 induction l with
 | nil => exact fun _ => ⟨[], by simp, rfl⟩
 | cons y r ih =>
  intro h
  obtain ⟨z, g1, rfl⟩ := ih (fun x hx => h x (List.mem_cons_of_mem _ hx))
  obtain ⟨b, q, rfl, h0, h'⟩ := aK (h y List.mem_cons_self)
  obtain rfl := jk h'
  obtain ⟨w, rfl, hw⟩ := bt h0
  exact ⟨w :: z, fun v hv => by rcases List.mem_cons.1 hv with rfl | hv; exact hw; exact g1 v hv, rfl⟩
theorem BY {n : Nat} {a : AV} (h : eV (n + 2) (.sl [.int .i64, .int .i64, .int .i64, .int .i64, .int .i64]) a) : ∃ z : List R5, (∀ x ∈ z, vO x) ∧ a = .sl .no 5 (z.map jo) := by
 obtain ⟨xs, rfl, h2⟩ := h
 suffices hs : ∀ l : List (List AV), (∀ x ∈ l, Fa (eV (n + 1)) [.int .i64, .int .i64, .int .i64, .int .i64, .int .i64] x) → ∃ z : List R5, (∀ x ∈ z, vO x) ∧ l = z.map jo by
  obtain ⟨z, g1, g2⟩ := hs xs h2
  exact ⟨z, g1, congrArg (AV.sl .no 5) g2⟩
 intro l
 induction l with
 | nil => exact fun _ => ⟨[], by simp, rfl⟩
 | cons y r ih =>
  intro h
  obtain ⟨z, g1, rfl⟩ := ih (fun x hx => h x (List.mem_cons_of_mem _ hx))
  obtain ⟨b0, q, rfl, h0, h'⟩ := aK (h y List.mem_cons_self)
  obtain ⟨b1, q, rfl, h1, h'⟩ := aK h'
  obtain ⟨b2, q, rfl, h2, h'⟩ := aK h'
  obtain ⟨b3, q, rfl, h3, h'⟩ := aK h'
  obtain ⟨b4, q, rfl, h4, h'⟩ := aK h'
  obtain rfl := jk h'
  obtain ⟨z0, rfl, i0⟩ := bt h0
  obtain ⟨z1, rfl, i1⟩ := bt h1
  obtain ⟨z2, rfl, i2⟩ := bt h2
  obtain ⟨z3, rfl, i3⟩ := bt h3
  obtain ⟨z4, rfl, i4⟩ := bt h4
  exact ⟨⟨z0, z1, z2, z3, z4⟩ :: z, fun w hw => by rcases List.mem_cons.1 hw with rfl | hw; exact ⟨i0, i1, i2, i3, i4⟩; exact g1 w hw, rfl⟩
theorem vT {l : List Int} (h : ∀ y ∈ l, inI y) (i : Nat) : inI (l.getD i 0) := by
 rw [List.getD_eq_getElem?_getD]
 cases hi : l[i]? with
 | none => show inI 0; unfold inI; omega
 | some y => exact h y (List.mem_of_getElem? hi)
theorem Ex {n : Nat} {cs : List AV} (h : Fa (eV (n + 2)) CD cs) : ∃ c : bN, cs = wq c := by
 obtain ⟨b0, q, rfl, h0, h⟩ := aK h
 obtain ⟨b1, q, rfl, h1, h⟩ := aK h
 obtain ⟨b2, q, rfl, h2, h⟩ := aK h
 obtain ⟨b3, q, rfl, h3, h⟩ := aK h
 obtain ⟨b4, q, rfl, h4, h⟩ := aK h
 obtain ⟨b5, q, rfl, h5, h⟩ := aK h
 obtain ⟨b6, q, rfl, h6, h⟩ := aK h
 obtain ⟨b7, q, rfl, h7, h⟩ := aK h
 obtain ⟨b8, q, rfl, h8, h⟩ := aK h
 obtain ⟨b9, q, rfl, h9, h⟩ := aK h
 obtain ⟨b10, q, rfl, h10, h⟩ := aK h
 obtain ⟨b11, q, rfl, h11, h⟩ := aK h
 obtain ⟨b12, q, rfl, h12, h⟩ := aK h
 obtain ⟨b13, q, rfl, h13, h⟩ := aK h
 obtain rfl := jk h
 obtain ⟨z0, rfl, i0⟩ := bt h0
 obtain ⟨z1, rfl, i1⟩ := bt h1
 obtain ⟨z2, rfl, i2⟩ := bt h2
 obtain ⟨z3, rfl, i3⟩ := bt h3
 obtain ⟨z4, rfl, i4⟩ := bt h4
 obtain ⟨z5, rfl, i5⟩ := bt h5
 obtain ⟨z6, rfl, i6⟩ := bt h6
 obtain ⟨z7, rfl, i7⟩ := bt h7
 obtain ⟨z8, rfl, i8⟩ := bt h8
 obtain ⟨z9, rfl, i9⟩ := bt h9
 obtain ⟨z10, rfl, i10⟩ := bt h10
 obtain ⟨z, hz, rfl⟩ := D7 h11
 obtain ⟨v, hv, rfl⟩ := BY h12
 obtain ⟨f, rfl, hf⟩ := bt h13
 exact ⟨⟨fun i => [z0, z1, z2, z3, z4, z5, z6].getD i 0, fun i => [z7, z8, z9, z10].getD i 0, z, v, f, vT (by simp [*]), vT (by simp [*]), hz, hv, hf⟩, rfl⟩
end Go.Proofs
namespace Go.Proofs.YtehdegggapeihaaGreat
open Go Go.AI
theorem branchWorst : Rows.BranchWorstSaid := CX fun avs h => by
 obtain ⟨cs, q, rfl, h1, h⟩ := zP h
 obtain ⟨z1, q, rfl, i1, h⟩ := zO h
 obtain rfl := zN h
 obtain ⟨c, rfl⟩ := Ex h1
 exact Go.Proofs.FZ c z1 i1
end Go.Proofs.YtehdegggapeihaaGreat
