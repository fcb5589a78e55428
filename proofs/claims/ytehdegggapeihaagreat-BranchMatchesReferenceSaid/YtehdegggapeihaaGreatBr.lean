/- BranchMatchesReference answers true, whatever the input; no condition. -/
import Derived.Test.YtehdegggapeihaaGreatXConE
import Derived.Test.YtehdegggapeihaaGreatRows
set_option linter.unusedSectionVars false
set_option linter.unusedVariables false
set_option linter.unusedSimpArgs false
namespace Go.Proofs
open Go Go.AI
set_option maxRecDepth 10000
theorem Cc {l : List Int} {n : Int} {i : Nat} (h : i < l.length) : inP (l.take (i + 1)) n = (inP (l.take i) n || n == ay l i):=by
 unfold inP
 rw [eW h,List.any_append]
 simp [ay]
set_option maxHeartbeats 4000000 in
theorem tO (l : List Int) (n : Int) (hl : l.length ≤ 1000000) : ae Tryz.prog 123 [au l,.int .i64 n] (.bool (inP l n)):=by
 refine ag aa Tryz.func123 rfl (by kernel_rfl) af (Nat.le_of_ble_eq_true rfl) ?_
 intro F n' w0 m0 hG hro h1
 repeat' first|refine Q1 ?_|refine Q2 ?_|refine Q3 hG aa eH ?_|refine Q4 hG aa eH ?_|refine Q5 hG aa ?_|refine Q6 hG aa ?_|refine Q7 hG aa ?_|refine Q8 hG aa ?_|refine Q9 rfl ?_|refine QF rfl ?_|refine QC rfl ⟨fun h => ?_,fun h => ?_⟩|((conv => whnf); first|refine anF ?_|refine anT ?_|refine anK ?_|refine And.intro (fun h => ?_) (fun h => ?_)|refine Or.inl ?_)
 refine ar (X:=Nat) (fun x => ⟨[(5,.int .i64 x),(1,.int .i64 n),(0,au l)],[]⟩) (fun x => x ≤ l.length ∧ inP (l.take x) n = false) (fun x => l.length - x) 0 ⟨Nat.zero_le _,rfl⟩ (ah ?_ ?_) (fun x hx => ?_)
 ·repeat' (first | exact trivial | refine And.intro rfl ?_)
 ·repeat' (first | exact trivial | refine And.intro rfl ?_)
 ·rename Nat => i
  obtain ⟨hi,ht⟩:=hx
  by_cases hlt_i : i < l.length
  ·have bbk : decide ((i : Int) < ((l.map fun h => [AV.int .i64 h]).length : Int)) = false → False:=fun h => by have:=of_decide_eq_false h; simp at this; omega
   have hx:=ea hlt_i
   have hs:=Cc (n:=n) hlt_i
   have hb : (ay l i == n) = true → inP l n = true:=fun h => by
    unfold inP
    exact List.any_eq_true.2 ⟨ay l i,by unfold ay; rw [List.getD_eq_getElem?_getD,List.getElem?_eq_getElem hlt_i]; exact List.getElem_mem hlt_i,by have:=eq_of_beq h; rw [this]; simp⟩
   generalize ay l i = u at *
   repeat' first|exact (bbk (by assumption)).elim|refine Q1 ?_|refine Q2 ?_|refine Q3 hG aa eH ?_|refine Q4 hG aa eH ?_|refine Q5 hG aa ?_|refine Q6 hG aa ?_|refine Q7 hG aa ?_|refine Q8 hG aa ?_|refine Q9 rfl ?_|refine QF rfl ?_|refine QC rfl ⟨fun h => ?_,fun h => ?_⟩|((conv => whnf); first|refine anF ?_|refine anT ?_|refine anK ?_|refine And.intro (Int.natCast_nonneg i) (Exists.intro _ (And.intro hx ?_))|refine And.intro (fun h => ?_) (fun h => ?_)|refine Or.inl ?_)
   all_goals first
    |(refine Ends.mk (Or.inl rfl) (ac (congrArg AV.bool ?_))
      exact (hb (by assumption)).symm)
    | skip
   all_goals (refine Exists.intro (i + 1) (And.intro ?_ (And.intro (by omega) (ah ?_ ?_))))
   all_goals first
    |(refine And.intro (congrArg some (ap (by omega))) ?_
      repeat' (first | exact trivial | refine And.intro rfl ?_))
    |((repeat' (first | exact trivial | refine And.intro rfl ?_)); done)
    |(exact ⟨hlt_i,by rw [hs,ht]; have h:=(by assumption : (u == n) = false); clear hG; grind⟩)
  ·have bbk : decide ((i : Int) < ((l.map fun h => [AV.int .i64 h]).length : Int)) = true → False:=fun h => by have:=of_decide_eq_true h; simp at this; omega
   have he : l.take i = l:=List.take_of_length_le (by omega)
   rw [he] at ht
   repeat' first|exact (bbk (by assumption)).elim|refine Q1 ?_|refine Q2 ?_|refine Q3 hG aa eH ?_|refine Q4 hG aa eH ?_|refine Q5 hG aa ?_|refine Q6 hG aa ?_|refine Q7 hG aa ?_|refine Q8 hG aa ?_|refine Q9 rfl ?_|refine QF rfl ?_|refine QC rfl ⟨fun h => ?_,fun h => ?_⟩|((conv => whnf); first|refine anF ?_|refine anT ?_|refine anK ?_|refine And.intro (fun h => ?_) (fun h => ?_)|refine Or.inl ?_)
   exact Ends.mk (Or.inl rfl) (ac (congrArg AV.bool ht.symm))
theorem wH (k : Int) : ae Tryz.prog 193 [.int .i64 k] (.bool (ka k)):=by
 refine ag aa Tryz.func193 rfl (by kernel_rfl) af (Nat.le_of_ble_eq_true rfl) ?_
 intro F n' w0 m0 hG hro h1
 repeat' first|refine Q1 ?_|refine Q2 ?_|refine Q3 hG aa nE ?_|refine Q4 hG aa nE ?_|refine Q5 hG aa ?_|refine Q6 hG aa ?_|refine Q7 hG aa ?_|refine Q8 hG aa ?_|refine Q9 rfl ?_|refine QF rfl ?_|refine QC rfl ⟨fun h => ?_,fun h => ?_⟩|((conv => whnf); first|refine anF ?_|refine anT ?_|refine anK ?_|refine And.intro (fun h => ?_) (fun h => ?_)|refine Or.inl ?_)
 all_goals refine Ends.mk (Or.inl rfl) (ac (congrArg AV.bool ?_))
 all_goals (clear hG; grind [ka])
set_option maxHeartbeats 4000000 in
theorem tN (ps : List al) (l : List Int) (hl : l.length ≤ 1000000) (hps : ps.length ≤ 1000000) : ae Tryz.prog 194 [ak ps,au l] (.bool (gq ps l)):=by
 have hpl : ((ps.map aG).length : Int) = (ps.length : Int):=by rw [List.length_map]
 refine ag aa Tryz.func194 rfl (by kernel_rfl) af (Nat.le_of_ble_eq_true rfl) ?_
 intro F n' w0 m0 hG hro h1
 repeat' first|refine Q1 ?_|refine Q2 ?_|refine Q3 hG aa eF ?_|refine Q4 hG aa eF ?_|refine Q5 hG aa ?_|refine Q6 hG aa ?_|refine Q7 hG aa ?_|refine Q8 hG aa ?_|refine Q9 rfl ?_|refine QF rfl ?_|refine QC rfl ⟨fun h => ?_,fun h => ?_⟩|((conv => whnf); first|refine anF ?_|refine anT ?_|refine anK ?_|refine And.intro (fun h => ?_) (fun h => ?_)|refine Or.inl ?_)
 refine ar (X:=Nat) (fun x => ⟨[(5,.int .i64 x),(1,au l),(0,ak ps)],[]⟩) (fun x => x ≤ l.length ∧ (List.range x).all (j9 ps.length l) = true) (fun x => l.length - x) 0 ⟨Nat.zero_le _,rfl⟩ (ah ?_ ?_) (fun x hx => ?_)
 ·repeat' (first | exact trivial | refine And.intro rfl ?_)
 ·repeat' (first | exact trivial | refine And.intro rfl ?_)
 ·rename Nat => i
  obtain ⟨hi,ht⟩:=hx
  by_cases hlt_i : i < l.length
  ·have bbk : decide ((i : Int) < ((l.map fun h => [AV.int .i64 h]).length : Int)) = false → False:=fun h => by have:=of_decide_eq_false h; simp at this; omega
   have hx:=ea hlt_i
   have hw : (i : Int) > 0 → IntKind.i64.wrap ((i : Int) - 1) = ((i - 1 : Nat) : Int):=fun h => (aq (by omega) (by omega)).trans (by omega)
   have hp0 : decide ((i : Int) > 0) = true → 0 ≤ IntKind.i64.wrap ((i : Int) - 1):=fun h => by rw [hw (of_decide_eq_true h)]; omega
   have hp : decide ((i : Int) > 0) = true → (l.map fun h => [AV.int .i64 h])[(IntKind.i64.wrap ((i : Int) - 1)).toNat]? = some [.int .i64 (ay l (i - 1))]:=fun h => by rw [hw (of_decide_eq_true h)]; exact ea (by omega)
   have hok : j9 ps.length l i = (decide (0 ≤ ay l i) && decide (ay l i < ps.length) && (decide (i = 0) || decide (ay l (i - 1) < ay l i))):=rfl
   generalize ay l (i - 1) = v at hp hok
   generalize ay l i = u at hx hok
   repeat' first|exact (bbk (by assumption)).elim|refine Q1 ?_|refine Q2 ?_|refine Q3 hG aa eF ?_|refine Q4 hG aa eF ?_|refine Q5 hG aa ?_|refine Q6 hG aa ?_|refine Q7 hG aa ?_|refine Q8 hG aa ?_|refine Q9 rfl ?_|refine QF rfl ?_|refine QC rfl ⟨fun h => ?_,fun h => ?_⟩|((conv => whnf); first|refine anF ?_|refine anT ?_|refine anK ?_|refine And.intro (Int.natCast_nonneg i) (Exists.intro _ (And.intro hx ?_))|refine And.intro (hp0 (by assumption)) (Exists.intro _ (And.intro (hp (by assumption)) ?_))|refine And.intro (fun h => ?_) (fun h => ?_)|refine Or.inl ?_)
   all_goals first
    |(refine Ends.mk (Or.inl rfl) (ac (congrArg AV.bool ?_))
      exact (vh hlt_i (by rw [hok]; clear hG; grind)).symm)
    | skip
   all_goals (refine Exists.intro (i + 1) (And.intro ?_ (And.intro (by omega) (ah ?_ ?_))))
   all_goals first
    |(refine And.intro (congrArg some (ap (by omega))) ?_
      repeat' (first | exact trivial | refine And.intro rfl ?_))
    |((repeat' (first | exact trivial | refine And.intro rfl ?_)); done)
    |(exact ⟨hlt_i,by rw [m9,ht,hok]; clear hG; grind⟩)
  ·have bbk : decide ((i : Int) < ((l.map fun h => [AV.int .i64 h]).length : Int)) = true → False:=fun h => by have:=of_decide_eq_true h; simp at this; omega
   have he : i = l.length:=by omega
   rw [he] at ht
   repeat' first|exact (bbk (by assumption)).elim|refine Q1 ?_|refine Q2 ?_|refine Q3 hG aa eF ?_|refine Q4 hG aa eF ?_|refine Q5 hG aa ?_|refine Q6 hG aa ?_|refine Q7 hG aa ?_|refine Q8 hG aa ?_|refine Q9 rfl ?_|refine QF rfl ?_|refine QC rfl ⟨fun h => ?_,fun h => ?_⟩|((conv => whnf); first|refine anF ?_|refine anT ?_|refine anK ?_|refine Exists.intro _ (And.intro (gC ps hps) ?_)|refine And.intro (fun h => ?_) (fun h => ?_)|refine Or.inl ?_)
   exact Ends.mk (Or.inl rfl) (ac (congrArg AV.bool (by rw [gq,ht,Bool.true_and])))
def ju (ds : List Int) (i : Nat) : Nat:=(ds.take i).foldl (fun n d => max n (gA ds d)) 0
theorem vI {ds : List Int} {i : Nat} (h : i < ds.length) : ju ds (i + 1) = max (ju ds i) (gA ds (ds.getD i 0)):=by
 unfold ju; rw [eW h,List.foldl_append]; rfl
theorem zR (ds : List Int) (i : Nat) : ju ds i ≤ ds.length:=jB _ _ _ _ (Nat.zero_le _) fun x _ => mS ds x
theorem Ap {ds : List Int} {d : Int} {j : Nat} (h : j < ds.length) : gA (ds.take (j + 1)) d = gA (ds.take j) d + (if ds.getD j 0 = d then 1 else 0):=by
 unfold gA
 rw [eW h,List.filter_append,List.length_append]
 congr 1
 by_cases hz : ds.getD j 0 = d
 ·rw [if_pos hz,List.filter_cons_of_pos (by simpa using hz)]; rfl
 ·rw [if_neg hz,List.filter_cons_of_neg (by simpa using hz)]; rfl
set_option maxHeartbeats 4000000 in
theorem ye (ps : List al) (l : List Int) (hl : l.length ≤ 1000000) (hset : gq ps l = true) : ae Tryz.prog 195 [ak ps,au l] (.int .i64 (rd ps l)):=by
  have hps2 : bp ps = true:=by simp only [gq,Bool.and_eq_true] at hset; exact hset.2
  have hlm : ((l.map (aW ps)).length) = l.length:=by rw [List.length_map]
  refine ag aa Tryz.func195 rfl (by kernel_rfl) af (Nat.le_of_ble_eq_true rfl) ?_
  intro F n' w0 m0 hG hro h1
  repeat' first|refine Q1 ?_|refine Q2 ?_|refine Q3 hG aa bH ?_|refine Q4 hG aa bH ?_|refine Q5 hG aa ?_|refine Q6 hG aa ?_|refine Q7 hG aa ?_|refine Q8 hG aa ?_|refine Q9 rfl ?_|refine QF rfl ?_|refine QC rfl ⟨fun h => ?_,fun h => ?_⟩|((conv => whnf); first|refine anF ?_|refine anT ?_|refine anK ?_|refine And.intro (fun h => ?_) (fun h => ?_)|refine Or.inl ?_)
  refine ar (X:=Nat) (fun x => ⟨[(6,.int .i64 x),(5,.int .i64 (ju (l.map (aW ps)) x)),(1,au l),(0,ak ps)],[]⟩) (fun x => x ≤ l.length) (fun x => l.length - x) 0 (Nat.zero_le _) (ah ?_ ?_) (fun x hx => ?_)
  · repeat' (first | exact trivial | refine And.intro rfl ?_)
  · repeat' (first | exact trivial | refine And.intro rfl ?_)
  · rename Nat => i
    have hi:=hx
    by_cases hlt_i : i < l.length
    · have bbk : decide ((i : Int) < ((l.map fun h => [AV.int .i64 h]).length : Int)) = false → False:=fun h => by have:=of_decide_eq_false h; simp at this; omega
      have hx1:=ea hlt_i
      obtain ⟨h0a,h1a⟩:=qu hset hlt_i
      have hya:=cn (l:=ps) (i:=(ay l i).toNat) (by omega)
      have hwda : IntKind.i64.wrap ((aA ps (ay l i).toNat).ca.tdiv 1440) = (l.map (aW ps)).getD i 0:=by
        have hdi : (l.map (aW ps)).getD i 0 = aW ps (ay l i):=by simp [ay,List.getElem?_eq_getElem hlt_i]
        rw [hdi,show aW ps (ay l i) = (aA ps (ay l i).toNat).ca.tdiv 1440 from rfl]
        have h3:=qW hps2 (i:=(ay l i).toNat) (by omega)
        rw [Int.tdiv_eq_ediv_of_nonneg h3.1]
        exact aq (by omega) (by omega)
      repeat' first|exact (bbk (by assumption)).elim|refine Q1 ?_|refine Q2 ?_|refine Q3 hG aa bH ?_|refine Q4 hG aa bH ?_|refine Q5 hG aa ?_|refine Q6 hG aa ?_|refine Q7 hG aa ?_|refine Q8 hG aa ?_|refine Q9 rfl ?_|refine QF rfl ?_|refine QC rfl ⟨fun h => ?_,fun h => ?_⟩|((conv => whnf); first|refine anF ?_|refine anT ?_|refine anK ?_|refine And.intro (fun h => ?_) (fun h => ?_)|refine Or.inl ?_)
      refine ar (X:=Nat) (fun x => ⟨[(8,.int .i64 x),(7,.int .i64 (gA ((l.map (aW ps)).take x) ((l.map (aW ps)).getD i 0))),(6,.int .i64 i),(5,.int .i64 (ju (l.map (aW ps)) i)),(1,au l),(0,ak ps)],[]⟩) (fun x => x ≤ l.length) (fun x => l.length - x) 0 (Nat.zero_le _) (ah ?_ ?_) (fun x hx => ?_)
      · repeat' (first | exact trivial | refine And.intro rfl ?_)
      · repeat' (first | exact trivial | refine And.intro rfl ?_)
      · rename Nat => j
        have hj:=hx
        by_cases hlt_j : j < l.length
        · have bbj : decide ((j : Int) < ((l.map fun h => [AV.int .i64 h]).length : Int)) = false → False:=fun h => by have:=of_decide_eq_false h; simp at this; omega
          have hx2:=ea hlt_j
          obtain ⟨h0b,h1b⟩:=qu hset hlt_j
          have hyb:=cn (l:=ps) (i:=(ay l j).toNat) (by omega)
          have hwdb : IntKind.i64.wrap ((aA ps (ay l j).toNat).ca.tdiv 1440) = (l.map (aW ps)).getD j 0:=by
            have hdi : (l.map (aW ps)).getD j 0 = aW ps (ay l j):=by simp [ay,List.getElem?_eq_getElem hlt_j]
            rw [hdi,show aW ps (ay l j) = (aA ps (ay l j).toNat).ca.tdiv 1440 from rfl]
            have h3:=qW hps2 (i:=(ay l j).toNat) (by omega)
            rw [Int.tdiv_eq_ediv_of_nonneg h3.1]
            exact aq (by omega) (by omega)
          have hsu:=Ap (ds:=l.map (aW ps)) (d:=(l.map (aW ps)).getD i 0) (j:=j) (by omega)
          have hcl2:=mS ((l.map (aW ps)).take j) ((l.map (aW ps)).getD i 0)
          rw [List.length_take] at hcl2
          generalize gA ((l.map (aW ps)).take j) ((l.map (aW ps)).getD i 0) = cj at *
          generalize (l.map (aW ps)).getD i 0 = di at *
          generalize (l.map (aW ps)).getD j 0 = dj at *
          generalize aA ps (ay l j).toNat = pj at *
          generalize ay l j = uj at *
          generalize aA ps (ay l i).toNat = pi at *
          generalize ay l i = ui at *
          repeat' first|exact (bbj (by assumption)).elim|refine Q1 ?_|refine Q2 ?_|refine Q3 hG aa bH ?_|refine Q4 hG aa bH ?_|refine Q5 hG aa ?_|refine Q6 hG aa ?_|refine Q7 hG aa ?_|refine Q8 hG aa ?_|refine Q9 rfl ?_|refine QF rfl ?_|refine QC rfl ⟨fun h => ?_,fun h => ?_⟩|((conv => whnf); first|refine anF ?_|refine anT ?_|refine anK ?_|refine And.intro (Int.natCast_nonneg i) (Exists.intro _ (And.intro hx1 ?_))|refine And.intro (Int.natCast_nonneg j) (Exists.intro _ (And.intro hx2 ?_))|refine And.intro h0a (Exists.intro _ (And.intro hya ?_))|refine And.intro h0b (Exists.intro _ (And.intro hyb ?_))|refine And.intro (of_decide_eq_true (Eq.refl true)) ?_|refine And.intro (fun h => ?_) (fun h => ?_)|refine Or.inl ?_)
          all_goals (refine Exists.intro (j + 1) (And.intro hlt_j (And.intro (by omega) (ah ?_ ?_))))
          all_goals first
            | (refine And.intro (congrArg some (ap (by omega))) (And.intro (congrArg (fun z => some (AV.int .i64 z)) ?_) ?_)
               · (have h:=(by assumption : (_ == _) = _)
                  rw [hwda,hwdb] at h
                  first
                    | (have h:=eq_of_beq h; rw [hsu,if_pos h.symm]; exact (aq (by omega) (by omega)).trans (by omega))
                    | (have h : di ≠ dj:=fun e => by rw [e] at h; simp at h
                       rw [hsu,if_neg fun e => h e.symm]; rfl))
               · repeat' (first | exact trivial | refine And.intro rfl ?_))
            | (repeat' (first | exact trivial | refine And.intro rfl ?_))
        · have bbj : decide ((j : Int) < ((l.map fun h => [AV.int .i64 h]).length : Int)) = true → False:=fun h => by have:=of_decide_eq_true h; simp at this; omega
          have he2 : (l.map (aW ps)).take j = l.map (aW ps):=List.take_of_length_le (by rw [List.length_map]; omega)
          rw [he2]
          have hsm:=vI (ds:=l.map (aW ps)) (i:=i) (by omega)
          have hml:=zR (l.map (aW ps)) i
          have hcl:=mS (l.map (aW ps)) ((l.map (aW ps)).getD i 0)
          generalize ju (l.map (aW ps)) i = mi at *
          generalize gA (l.map (aW ps)) ((l.map (aW ps)).getD i 0) = ci at *
          repeat' first|exact (bbj (by assumption)).elim|refine Q1 ?_|refine Q2 ?_|refine Q3 hG aa bH ?_|refine Q4 hG aa bH ?_|refine Q5 hG aa ?_|refine Q6 hG aa ?_|refine Q7 hG aa ?_|refine Q8 hG aa ?_|refine Q9 rfl ?_|refine QF rfl ?_|refine QC rfl ⟨fun h => ?_,fun h => ?_⟩|((conv => whnf); first|refine anF ?_|refine anT ?_|refine anK ?_|refine And.intro (fun h => ?_) (fun h => ?_)|refine Or.inl ?_)
          all_goals (refine Exists.intro (i + 1) (And.intro hlt_i (And.intro (by omega) (ah ?_ ?_))))
          all_goals first
            | (refine And.intro (congrArg some (ap (by omega))) (And.intro (congrArg (fun z => some (AV.int .i64 z)) (by rw [hsm]; show max (mi : Int) (ci : Int) = _; omega)) ?_)
               repeat' (first | exact trivial | refine And.intro rfl ?_))
            | (repeat' (first | exact trivial | refine And.intro rfl ?_))
    · have bbk : decide ((i : Int) < ((l.map fun h => [AV.int .i64 h]).length : Int)) = true → False:=fun h => by have:=of_decide_eq_true h; simp at this; omega
      have he : ju (l.map (aW ps)) i = rd ps l:=by
        unfold ju
        rw [List.take_of_length_le (by rw [List.length_map]; omega)]; rfl
      rw [he]
      repeat' first|exact (bbk (by assumption)).elim|refine Q1 ?_|refine Q2 ?_|refine Q3 hG aa bH ?_|refine Q4 hG aa bH ?_|refine Q5 hG aa ?_|refine Q6 hG aa ?_|refine Q7 hG aa ?_|refine Q8 hG aa ?_|refine Q9 rfl ?_|refine QF rfl ?_|refine QC rfl ⟨fun h => ?_,fun h => ?_⟩|((conv => whnf); first|refine anF ?_|refine anT ?_|refine anK ?_|refine And.intro (fun h => ?_) (fun h => ?_)|refine Or.inl ?_)
      exact Ends.mk (Or.inl rfl) (ac rfl)
end Go.Proofs
namespace Go.Proofs
open Go Go.AI
set_option maxRecDepth 10000
theorem lj (ps : List al) (l : List Int) (k : Int) (hl : l.length ≤ 1000000) (hps : ps.length ≤ 1000000) : ae Tryz.prog 119 [ak ps,au l,.int .i64 k] (.bool (ej ps l k)):=by
 refine ag aa Tryz.func119 rfl (by kernel_rfl) af (Nat.le_of_ble_eq_true rfl) ?_
 intro F n' w0 m0 hG hro h1
 repeat' first|refine Q1 ?_|refine Q2 ?_|refine Q3 hG aa ol ?_|refine Q4 hG aa ol ?_|refine Q5 hG aa ?_|refine Q6 hG aa ?_|refine Q7 hG aa ?_|refine Q8 hG aa ?_|refine Q9 rfl ?_|refine QF rfl ?_|refine QC rfl ⟨fun h => ?_,fun h => ?_⟩|((conv => whnf); first|refine anF ?_|refine anT ?_|refine anK ?_|refine Exists.intro _ (And.intro (wH k) ?_)|refine Exists.intro _ (And.intro (tN ps l hl hps) ?_)|refine Exists.intro _ (And.intro (ye ps l hl (by assumption)) ?_)|refine And.intro (fun h => ?_) (fun h => ?_)|refine Or.inl ?_)
 all_goals refine Ends.mk (Or.inl rfl) (ac (congrArg AV.bool ?_))
 all_goals (clear hG; grind [ej])
theorem zI {ps : List al} (h : bp ps = true) {i : Nat} (hi : i < ps.length) : 0 ≤ (aA ps i).sa:=by
 have h2 : bX (aA ps i) = true:=by
  simp only [bp,Bool.and_eq_true,Bool.not_eq_true',List.any_eq_false] at h
  have:=h.1.2 (aA ps i) (by unfold aA; rw [List.getD_eq_getElem?_getD,List.getElem?_eq_getElem hi]; exact List.getElem_mem hi)
  simpa using this
 simp only [bX,Bool.and_eq_true,Bool.or_eq_true,beq_iff_eq,decide_eq_true_eq] at h2
 omega
def slR (ps : List al) (i : Nat) (t : Int) (x : aU) : Bool:=!decide (x.p < 0) && !decide (x.p ≥ (ps.length : Int)) && !decide (x.a < (aA ps x.p.toNat).sa) && !decide (x.a ≥ x.b) && !decide (x.b > (aA ps x.p.toNat).sb) && !(decide (0 < i) && decide (x.a < t))
def ub (ps : List al) : Nat → Int → List aU → Bool
 | _,_,[] => true
 | i,t,x :: r => slR ps i t x && ub ps (i + 1) x.b r
theorem EY {ps : List al} (h : bp ps = true) (i : Nat) (t : Int) (x : aU) (h0 : i = 0 → t = 0) : slR ps i t x = slL ps t x:=by
 by_cases hp : 0 ≤ x.p ∧ x.p < (ps.length : Int)
 ·have h2:=zI h (i:=x.p.toNat) (by omega)
  unfold slR slL
  rcases Nat.eq_zero_or_pos i with hi | hi
  ·rw [h0 hi,hi]
   have e : max 0 (aA ps x.p.toNat).sa = (aA ps x.p.toNat).sa:=by omega
   rw [e]; simp
  ·have e : decide (x.a < max t (aA ps x.p.toNat).sa) = (decide (x.a < (aA ps x.p.toNat).sa) || decide (x.a < t)):=by
    rw [← Bool.decide_or]; exact decide_eq_decide.2 (by omega)
   rw [e,decide_eq_true hi]
   cases decide (x.a < (aA ps x.p.toNat).sa) <;> cases decide (x.a < t) <;> cases decide (x.a ≥ x.b) <;> cases decide (x.b > (aA ps x.p.toNat).sb) <;> cases decide (x.p < 0) <;> cases decide (x.p ≥ (ps.length : Int)) <;> rfl
 ·unfold slR slL
  have e : (!decide (x.p < 0) && !decide (x.p ≥ (ps.length : Int))) = false:=by
   rw [Bool.and_eq_false_iff]
   by_cases h1 : x.p < 0
   ·left; rw [decide_eq_true h1]; rfl
   ·right; rw [decide_eq_true (by omega)]; rfl
  rw [e]; rfl
theorem yE {ps : List al} (h : bp ps = true) : ∀ (r : List aU) (i : Nat) (t : Int),(i = 0 → t = 0) → ub ps i t r = ql ps t r
 | [],_,_,_ => rfl
 | x :: r,i,t,h0 => by rw [ub,ql,EY h i t x h0,yE h r (i + 1) x.b fun e => absurd e (by omega)]
theorem zz {ps : List al} {t : Int} {l : List aU} {i : Nat} (h : i < l.length) : ub ps i t (l.drop i) = (slR ps i t (l.getD i ⟨0,0,0⟩) && ub ps (i + 1) (l.getD i ⟨0,0,0⟩).b (l.drop (i + 1))):=by
 rw [List.drop_eq_getElem_cons h,List.getD_eq_getElem?_getD,List.getElem?_eq_getElem h]; rfl
def zG (l : List aU) (i : Nat) : Int:=if i = 0 then 0 else (l.getD (i - 1) ⟨0,0,0⟩).b
set_option maxHeartbeats 4000000 in
theorem nc (o : Opt) (ps : List al) (hl : o.sl.length ≤ 1000000) (hps : ps.length ≤ 1000000) : ae Tryz.prog 120 [.agg (aH o),ak ps] (.bool (bz o ps)):=by
 have hlm : ((o.sl.map aw).length : Int) = (o.sl.length : Int):=by rw [List.length_map]
 have hpm : ((ps.map aG).length : Int) = (ps.length : Int):=by rw [List.length_map]
 refine ag aa Tryz.func120 rfl (by kernel_rfl) af (Nat.le_of_ble_eq_true rfl) ?_
 intro F n' w0 m0 hG hro h1
 repeat' first|refine Q1 ?_|refine Q2 ?_|refine Q3 hG aa eJ ?_|refine Q4 hG aa eJ ?_|refine Q5 hG aa ?_|refine Q6 hG aa ?_|refine Q7 hG aa ?_|refine Q8 hG aa ?_|refine Q9 rfl ?_|refine QF rfl ?_|refine QC rfl ⟨fun h => ?_,fun h => ?_⟩|((conv => whnf); first|refine anF ?_|refine anT ?_|refine anK ?_|refine Exists.intro _ (And.intro (gC ps hps) ?_)|refine And.intro (fun h => ?_) (fun h => ?_)|refine Or.inl ?_)
 all_goals first
  |(refine Ends.mk (Or.inl rfl) (ac (congrArg AV.bool ?_))
    (rw [hlm] at *; clear hG; grind [bz]))
  | skip
 have hpp : bp ps = true:=by clear hG; grind
 have hval : bz o ps = ub ps 0 0 o.sl:=by rw [yE hpp _ _ _ fun _ => rfl]; rw [hlm] at *; clear hG; grind [bz]
 rw [hval]
 refine ar (X:=Nat) (fun x => ⟨[(6,.int .i64 x),(2,.loc 2 0),(1,ak ps)],[(2,aH o)]⟩) (fun x => x ≤ o.sl.length ∧ ub ps x (zG o.sl x) (o.sl.drop x) = ub ps 0 0 o.sl) (fun x => o.sl.length - x) 0 ⟨Nat.zero_le _,rfl⟩ (ah ?_ ?_) (fun x hx => ?_)
 ·repeat' (first | exact trivial | refine And.intro rfl ?_)
 ·repeat' (first | exact trivial | refine And.intro rfl ?_)
 ·rename Nat => i
  obtain ⟨hi,hf⟩:=hx
  by_cases hlt_i : i < o.sl.length
  ·have bbk : decide ((i : Int) < ((o.sl.map aw).length : Int)) = false → False:=fun h => by have:=of_decide_eq_false h; simp at this; omega
   have hx:=cR hlt_i
   rw [zz hlt_i] at hf
   have hpn : zG o.sl (i + 1) = (o.sl.getD i ⟨0,0,0⟩).b:=by unfold zG; rw [if_neg (by omega)]; rfl
   have hw : (i : Int) > 0 → IntKind.i64.wrap ((i : Int) - 1) = ((i - 1 : Nat) : Int):=fun h => (aq (by omega) (by omega)).trans (by omega)
   have hp0 : decide ((i : Int) > 0) = true → 0 ≤ IntKind.i64.wrap ((i : Int) - 1):=fun h => by rw [hw (of_decide_eq_true h)]; omega
   have hp : decide ((i : Int) > 0) = true → (o.sl.map aw)[(IntKind.i64.wrap ((i : Int) - 1)).toNat]? = some (aw (o.sl.getD (i - 1) ⟨0,0,0⟩)):=fun h => by rw [hw (of_decide_eq_true h)]; exact cR (by omega)
   have hpb : 0 < i → zG o.sl i = (o.sl.getD (i - 1) ⟨0,0,0⟩).b:=fun h => by unfold zG; rw [if_neg (by omega)]
   generalize zG o.sl i = e at *
   generalize o.sl.getD (i - 1) ⟨0,0,0⟩ = y at *
   generalize o.sl.getD i ⟨0,0,0⟩ = x at hx hf hpn
   have bad : slR ps i e x = false → false = ub ps 0 0 o.sl:=fun h => by rw [← hf,h,Bool.false_and]
   have hin : decide (x.p < 0) = false → decide (x.p ≥ ((ps.map aG).length : Int)) = false → 0 ≤ x.p ∧ (ps.map aG)[x.p.toNat]? = some (aG (aA ps x.p.toNat)):=fun h1 h2 => by
    have h1:=of_decide_eq_false h1
    have h2:=of_decide_eq_false h2
    rw [hpm] at h2
    exact ⟨by omega,cn (by omega)⟩
   repeat' first|exact (bbk (by assumption)).elim|refine Q1 ?_|refine Q2 ?_|refine Q3 hG aa eJ ?_|refine Q4 hG aa eJ ?_|refine Q5 hG aa ?_|refine Q6 hG aa ?_|refine Q7 hG aa ?_|refine Q8 hG aa ?_|refine Q9 rfl ?_|refine QF rfl ?_|refine QC rfl ⟨fun h => ?_,fun h => ?_⟩|((conv => whnf); first|refine anF ?_|refine anT ?_|refine anK ?_|refine And.intro (Int.natCast_nonneg i) (Exists.intro _ (And.intro hx ?_))|refine And.intro (hin (by assumption) (by assumption)).1 (Exists.intro _ (And.intro (hin (by assumption) (by assumption)).2 ?_))|refine And.intro (hp0 (by assumption)) (Exists.intro _ (And.intro (hp (by assumption)) ?_))|refine And.intro (fun h => ?_) (fun h => ?_)|refine Or.inl ?_)
   all_goals first
    |(refine Ends.mk (Or.inl rfl) (ac (congrArg AV.bool ?_))
      exact bad (by rw [hpm] at *; clear hG hx hf bad hin hp hp0 hw hpn hval hpp hlm; unfold slR; grind))
    | skip
   all_goals (refine Exists.intro (i + 1) (And.intro ?_ (And.intro (by omega) (ah ?_ ?_))))
   all_goals first
    |(refine And.intro (congrArg some (ap (by omega))) ?_
      repeat' (first | exact trivial | refine And.intro rfl ?_))
    |((repeat' (first | exact trivial | refine And.intro rfl ?_)); done)
    |(exact ⟨hlt_i,by rw [hpn,← hf,show slR ps i e x = true by (rw [hpm] at *; clear hG hx hf bad hin hp hp0 hw hpn hval hpp hlm; unfold slR; grind),Bool.true_and]⟩)
  ·have bbk : decide ((i : Int) < ((o.sl.map aw).length : Int)) = true → False:=fun h => by have:=of_decide_eq_true h; simp at this; omega
   rw [List.drop_of_length_le (by omega)] at hf
   repeat' first|exact (bbk (by assumption)).elim|refine Q1 ?_|refine Q2 ?_|refine Q3 hG aa eJ ?_|refine Q4 hG aa eJ ?_|refine Q5 hG aa ?_|refine Q6 hG aa ?_|refine Q7 hG aa ?_|refine Q8 hG aa ?_|refine Q9 rfl ?_|refine QF rfl ?_|refine QC rfl ⟨fun h => ?_,fun h => ?_⟩|((conv => whnf); first|refine anF ?_|refine anT ?_|refine anK ?_|refine And.intro (fun h => ?_) (fun h => ?_)|refine Or.inl ?_)
   exact Ends.mk (Or.inl rfl) (ac (congrArg AV.bool hf))
theorem By {o : Opt} {lost : List Int} {i : Nat} (h : i < o.sl.length) : bV (fun x : aU => !inP lost x.p) (o.sl.drop i) i = if (!inP lost (o.sl.getD i ⟨0,0,0⟩).p) = true then (i : Int) else bV (fun x : aU => !inP lost x.p) (o.sl.drop (i + 1)) (i + 1):=aT (d:=⟨0,0,0⟩) h
set_option maxHeartbeats 4000000 in
theorem yc (o : Opt) (lost : List Int) (hl : o.sl.length ≤ 1000000) (hlo : lost.length ≤ 1000000) : ae Tryz.prog 199 [.agg (aH o),au lost] (.int .i64 (f7 o lost)):=by
 have hlm : ((o.sl.map aw).length : Int) = (o.sl.length : Int):=by rw [List.length_map]
 have cH:=fun n => tO lost n hlo
 refine ag aa Tryz.func199 rfl (by kernel_rfl) af (Nat.le_of_ble_eq_true rfl) ?_
 intro F n' w0 m0 hG hro h1
 repeat' first|refine Q1 ?_|refine Q2 ?_|refine Q3 hG aa eB ?_|refine Q4 hG aa eB ?_|refine Q5 hG aa ?_|refine Q6 hG aa ?_|refine Q7 hG aa ?_|refine Q8 hG aa ?_|refine Q9 rfl ?_|refine QF rfl ?_|refine QC rfl ⟨fun h => ?_,fun h => ?_⟩|((conv => whnf); first|refine anF ?_|refine anT ?_|refine anK ?_|refine And.intro (fun h => ?_) (fun h => ?_)|refine Or.inl ?_)
 refine ar (X:=Nat) (fun x => ⟨[(5,.int .i64 x),(2,.loc 2 0),(1,au lost)],[(2,aH o)]⟩) (fun x => x ≤ o.sl.length ∧ bV (fun x : aU => !inP lost x.p) (o.sl.drop x) x = f7 o lost) (fun x => o.sl.length - x) 0 ⟨Nat.zero_le _,rfl⟩ (ah ?_ ?_) (fun x hx => ?_)
 ·repeat' (first | exact trivial | refine And.intro rfl ?_)
 ·repeat' (first | exact trivial | refine And.intro rfl ?_)
 ·rename Nat => i
  obtain ⟨hi,ht⟩:=hx
  by_cases hlt_i : i < o.sl.length
  ·have bbk : decide ((i : Int) < ((o.sl.map aw).length : Int)) = false → False:=fun h => by have:=of_decide_eq_false h; simp at this; omega
   have hx:=cR hlt_i
   have hst:=By (o:=o) (lost:=lost) hlt_i
   generalize o.sl.getD i ⟨0,0,0⟩ = u at *
   repeat' first|exact (bbk (by assumption)).elim|refine Q1 ?_|refine Q2 ?_|refine Q3 hG aa eB ?_|refine Q4 hG aa eB ?_|refine Q5 hG aa ?_|refine Q6 hG aa ?_|refine Q7 hG aa ?_|refine Q8 hG aa ?_|refine Q9 rfl ?_|refine QF rfl ?_|refine QC rfl ⟨fun h => ?_,fun h => ?_⟩|((conv => whnf); first|refine anF ?_|refine anT ?_|refine anK ?_|refine And.intro (Int.natCast_nonneg i) (Exists.intro _ (And.intro hx ?_))|refine Exists.intro _ (And.intro (cH _) ?_)|refine And.intro (fun h => ?_) (fun h => ?_)|refine Or.inl ?_)
   all_goals first
    |(refine Ends.mk (Or.inl rfl) (ac (congrArg (AV.int .i64) ?_))
      rw [← ht,hst,if_pos (by assumption)])
    | skip
   all_goals (refine Exists.intro (i + 1) (And.intro ?_ (And.intro (by omega) (ah ?_ ?_))))
   all_goals first
    |(refine And.intro (congrArg some (ap (by omega))) ?_
      repeat' (first | exact trivial | refine And.intro rfl ?_))
    |((repeat' (first | exact trivial | refine And.intro rfl ?_)); done)
    |(exact ⟨hlt_i,by rw [← ht,hst,if_neg (fun h => tf h (by assumption))]⟩)
  ·have bbk : decide ((i : Int) < ((o.sl.map aw).length : Int)) = true → False:=fun h => by have:=of_decide_eq_true h; simp at this; omega
   rw [List.drop_of_length_le (by omega)] at ht
   repeat' first|exact (bbk (by assumption)).elim|refine Q1 ?_|refine Q2 ?_|refine Q3 hG aa eB ?_|refine Q4 hG aa eB ?_|refine Q5 hG aa ?_|refine Q6 hG aa ?_|refine Q7 hG aa ?_|refine Q8 hG aa ?_|refine Q9 rfl ?_|refine QF rfl ?_|refine QC rfl ⟨fun h => ?_,fun h => ?_⟩|((conv => whnf); first|refine anF ?_|refine anT ?_|refine anK ?_|refine And.intro (fun h => ?_) (fun h => ?_)|refine Or.inl ?_)
   exact Ends.mk (Or.inl rfl) (ac (congrArg (AV.int .i64) ht))
theorem yf (o : Opt) (ps : List al) (lost : List Int) (hl : o.sl.length ≤ 1000000) (hps : ps.length ≤ 1000000) (hlo : lost.length ≤ 1000000) : ae Tryz.prog 124 [.agg (aH o),ak ps,au lost] (qS o ps lost):=by
 have c1:=nc o ps hl hps
 have c2:=tN ps lost hlo hps
 have c3:=yc o lost hl hlo
 have hg : gQ o ps lost = (bz o ps && gq ps lost):=rfl
 unfold qS
 generalize gQ o ps lost = g at *
 generalize bz o ps = g1 at *
 generalize gq ps lost = g2 at *
 cases g1 <;> cases g2 <;> subst hg
 ·refine ag aa Tryz.func124 rfl (by kernel_rfl) af (Nat.le_of_ble_eq_true rfl) ?_
  intro F n' w0 m0 hG hro h1
  repeat' first|refine Q1 ?_|refine Q2 ?_|refine Q3 hG aa de ?_|refine Q4 hG aa de ?_|refine Q5 hG aa ?_|refine Q6 hG aa ?_|refine Q7 hG aa ?_|refine Q8 hG aa ?_|refine Q9 rfl ?_|refine QF rfl ?_|refine QC rfl ⟨fun h => ?_,fun h => ?_⟩|((conv => whnf); first|refine anF ?_|refine anT ?_|refine anK ?_|refine Exists.intro _ (And.intro (c1) ?_)|refine Exists.intro _ (And.intro (c2) ?_)|refine Exists.intro _ (And.intro (c3) ?_)|refine And.intro (fun h => ?_) (fun h => ?_)|refine Or.inl ?_)
  all_goals exact Ends.mk (Or.inl rfl) (ac rfl)
 ·refine ag aa Tryz.func124 rfl (by kernel_rfl) af (Nat.le_of_ble_eq_true rfl) ?_
  intro F n' w0 m0 hG hro h1
  repeat' first|refine Q1 ?_|refine Q2 ?_|refine Q3 hG aa de ?_|refine Q4 hG aa de ?_|refine Q5 hG aa ?_|refine Q6 hG aa ?_|refine Q7 hG aa ?_|refine Q8 hG aa ?_|refine Q9 rfl ?_|refine QF rfl ?_|refine QC rfl ⟨fun h => ?_,fun h => ?_⟩|((conv => whnf); first|refine anF ?_|refine anT ?_|refine anK ?_|refine Exists.intro _ (And.intro (c1) ?_)|refine Exists.intro _ (And.intro (c2) ?_)|refine Exists.intro _ (And.intro (c3) ?_)|refine And.intro (fun h => ?_) (fun h => ?_)|refine Or.inl ?_)
  all_goals exact Ends.mk (Or.inl rfl) (ac rfl)
 ·refine ag aa Tryz.func124 rfl (by kernel_rfl) af (Nat.le_of_ble_eq_true rfl) ?_
  intro F n' w0 m0 hG hro h1
  repeat' first|refine Q1 ?_|refine Q2 ?_|refine Q3 hG aa de ?_|refine Q4 hG aa de ?_|refine Q5 hG aa ?_|refine Q6 hG aa ?_|refine Q7 hG aa ?_|refine Q8 hG aa ?_|refine Q9 rfl ?_|refine QF rfl ?_|refine QC rfl ⟨fun h => ?_,fun h => ?_⟩|((conv => whnf); first|refine anF ?_|refine anT ?_|refine anK ?_|refine Exists.intro _ (And.intro (c1) ?_)|refine Exists.intro _ (And.intro (c2) ?_)|refine Exists.intro _ (And.intro (c3) ?_)|refine And.intro (fun h => ?_) (fun h => ?_)|refine Or.inl ?_)
  all_goals exact Ends.mk (Or.inl rfl) (ac rfl)
 ·refine ag aa Tryz.func124 rfl (by kernel_rfl) af (Nat.le_of_ble_eq_true rfl) ?_
  intro F n' w0 m0 hG hro h1
  repeat' first|refine Q1 ?_|refine Q2 ?_|refine Q3 hG aa de ?_|refine Q4 hG aa de ?_|refine Q5 hG aa ?_|refine Q6 hG aa ?_|refine Q7 hG aa ?_|refine Q8 hG aa ?_|refine Q9 rfl ?_|refine QF rfl ?_|refine QC rfl ⟨fun h => ?_,fun h => ?_⟩|((conv => whnf); first|refine anF ?_|refine anT ?_|refine anK ?_|refine Exists.intro _ (And.intro (c1) ?_)|refine Exists.intro _ (And.intro (c2) ?_)|refine Exists.intro _ (And.intro (c3) ?_)|refine And.intro (fun h => ?_) (fun h => ?_)|refine Or.inl ?_)
  all_goals exact Ends.mk (Or.inl rfl) (ac rfl)
end Go.Proofs
namespace Go.Proofs
open Go Go.AI
set_option maxRecDepth 10000
theorem SPB.nilT {Γ : aP} {s : St} {K : Exit → St → Prop} {c : Code} (d k sz0 sz : Nat) (h1 : AI.get s.t d = some (.sl (.id k) sz0 [])) (h : SPB Γ ⟨(d,.sl .no sz []) :: s.t,s.b⟩ c K) : SPB Γ s c K:=by
 refine ⟨fun a w hI => h.out a w ?_⟩
 obtain ⟨⟨cx,hW,ht⟩,hs,hd,hrn⟩:=hI
 refine ⟨⟨cx,hW,fun e x hx => ?_⟩,hs,hd,hrn⟩
 rw [ao] at hx
 split at hx
 ·rename_i he
  subst he
  cases hx
  exact (AV.weak.slnil : (AV.sl .no sz0 []).weak (.sl .no sz [])) _ _ (ht _ _ h1).2.2
 ·exact ht e x hx
theorem u7 {l : List Int} {n : Int} : ∀ (i : Nat),i ≤ l.length → (∀ y ∈ l.take i,y < n) → (∀ y,(l.drop i).head? = some y → ¬ y < n) → l.takeWhile (fun x => decide (x < n)) = l.take i ∧ l.dropWhile (fun x => decide (x < n)) = l.drop i:=by
 induction l with
 | nil => intro i h _ _; simp at h; subst h; exact ⟨rfl,rfl⟩
 | cons x r ih =>
  intro i h h1 h2
  cases i with
  | zero =>
   have:=h2 x rfl
   have e : decide (x < n) = false:=decide_eq_false this
   rw [List.takeWhile_cons,List.dropWhile_cons,e]; exact ⟨rfl,rfl⟩
  | succ i =>
   have e : decide (x < n) = true:=decide_eq_true (h1 x (by simp))
   obtain ⟨g1,g2⟩:=ih i (by simpa using h) (fun y hy => h1 y (by simp [hy])) h2
   rw [List.takeWhile_cons,List.dropWhile_cons,e,if_pos rfl,if_pos rfl,g1,g2]; exact ⟨rfl,rfl⟩
theorem D5 {l : List Int} {n : Int} {i : Nat} (h : i < l.length) (h1 : ∀ y ∈ l.take i,y < n) (h2 : ay l i = n) : iQ l n = l:=by
 have hd : (l.drop i).head? = some n:=by rw [List.drop_eq_getElem_cons h,← h2]; simp [ay,List.getElem?_eq_getElem h]
 obtain ⟨_,g2⟩:=u7 (n:=n) i (by omega) h1 fun y hy => by rw [hd] at hy; cases hy; omega
 unfold iQ
 rw [if_pos (by rw [g2]; exact hd)]
theorem yQ {l : List Int} {n : Int} {i : Nat} (h : i ≤ l.length) (h1 : ∀ y ∈ l.take i,y < n) (h2 : i < l.length → ¬ ay l i < n ∧ ay l i ≠ n) : iQ l n = l.take i ++ n :: l.drop i:=by
 have hd : ∀ y,(l.drop i).head? = some y → ¬ y < n ∧ y ≠ n:=fun y hy => by
  by_cases hi : i < l.length
  ·rw [List.drop_eq_getElem_cons hi] at hy
   have e : y = ay l i:=by simp only [List.head?_cons,Option.some.injEq] at hy; rw [← hy]; simp [ay,List.getElem?_eq_getElem hi]
   rw [e]; exact h2 hi
  ·rw [List.drop_of_length_le (by omega)] at hy; cases hy
 obtain ⟨g1,g2⟩:=u7 (n:=n) i h h1 fun y hy => (hd y hy).1
 unfold iQ
 rw [g1,g2,if_neg fun e => (hd n e).2 rfl]
theorem BL (l : List Int) (n : Int) : (iQ l n).length ≤ l.length + 1:=by
 unfold iQ
 split
 ·omega
 ·have:=congrArg List.length (List.takeWhile_append_dropWhile (p:=fun x => decide (x < n)) (l:=l))
  rw [List.length_append] at this
  rw [List.length_append,List.length_cons]; omega
theorem E5 {l : List Int} {n : Int} {i : Nat} (h : i < l.length) (h1 : ∀ y ∈ l.take i,y < n) (h2 : ay l i < n) : ∀ y ∈ l.take (i + 1),y < n:=fun y hy => by
 rw [eW h] at hy
 rcases List.mem_append.1 hy with hy | hy
 ·exact h1 y hy
 ·rw [List.mem_singleton.1 hy]; exact h2
set_option maxHeartbeats 4000000 in
theorem AG (l : List Int) (n : Int) (hl : l.length ≤ 1000000) : ae Tryz.prog 113 [au l,.int .i64 n] (au (iQ l n)):=by
 have hlm : (l.map (fun h => [AV.int .i64 h])).length = l.length:=List.length_map _
 refine ag aa Tryz.func113 rfl (by kernel_rfl) af (Nat.le_of_ble_eq_true rfl) ?_
 intro F n' w0 m0 hG hro h1
 repeat' first|refine Q1 ?_|refine Q2 ?_|refine Q3 hG aa aS ?_|refine Q4 hG aa aS ?_|refine Q5 hG aa ?_|refine Q6 hG aa ?_|refine Q7 hG aa ?_|refine Q8 hG aa ?_|refine Q9 rfl ?_|refine QF rfl ?_|refine QC rfl ⟨fun h => ?_,fun h => ?_⟩|((conv => whnf); first|refine anF ?_|refine anT ?_|refine anK ?_|refine And.intro (fun h => ?_) (fun h => ?_)|refine Or.inl ?_)
 refine ar (X:=Nat) (fun x => ⟨[(5,.int .i64 x),(1,.int .i64 n),(0,au l)],[]⟩) (fun x => x ≤ l.length ∧ ∀ y ∈ l.take x,y < n) (fun x => l.length - x) 0 ⟨Nat.zero_le _,fun y hy => by simp at hy⟩ (ah ?_ ?_) (fun x hx => ?_)
 ·repeat' (first | exact trivial | refine And.intro rfl ?_)
 ·repeat' (first | exact trivial | refine And.intro rfl ?_)
 ·rename Nat => i
  obtain ⟨hi,ht⟩:=hx
  obtain ⟨T,hT⟩ : ∃ T,T = (List.take ((i : Int)).toNat (l.map (fun h => [AV.int .i64 h]))).drop 0:=⟨_,rfl⟩
  obtain ⟨D,hD⟩ : ∃ D,D = (List.take (l.map (fun h => [AV.int .i64 h])).length (l.map (fun h => [AV.int .i64 h]))).drop ((i : Int)).toNat:=⟨_,rfl⟩
  have hT2 : T = (l.take i).map (fun h => [AV.int .i64 h]):=by rw [hT,List.drop_zero,Int.toNat_natCast,List.map_take]
  have hD2 : D = (l.drop i).map (fun h => [AV.int .i64 h]):=by rw [hD,List.take_length,Int.toNat_natCast,List.map_drop]
  by_cases hlt : i < l.length
  ·have bbk : decide ((i : Int) < ((l.map (fun h => [AV.int .i64 h])).length : Int)) = false → False:=fun h => by have:=of_decide_eq_false h; rw [hlm] at this; omega
   have hx:=ea hlt
   have f1:=D5 hlt ht
   have f2:=yQ (n:=n) (Nat.le_of_lt hlt) ht
   have f3:=E5 hlt ht
   generalize ay l i = u at *
   repeat' first|exact (bbk (by assumption)).elim|refine Q1 ?_|refine Q2 ?_|refine Q3 hG aa aS ?_|refine Q4 hG aa aS ?_|refine Q5 hG aa ?_|refine Q6 hG aa ?_|refine Q7 hG aa ?_|refine Q8 hG aa ?_|refine Q9 rfl ?_|refine QF rfl ?_|refine QC rfl ⟨fun h => ?_,fun h => ?_⟩|((conv => whnf); first|refine anF ?_|refine anT ?_|refine anK ?_|refine And.intro (Int.natCast_nonneg i) (Exists.intro _ (And.intro hx ?_))|refine And.intro (Int.natCast_nonneg i) ?_|refine And.intro (Nat.zero_le _) ?_|refine And.intro (show ((i : Int)).toNat ≤ _ by rw [hlm]; omega) ?_|refine And.intro (Nat.le_refl _) ?_|refine And.intro rfl ?_|refine And.intro (show _ * 8 ≤ 70368744177664 by simp only [List.length_append,List.length_cons,List.length_nil,List.length_drop,List.length_take,List.length_map]; omega) ?_|refine And.intro (show _ ≤ 4611686018427387904 by simp only [List.length_append,List.length_cons,List.length_nil,List.length_drop,List.length_take,List.length_map]; omega) ?_|refine And.intro (fun h => ?_) (fun h => ?_)|refine Or.inl ?_)
   ·refine Exists.intro (i + 1) (And.intro ⟨hlt,f3 (of_decide_eq_true (by assumption))⟩ (And.intro (by omega) (ah ?_ ?_)))
    ·refine And.intro (congrArg some (ap (by omega))) ?_
     repeat' (first | exact trivial | refine And.intro rfl ?_)
    ·repeat' (first | exact trivial | refine And.intro rfl ?_)
   ·dsimp only
    exact Ends.mk (Or.inl rfl) (ac (by rw [f1 (eq_of_beq (by assumption))]; rfl))
   ·have hDc : D = [.int .i64 (l[i]'hlt)] :: (l.drop (i + 1)).map (fun h => [AV.int .i64 h]):=by rw [hD2,List.drop_eq_getElem_cons hlt]; rfl
    have f2:=f2 fun _ => ⟨of_decide_eq_false (by assumption),fun e => by have h:=(by assumption : (u == n) = false); rw [e] at h; simp at h⟩
    rw [← hD,hDc]
    repeat' first|refine Q1 ?_|refine Q2 ?_|refine Q3 hG aa aS ?_|refine Q4 hG aa aS ?_|refine Q5 hG aa ?_|refine Q6 hG aa ?_|refine Q7 hG aa ?_|refine Q8 hG aa ?_|refine Q9 rfl ?_|refine QF rfl ?_|refine QC rfl ⟨fun h => ?_,fun h => ?_⟩|((conv => whnf); first|refine anF ?_|refine anT ?_|refine anK ?_|refine And.intro (Int.natCast_nonneg i) ?_|refine And.intro (Nat.zero_le _) ?_|refine And.intro (show ((i : Int)).toNat ≤ _ by rw [hlm]; omega) ?_|refine And.intro (Nat.le_refl _) ?_|refine And.intro rfl ?_|refine And.intro (show _ * 8 ≤ 70368744177664 by simp only [List.length_append,List.length_cons,List.length_nil,List.length_drop,List.length_take,List.length_map]; omega) ?_|refine And.intro (show _ ≤ 4611686018427387904 by simp only [List.length_append,List.length_cons,List.length_nil,List.length_drop,List.length_take,List.length_map]; omega) ?_|refine And.intro (fun h => ?_) (fun h => ?_)|refine Or.inl ?_)
    rw [← hT]
    cases T with
    | nil =>
     repeat' first|refine Q1 ?_|refine Q2 ?_|refine Q3 hG aa aS ?_|refine Q4 hG aa aS ?_|refine Q5 hG aa ?_|refine Q6 hG aa ?_|refine Q7 hG aa ?_|refine Q8 hG aa ?_|refine Q9 rfl ?_|refine QF rfl ?_|refine QC rfl ⟨fun h => ?_,fun h => ?_⟩|((conv => whnf); first|refine anF ?_|refine anT ?_|refine anK ?_|refine And.intro (Int.natCast_nonneg i) ?_|refine And.intro (Nat.zero_le _) ?_|refine And.intro (show ((i : Int)).toNat ≤ _ by rw [hlm]; omega) ?_|refine And.intro (Nat.le_refl _) ?_|refine And.intro rfl ?_|refine And.intro (show _ * 8 ≤ 70368744177664 by simp only [List.length_append,List.length_cons,List.length_nil,List.length_drop,List.length_take,List.length_map]; omega) ?_|refine And.intro (show _ ≤ 4611686018427387904 by simp only [List.length_append,List.length_cons,List.length_nil,List.length_drop,List.length_take,List.length_map]; omega) ?_|refine And.intro (fun h => ?_) (fun h => ?_)|refine Or.inl ?_)
     exact Ends.mk (Or.inl rfl) (ac (congrArg (AV.sl .no 1) (by rw [f2,List.map_append,List.map_cons,← hT2,← hD2,hDc]; try rfl)))
    | cons t T' =>
     repeat' first|refine Q1 ?_|refine Q2 ?_|refine Q3 hG aa aS ?_|refine Q4 hG aa aS ?_|refine Q5 hG aa ?_|refine Q6 hG aa ?_|refine Q7 hG aa ?_|refine Q8 hG aa ?_|refine Q9 rfl ?_|refine QF rfl ?_|refine QC rfl ⟨fun h => ?_,fun h => ?_⟩|((conv => whnf); first|refine anF ?_|refine anT ?_|refine anK ?_|refine And.intro (Int.natCast_nonneg i) ?_|refine And.intro (Nat.zero_le _) ?_|refine And.intro (show ((i : Int)).toNat ≤ _ by rw [hlm]; omega) ?_|refine And.intro (Nat.le_refl _) ?_|refine And.intro rfl ?_|refine And.intro (show _ * 8 ≤ 70368744177664 by simp only [List.length_append,List.length_cons,List.length_nil,List.length_drop,List.length_take,List.length_map]; omega) ?_|refine And.intro (show _ ≤ 4611686018427387904 by simp only [List.length_append,List.length_cons,List.length_nil,List.length_drop,List.length_take,List.length_map]; omega) ?_|refine And.intro (fun h => ?_) (fun h => ?_)|refine Or.inl ?_)
     exact Ends.mk (Or.inl rfl) (ac (congrArg (AV.sl .no 1) (by rw [f2,List.map_append,List.map_cons,← hT2,← hD2,hDc]; try rfl)))
  ·have bbk : decide ((i : Int) < ((l.map (fun h => [AV.int .i64 h])).length : Int)) = true → False:=fun h => by have:=of_decide_eq_true h; rw [hlm] at this; omega
   repeat' first|exact (bbk (by assumption)).elim|refine Q1 ?_|refine Q2 ?_|refine Q3 hG aa aS ?_|refine Q4 hG aa aS ?_|refine Q5 hG aa ?_|refine Q6 hG aa ?_|refine Q7 hG aa ?_|refine Q8 hG aa ?_|refine Q9 rfl ?_|refine QF rfl ?_|refine QC rfl ⟨fun h => ?_,fun h => ?_⟩|((conv => whnf); first|refine anF ?_|refine anT ?_|refine anK ?_|refine And.intro (Int.natCast_nonneg i) ?_|refine And.intro (Nat.zero_le _) ?_|refine And.intro (show ((i : Int)).toNat ≤ _ by rw [hlm]; omega) ?_|refine And.intro (Nat.le_refl _) ?_|refine And.intro rfl ?_|refine And.intro (show _ * 8 ≤ 70368744177664 by simp only [List.length_append,List.length_cons,List.length_nil,List.length_drop,List.length_take,List.length_map]; omega) ?_|refine And.intro (show _ ≤ 4611686018427387904 by simp only [List.length_append,List.length_cons,List.length_nil,List.length_drop,List.length_take,List.length_map]; omega) ?_|refine And.intro (fun h => ?_) (fun h => ?_)|refine Or.inl ?_)
   have hDc : D = []:=by rw [hD2,List.drop_of_length_le (by omega)]; rfl
   have f2:=yQ (n:=n) hi ht fun h => absurd h hlt
   rw [← hD,hDc]
   repeat' first|refine Q1 ?_|refine Q2 ?_|refine Q3 hG aa aS ?_|refine Q4 hG aa aS ?_|refine Q5 hG aa ?_|refine Q6 hG aa ?_|refine Q7 hG aa ?_|refine Q8 hG aa ?_|refine Q9 rfl ?_|refine QF rfl ?_|refine QC rfl ⟨fun h => ?_,fun h => ?_⟩|((conv => whnf); first|refine anF ?_|refine anT ?_|refine anK ?_|refine And.intro (Int.natCast_nonneg i) ?_|refine And.intro (Nat.zero_le _) ?_|refine And.intro (show ((i : Int)).toNat ≤ _ by rw [hlm]; omega) ?_|refine And.intro (Nat.le_refl _) ?_|refine And.intro rfl ?_|refine And.intro (show _ * 8 ≤ 70368744177664 by simp only [List.length_append,List.length_cons,List.length_nil,List.length_drop,List.length_take,List.length_map]; omega) ?_|refine And.intro (show _ ≤ 4611686018427387904 by simp only [List.length_append,List.length_cons,List.length_nil,List.length_drop,List.length_take,List.length_map]; omega) ?_|refine And.intro (fun h => ?_) (fun h => ?_)|refine Or.inl ?_)
   rw [← hT]
   cases T with
   | nil =>
    repeat' first|refine Q1 ?_|refine Q2 ?_|refine Q3 hG aa aS ?_|refine Q4 hG aa aS ?_|refine Q5 hG aa ?_|refine Q6 hG aa ?_|refine Q7 hG aa ?_|refine Q8 hG aa ?_|refine Q9 rfl ?_|refine QF rfl ?_|refine QC rfl ⟨fun h => ?_,fun h => ?_⟩|((conv => whnf); first|refine anF ?_|refine anT ?_|refine anK ?_|refine And.intro (Int.natCast_nonneg i) ?_|refine And.intro (Nat.zero_le _) ?_|refine And.intro (show ((i : Int)).toNat ≤ _ by rw [hlm]; omega) ?_|refine And.intro (Nat.le_refl _) ?_|refine And.intro rfl ?_|refine And.intro (show _ * 8 ≤ 70368744177664 by simp only [List.length_append,List.length_cons,List.length_nil,List.length_drop,List.length_take,List.length_map]; omega) ?_|refine And.intro (show _ ≤ 4611686018427387904 by simp only [List.length_append,List.length_cons,List.length_nil,List.length_drop,List.length_take,List.length_map]; omega) ?_|refine And.intro (fun h => ?_) (fun h => ?_)|refine Or.inl ?_)
    exact Ends.mk (Or.inl rfl) (ac (congrArg (AV.sl .no 1) (by rw [f2,List.map_append,List.map_cons,← hT2,← hD2,hDc]; try rfl)))
   | cons t T' =>
    repeat' first|refine Q1 ?_|refine Q2 ?_|refine Q3 hG aa aS ?_|refine Q4 hG aa aS ?_|refine Q5 hG aa ?_|refine Q6 hG aa ?_|refine Q7 hG aa ?_|refine Q8 hG aa ?_|refine Q9 rfl ?_|refine QF rfl ?_|refine QC rfl ⟨fun h => ?_,fun h => ?_⟩|((conv => whnf); first|refine anF ?_|refine anT ?_|refine anK ?_|refine And.intro (Int.natCast_nonneg i) ?_|refine And.intro (Nat.zero_le _) ?_|refine And.intro (show ((i : Int)).toNat ≤ _ by rw [hlm]; omega) ?_|refine And.intro (Nat.le_refl _) ?_|refine And.intro rfl ?_|refine And.intro (show _ * 8 ≤ 70368744177664 by simp only [List.length_append,List.length_cons,List.length_nil,List.length_drop,List.length_take,List.length_map]; omega) ?_|refine And.intro (show _ ≤ 4611686018427387904 by simp only [List.length_append,List.length_cons,List.length_nil,List.length_drop,List.length_take,List.length_map]; omega) ?_|refine And.intro (fun h => ?_) (fun h => ?_)|refine Or.inl ?_)
    exact Ends.mk (Or.inl rfl) (ac (congrArg (AV.sl .no 1) (by rw [f2,List.map_append,List.map_cons,← hT2,← hD2,hDc]; try rfl)))
def rfk (l : List Opt) (i : Nat) : List Int:=((l.take i).flatMap fun o => (o.sl.take 6).map (·.p)).foldl iQ []
def rfj (l : List Opt) (i j : Nat) : List Int:=(((aF l i).sl.take j).map (·.p)).foldl iQ (rfk l i)
theorem vo {l : List Opt} {i : Nat} (h : i < l.length) : rfk l (i + 1) = rfj l i 6:=by
 unfold rfk rfj rfk
 rw [bD lG h,List.flatMap_append,List.foldl_append,List.flatMap_cons,List.flatMap_nil,List.append_nil]; rfl
theorem BI {l : List Opt} {i j : Nat} (h : j < (aF l i).sl.length) : rfj l i (j + 1) = iQ (rfj l i j) (eh (aF l i) j).p:=by
 unfold rfj
 rw [bD qQ h,List.map_append,List.foldl_append]; rfl
theorem DZ {l : List Opt} {i j : Nat} (h : j = min (aF l i).sl.length 6) : rfj l i j = rfj l i 6:=by
 unfold rfj
 rw [show (aF l i).sl.take j = (aF l i).sl.take 6 from by rw [h,Nat.min_comm,← List.take_eq_take_min]]
theorem DY {l : List Opt} {i : Nat} (h : i = min l.length 8) : rfk l i = aC l:=by
 rw [← oK,oL,rfk,show l.take i = l.take 8 from by rw [h,Nat.min_comm,← List.take_eq_take_min]]
theorem iJ : ∀ (x a : List Int),(x.foldl iQ a).length ≤ a.length + x.length
 | [],a => Nat.le_refl _
 | y :: x,a => by
  have h1:=iJ x (iQ a y)
  have h2:=BL a y
  rw [List.foldl_cons,List.length_cons]; omega
theorem yN (l : List Opt) (i j : Nat) : (rfj l i j).length ≤ (rfk l i).length + j:=by
 have:=iJ (((aF l i).sl.take j).map (·.p)) (rfk l i)
 rw [List.length_map,List.length_take] at this
 unfold rfj; omega
theorem yM (l : List Opt) : ∀ i,i ≤ l.length → (rfk l i).length ≤ 6 * i
 | 0,_ => by simp [rfk]
 | i + 1,h => by
  rw [vo (by omega)]
  have h1:=yN l i 6
  have h2:=yM l i (by omega)
  omega
set_option maxHeartbeats 4000000 in
theorem iD (l : List Opt) (hl : l.length ≤ 1000000) (hs : fc l) : ae Tryz.prog 45 [aM l] (au (aC l)):=by
 refine ag aa Tryz.func45 rfl (by kernel_rfl) af (Nat.le_of_ble_eq_true rfl) ?_
 intro F n' w0 m0 hG hro h1
 repeat' first|refine Q1 ?_|refine Q2 ?_|refine Q3 hG aa ce ?_|refine Q4 hG aa ce ?_|refine Q5 hG aa ?_|refine Q6 hG aa ?_|refine Q7 hG aa ?_|refine Q8 hG aa ?_|refine Q9 rfl ?_|refine QF rfl ?_|refine QC rfl ⟨fun h => ?_,fun h => ?_⟩|((conv => whnf); first|refine anF ?_|refine anT ?_|refine anK ?_|refine And.intro (fun h => ?_) (fun h => ?_)|refine Or.inl ?_)
 refine SPB.nilT 3 3 1 1 rfl ?_
 refine ar (X:=Nat) (fun x => ⟨[(4,.int .i64 x),(3,au (rfk l x)),(0,aM l)],[]⟩) (fun x => x ≤ min l.length 8) (fun x => min l.length 8 - x) 0 (Nat.zero_le _) (ah ?_ ?_) (fun x hx => ?_)
 ·repeat' (first | exact trivial | refine And.intro rfl ?_)
 ·repeat' (first | exact trivial | refine And.intro rfl ?_)
 ·rename Nat => i
  have hi_i:=hx
  by_cases hlt_i : i < min l.length 8
  ·have ba_i : decide ((i : Int) < ((l.map aH).length : Int)) = false → False:=fun h => by have:=of_decide_eq_false h; simp at this; omega
   have bb_i : decide ((i : Int) < 8) = false → False:=fun h => by have:=of_decide_eq_false h; omega
   have hop:=gh (l:=l) (i:=i) (by omega)
   have hkl:=yM l i (by omega)
   have h0 : rfk l i = rfj l i 0:=by unfold rfj; simp
   rw [h0]
   repeat' first|exact (ba_i (by assumption)).elim|exact (bb_i (by assumption)).elim|refine Q1 ?_|refine Q2 ?_|refine Q3 hG aa ce ?_|refine Q4 hG aa ce ?_|refine Q5 hG aa ?_|refine Q6 hG aa ?_|refine Q7 hG aa ?_|refine Q8 hG aa ?_|refine Q9 rfl ?_|refine QF rfl ?_|refine QC rfl ⟨fun h => ?_,fun h => ?_⟩|((conv => whnf); first|refine anF ?_|refine anT ?_|refine anK ?_|refine And.intro (fun h => ?_) (fun h => ?_)|refine Or.inl ?_)
   refine ar (X:=Nat) (fun x => ⟨[(5,.int .i64 x),(4,.int .i64 i),(3,au (rfj l i x)),(0,aM l)],[]⟩) (fun x => x ≤ min (aF l i).sl.length 6) (fun x => min (aF l i).sl.length 6 - x) 0 (Nat.zero_le _) (ah ?_ ?_) (fun x hx => ?_)
   ·repeat' (first | exact trivial | refine And.intro rfl ?_)
   ·repeat' (first | exact trivial | refine And.intro rfl ?_)
   ·rename Nat => j
    have hi_j:=hx
    by_cases hlt_j : j < min (aF l i).sl.length 6
    ·have ba_j : decide ((j : Int) < (((aF l i).sl.map aw).length : Int)) = false → False:=fun h => by have:=of_decide_eq_false h; simp at this; omega
     have bb_j : decide ((j : Int) < 6) = false → False:=fun h => by have:=of_decide_eq_false h; omega
     have hy:=cR (l:=(aF l i).sl) (i:=j) (by omega)
     have hs:=BI (l:=l) (i:=i) (j:=j) (by omega)
     have hjl:=yN l i j
     have hu2 : (eh (aF l i) j).p = ((aF l i).sl.getD j ⟨0,0,0⟩).p:=rfl
     rw [hu2] at hs
     generalize (aF l i).sl.getD j ⟨0,0,0⟩ = y at *
     have cP:=AG (rfj l i j) y.p (by omega)
     rw [← hs] at cP
     generalize aF l i = u at *
     repeat' first|exact (ba_j (by assumption)).elim|exact (bb_j (by assumption)).elim|refine Q1 ?_|refine Q2 ?_|refine Q3 hG aa ce ?_|refine Q4 hG aa ce ?_|refine Q5 hG aa ?_|refine Q6 hG aa ?_|refine Q7 hG aa ?_|refine Q8 hG aa ?_|refine Q9 rfl ?_|refine QF rfl ?_|refine QC rfl ⟨fun h => ?_,fun h => ?_⟩|((conv => whnf); first|refine anF ?_|refine anT ?_|refine anK ?_|refine And.intro (Int.natCast_nonneg i) (Exists.intro _ (And.intro hop ?_))|refine And.intro (Int.natCast_nonneg j) (Exists.intro _ (And.intro hy ?_))|refine Exists.intro _ (And.intro (cP) ?_)|refine And.intro (fun h => ?_) (fun h => ?_)|refine Or.inl ?_)
     refine Exists.intro (j + 1) (And.intro hlt_j (And.intro (by omega) (ah ?_ ?_)))
     ·refine And.intro (congrArg some (ap (by omega))) (And.intro (congrArg some rfl) ?_)
      repeat' (first | exact trivial | refine And.intro rfl ?_)
     ·repeat' (first | exact trivial | refine And.intro rfl ?_)
    ·have bc_j : decide ((j : Int) < (((aF l i).sl.map aw).length : Int)) = true → decide ((j : Int) < 6) = true → False:=fun h h2 => by have:=of_decide_eq_true h; have:=of_decide_eq_true h2; simp at *; omega
     have he:=DZ (l:=l) (i:=i) (j:=j) (by omega)
     have hs:=vo (l:=l) (i:=i) (by omega)
     rw [he,← hs]
     generalize aF l i = u at *
     repeat' first|exact (bc_j (by assumption) (by assumption)).elim|refine Q1 ?_|refine Q2 ?_|refine Q3 hG aa ce ?_|refine Q4 hG aa ce ?_|refine Q5 hG aa ?_|refine Q6 hG aa ?_|refine Q7 hG aa ?_|refine Q8 hG aa ?_|refine Q9 rfl ?_|refine QF rfl ?_|refine QC rfl ⟨fun h => ?_,fun h => ?_⟩|((conv => whnf); first|refine anF ?_|refine anT ?_|refine anK ?_|refine And.intro (Int.natCast_nonneg i) (Exists.intro _ (And.intro hop ?_))|refine And.intro (fun h => ?_) (fun h => ?_)|refine Or.inl ?_)
     all_goals (refine Exists.intro (i + 1) (And.intro hlt_i (And.intro (by omega) (ah ?_ ?_))))
     all_goals first
      |(refine And.intro (congrArg some (ap (by omega))) (And.intro rfl ?_)
        repeat' (first | exact trivial | refine And.intro rfl ?_))
      |(repeat' (first | exact trivial | refine And.intro rfl ?_))
  ·have bc_i : decide ((i : Int) < ((l.map aH).length : Int)) = true → decide ((i : Int) < 8) = true → False:=fun h h2 => by have:=of_decide_eq_true h; have:=of_decide_eq_true h2; simp at *; omega
   rw [DY (l:=l) (i:=i) (by omega)]
   repeat' first|exact (bc_i (by assumption) (by assumption)).elim|refine Q1 ?_|refine Q2 ?_|refine Q3 hG aa ce ?_|refine Q4 hG aa ce ?_|refine Q5 hG aa ?_|refine Q6 hG aa ?_|refine Q7 hG aa ?_|refine Q8 hG aa ?_|refine Q9 rfl ?_|refine QF rfl ?_|refine QC rfl ⟨fun h => ?_,fun h => ?_⟩|((conv => whnf); first|refine anF ?_|refine anT ?_|refine anK ?_|refine And.intro (fun h => ?_) (fun h => ?_)|refine Or.inl ?_)
   all_goals exact Ends.mk (Or.inl rfl) (ac rfl)
theorem jG (s : Nat → Int) (l : List Opt) (ps : List al) (k a b : Int) (hl : l.length ≤ 1000000) (hs : fc l) (hps : ps.length ≤ 1000000) : ae Tryz.prog 52 [.agg (bg s),aM l,ak ps,.int .i64 k,.agg (aK a b)] (.bool (bI s l ps k a b)):=by
 have hfl : (((aC l).map (fun h => [AV.int .i64 h])).length : Int) = ((aC l).length : Int):=by rw [List.length_map]
 have hv : bI s l ps k a b = (aX s l ps a b && (decide (0 ≤ k) && (decide (k ≤ 3) && decide (((aC l).length : Int) ≤ 6)))):=by
  unfold bI ka
  cases aX s l ps a b <;> cases decide (0 ≤ k) <;> cases decide (k ≤ 3) <;> rfl
 rw [hv]
 refine ag aa Tryz.func52 rfl (by kernel_rfl) af (Nat.le_of_ble_eq_true rfl) ?_
 intro F n' w0 m0 hG hro h1
 repeat' first|refine Q1 ?_|refine Q2 ?_|refine Q3 hG aa p8 ?_|refine Q4 hG aa p8 ?_|refine Q5 hG aa ?_|refine Q6 hG aa ?_|refine Q7 hG aa ?_|refine Q8 hG aa ?_|refine Q9 rfl ?_|refine QF rfl ?_|refine QC rfl ⟨fun h => ?_,fun h => ?_⟩|((conv => whnf); first|refine anF ?_|refine anT ?_|refine anK ?_|refine Exists.intro _ (And.intro (wE s l ps a b hl hs hps) ?_)|refine Exists.intro _ (And.intro (iD l hl hs) ?_)|refine And.intro (fun h => ?_) (fun h => ?_)|refine Or.inl ?_)
 all_goals refine Ends.mk (Or.inl rfl) (ac (congrArg AV.bool ?_))
 all_goals (rw [hfl] at *; clear hG; grind)
end Go.Proofs
namespace Go.Proofs
open Go Go.AI
set_option maxRecDepth 10000
theorem Cx : ((List.range 64).all fun b => (List.range 6).all fun i => (((b : Int).fdiv (2 ^ (min (i : Int).toNat IntKind.i64.bits))).tmod 2 == 1) == uB b i) = true:=by kernel_rfl
theorem Eu {b i : Nat} (hb : b < 64) (hi : i < 6) : (((b : Int).fdiv (2 ^ (min (i : Int).toNat IntKind.i64.bits))).tmod 2 == 1) = uB b i:=by
 have h:=List.all_eq_true.1 (List.all_eq_true.1 Cx b (List.mem_range.2 hb)) i (List.mem_range.2 hi)
 exact beq_iff_eq.1 h
theorem Ay (ps : List al) (k : Int) : ej ps [] k = (ka k && bp ps):=by
 have e : decide ((rd ps [] : Int) ≤ k) = decide (0 ≤ k):=rfl
 have e2 : gq ps [] = bp ps:=rfl
 unfold ej
 rw [e,e2]
 unfold ka
 cases decide (0 ≤ k) <;> cases decide (k ≤ 3) <;> cases bp ps <;> rfl
def mj (l : List Opt) (ps : List al) (k : Int) : AV:=.tup (if dv l ps k then [.sl .no 1 [],.int .i64 210] else [iO (cm (aC l) ps k),.int .i64 0])
set_option maxHeartbeats 8000000 in
theorem x9 (l : List Opt) (ps : List al) (k : Int) (hl : l.length ≤ 1000000) (hs : fc l) (hps : ps.length ≤ 1000000) : ae Tryz.prog 49 [aM l,ak ps,.int .i64 k] (mj l ps k):=by
  have cN : ae Tryz.prog 119 [ak ps,.sl .full 0 [],.int .i64 k] (.bool (ka k && bp ps)):=by
    rw [← Ay]
    exact (lj ps [] k (Nat.zero_le _) hps).weak (.cons (.refl _) (.cons AV.weak.slnil (.cons (.refl _) (.refl _))))
  have hlm : ((l.map aH).length : Int) = (l.length : Int):=by rw [List.length_map]
  have hfm : (((aC l).map (fun h => [AV.int .i64 h])).length : Int) = ((aC l).length : Int):=by rw [List.length_map]
  have hbad : fW l ps k = true → mj l ps k = .tup [.sl .no 1 [],.int .i64 210]:=fun h => by
    unfold mj dv
    rw [h]; rfl
  refine ag aa Tryz.func49 rfl (by kernel_rfl) af (Nat.le_of_ble_eq_true rfl) ?_
  intro F n' w0 m0 hG hro h1
  repeat' first|refine Q1 ?_|refine Q2 ?_|refine Q3 hG aa bk ?_|refine Q4 hG aa bk ?_|refine Q5 hG aa ?_|refine Q6 hG aa ?_|refine Q7 hG aa ?_|refine Q8 hG aa ?_|refine Q9 rfl ?_|refine QF rfl ?_|refine QC rfl ⟨fun h => ?_,fun h => ?_⟩|((conv => whnf); first|refine anF ?_|refine anT ?_|refine anK ?_|refine Exists.intro _ (And.intro (cN) ?_)|refine And.intro (fun h => ?_) (fun h => ?_)|refine Or.inl ?_)
  all_goals first
    | ((try dsimp only)
       refine Ends.mk (Or.inl rfl) (ac ?_)
       rw [hbad (by clear hG; grind [fW,ka])]; rfl)
    | skip
  refine ar (X:=Nat) (fun x => ⟨[(8,.int .i64 x),(2,.int .i64 k),(1,ak ps),(0,aM l)],[]⟩) (fun x => x ≤ l.length ∧ ∀ o ∈ l.take x,bz o ps = true) (fun x => l.length - x) 0 ⟨Nat.zero_le _,fun _ h => by simp at h⟩ (ah ?_ ?_) (fun x hx => ?_)
  · repeat' (first | exact trivial | refine And.intro rfl ?_)
  · repeat' (first | exact trivial | refine And.intro rfl ?_)
  · rename Nat => i
    obtain ⟨hi,ht⟩:=hx
    by_cases hlt_i : i < l.length
    · have bbk : decide ((i : Int) < ((l.map aH).length : Int)) = false → False:=fun h => by have:=of_decide_eq_false h; simp at this; omega
      have hx:=gh hlt_i
      have hm : aF l i ∈ l:=by rw [cp hlt_i]; exact List.getElem_mem hlt_i
      have cV:=nc (aF l i) ps (hs _ hm) hps
      have hn:=bD lG hlt_i
      have hb2 : (!bz (aF l i) ps) = true → mj l ps k = .tup [.sl .no 1 [],.int .i64 210]:=fun h => hbad (by
        have h : bz (aF l i) ps = false:=by simpa using h
        have : (l.any fun o => !bz o ps) = true:=List.any_eq_true.2 ⟨_,hm,by rw [h]; rfl⟩
        unfold fW
        rw [this]; simp)
      have he : l.getD i lG = aF l i:=rfl
      rw [he] at hn
      generalize aF l i = u at *
      repeat' first|exact (bbk (by assumption)).elim|refine Q1 ?_|refine Q2 ?_|refine Q3 hG aa bk ?_|refine Q4 hG aa bk ?_|refine Q5 hG aa ?_|refine Q6 hG aa ?_|refine Q7 hG aa ?_|refine Q8 hG aa ?_|refine Q9 rfl ?_|refine QF rfl ?_|refine QC rfl ⟨fun h => ?_,fun h => ?_⟩|((conv => whnf); first|refine anF ?_|refine anT ?_|refine anK ?_|refine And.intro (Int.natCast_nonneg i) (Exists.intro _ (And.intro hx ?_))|refine Exists.intro _ (And.intro (cV) ?_)|refine And.intro (fun h => ?_) (fun h => ?_)|refine Or.inl ?_)
      all_goals first
        | ((try dsimp only)
           refine Ends.mk (Or.inl rfl) (ac ?_)
           rw [hb2 (by assumption)]; rfl)
        | skip
      all_goals (refine Exists.intro (i + 1) (And.intro ?_ (And.intro (by omega) (ah ?_ ?_))))
      all_goals first
        | (refine And.intro (congrArg some (ap (by omega))) ?_
           repeat' (first | exact trivial | refine And.intro rfl ?_))
        | ((repeat' (first | exact trivial | refine And.intro rfl ?_)); done)
        | (exact ⟨hlt_i,fun o ho => by
             rw [hn] at ho
             rcases List.mem_append.1 ho with ho | ho
             · exact ht o ho
             · rw [List.mem_singleton.1 ho]; have h:=(by assumption : (!bz u ps) = false); simpa using h⟩)
    · have bbk : decide ((i : Int) < ((l.map aH).length : Int)) = true → False:=fun h => by have:=of_decide_eq_true h; simp at this; omega
      have he : l.take i = l:=List.take_of_length_le (by omega)
      rw [he] at ht
      have hbs : fW l ps k = false:=by
        have h2 : (l.any fun o => !bz o ps) = false:=by
          rw [List.any_eq_false]
          intro o ho
          rw [ht o ho]; decide
        clear hG
        grind [fW,ka]
      have hg6 : (decide ((((aC l).map (fun h => [AV.int .i64 h])).length : Int) > 6)) = true → mj l ps k = .tup [.sl .no 1 [],.int .i64 210]:=fun h => by
        rw [hfm] at h
        unfold mj dv
        rw [hbs,h]; rfl
      have hgo : (decide (((aC l).length : Int) > 6)) = false → mj l ps k = .tup [iO (dx (aC l) ps k (2 ^ (aC l).length)),.int .i64 0]:=fun h => by
        unfold mj dv
        rw [hbs,h]; rfl
      have cFk:=iD l hl hs
      generalize aC l = f at *
      repeat' first|exact (bbk (by assumption)).elim|refine Q1 ?_|refine Q2 ?_|refine Q3 hG aa bk ?_|refine Q4 hG aa bk ?_|refine Q5 hG aa ?_|refine Q6 hG aa ?_|refine Q7 hG aa ?_|refine Q8 hG aa ?_|refine Q9 rfl ?_|refine QF rfl ?_|refine QC rfl ⟨fun h => ?_,fun h => ?_⟩|((conv => whnf); first|refine anF ?_|refine anT ?_|refine anK ?_|refine Exists.intro _ (And.intro (cFk) ?_)|refine And.intro (fun h => ?_) (fun h => ?_)|refine Or.inl ?_)
      all_goals first
        | ((try dsimp only)
           refine Ends.mk (Or.inl rfl) (ac ?_)
           rw [hg6 (by assumption)]; rfl)
        | skip
      have hf6 : f.length ≤ 6:=by
        have h:=(by assumption : decide (((f.map (fun h => [AV.int .i64 h])).length : Int) > 6) = false)
        have:=of_decide_eq_false h
        rw [hfm] at this; omega
      have h64:=ug hf6
      rw [hgo (decide_eq_false (by omega))]
      refine ar (X:=Nat) (fun x => ⟨[(11,.int .i64 x),(10,.sl (.id 10) 1 ((dx f ps k x).map fun x => [au x])),(9,au f),(2,.int .i64 k),(1,ak ps)],[]⟩) (fun x => x ≤ 2 ^ f.length) (fun x => 2 ^ f.length - x) 0 (Nat.zero_le _) (ah ?_ ?_) (fun x hx => ?_)
      · repeat' (first | exact trivial | refine And.intro rfl ?_)
      · repeat' (first | exact trivial | refine And.intro rfl ?_)
      · rename Nat => b
        have hb:=hx
        have hshl : IntKind.i64.wrap (1 * 2 ^ (min ((f.map (fun h => [AV.int .i64 h])).length : Int).toNat IntKind.i64.bits)) = ((2 ^ f.length : Nat) : Int):=by rw [hfm]; exact Bw hf6
        by_cases hlt_b : b < 2 ^ f.length
        · have bbk : decide ((b : Int) < IntKind.i64.wrap (1 * 2 ^ (min ((f.map (fun h => [AV.int .i64 h])).length : Int).toNat IntKind.i64.bits))) = false → False:=fun h => by have:=of_decide_eq_false h; rw [hshl] at this; omega
          have hR0 : ((dx f ps k b).map fun x => [au x]).length ≤ 64:=by
            rw [List.length_map]
            unfold dx
            refine Nat.le_trans (List.length_filter_le _ _) ?_
            rw [List.length_map,List.length_range]; omega
          obtain ⟨R0,hR⟩ : ∃ r,r = (dx f ps k b).map fun x => [au x]:=⟨_,rfl⟩
          rw [← hR] at hR0
          rw [← hR]
          repeat' first|exact (bbk (by assumption)).elim|refine Q1 ?_|refine Q2 ?_|refine Q3 hG aa bk ?_|refine Q4 hG aa bk ?_|refine Q5 hG aa ?_|refine Q6 hG aa ?_|refine Q7 hG aa ?_|refine Q8 hG aa ?_|refine Q9 rfl ?_|refine QF rfl ?_|refine QC rfl ⟨fun h => ?_,fun h => ?_⟩|((conv => whnf); first|refine anF ?_|refine anT ?_|refine anK ?_|refine And.intro (Int.natCast_nonneg _) ?_|refine And.intro (fun h => ?_) (fun h => ?_)|refine Or.inl ?_)
          refine ar (X:=Nat) (fun x => ⟨[(13,.int .i64 x),(12,.sl (.id 12) 1 ((fZ f b x).map (fun h => [AV.int .i64 h]))),(11,.int .i64 b),(10,.sl (.id 10) 1 R0),(9,au f),(2,.int .i64 k),(1,ak ps)],[]⟩) (fun x => x ≤ f.length) (fun x => f.length - x) 0 (Nat.zero_le _) (ah ?_ ?_) (fun x hx => ?_)
          · repeat' (first | exact trivial | refine And.intro rfl ?_)
          · repeat' (first | exact trivial | refine And.intro rfl ?_)
          · rename Nat => i
            have hi:=hx
            by_cases hlt_i : i < f.length
            · have bbi : decide ((i : Int) < ((f.map (fun h => [AV.int .i64 h])).length : Int)) = false → False:=fun h => by have:=of_decide_eq_false h; simp at this; omega
              have hx:=vT f i hlt_i
              have hbit:=Eu (b:=b) (i:=i) (by omega) (by omega)
              have hst:=qO (b:=b) hlt_i
              have hln : ((fZ f b i).map fun h => [AV.int .i64 h]).length ≤ 6:=by rw [List.length_map]; have:=iN f b i; omega
              generalize f.getD i 0 = v at hx hst
              repeat' first|exact (bbi (by assumption)).elim|refine Q1 ?_|refine Q2 ?_|refine Q3 hG aa bk ?_|refine Q4 hG aa bk ?_|refine Q5 hG aa ?_|refine Q6 hG aa ?_|refine Q7 hG aa ?_|refine Q8 hG aa ?_|refine Q9 rfl ?_|refine QF rfl ?_|refine QC rfl ⟨fun h => ?_,fun h => ?_⟩|((conv => whnf); first|refine anF ?_|refine anT ?_|refine anK ?_|refine And.intro (Int.natCast_nonneg i) (Exists.intro _ (And.intro hx ?_))|refine And.intro (Int.natCast_nonneg i) ?_|refine And.intro (of_decide_eq_true (Eq.refl true)) ?_|refine And.intro (show (((fZ f b i).map fun h => [AV.int .i64 h]).length + 1) * 8 ≤ 70368744177664 by omega) (And.intro (show ((fZ f b i).map fun h => [AV.int .i64 h]).length + 1 ≤ 4611686018427387904 by omega) ?_)|refine And.intro (fun h => ?_) (fun h => ?_)|refine Or.inl ?_)
              all_goals (refine Exists.intro (i + 1) (And.intro hlt_i (And.intro (by omega) (ah ?_ ?_))))
              all_goals first
                | (refine And.intro (congrArg some (ap (by omega))) (And.intro (congrArg (fun z => some (AV.sl (.id 12) 1 z)) ?_) ?_)
                   · (rw [hst,← hbit]
                      first
                        | (rw [if_pos (by assumption),List.map_append]; rfl)
                        | (rw [if_neg (fun h => tf h (by assumption)),List.append_nil]))
                   · repeat' (first | exact trivial | refine And.intro rfl ?_))
                | (repeat' (first | exact trivial | refine And.intro rfl ?_))
            · have bbi : decide ((i : Int) < ((f.map (fun h => [AV.int .i64 h])).length : Int)) = true → False:=fun h => by have:=of_decide_eq_true h; simp at this; omega
              have he : i = f.length:=by omega
              have hsub : fZ f b i = iH f b:=by rw [he]; rfl
              rw [hsub]
              have hsl : (iH f b).length ≤ 1000000:=Nat.le_trans (iN f b f.length) (by omega)
              have hsucc:=jX f ps k b
              have cA:=lj ps (iH f b) k hsl hps
              generalize iH f b = u at *
              repeat' first|exact (bbi (by assumption)).elim|refine Q1 ?_|refine Q2 ?_|refine Q3 hG aa bk ?_|refine Q4 hG aa bk ?_|refine Q5 hG aa ?_|refine Q6 hG aa ?_|refine Q7 hG aa ?_|refine Q8 hG aa ?_|refine Q9 rfl ?_|refine QF rfl ?_|refine QC rfl ⟨fun h => ?_,fun h => ?_⟩|((conv => whnf); first|refine anF ?_|refine anT ?_|refine anK ?_|refine Exists.intro _ (And.intro (cA) ?_)|refine And.intro (show (R0.length + 1) * 24 ≤ 70368744177664 by omega) (And.intro (show R0.length + 1 ≤ 4611686018427387904 by omega) ?_)|refine And.intro (fun h => ?_) (fun h => ?_)|refine Or.inl ?_)
              all_goals (refine Exists.intro (b + 1) (And.intro hlt_b (And.intro (by omega) (ah ?_ ?_))))
              all_goals first
                | (refine And.intro (congrArg some (ap (by omega))) (And.intro (congrArg (fun z => some (AV.sl (.id 10) 1 z)) ?_) ?_)
                   · (rw [hsucc]
                      first
                        | (rw [if_pos (by assumption),List.map_append,← hR]; rfl)
                        | (rw [if_neg (fun h => tf h (by assumption)),List.append_nil,← hR]))
                   · repeat' (first | exact trivial | refine And.intro rfl ?_))
                | (repeat' (first | exact trivial | refine And.intro rfl ?_))
        · have bbk : decide ((b : Int) < IntKind.i64.wrap (1 * 2 ^ (min ((f.map (fun h => [AV.int .i64 h])).length : Int).toNat IntKind.i64.bits))) = true → False:=fun h => by have:=of_decide_eq_true h; rw [hshl] at this; omega
          have he : b = 2 ^ f.length:=by omega
          subst he
          repeat' first|exact (bbk (by assumption)).elim|refine Q1 ?_|refine Q2 ?_|refine Q3 hG aa bk ?_|refine Q4 hG aa bk ?_|refine Q5 hG aa ?_|refine Q6 hG aa ?_|refine Q7 hG aa ?_|refine Q8 hG aa ?_|refine Q9 rfl ?_|refine QF rfl ?_|refine QC rfl ⟨fun h => ?_,fun h => ?_⟩|((conv => whnf); first|refine anF ?_|refine anT ?_|refine anK ?_|refine And.intro (Int.natCast_nonneg _) ?_|refine And.intro (fun h => ?_) (fun h => ?_)|refine Or.inl ?_)
          all_goals exact Ends.mk (Or.inl rfl) (ac rfl)
end Go.Proofs
namespace Go.Proofs
open Go Go.AI
set_option maxRecDepth 10000
section
variable {Γ : aP} {s : St} {K : Exit → St → Prop}
theorem WI.rebox2 {c : Ctx} {bx : List (Nat × List AV)} {w : World} (hW : WI Γ c bx w) {d : Nat} {cs cs' : List AV} (h : AI.get bx d = some cs) (hne : cs ≠ []) (hl : cs'.length = cs.length) (hc : ∀ x ∈ cs',x.isCell = true)
  (hr : ∀ (vs : Array Value) (T : TypeId),w.heap[c.ρ d]? = some (.cells vs T (0,0)) → (∀ (i : Nat) (x : AV) (v : Value),cs[i]? = some x → vs[i]? = some v → RC1 c x v) → ∀ (i : Nat) (x : AV) (v : Value),cs'[i]? = some x → vs[i]? = some v → RC1 c x v) : WI Γ c ((d,cs') :: bx) w:=by
 obtain ⟨h1,h2,h3,vs,T,h4,h5,h6⟩:=hW.box d cs h hne
 refine ⟨hW.ext,hW.sub,hW.le0,hW.new,fun d' ds hd' hne' => ?_,fun d1 d2 c1 c2 g1 g2 n1 n2 hρ => ?_,fun k => ?_,fun k b o hx => ?_⟩
 ·rw [ao] at hd'
  split at hd'
  ·rename_i hdd
   subst hdd
   cases hd'
   exact ⟨h1,h2,hc,vs,T,h4,hl.trans h5,hr vs T h4 h6⟩
  ·exact hW.box d' ds hd' hne'
 ·rw [ao] at g1 g2
  split at g1
  ·rename_i e1
   split at g2
   ·rename_i e2; rw [e1,e2]
   ·rename_i e2
    rw [e1] at hρ ⊢
    exact hW.inj d d2 cs c2 h g2 hne n2 hρ
  ·rename_i e1
   split at g2
   ·rename_i e2
    rw [e2] at hρ ⊢
    exact hW.inj d1 d c1 cs g1 h n1 hne hρ
   ·exact hW.inj d1 d2 c1 c2 g1 g2 n1 n2 hρ
 ·have ho:=hW.own k
  refine ⟨ho.blk,ho.shape,fun g d' ds hg hd' hne' => ?_,ho.apart⟩
  rw [ao] at hd'
  split at hd'
  ·rename_i e; rw [e]; exact ho.box g d cs hg h hne
  ·exact ho.box g d' ds hg hd' hne'
 ·have hq:=hW.xo k b o hx
  refine ⟨hq.new,hq.obj,hq.kept,hq.mem,hq.map,fun d' ds hd' hne' => ?_,hq.own,hq.inj⟩
  rw [ao] at hd'
  split at hd'
  ·rename_i e; rw [e]; exact hq.box d cs h hne
  ·exact hq.box d' ds hd' hne'
theorem SPB.ownBox {c : Code} (d j k sz : Nat) {cs : List AV} (h1 : AI.get s.b d = some cs) (h2 : cs[j]? = some (.sl .full 0 [])) (h : SPB Γ ⟨(s.dem k).t,(d,bN (cs.map (AV.dem1 k)) j (.sl (.id k) sz [])) :: (s.dem k).b⟩ c K) : SPB Γ s c K:=by
 refine ⟨fun a w hI => h.out a w ?_⟩
 obtain ⟨⟨cx,hW,ht⟩,hs,hd,hrn⟩:=hI
 have hne : cs ≠ []:=fun e => by rw [e] at h2; simp at h2
 obtain ⟨_,_,_,vs,T,q4,q5,q6⟩:=hW.box d cs h1 hne
 have hjl:=(List.getElem?_eq_some_iff.1 h2).1
 have hv : vs[j]? = some (vs[j]'(by omega)):=Array.getElem?_eq_getElem (by omega)
 generalize vs[j]'(by omega) = v at hv
 have hx : RD cx.m (.sl .full 0 []) v:=q6 j _ v h2 hv
 have hsp : jV v = false ∧ je Γ.w0.heap.size v:=by
  cases hx with
  | sl _ _ _ base len cap ho hf hl' hc =>
   have:=hf rfl
   exact ⟨by simp [jV,this],.inr ⟨_,_,_,rfl,fun _ => this.symm,fun a _ h0 => by simp at hl'; omega⟩⟩
 have hx' : RD cx.m (.sl .no sz []) v:=(AV.weak.slnil : (AV.sl .full 0 []).weak (.sl .no sz [])) _ _ hx
 have hW1:=hW.own_none k sz v hsp.2 hsp.1
 have hb : AI.get (s.dem k).b d = some (cs.map (AV.dem1 k)):=by rw [tq,h1]; rfl
 have hne1 : cs.map (AV.dem1 k) ≠ []:=by simpa using hne
 refine ⟨⟨_,WI.rebox2 (bx:=(s.dem k).b) hW1 hb hne1 (el _ _ _) (fun x hx => ?_) (fun vs' T' e1 hvs i x v' p1 p2 => ?_),fun e y hy => ?_⟩,hs,hd,hrn⟩
 ·obtain ⟨p,hp⟩:=List.getElem?_of_mem hx
  rw [cK] at hp
  split at hp
  ·cases hp; rfl
  ·exact (hW1.box d _ hb hne1).2.2.1 x (List.mem_of_getElem? hp)
 ·have e : vs' = vs:=by
   have e2:=q4.symm.trans e1
   cases e2; rfl
  rw [cK] at p1
  split at p1
  ·rename_i hj
   cases p1
   have ev : v' = v:=by
    rw [e,← hj.1] at p2
    exact Option.some.inj (p2.symm.trans hv)
   subst ev
   refine ⟨by simp [Ctx.own],fun h => (by rw [hsp.1] at h; cases h),hx'⟩
  ·exact hvs i x v' p1 p2
 ·rw [kB] at hy
  obtain ⟨z,hz,rfl⟩:=Option.map_eq_some_iff.1 hy
  exact (ht e z hz).reown (.refl _)
end
set_option maxHeartbeats 16000000 in
theorem AF (s : Nat → Int) (l : List Opt) (ps : List al) (a b : Int) (lost : List Int) (hl1 : l.length ≤ 1000000) (hls : fc l) (hps : ps.length ≤ 1000000) (hlo : lost.length ≤ 1000000)
  (hV : bI s l ps 0 a b = true → l.length ≤ 8 ∧ (∀ o ∈ l,1 ≤ o.sl.length ∧ o.sl.length ≤ 6 ∧ iY o = true) ∧ (gq ps lost = true → ∀ o ∈ l,gQ o ps lost = true)) (hV2 : bI s l ps 0 a b = true → gn (aC l) lost = true → gq ps lost = true) : ae Tryz.prog 54 [.agg (bg s),aM l,ak ps,.agg (aK a b),au lost] (jQ s l ps a b lost):=by
 have cV:=jG s l ps 0 a b hl1 hls hps
 have cFk:=iD l hl1 hls
 cases hv : bI s l ps 0 a b with
 | false =>
  rw [hv] at cV
  have hg : jQ s l ps a b lost = .tup [.agg [.sl .full 0 [],.sl .full 0 [],.sl .full 0 [],.sl .full 0 []],.int .i64 210]:=by rw [jQ,hv]; rfl
  rw [hg]
  refine ag aa Tryz.func54 rfl (by kernel_rfl) af (Nat.le_of_ble_eq_true rfl) ?_
  intro F n' w0 m0 hG hro h1
  repeat' first|refine Q1 ?_|refine Q2 ?_|refine Q3 hG aa bj ?_|refine Q4 hG aa bj ?_|refine Q5 hG aa ?_|refine Q6 hG aa ?_|refine Q7 hG aa ?_|refine Q8 hG aa ?_|refine Q9 rfl ?_|refine QF rfl ?_|refine QC rfl ⟨fun h => ?_,fun h => ?_⟩|((conv => whnf); first|refine anF ?_|refine anT ?_|refine anK ?_|refine Exists.intro _ (And.intro (cV) ?_)|refine And.intro (fun h => ?_) (fun h => ?_)|refine Or.inl ?_)
  all_goals exact Ends.mk (Or.inl rfl) (ac rfl)
 | true =>
  rw [hv] at cV
  obtain ⟨hl,hfs,hs0⟩:=hV hv
  have hsl : ∀ o ∈ l,o.sl.length ≤ 6:=fun o ho => (hfs o ho).2.1
  have hs1 : ∀ o ∈ l,1 ≤ o.sl.length:=fun o ho => (hfs o ho).1
  have hc : ∀ o ∈ l,iY o = true:=fun o ho => (hfs o ho).2.2
  have hbad : gn (aC l) lost = false → jQ s l ps a b lost = .tup [.agg [.sl .full 0 [],.sl .full 0 [],.sl .full 0 [],.sl .full 0 []],.int .i64 210]:=fun h => by rw [jQ,hv,h]; rfl
  have hgood : gn (aC l) lost = true → jQ s l ps a b lost = .tup [.agg (kO l lost),.int .i64 0]:=fun h => by rw [jQ,hv,h]; rfl
  have hV3:=hV2 hv
  have cH:=fun n => tO (aC l) n (by
   have:=congrArg (fun z => z) hv
   simp only [bI,Bool.and_eq_true,decide_eq_true_eq] at this
   omega)
  generalize aC l = f at *
  have hlom : ((lost.map (fun h => [AV.int .i64 h])).length : Int) = (lost.length : Int):=by rw [List.length_map]
  refine ag aa Tryz.func54 rfl (by kernel_rfl) af (Nat.le_of_ble_eq_true rfl) ?_
  intro F n' w0 m0 hG hro h1
  repeat' first|refine Q1 ?_|refine Q2 ?_|refine Q3 hG aa bj ?_|refine Q4 hG aa bj ?_|refine Q5 hG aa ?_|refine Q6 hG aa ?_|refine Q7 hG aa ?_|refine Q8 hG aa ?_|refine Q9 rfl ?_|refine QF rfl ?_|refine QC rfl ⟨fun h => ?_,fun h => ?_⟩|((conv => whnf); first|refine anF ?_|refine anT ?_|refine anK ?_|refine Exists.intro _ (And.intro (cV) ?_)|refine Exists.intro _ (And.intro (cFk) ?_)|refine And.intro (fun h => ?_) (fun h => ?_)|refine Or.inl ?_)
  refine ar (X:=Nat) (fun x => ⟨[(13,.int .i64 x),(12,au f),(10,.loc 10 0),(8,.loc 8 0),(5,.loc 5 0),(4,au lost),(2,ak ps),(1,aM l)],[(10,[.sl (.id 1010000) 0 [],.sl (.id 1010001) 0 [],.sl (.id 1010002) 0 [],.sl (.id 1010003) 0 []]),(8,aK a b),(5,bg s)]⟩) (fun x => x ≤ lost.length ∧ (List.range x).all (jA f lost) = true) (fun x => lost.length - x) 0 ⟨Nat.zero_le _,rfl⟩ (ah ?_ ?_) (fun x hx => ?_)
  ·repeat' (first | exact trivial | refine And.intro rfl ?_)
  ·repeat' (first | exact trivial | refine And.intro rfl ?_)
  ·rename Nat => i
   obtain ⟨hi,ht⟩:=hx
   by_cases hlt_i : i < lost.length
   ·have bbk : decide ((i : Int) < ((lost.map (fun h => [AV.int .i64 h])).length : Int)) = false → False:=fun h => by have:=of_decide_eq_false h; simp at this; omega
    have hx:=ea hlt_i
    have hw : (i : Int) > 0 → IntKind.i64.wrap ((i : Int) - 1) = ((i - 1 : Nat) : Int):=fun h => (aq (by omega) (by omega)).trans (by omega)
    have hp0 : decide ((i : Int) > 0) = true → 0 ≤ IntKind.i64.wrap ((i : Int) - 1):=fun h => by rw [hw (of_decide_eq_true h)]; omega
    have hp : decide ((i : Int) > 0) = true → (lost.map (fun h => [AV.int .i64 h]))[(IntKind.i64.wrap ((i : Int) - 1)).toNat]? = some [.int .i64 (ay lost (i - 1))]:=fun h => by rw [hw (of_decide_eq_true h)]; exact ea (by omega)
    have hok : jA f lost i = (inP f (ay lost i) && (decide (i = 0) || decide (ay lost (i - 1) < ay lost i))):=rfl
    have hbd : jA f lost i = false → jQ s l ps a b lost = .tup [.agg [.sl .full 0 [],.sl .full 0 [],.sl .full 0 [],.sl .full 0 []],.int .i64 210]:=fun h => hbad (tv hlt_i h)
    have cHi:=cH (ay lost i)
    generalize ay lost (i - 1) = v at hp hok
    generalize ay lost i = u at hx hok cHi
    generalize inP f u = inp at *
    repeat' first|exact (bbk (by assumption)).elim|refine Q1 ?_|refine Q2 ?_|refine Q3 hG aa bj ?_|refine Q4 hG aa bj ?_|refine Q5 hG aa ?_|refine Q6 hG aa ?_|refine Q7 hG aa ?_|refine Q8 hG aa ?_|refine Q9 rfl ?_|refine QF rfl ?_|refine QC rfl ⟨fun h => ?_,fun h => ?_⟩|((conv => whnf); first|refine anF ?_|refine anT ?_|refine anK ?_|refine And.intro (Int.natCast_nonneg i) (Exists.intro _ (And.intro hx ?_))|refine And.intro (hp0 (by assumption)) (Exists.intro _ (And.intro (hp (by assumption)) ?_))|refine Exists.intro _ (And.intro (cHi) ?_)|refine And.intro (fun h => ?_) (fun h => ?_)|refine Or.inl ?_)
    all_goals first
     |((try dsimp only)
       refine Ends.mk (Or.inl rfl) (ac ?_)
       rw [hbd (by rw [hok]; clear hG hbd; grind)]; rfl)
     | skip
    all_goals (refine Exists.intro (i + 1) (And.intro ?_ (And.intro (by omega) (ah ?_ ?_))))
    all_goals first
     |(refine And.intro (congrArg some (ap (by omega))) ?_
       repeat' (first | exact trivial | refine And.intro rfl ?_))
     |((repeat' (first | exact trivial | refine And.intro rfl ?_)); done)
     |(exact ⟨hlt_i,by rw [m9,ht,hok]; clear hG hbd; grind⟩)
   ·have bbk : decide ((i : Int) < ((lost.map (fun h => [AV.int .i64 h])).length : Int)) = true → False:=fun h => by have:=of_decide_eq_true h; simp at this; omega
    have he : i = lost.length:=by omega
    rw [he] at ht
    have hfk : gn f lost = true:=ht
    rw [hgood hfk]
    have hs:=hs0 (hV3 hfk)
    have hroom : (([] : List (List AV)).length + (lost.map (fun h => [AV.int .i64 h])).length) * 8 ≤ 70368744177664:=by rw [List.length_map]; simp; omega
    have hroom2 : ([] : List (List AV)).length + (lost.map (fun h => [AV.int .i64 h])).length ≤ 4611686018427387904:=by rw [List.length_map]; simp; omega
    repeat' first|exact (bbk (by assumption)).elim|refine Q1 ?_|refine Q2 ?_|refine Q3 hG aa bj ?_|refine Q4 hG aa bj ?_|refine Q5 hG aa ?_|refine Q6 hG aa ?_|refine Q7 hG aa ?_|refine Q8 hG aa ?_|refine Q9 rfl ?_|refine QF rfl ?_|refine QC rfl ⟨fun h => ?_,fun h => ?_⟩|((conv => whnf); first|refine anF ?_|refine anT ?_|refine anK ?_|refine And.intro hroom (And.intro hroom2 ?_)|refine And.intro (fun h => ?_) (fun h => ?_)|refine Or.inl ?_)
    refine SPB.ownBox 14 1 1014001 1 rfl rfl ?_
    refine SPB.ownBox 14 2 1014002 4 rfl rfl ?_
    refine ar (X:=Nat) (fun x => ⟨[(16,.int .i64 x),(15,.sl (.id 15) 9 ((bG (l.take x) lost).map aH)),(14,.loc 14 0),(10,.loc 10 0),(8,.loc 8 0),(5,.loc 5 0),(4,au lost),(2,ak ps),(1,aM l)],[(14,[.sl (.id 64) 1 ([] ++ lost.map (fun h => [AV.int .i64 h])),.sl (.id 1014001) 1 ((fz (l.take x) lost).map (fun h => [AV.int .i64 h])),.sl (.id 1014002) 4 ((ee (l.take x) lost).map fE),(.sl .full 0 [])]),(10,[.sl (.id 1010000) 0 [],.sl (.id 1010001) 0 [],.sl (.id 1010002) 0 [],.sl (.id 1010003) 0 []]),(8,aK a b),(5,bg s)]⟩) (fun x => x ≤ l.length) (fun x => l.length - x) 0 (Nat.zero_le _) (ah ?_ ?_) (fun x hx => ?_)
    ·repeat' (first | exact trivial | refine And.intro rfl ?_)
    ·repeat' (first | exact trivial | refine And.intro rfl ?_)
    ·rename Nat => i
     have hi:=hx
     by_cases hlt_i : i < l.length
     ·have bbk : decide ((i : Int) < ((l.map aH).length : Int)) = false → False:=fun h => by have:=of_decide_eq_false h; simp at this; omega
      have hx:=gh hlt_i
      have hm : aF l i ∈ l:=by rw [cp hlt_i]; exact List.getElem_mem hlt_i
      have hso:=hs _ hm
      have hco:=hc _ hm
      have hso6:=hsl _ hm
      have hso1:=hs1 _ hm
      have cS : ae Tryz.prog 124 [.agg (aH (aF l i)),ak ps,au lost] (.tup [.int .i64 (f7 (aF l i) lost),.int .i64 0]):=by
       have h:=yf (aF l i) ps lost (by omega) hps hlo
       rw [qS,hso,if_pos rfl] at h; exact h
      have e1 : (bG (l.take (i + 1)) lost).map aH = (bG (l.take i) lost).map aH ++ [aH (oP (aF l i) (kS (aF l i) lost))]:=by rw [bG,gO _ hlt_i,List.map_append]; rfl
      have e2 : (fz (l.take (i + 1)) lost).map (fun h => [AV.int .i64 h]) = (fz (l.take i) lost).map (fun h => [AV.int .i64 h]) ++ [[.int .i64 (f7 (aF l i) lost)]]:=by rw [fz,gO _ hlt_i,List.map_append]; rfl
      have e3 : (ee (l.take (i + 1)) lost).map fE = (ee (l.take i) lost).map fE ++ [fE (mJ (aF l i) (kS (aF l i) lost))]:=by rw [ee,gO _ hlt_i,List.map_append]; rfl
      have n1 : ((bG (l.take i) lost).map aH).length = i:=by simp [bG]; omega
      have n2 : ((fz (l.take i) lost).map fun h => [AV.int .i64 h]).length = i:=by simp [fz]; omega
      have n3 : ((ee (l.take i) lost).map fE).length = i:=by simp [ee]; omega
      have hkc:=vO (aF l i) lost
      have cF:=fun (j : Nat) (hj : j < (aF l i).sl.length) => wI (aF l i) j (by omega) hco hj
      have hlb : ff (aF l i) = ((aF l i).sl.getD ((aF l i).sl.length - 1) ⟨0,0,0⟩).b:=rfl
      have hslm : (((aF l i).sl.map aw).length : Int) = ((aF l i).sl.length : Int):=by rw [List.length_map]
      generalize (bG (l.take i) lost).map aH = r1 at e1 n1 ⊢
      generalize ((fz (l.take i) lost).map fun h => [AV.int .i64 h]) = r2 at e2 n2 ⊢
      generalize (ee (l.take i) lost).map fE = r3 at e3 n3 ⊢
      generalize f7 (aF l i) lost = n at cS e2 hkc
      generalize kS (aF l i) lost = q at e1 e3 hkc
      generalize aF l i = u at *
      rcases hkc with ⟨rfl,rfl⟩ | ⟨q,hj,rfl,rfl⟩
      ·have hlw : IntKind.i64.wrap (((u.sl.map aw).length : Int) - 1) = ((u.sl.length - 1 : Nat) : Int):=by rw [hslm]; exact (aq (by omega) (by omega)).trans (by omega)
       have hjw : IntKind.i64.wrap (IntKind.i64.wrap (((u.sl.map aw).length : Int) - 1) + 1) = ((u.sl.length : Nat) : Int):=by rw [hlw]; exact (aq (by omega) (by omega)).trans (by omega)
       have hj1 : 0 ≤ IntKind.i64.wrap (IntKind.i64.wrap (((u.sl.map aw).length : Int) - 1) + 1):=by rw [hjw]; exact Int.natCast_nonneg _
       have hj2 : (IntKind.i64.wrap (IntKind.i64.wrap (((u.sl.map aw).length : Int) - 1) + 1)).toNat ≤ (u.sl.map aw).length:=by rw [hjw,List.length_map]; omega
       have hrow : ((u.sl.map aw).take (IntKind.i64.wrap (IntKind.i64.wrap (((u.sl.map aw).length : Int) - 1) + 1)).toNat).drop 0 = u.sl.map aw:=by rw [hjw,List.drop_zero,Int.toNat_natCast,← List.length_map (f:=aw),List.take_length]
       have cFj:=cF (u.sl.length - 1) (by omega)
       rw [← hlw] at cFj
       repeat' first|exact (bbk (by assumption)).elim|refine Q1 ?_|refine Q2 ?_|refine Q3 hG aa bj ?_|refine Q4 hG aa bj ?_|refine Q5 hG aa ?_|refine Q6 hG aa ?_|refine Q7 hG aa ?_|refine Q8 hG aa ?_|refine Q9 rfl ?_|refine QF rfl ?_|refine QC rfl ⟨fun h => ?_,fun h => ?_⟩|((conv => whnf); first|refine anF ?_|refine anT ?_|refine anK ?_|refine And.intro (Int.natCast_nonneg i) (Exists.intro _ (And.intro hx ?_))|refine Exists.intro _ (And.intro (cS) ?_)|refine Exists.intro _ (And.intro (cFj) ?_)|refine And.intro hj1 (And.intro (Nat.zero_le _) (And.intro hj2 ?_))|refine And.intro (show (r1.length + 1) * 88 ≤ 70368744177664 by omega) (And.intro (show r1.length + 1 ≤ 4611686018427387904 by omega) ?_)|refine And.intro (show (r2.length + 1) * 8 ≤ 70368744177664 by omega) (And.intro (show r2.length + 1 ≤ 4611686018427387904 by omega) ?_)|refine And.intro (show (r3.length + 1) * 32 ≤ 70368744177664 by omega) (And.intro (show r3.length + 1 ≤ 4611686018427387904 by omega) ?_)|refine And.intro (fun h => ?_) (fun h => ?_)|refine Or.inl ?_)
       refine Exists.intro (i + 1) (And.intro hlt_i (And.intro (by omega) (ah ?_ ?_)))
       ·refine And.intro (congrArg some (ap (by omega))) (And.intro (congrArg (fun z => some (AV.sl (.id 15) 9 z)) (e1.trans (congrArg (r1 ++ ·) ?_)).symm) ?_)
        ·rw [oP,if_neg (by omega)]
         exact congrArg (fun z => [[AV.int .i64 u.id,.int .i64 u.ord,.int .i64 u.cl,.int .i64 u.sat,.int .i64 u.a,.int .i64 u.b,.int .i64 u.look,.int .i64 u.size,.sl .no 3 z]]) hrow.symm
        ·repeat' (first | exact trivial | refine And.intro rfl ?_)
       ·refine And.intro (congrArg some ?_) ?_
        ·rw [e2,e3]
         rw [mJ,if_neg (by omega),hlb]; rfl
        ·repeat' (first | exact trivial | refine And.intro rfl ?_)
      ·have hjw : IntKind.i64.wrap ((q : Int) + 1) = ((q + 1 : Nat) : Int):=(aq (by omega) (by omega)).trans (by omega)
       have hj1 : 0 ≤ IntKind.i64.wrap ((q : Int) + 1):=by rw [hjw]; exact Int.natCast_nonneg _
       have hj2 : (IntKind.i64.wrap ((q : Int) + 1)).toNat ≤ (u.sl.map aw).length:=by rw [hjw,List.length_map]; omega
       have hrow : ((u.sl.map aw).take (IntKind.i64.wrap ((q : Int) + 1)).toNat).drop 0 = (u.sl.take (q + 1)).map aw:=by rw [hjw,List.drop_zero,Int.toNat_natCast,List.map_take]
       have bbn : decide ((q : Int) < 0) = true → False:=fun h => by have:=of_decide_eq_true h; omega
       have cFj:=cF q hj
       repeat' first|exact (bbk (by assumption)).elim|exact (bbn (by assumption)).elim|refine Q1 ?_|refine Q2 ?_|refine Q3 hG aa bj ?_|refine Q4 hG aa bj ?_|refine Q5 hG aa ?_|refine Q6 hG aa ?_|refine Q7 hG aa ?_|refine Q8 hG aa ?_|refine Q9 rfl ?_|refine QF rfl ?_|refine QC rfl ⟨fun h => ?_,fun h => ?_⟩|((conv => whnf); first|refine anF ?_|refine anT ?_|refine anK ?_|refine And.intro (Int.natCast_nonneg i) (Exists.intro _ (And.intro hx ?_))|refine Exists.intro _ (And.intro (cS) ?_)|refine Exists.intro _ (And.intro (cFj) ?_)|refine And.intro hj1 (And.intro (Nat.zero_le _) (And.intro hj2 ?_))|refine And.intro (show (r1.length + 1) * 88 ≤ 70368744177664 by omega) (And.intro (show r1.length + 1 ≤ 4611686018427387904 by omega) ?_)|refine And.intro (show (r2.length + 1) * 8 ≤ 70368744177664 by omega) (And.intro (show r2.length + 1 ≤ 4611686018427387904 by omega) ?_)|refine And.intro (show (r3.length + 1) * 32 ≤ 70368744177664 by omega) (And.intro (show r3.length + 1 ≤ 4611686018427387904 by omega) ?_)|refine And.intro (fun h => ?_) (fun h => ?_)|refine Or.inl ?_)
       refine Exists.intro (i + 1) (And.intro hlt_i (And.intro (by omega) (ah ?_ ?_)))
       ·refine And.intro (congrArg some (ap (by omega))) (And.intro (congrArg (fun z => some (AV.sl (.id 15) 9 z)) (e1.trans (congrArg (r1 ++ ·) ?_)).symm) ?_)
        ·rw [oP,if_pos hj]
         exact congrArg (fun z => [[AV.int .i64 u.id,.int .i64 u.ord,.int .i64 u.cl,.int .i64 u.sat,.int .i64 u.a,.int .i64 u.b,.int .i64 u.look,.int .i64 u.size,.sl .no 3 z]]) hrow.symm
        ·repeat' (first | exact trivial | refine And.intro rfl ?_)
       ·refine And.intro (congrArg some ?_) ?_
        ·rw [e2,e3]
         rw [mJ,if_pos hj]; rfl
        ·repeat' (first | exact trivial | refine And.intro rfl ?_)
     ·have bbk : decide ((i : Int) < ((l.map aH).length : Int)) = true → False:=fun h => by have:=of_decide_eq_true h; simp at this; omega
      have he : l.take i = l:=List.take_of_length_le (by omega)
      rw [he]
      have hw6 : ∀ o ∈ bG l lost,o.sl.length ≤ 6:=fun o ho => by
       obtain ⟨p,hp,rfl⟩:=List.mem_map.1 ho
       exact Nat.le_trans (yU _ _) (hsl p hp)
      have hwl : (bG l lost).length ≤ 8:=by simp [bG]; omega
      have cL:=wG (bG l lost) (by omega) (fun o ho => by have:=hw6 o ho; omega)
      repeat' first|exact (bbk (by assumption)).elim|refine Q1 ?_|refine Q2 ?_|refine Q3 hG aa bj ?_|refine Q4 hG aa bj ?_|refine Q5 hG aa ?_|refine Q6 hG aa ?_|refine Q7 hG aa ?_|refine Q8 hG aa ?_|refine Q9 rfl ?_|refine QF rfl ?_|refine QC rfl ⟨fun h => ?_,fun h => ?_⟩|((conv => whnf); first|refine anF ?_|refine anT ?_|refine anK ?_|refine Exists.intro _ (And.intro (cL) ?_)|refine And.intro (fun h => ?_) (fun h => ?_)|refine Or.inl ?_)
      all_goals exact Ends.mk (Or.inl rfl) (ac rfl)
theorem li (A A2 C C2 : List Int) (I I2 : List Img) (D D2 : List ax) (hA : A.length ≤ 1000000) (hC : C.length ≤ 1000000) (hI : I.length ≤ 1000000) (hD : D.length ≤ 1000000) (eA : A = A2) (eC : C = C2) (eI : I = I2) (eD : D = D2) :
  ae Tryz.prog 55 [.agg [au A,au C,eR I,br D],.agg [au A2,au C2,eR I2,br D2]] (.bool true):=by
 subst eA eC eI eD
 have c1:=dH A A hA
 have c2:=dH C C hC
 have c3:=sg D D hD
 rw [decide_eq_true rfl] at c1 c2 c3
 have bn : (((I.map fE).length : Int) != ((I.map fE).length : Int)) = true → False:=fun h => by simp at h
 refine ag aa Tryz.func55 rfl (by kernel_rfl) af (Nat.le_of_ble_eq_true rfl) ?_
 intro F n' w0 m0 hG hro h1
 repeat' first|exact (bn (by assumption)).elim|refine Q1 ?_|refine Q2 ?_|refine Q3 hG aa fm ?_|refine Q4 hG aa fm ?_|refine Q5 hG aa ?_|refine Q6 hG aa ?_|refine Q7 hG aa ?_|refine Q8 hG aa ?_|refine Q9 rfl ?_|refine QF rfl ?_|refine QC rfl ⟨fun h => ?_,fun h => ?_⟩|((conv => whnf); first|refine anF ?_|refine anT ?_|refine anK ?_|refine Exists.intro _ (And.intro (c1) ?_)|refine Exists.intro _ (And.intro (c2) ?_)|refine Exists.intro _ (And.intro (c3) ?_)|refine And.intro (fun h => ?_) (fun h => ?_)|refine Or.inl ?_)
 refine ar (X:=Nat) (fun x => ⟨[(5,.int .i64 x),(3,.loc 3 0),(2,.loc 2 0)],[(3,[au A,au C,eR I,br D]),(2,[au A,au C,eR I,br D])]⟩) (fun x => x ≤ I.length) (fun x => I.length - x) 0 (Nat.zero_le _) (ah ?_ ?_) (fun x hx => ?_)
 ·repeat' (first | exact trivial | refine And.intro rfl ?_)
 ·repeat' (first | exact trivial | refine And.intro rfl ?_)
 ·rename Nat => i
  have hi:=hx
  by_cases hlt_i : i < I.length
  ·have bbk : decide ((i : Int) < ((I.map fE).length : Int)) = false → False:=fun h => by have:=of_decide_eq_false h; simp at this; omega
   have hx:=fA (f:=fE) ⟨0,0,0,0⟩ hlt_i
   generalize I.getD i ⟨0,0,0,0⟩ = u at *
   repeat' first|exact (bbk (by assumption)).elim|refine Q1 ?_|refine Q2 ?_|refine Q3 hG aa fm ?_|refine Q4 hG aa fm ?_|refine Q5 hG aa ?_|refine Q6 hG aa ?_|refine Q7 hG aa ?_|refine Q8 hG aa ?_|refine Q9 rfl ?_|refine QF rfl ?_|refine QC rfl ⟨fun h => ?_,fun h => ?_⟩|((conv => whnf); first|refine anF ?_|refine anT ?_|refine anK ?_|refine And.intro (Int.natCast_nonneg i) (Exists.intro _ (And.intro hx ?_))|refine And.intro (fun h => ?_) (fun h => ?_)|refine Or.inl ?_)
   all_goals first
    |(exfalso; have h:=(by assumption : _ = true); simp at h; done)
    | skip
   refine Exists.intro (i + 1) (And.intro hlt_i (And.intro (by omega) (ah ?_ ?_)))
   ·refine And.intro (congrArg some (ap (by omega))) ?_
    repeat' (first | exact trivial | refine And.intro rfl ?_)
   ·repeat' (first | exact trivial | refine And.intro rfl ?_)
  ·have bbk : decide ((i : Int) < ((I.map fE).length : Int)) = true → False:=fun h => by have:=of_decide_eq_true h; simp at this; omega
   repeat' first|exact (bbk (by assumption)).elim|refine Q1 ?_|refine Q2 ?_|refine Q3 hG aa fm ?_|refine Q4 hG aa fm ?_|refine Q5 hG aa ?_|refine Q6 hG aa ?_|refine Q7 hG aa ?_|refine Q8 hG aa ?_|refine Q9 rfl ?_|refine QF rfl ?_|refine QC rfl ⟨fun h => ?_,fun h => ?_⟩|((conv => whnf); first|refine anF ?_|refine anT ?_|refine anK ?_|refine And.intro (fun h => ?_) (fun h => ?_)|refine Or.inl ?_)
   exact Ends.mk (Or.inl rfl) (ac rfl)
end Go.Proofs
namespace Go.Proofs
open Go Go.AI
set_option maxRecDepth 10000
def qk : Code → Code
 | .seq _ b => b
 | c => c
theorem Fp {α : Type} {f : α → List AV} {Q : α → Prop} {a b c : α} (ha : Q a) (hb : Q b) (hc : Q c) : ∀ {j : Nat},j < 3 → ∃ x,Q x ∧ [f a,f b,f c][(j : Int).toNat]? = some (f x)
 | 0,_ => ⟨a,ha,rfl⟩
 | 1,_ => ⟨b,hb,rfl⟩
 | 2,_ => ⟨c,hc,rfl⟩
theorem Fq {α : Type} {f : α → List AV} {Q : α → Prop} {a b : α} (ha : Q a) (hb : Q b) : ∀ {j : Nat},j < 2 → ∃ x,Q x ∧ [f a,f b][(j : Int).toNat]? = some (f x)
 | 0,_ => ⟨a,ha,rfl⟩
 | 1,_ => ⟨b,hb,rfl⟩
def o5 (l : List Opt) : Prop:=l.length ≤ 10 ∧ ∀ o ∈ l,o.sl.length ≤ 7
theorem o5.lens {l : List Opt} (h : o5 l) : l.length ≤ 1000000 ∧ fc l:=⟨by have:=h.1; omega,fun o ho => by have:=h.2 o ho; omega⟩
theorem BK (l : List Opt) : (oL l).length ≤ 6 * (l.take 8).length:=by
 unfold oL
 generalize l.take 8 = m
 induction m with
 | nil => exact Nat.zero_le _
 | cons o r ih =>
  rw [List.flatMap_cons,List.length_append,List.length_map,List.length_take,List.length_cons]
  omega
theorem Al (l : List Opt) : (aC l).length ≤ 48:=by
 rw [← oK]
 have h1:=iJ (oL l) []
 have h2:=BK l
 have h3 : (l.take 8).length ≤ 8:=by rw [List.length_take]; omega
 simp only [List.length_nil] at h1
 omega
theorem x8 (s : Nat → Int) (l : List Opt) (ps : List al) (a b : Int) (lost : List Int) (hl : l.length ≤ 1000000) (hs : fc l) (hps : ps.length ≤ 1000000) (hlo : lost.length ≤ 1000000) : ae Tryz.prog 54 [.agg (bg s),aM l,ak ps,.agg (aK a b),au lost] (jQ s l ps a b lost):=by
 refine AF s l ps a b lost hl hs hps hlo (fun hv => ?_) fun hv hf => rH (ef hv).1 hf
 have ht:=(ef hv).1
 obtain ⟨_,_,hfit⟩:=sA.of ht
 exact ⟨(bC.1 ht).1,fun o ho => ⟨(hfit o ho).len.1,(hfit o ho).len.2,(hfit o ho).can⟩,fun h o ho => qH ht h o ho⟩
theorem x3 (s : Nat → Int) (l : List Opt) (ps : List al) (a b : Int) (lost : List Int) (hl : l.length ≤ 1000000) (hs : fc l) (hps : ps.length ≤ 1000000) (hlo : lost.length ≤ 1000000) :
  (ae Tryz.prog 53 [.agg (bg s),aM l,ak ps,.agg (aK a b),au lost] (.tup [.agg [.sl .full 0 [],.sl .full 0 [],.sl .full 0 [],.sl .full 0 []],.int .i64 210]) ∧ ae Tryz.prog 54 [.agg (bg s),aM l,ak ps,.agg (aK a b),au lost] (.tup [.agg [.sl .full 0 [],.sl .full 0 [],.sl .full 0 [],.sl .full 0 []],.int .i64 210])) ∨
  ∃ (A C : List Int) (I : List Img) (D : List ax),ae Tryz.prog 53 [.agg (bg s),aM l,ak ps,.agg (aK a b),au lost] (.tup [.agg [au A,au C,eR I,br D],.int .i64 0]) ∧ ae Tryz.prog 54 [.agg (bg s),aM l,ak ps,.agg (aK a b),au lost] (.tup [.agg [au A,au C,eR I,br D],.int .i64 0]) ∧
   ae Tryz.prog 55 [.agg [au A,au C,eR I,br D],.agg [au A,au C,eR I,br D]] (.bool true):=by
 have c1:=kL s l ps a b lost hl hs hps hlo
 have c2:=x8 s l ps a b lost hl hs hps hlo
 unfold jQ at c1 c2
 by_cases h : (bI s l ps 0 a b && gn (aC l) lost) = true
 ·rw [if_pos h] at c1 c2
  right
  have ht : aX s l ps a b = true:=by
   simp only [Bool.and_eq_true] at h
   exact (ef h.1).1
  have h8:=(bC.1 ht).1
  have hg : dI (bG l lost):=ku ht _
  have hd:=my hg
  exact ⟨lost,fz l lost,ee l lost,aL (bG l lost),c1,c2,li _ _ _ _ _ _ _ _ hlo (by simp [fz]; omega) (by simp [ee]; omega) (by omega) rfl rfl rfl rfl⟩
 ·rw [if_neg h] at c1 c2
  exact .inl ⟨c1,c2⟩
theorem uR : ae Tryz.prog 55 [.agg [.sl .full 0 [],.sl .full 0 [],.sl .full 0 [],.sl .full 0 []],.agg [.sl .full 0 [],.sl .full 0 [],.sl .full 0 [],.sl .full 0 []]] (.bool true):=by
 have hw : (.agg [.sl .full 0 [],.sl .full 0 [],.sl .full 0 [],.sl .full 0 []] : AV).weak (.agg [au [],au [],eR [],br []]):=AV.weak.agg (.cons AV.weak.slnil (.cons AV.weak.slnil (.cons AV.weak.slnil (.cons AV.weak.slnil .nil)))) (by simp [au,eR,br,AV.isCell])
 exact (li [] [] [] [] [] [] [] [] (by simp) (by simp) (by simp) (by simp) rfl rfl rfl rfl).weak (.cons hw (.cons hw (.refl _)))
theorem x7 (l : List Opt) (ps : List al) (n : Int) (hl : l.length ≤ 1000000) (hs : fc l) (hps : ps.length ≤ 1000000) :
  (ae Tryz.prog 48 [aM l,ak ps,.int .i64 n] (.tup [.sl .full 0 [],.int .i64 210]) ∧ ae Tryz.prog 49 [aM l,ak ps,.int .i64 n] (.tup [.sl .no 1 [],.int .i64 210])) ∨
  ∃ L : List (List Int),ae Tryz.prog 48 [aM l,ak ps,.int .i64 n] (.tup [iO L,.int .i64 0]) ∧ ae Tryz.prog 49 [aM l,ak ps,.int .i64 n] (.tup [iO L,.int .i64 0]) ∧ ae Tryz.prog 50 [iO L,iO L] (.bool true):=by
 have c1:=lS l ps n hl hs hps
 have c2:=x9 l ps n hl hs hps
 unfold sZ at c1
 unfold mj at c2
 cases h : dv l ps n with
 | true =>
  rw [h,if_pos rfl] at c1 c2
  exact .inl ⟨c1,c2⟩
 | false =>
  rw [h,if_neg (by decide)] at c1 c2
  right
  have hf6 : (aC l).length ≤ 6:=by
   simp only [dv,Bool.or_eq_false_iff,decide_eq_false_iff_not] at h; omega
  have h64 : (cm (aC l) ps n).length ≤ 64:=by
   unfold cm dx
   refine Nat.le_trans (List.length_filter_le _ _) ?_
   rw [List.length_map,List.length_range]; exact ug hf6
  have cE:=kj (cm (aC l) ps n) (cm (aC l) ps n) (by omega) fun i hi => by
   have hm : (cm (aC l) ps n).getD i [] ∈ cm (aC l) ps n:=by rw [List.getD_eq_getElem?_getD,List.getElem?_eq_getElem hi]; exact List.getElem_mem hi
   obtain ⟨_,b,_,e⟩:=vg hm
   rw [e]; exact yy hf6
  rw [decide_eq_true rfl] at cE
  exact ⟨_,c1,c2,cE⟩
theorem uS : ae Tryz.prog 50 [.sl .full 0 [],.sl .no 1 []] (.bool true):=by
 have cE:=kj [] [] (by simp) (fun i hi => by simp at hi)
 rw [decide_eq_true rfl] at cE
 exact cE.weak (.cons AV.weak.slnil (.cons (.refl _) (.refl _)))
set_option maxHeartbeats 16000000 in
theorem tQ (s : Nat → Int) (l be : List Opt) (ps ot : List al) (a b p q kk set : Int) (raw : List Int) (hl : o5 l) (hbe : o5 be) (hps : ps.length ≤ 1000000) (hot : ot.length ≤ 1000000)
  {F' : Fence} {n' : Nat} {w0 : World} {m0 : Mem} (hG : aP.OK ⟨Tryz.prog,F',n',w0,m0,Tryz.f10.ntmps⟩) : SPB ⟨Tryz.prog,F',n',w0,m0,Tryz.f10.ntmps⟩ ⟨[(22,ak ot),(21,aM be),(20,.loc 20 0),(19,ak ps),(18,aM l),(17,.loc 17 0),(13,.loc 13 0),(4,.int .i64 kk),(6,au raw),(7,.int .i64 set)],[(20,aK a b),(17,bg s),(13,aK p q)]⟩ (match Tryz.f10.body with | some c => qk (qk (qk (qk (qk (qk (qk (c))))))) | none => .skip) (Go.AI.Ends qE Tryz.f10.results.toList (.bool true)):=by
 have kK:=ij kk 4 (by decide)
 have kS:=ij set 64 (by decide)
 generalize am kk 4 = k4 at kK
 generalize am set 64 = s64 at kS
 have hrl : (raw.take 7).length ≤ 1000000:=by rw [List.length_take]; omega
 repeat' first|refine Q1 ?_|refine Q2 ?_|refine Q3 hG aa az ?_|refine Q4 hG aa az ?_|refine Q5 hG aa ?_|refine Q6 hG aa ?_|refine Q7 hG aa ?_|refine Q8 hG aa ?_|refine Q9 rfl ?_|refine QF rfl ?_|refine QC rfl ⟨fun h => ?_,fun h => ?_⟩|((conv => whnf); first|refine anF ?_|refine anT ?_|refine anK ?_|refine And.intro (fun h => ?_) (fun h => ?_)|refine Or.inl ?_)
 refine ar (X:=Nat) (fun j => ⟨[(23,.int .i64 j),(22,ak ot),(21,aM be),(20,.loc 20 0),(19,ak ps),(18,aM l),(17,.loc 17 0),(13,.loc 13 0),(4,.int .i64 kk),(6,au raw),(7,.int .i64 set)],[(20,aK a b),(17,bg s),(13,aK p q)]⟩) (fun j => j ≤ 3) (fun j => 3 - j) 0 (Nat.zero_le _) (ah ?_ ?_) (fun j hj => ?_)
 ·repeat' (first | exact trivial | refine And.intro rfl ?_)
 ·repeat' (first | exact trivial | refine And.intro rfl ?_)
 ·by_cases hj3 : j < 3
  ·have b6 : decide ((j : Int) < 3) = false → False:=fun h => by have:=of_decide_eq_false h; omega
   obtain ⟨B,hB,h21⟩:=Fp (f:=fun B => [aM B]) (Q:=o5) (a:=l) (b:=be) (c:=l) hl hbe hl hj3
   obtain ⟨P,hP,h22⟩:=Fp (f:=fun P => [ak P]) (Q:=fun P => P.length ≤ 1000000) (a:=ps) (b:=ps) (c:=ot) hps hps hot hj3
   obtain ⟨g1,g2⟩:=hB.lens
   have kR:=iD B g1 g2
   have kF:=fT B g1 g2
   have hfl:=Al B
   have kI:=dH (aC B) (aC B) (by omega)
   rw [decide_eq_true rfl] at kI
   generalize aC B = f at *
   repeat' first|exact (b6 (by assumption)).elim|refine Q1 ?_|refine Q2 ?_|refine Q3 hG aa az ?_|refine Q4 hG aa az ?_|refine Q5 hG aa ?_|refine Q6 hG aa ?_|refine Q7 hG aa ?_|refine Q8 hG aa ?_|refine Q9 rfl ?_|refine QF rfl ?_|refine QC rfl ⟨fun h => ?_,fun h => ?_⟩|((conv => whnf); first|refine anF ?_|refine anT ?_|refine anK ?_|refine And.intro (Int.natCast_nonneg j) (Exists.intro _ (And.intro h21 ?_))|refine And.intro (Int.natCast_nonneg j) (Exists.intro _ (And.intro h22 ?_))|refine Exists.intro _ (And.intro (kR) ?_)|refine And.intro (fun h => ?_) (fun h => ?_)|refine Or.inl ?_)
   refine ar (X:=Nat × List Int) (fun x => ⟨[(28,.int .i64 x.1),(27,.sl (.id 27) 1 (x.2.map (fun h => [AV.int .i64 h]))),(26,au f),(25,ak P),(24,aM B),(23,.int .i64 j),(22,ak ot),(21,aM be),(20,.loc 20 0),(19,ak ps),(18,aM l),(17,.loc 17 0),(13,.loc 13 0),(4,.int .i64 kk),(6,au raw),(7,.int .i64 set)],[(20,aK a b),(17,bg s),(13,aK p q)]⟩) (fun x => x.1 ≤ f.length ∧ x.2.length ≤ x.1) (fun x => f.length - x.1) (0,[]) ⟨Nat.zero_le _,Nat.zero_le _⟩ (ah ?_ ?_) (fun x hx => ?_)
   ·repeat' (first | exact trivial | refine And.intro rfl ?_)
   ·repeat' (first | exact trivial | refine And.intro rfl ?_)
   ·obtain ⟨i,sm⟩:=x
    obtain ⟨hi,hsl⟩:=hx
    simp only at hi hsl ⊢
    have hfm : ((f.map (fun h => [AV.int .i64 h])).length : Int) = (f.length : Int):=by rw [List.length_map]
    by_cases hlt_i : i < f.length
    ·have b7 : decide ((i : Int) < ((f.map (fun h => [AV.int .i64 h])).length : Int)) = false → False:=fun h => by have:=of_decide_eq_false h; omega
     have hx:=vT f i hlt_i
     have hm0 : 0 ≤ min (i : Int) 8:=by omega
     have hsn : (sm.map (fun h => [AV.int .i64 h])).length ≤ 48:=by rw [List.length_map]; omega
     generalize f.getD i 0 = v at hx
     repeat' first|exact (b7 (by assumption)).elim|refine Q1 ?_|refine Q2 ?_|refine Q3 hG aa az ?_|refine Q4 hG aa az ?_|refine Q5 hG aa ?_|refine Q6 hG aa ?_|refine Q7 hG aa ?_|refine Q8 hG aa ?_|refine Q9 rfl ?_|refine QF rfl ?_|refine QC rfl ⟨fun h => ?_,fun h => ?_⟩|((conv => whnf); first|refine anF ?_|refine anT ?_|refine anK ?_|refine And.intro (Int.natCast_nonneg i) (Exists.intro _ (And.intro hx ?_))|refine Exists.intro _ (And.intro (kS) ?_)|refine And.intro hm0 ?_|refine And.intro (of_decide_eq_true (Eq.refl true)) ?_|refine And.intro (show ((sm.map (fun h => [AV.int .i64 h])).length + 1) * 8 ≤ 70368744177664 by omega) (And.intro (show (sm.map (fun h => [AV.int .i64 h])).length + 1 ≤ 4611686018427387904 by omega) ?_)|refine And.intro (fun h => ?_) (fun h => ?_)|refine Or.inl ?_)
     all_goals (conv => whnf)
     all_goals first
      |(refine Exists.intro (i + 1,sm ++ [v]) (And.intro ⟨hlt_i,by simp; omega⟩ (And.intro (by show f.length - (i + 1) < f.length - i; omega) (ah ?_ ?_)))
        ·refine And.intro (congrArg some (ap (by omega))) (And.intro (congrArg (fun z => some (AV.sl (.id 27) 1 z)) (by rw [List.map_append]; rfl)) ?_)
         ((repeat' (first | exact trivial | refine And.intro rfl ?_)); done)
        ·repeat' (first | exact trivial | refine And.intro rfl ?_))
      |(refine Exists.intro (i + 1,sm) (And.intro ⟨hlt_i,Nat.le_succ_of_le hsl⟩ (And.intro (by show f.length - (i + 1) < f.length - i; omega) (ah ?_ ?_)))
        ·refine And.intro (congrArg some (ap (by omega))) ?_
         repeat' (first | exact trivial | refine And.intro rfl ?_)
        ·repeat' (first | exact trivial | refine And.intro rfl ?_))
    ·have b7 : decide ((i : Int) < ((f.map (fun h => [AV.int .i64 h])).length : Int)) = true → False:=fun h => by have:=of_decide_eq_true h; omega
     have hsm : sm.length ≤ 1000000:=by omega
     refine SPB.demT 27 (SPB.le (s':=⟨[(28,.int .i64 i),(27,au sm),(26,au f),(25,ak P),(24,aM B),(23,.int .i64 j),(22,ak ot),(21,aM be),(20,.loc 20 0),(19,ak ps),(18,aM l),(17,.loc 17 0),(13,.loc 13 0),(4,.int .i64 kk),(6,au raw),(7,.int .i64 set)],[(20,aK a b),(17,bg s),(13,aK p q)]⟩) (ah ?_ ?_) ?_)
     ·repeat' (first | exact trivial | refine And.intro rfl ?_)
     ·repeat' (first | exact trivial | refine And.intro rfl ?_)
     repeat' first|exact (b7 (by assumption)).elim|refine Q1 ?_|refine Q2 ?_|refine Q3 hG aa az ?_|refine Q4 hG aa az ?_|refine Q5 hG aa ?_|refine Q6 hG aa ?_|refine Q7 hG aa ?_|refine Q8 hG aa ?_|refine Q9 rfl ?_|refine QF rfl ?_|refine QC rfl ⟨fun h => ?_,fun h => ?_⟩|((conv => whnf); first|refine anF ?_|refine anT ?_|refine anK ?_|refine Exists.intro _ (And.intro (kF) ?_)|refine Exists.intro _ (And.intro (kI) ?_)|refine Exists.intro _ (And.intro (kK) ?_)|refine And.intro (fun h => ?_) (fun h => ?_)|refine Or.inl ?_)
     refine ar (X:=Nat) (fun x => ⟨[(127,.int .i64 x),(126,.int .i64 2),(125,.sl .full 1 [[.int .i64 kk],[.int .i64 k4]]),(27,au sm),(25,ak P),(24,aM B),(23,.int .i64 j),(22,ak ot),(21,aM be),(20,.loc 20 0),(19,ak ps),(18,aM l),(17,.loc 17 0),(13,.loc 13 0),(4,.int .i64 kk),(6,au raw),(7,.int .i64 set)],[(20,aK a b),(17,bg s),(13,aK p q)]⟩) (fun x => x ≤ 2) (fun x => 2 - x) 0 (Nat.zero_le _) (ah ?_ ?_) (fun x hx => ?_)
     ·repeat' (first | exact trivial | refine And.intro rfl ?_)
     ·repeat' (first | exact trivial | refine And.intro rfl ?_)
     ·rename Nat => x
      by_cases hx2 : x < 2
      ·have b7 : decide ((x : Int) < 2) = false → False:=fun h => by have:=of_decide_eq_false h; omega
       obtain ⟨n,_,hn2⟩:=Fq (f:=fun n : Int => [AV.int .i64 n]) (Q:=fun _ => True) (a:=kk) (b:=k4) trivial trivial hx2
       have v1:=fy s B P n p q g1 g2 hP
       have v2:=jG s B P n p q g1 g2 hP
       have v3:=fy s B P n a b g1 g2 hP
       have v4:=jG s B P n a b g1 g2 hP
       generalize bI s B P n p q = va at v1 v2
       generalize bI s B P n a b = vb at v3 v4
       have ba : (va != va) = true → False:=fun h => by simp at h
       have bb : (vb != vb) = true → False:=fun h => by simp at h
       rcases x7 B P n g1 g2 hP with ⟨w1,w2⟩ | ⟨L,w1,w2,w3⟩
       ·repeat' first|exact (b7 (by assumption)).elim|exact (ba (by assumption)).elim|exact (bb (by assumption)).elim|refine Q1 ?_|refine Q2 ?_|refine Q3 hG aa az ?_|refine Q4 hG aa az ?_|refine Q5 hG aa ?_|refine Q6 hG aa ?_|refine Q7 hG aa ?_|refine Q8 hG aa ?_|refine Q9 rfl ?_|refine QF rfl ?_|refine QC rfl ⟨fun h => ?_,fun h => ?_⟩|((conv => whnf); first|refine anF ?_|refine anT ?_|refine anK ?_|refine And.intro (Int.natCast_nonneg x) (Exists.intro _ (And.intro hn2 ?_))|refine Exists.intro _ (And.intro (w1) ?_)|refine Exists.intro _ (And.intro (w2) ?_)|refine Exists.intro _ (And.intro (uS) ?_)|refine Exists.intro _ (And.intro (v1) ?_)|refine Exists.intro _ (And.intro (v2) ?_)|refine Exists.intro _ (And.intro (v3) ?_)|refine Exists.intro _ (And.intro (v4) ?_)|refine And.intro (fun h => ?_) (fun h => ?_)|refine Or.inl ?_)
        all_goals (conv => whnf)
        all_goals (refine Exists.intro (x + 1) (And.intro hx2 (And.intro (by omega) (ah ?_ ?_))))
        all_goals first
         |(refine And.intro (congrArg some (ap (by omega))) ?_
           repeat' (first | exact trivial | refine And.intro rfl ?_))
         |(repeat' (first | exact trivial | refine And.intro rfl ?_))
       ·repeat' first|exact (b7 (by assumption)).elim|exact (ba (by assumption)).elim|exact (bb (by assumption)).elim|refine Q1 ?_|refine Q2 ?_|refine Q3 hG aa az ?_|refine Q4 hG aa az ?_|refine Q5 hG aa ?_|refine Q6 hG aa ?_|refine Q7 hG aa ?_|refine Q8 hG aa ?_|refine Q9 rfl ?_|refine QF rfl ?_|refine QC rfl ⟨fun h => ?_,fun h => ?_⟩|((conv => whnf); first|refine anF ?_|refine anT ?_|refine anK ?_|refine And.intro (Int.natCast_nonneg x) (Exists.intro _ (And.intro hn2 ?_))|refine Exists.intro _ (And.intro (w1) ?_)|refine Exists.intro _ (And.intro (w2) ?_)|refine Exists.intro _ (And.intro (w3) ?_)|refine Exists.intro _ (And.intro (v1) ?_)|refine Exists.intro _ (And.intro (v2) ?_)|refine Exists.intro _ (And.intro (v3) ?_)|refine Exists.intro _ (And.intro (v4) ?_)|refine And.intro (fun h => ?_) (fun h => ?_)|refine Or.inl ?_)
        all_goals (conv => whnf)
        all_goals (refine Exists.intro (x + 1) (And.intro hx2 (And.intro (by omega) (ah ?_ ?_))))
        all_goals first
         |(refine And.intro (congrArg some (ap (by omega))) ?_
           repeat' (first | exact trivial | refine And.intro rfl ?_))
         |(repeat' (first | exact trivial | refine And.intro rfl ?_))
      ·have b7 : decide ((x : Int) < 2) = true → False:=fun h => by have:=of_decide_eq_true h; omega
       have hm0 : 0 ≤ min ((raw.map (fun h => [AV.int .i64 h])).length : Int) 7:=by omega
       have hm1 : (min ((raw.map (fun h => [AV.int .i64 h])).length : Int) 7).toNat ≤ (raw.map (fun h => [AV.int .i64 h])).length:=by omega
       have hraw : ((raw.map (fun h => [AV.int .i64 h])).take (min ((raw.map (fun h => [AV.int .i64 h])).length : Int) 7).toNat).drop 0 = (raw.take 7).map (fun h => [AV.int .i64 h]):=by
        rw [List.drop_zero,List.map_take,show (min ((raw.map (fun h => [AV.int .i64 h])).length : Int) 7).toNat = min 7 (raw.map (fun h => [AV.int .i64 h])).length by omega,← List.take_eq_take_min]
       repeat' first|exact (b7 (by assumption)).elim|refine Q1 ?_|refine Q2 ?_|refine Q3 hG aa az ?_|refine Q4 hG aa az ?_|refine Q5 hG aa ?_|refine Q6 hG aa ?_|refine Q7 hG aa ?_|refine Q8 hG aa ?_|refine Q9 rfl ?_|refine QF rfl ?_|refine QC rfl ⟨fun h => ?_,fun h => ?_⟩|((conv => whnf); first|refine anF ?_|refine anT ?_|refine anK ?_|refine And.intro hm0 (And.intro (Nat.zero_le _) (And.intro hm1 ?_))|refine And.intro (fun h => ?_) (fun h => ?_)|refine Or.inl ?_)
       refine ar (X:=Nat) (fun x => ⟨[(191,.sl .full 1 [[au sm],[au (raw.take 7)]]),(193,.int .i64 x),(192,.int .i64 2),(25,ak P),(24,aM B),(23,.int .i64 j),(22,ak ot),(21,aM be),(20,.loc 20 0),(19,ak ps),(18,aM l),(17,.loc 17 0),(13,.loc 13 0),(4,.int .i64 kk),(6,au raw),(7,.int .i64 set)],[(20,aK a b),(17,bg s),(13,aK p q)]⟩) (fun x => x ≤ 2) (fun x => 2 - x) 0 (Nat.zero_le _) (ah ?_ ?_) (fun x hx => ?_)
       ·refine And.intro (congrArg (fun z => some (AV.sl .full 1 [[au sm],[AV.sl .no 1 z]])) hraw) ?_
        repeat' (first | exact trivial | refine And.intro rfl ?_)
       ·repeat' (first | exact trivial | refine And.intro rfl ?_)
       ·rename Nat => y
        by_cases hy : y < 2
        ·have b7 : decide ((y : Int) < 2) = false → False:=fun h => by have:=of_decide_eq_false h; omega
         obtain ⟨L,hL,hL2⟩:=Fq (f:=fun L => [au L]) (Q:=fun L : List Int => L.length ≤ 1000000) (a:=sm) (b:=raw.take 7) hsm hrl hy
         rcases x3 s B P a b L g1 g2 hP hL with ⟨w1,w2⟩ | ⟨A,C,I,D,w1,w2,w3⟩
         ·repeat' first|exact (b7 (by assumption)).elim|refine Q1 ?_|refine Q2 ?_|refine Q3 hG aa az ?_|refine Q4 hG aa az ?_|refine Q5 hG aa ?_|refine Q6 hG aa ?_|refine Q7 hG aa ?_|refine Q8 hG aa ?_|refine Q9 rfl ?_|refine QF rfl ?_|refine QC rfl ⟨fun h => ?_,fun h => ?_⟩|((conv => whnf); first|refine anF ?_|refine anT ?_|refine anK ?_|refine And.intro (Int.natCast_nonneg y) (Exists.intro _ (And.intro hL2 ?_))|refine Exists.intro _ (And.intro (w1) ?_)|refine Exists.intro _ (And.intro (w2) ?_)|refine Exists.intro _ (And.intro (uR) ?_)|refine And.intro (fun h => ?_) (fun h => ?_)|refine Or.inl ?_)
          conv => whnf
          refine Exists.intro (y + 1) (And.intro hy (And.intro (by omega) (ah ?_ ?_)))
          ·refine And.intro rfl (And.intro (congrArg some (ap (by omega))) ?_)
           repeat' (first | exact trivial | refine And.intro rfl ?_)
          ·repeat' (first | exact trivial | refine And.intro rfl ?_)
         ·repeat' first|exact (b7 (by assumption)).elim|refine Q1 ?_|refine Q2 ?_|refine Q3 hG aa az ?_|refine Q4 hG aa az ?_|refine Q5 hG aa ?_|refine Q6 hG aa ?_|refine Q7 hG aa ?_|refine Q8 hG aa ?_|refine Q9 rfl ?_|refine QF rfl ?_|refine QC rfl ⟨fun h => ?_,fun h => ?_⟩|((conv => whnf); first|refine anF ?_|refine anT ?_|refine anK ?_|refine And.intro (Int.natCast_nonneg y) (Exists.intro _ (And.intro hL2 ?_))|refine Exists.intro _ (And.intro (w1) ?_)|refine Exists.intro _ (And.intro (w2) ?_)|refine Exists.intro _ (And.intro (w3) ?_)|refine And.intro (fun h => ?_) (fun h => ?_)|refine Or.inl ?_)
          conv => whnf
          refine Exists.intro (y + 1) (And.intro hy (And.intro (by omega) (ah ?_ ?_)))
          ·refine And.intro rfl (And.intro (congrArg some (ap (by omega))) ?_)
           repeat' (first | exact trivial | refine And.intro rfl ?_)
          ·repeat' (first | exact trivial | refine And.intro rfl ?_)
        ·have b7 : decide ((y : Int) < 2) = true → False:=fun h => by have:=of_decide_eq_true h; omega
         repeat' first|exact (b7 (by assumption)).elim|refine Q1 ?_|refine Q2 ?_|refine Q3 hG aa az ?_|refine Q4 hG aa az ?_|refine Q5 hG aa ?_|refine Q6 hG aa ?_|refine Q7 hG aa ?_|refine Q8 hG aa ?_|refine Q9 rfl ?_|refine QF rfl ?_|refine QC rfl ⟨fun h => ?_,fun h => ?_⟩|((conv => whnf); first|refine anF ?_|refine anT ?_|refine anK ?_|refine And.intro (fun h => ?_) (fun h => ?_)|refine Or.inl ?_)
         conv => whnf
         refine Exists.intro (j + 1) (And.intro hj3 (And.intro (by omega) (ah ?_ ?_)))
         ·refine And.intro (congrArg some (ap (by omega))) ?_
          repeat' (first | exact trivial | refine And.intro rfl ?_)
         ·repeat' (first | exact trivial | refine And.intro rfl ?_)
  ·have b6 : decide ((j : Int) < 3) = true → False:=fun h => by have:=of_decide_eq_true h; omega
   repeat' first|exact (b6 (by assumption)).elim|refine Q1 ?_|refine Q2 ?_|refine Q3 hG aa az ?_|refine Q4 hG aa az ?_|refine Q5 hG aa ?_|refine Q6 hG aa ?_|refine Q7 hG aa ?_|refine Q8 hG aa ?_|refine Q9 rfl ?_|refine QF rfl ?_|refine QC rfl ⟨fun h => ?_,fun h => ?_⟩|((conv => whnf); first|refine anF ?_|refine anT ?_|refine anK ?_|refine And.intro (fun h => ?_) (fun h => ?_)|refine Or.inl ?_)
   exact Ends.mk (Or.inl rfl) (ac rfl)
end Go.Proofs
namespace Go.Proofs
open Go Go.AI
set_option maxRecDepth 10000
theorem lu {α β : Type} (f : α → β) : ∀ (l : List α) (n : Nat) (v : α),bN (l.map f) n (f v) = (bN l n v).map f
 | [],_,_ => rfl
 | _ :: _,0,_ => rfl
 | x :: r,n + 1,v => by simp only [List.map_cons,bN,lu f r n v]
theorem lx {α : Type} : ∀ (l : List α) (n : Nat) (v : α),(bN l n v).length = l.length
 | [],_,_ => rfl
 | _ :: _,0,_ => rfl
 | _ :: r,n + 1,v => congrArg (· + 1) (lx r n v)
theorem o5.set {l : List Opt} (h : o5 l) (n : Nat) (o : Opt) : o5 (bN l n (wg o)):=by
 refine ⟨by rw [lx]; exact h.1,fun x hx => ?_⟩
 have : ∀ (l : List Opt) (n : Nat),x ∈ bN l n (wg o) → x ∈ l ∨ x = wg o:=by
  intro l
  induction l with
  | nil => intro n h; exact .inl h
  | cons y r ih =>
   intro n h
   cases n with
   | zero =>
    rcases List.mem_cons.1 h with h | h
    ·exact .inr h
    ·exact .inl (List.mem_cons_of_mem _ h)
   | succ n =>
    rcases List.mem_cons.1 h with h | h
    ·exact .inl (h ▸ List.mem_cons_self)
    ·rcases ih n h with h | h
     ·exact .inl (List.mem_cons_of_mem _ h)
     ·exact .inr h
 rcases this l n hx with h2 | rfl
 ·exact h.2 x h2
 ·simp only [wg,List.length_take]; omega
set_option maxHeartbeats 8000000 in
theorem tP (s : Nat → Int) (l be : List Opt) (ps : List al) (pp : al) (a b p q wh kk set : Int) (raw : List Int) (hl : o5 l) (hbe : o5 be) (hps : ps.length ≤ 1000) (hsd : inI wh)
  {F' : Fence} {n' : Nat} {w0 : World} {m0 : Mem} (hG : aP.OK ⟨Tryz.prog,F',n',w0,m0,Tryz.f10.ntmps⟩) : SPB ⟨Tryz.prog,F',n',w0,m0,Tryz.f10.ntmps⟩ ⟨[(21,aM be),(20,.loc 20 0),(19,ak ps),(18,aM l),(17,.loc 17 0),(13,.loc 13 0),(10,.loc 10 0),(3,.int .i64 wh),(4,.int .i64 kk),(6,au raw),(7,.int .i64 set)],[(20,aK a b),(17,bg s),(13,aK p q),(10,aG pp)]⟩ (match Tryz.f10.body with | some c => qk (qk (qk (qk (qk (c))))) | none => .skip) (Go.AI.Ends qE Tryz.f10.results.toList (.bool true)):=by
 rcases ps with _ | ⟨p0,ps0⟩
 ·refine Q1 ?_
  refine Q4 hG aa az ?_
  conv => whnf
  refine Or.inl ?_
  conv => whnf
  refine And.intro (show _ * 48 ≤ 70368744177664 by simp) (And.intro (show _ + _ ≤ 4611686018427387904 by simp) ?_)
  refine Q1 ?_
  refine SPB.cut (X:=Unit) (fun _ => ⟨[(22,.sl (.id 66) 6 []),(21,aM be),(20,.loc 20 0),(19,ak []),(18,aM l),(17,.loc 17 0),(13,.loc 13 0),(10,.loc 10 0),(3,.int .i64 wh),(4,.int .i64 kk),(6,au raw),(7,.int .i64 set)],[(20,aK a b),(17,bg s),(13,aK p q),(10,aG pp)]⟩) (fun _ => True) ?_ (fun _ _ => SPB.demT 66 (SPB.le (ah ?_ ?_) (tQ s l be [] [] a b p q kk set raw hl hbe (by simp) (by simp) hG)))
  ·repeat' first|refine Q1 ?_|refine Q2 ?_|refine Q3 hG aa az ?_|refine Q4 hG aa az ?_|refine Q5 hG aa ?_|refine Q6 hG aa ?_|refine Q7 hG aa ?_|refine Q8 hG aa ?_|refine Q9 rfl ?_|refine QF rfl ?_|refine QC rfl ⟨fun h => ?_,fun h => ?_⟩|((conv => whnf); first|refine anF ?_|refine anT ?_|refine anK ?_|refine And.intro (fun h => ?_) (fun h => ?_)|refine Or.inl ?_)
   refine Exists.intro () (And.intro trivial (ah ?_ ?_))
   ·repeat' (first | exact trivial | refine And.intro rfl ?_)
   ·repeat' (first | exact trivial | refine And.intro rfl ?_)
  ·repeat' (first | exact trivial | refine And.intro rfl ?_)
  ·repeat' (first | exact trivial | refine And.intro rfl ?_)
 ·have hL0 : 0 < ((p0 :: ps0).map aG).length:=by simp
  have hL1 : ((p0 :: ps0).map aG).length = (p0 :: ps0).length:=by rw [List.length_map]
  have kwh:=ij wh (((p0 :: ps0).map aG).length : Int) (by omega)
  have pwh:=aN hsd (n:=(((p0 :: ps0).map aG).length : Int)) (by omega)
  have hidx : ((p0 :: ps0).map aG)[(am wh (((p0 :: ps0).map aG).length : Int)).toNat]? = some (aG (aA (p0 :: ps0) (am wh (((p0 :: ps0).map aG).length : Int)).toNat)):=cn (l:=p0 :: ps0) (by omega)
  refine Q1 ?_
  refine Q4 hG aa az ?_
  conv => whnf
  refine Or.inr (And.intro rfl ?_)
  conv => whnf
  refine And.intro hL0 (And.intro (show _ * 48 ≤ 70368744177664 by simp at hps ⊢; omega) (And.intro (show _ ≤ 4611686018427387904 by simp at hps ⊢; omega) ?_))
  generalize hLL : p0 :: ps0 = ps at *
  refine Q1 ?_
  refine SPB.cut (X:=List al) (fun B => ⟨[(22,.me .sl 66 (ps.map aG).length []),(xk 66,.me .arr 66 6 (B.map aG)),(21,aM be),(20,.loc 20 0),(19,ak ps),(18,aM l),(17,.loc 17 0),(13,.loc 13 0),(10,.loc 10 0),(3,.int .i64 wh),(4,.int .i64 kk),(6,au raw),(7,.int .i64 set)],[(20,aK a b),(17,bg s),(13,aK p q),(10,aG pp)]⟩) (fun B => B.length ≤ 1000000) ?_ (fun B hB => ?_)
  ·repeat' first|refine Q1 ?_|refine Q2 ?_|refine Q3 hG aa az ?_|refine Q4 hG aa az ?_|refine Q5 hG aa ?_|refine Q6 hG aa ?_|refine Q7 hG aa ?_|refine Q8 hG aa ?_|refine Q9 rfl ?_|refine QF rfl ?_|refine QC rfl ⟨fun h => ?_,fun h => ?_⟩|((conv => whnf); first|refine anF ?_|refine anT ?_|refine anK ?_|refine And.intro pwh.1 (And.intro pwh.2 ?_)|refine Exists.intro _ (And.intro hidx ?_)|refine Exists.intro _ (And.intro (kwh) ?_)|refine And.intro (fun h => ?_) (fun h => ?_)|refine Or.inl ?_)
   ·refine Exists.intro (bN ps (am wh ((ps.map aG).length : Int)).toNat pp) (And.intro (show _ ≤ _ by rw [lx]; omega) (ah ?_ ?_))
    ·refine And.intro rfl (And.intro (congrArg (fun z => some (AV.me .arr 66 6 z)) (lu aG _ _ _)) ?_)
     repeat' (first | exact trivial | refine And.intro rfl ?_)
    ·repeat' (first | exact trivial | refine And.intro rfl ?_)
   ·refine Exists.intro ps (And.intro (show _ ≤ _ by omega) (ah ?_ ?_))
    ·repeat' (first | exact trivial | refine And.intro rfl ?_)
    ·repeat' (first | exact trivial | refine And.intro rfl ?_)
  ·refine SPB.frz [.tmp 22] ?_
   conv => whnf
   refine SPB.le (ah ?_ ?_) (tQ s l be ps B a b p q kk set raw hl hbe (by omega) hB hG)
   ·repeat' (first | exact trivial | refine And.intro rfl ?_)
   ·repeat' (first | exact trivial | refine And.intro rfl ?_)
set_option maxHeartbeats 8000000 in
theorem CG (c : bQ) (o1 : Opt) (s : Nat → Int) (l : List Opt) (ps : List al) (pp : al) (a b p q wh kk set : Int) (raw : List Int) (hl : o5 l) (hps : ps.length ≤ 1000) (hsd : inI wh)
  (k18 : ae Tryz.prog 42 [.agg (wt c)] (.tup [.agg (bg s),aM l,ak ps,.agg (aK a b)])) :
  ae Tryz.prog 10 [.agg (wt c),.agg (aH o1),.agg (aG pp),.int .i64 wh,.int .i64 kk,.agg (aK p q),au raw,.int .i64 set] (.bool true):=by
 have cf:=Bi o1
 refine ag aa Tryz.func10 rfl (by kernel_rfl) af (Nat.le_of_ble_eq_true rfl) ?_
 intro F n' w0 m0 hG hro h1
 repeat' first|refine Q1 ?_|refine Q2 ?_|refine Q3 hG aa az ?_|refine Q4 hG aa az ?_|refine Q5 hG aa ?_|refine Q6 hG aa ?_|refine Q7 hG aa ?_|refine Q8 hG aa ?_|refine Q9 rfl ?_|refine QF rfl ?_|refine QC rfl ⟨fun h => ?_,fun h => ?_⟩|((conv => whnf); first|refine anF ?_|refine anT ?_|refine anK ?_|refine And.intro (fun h => ?_) (fun h => ?_)|refine Or.inl ?_)
 conv => whnf
 refine Exists.intro _ (And.intro (wD) ?_)
 repeat' first|refine Q1 ?_|refine Q2 ?_|refine Q3 hG aa az ?_|refine Q4 hG aa az ?_|refine Q5 hG aa ?_|refine Q6 hG aa ?_|refine Q7 hG aa ?_|refine Q8 hG aa ?_|refine Q9 rfl ?_|refine QF rfl ?_|refine QC rfl ⟨fun h => ?_,fun h => ?_⟩|((conv => whnf); first|refine anF ?_|refine anT ?_|refine anK ?_|refine And.intro (fun h => ?_) (fun h => ?_)|refine Or.inl ?_)
 conv => whnf
 refine Exists.intro _ (And.intro (k18) ?_)
 rcases l with _ | ⟨x0,l0⟩
 ·refine Q1 ?_
  refine Q4 hG aa az ?_
  conv => whnf
  refine Or.inl ?_
  conv => whnf
  refine And.intro (show _ * 88 ≤ 70368744177664 by simp) (And.intro (show _ + _ ≤ 4611686018427387904 by simp) ?_)
  refine Q1 ?_
  refine SPB.cut (X:=Unit) (fun _ => ⟨[(21,.sl (.id 52) 9 []),(20,.loc 20 0),(19,ak ps),(18,aM []),(17,.loc 17 0),(13,.loc 13 0),(10,.loc 10 0),(3,.int .i64 wh),(4,.int .i64 kk),(6,au raw),(7,.int .i64 set)],[(20,aK a b),(17,bg s),(13,aK p q),(10,aG pp)]⟩) (fun _ => True) ?_ (fun _ _ => SPB.demT 52 (SPB.le (ah ?_ ?_) (tP s [] [] ps pp a b p q wh kk set raw hl hl hps hsd hG)))
  ·repeat' first|refine Q1 ?_|refine Q2 ?_|refine Q3 hG aa az ?_|refine Q4 hG aa az ?_|refine Q5 hG aa ?_|refine Q6 hG aa ?_|refine Q7 hG aa ?_|refine Q8 hG aa ?_|refine Q9 rfl ?_|refine QF rfl ?_|refine QC rfl ⟨fun h => ?_,fun h => ?_⟩|((conv => whnf); first|refine anF ?_|refine anT ?_|refine anK ?_|refine And.intro (fun h => ?_) (fun h => ?_)|refine Or.inl ?_)
   refine Exists.intro () (And.intro trivial (ah ?_ ?_))
   ·repeat' (first | exact trivial | refine And.intro rfl ?_)
   ·repeat' (first | exact trivial | refine And.intro rfl ?_)
  ·repeat' (first | exact trivial | refine And.intro rfl ?_)
  ·repeat' (first | exact trivial | refine And.intro rfl ?_)
 ·have hL0 : 0 < ((x0 :: l0).map aH).length:=by simp
  have hL1 : ((x0 :: l0).map aH).length = (x0 :: l0).length:=by rw [List.length_map]
  have hl1:=hl.1
  have kwh:=ij wh (((x0 :: l0).map aH).length : Int) (by omega)
  have pwh:=aN hsd (n:=(((x0 :: l0).map aH).length : Int)) (by omega)
  have hidx : ((x0 :: l0).map aH)[(am wh (((x0 :: l0).map aH).length : Int)).toNat]? = some (aH (aF (x0 :: l0) (am wh (((x0 :: l0).map aH).length : Int)).toNat)):=by
   have h:=gh (l:=x0 :: l0) (i:=(am wh (((x0 :: l0).map aH).length : Int)).toNat) (by omega)
   rw [Int.toNat_natCast] at h; exact h
  refine Q1 ?_
  refine Q4 hG aa az ?_
  conv => whnf
  refine Or.inr (And.intro rfl ?_)
  conv => whnf
  refine And.intro hL0 (And.intro (show _ * 88 ≤ 70368744177664 by simp at hl1 ⊢; omega) (And.intro (show _ ≤ 4611686018427387904 by simp at hl1 ⊢; omega) ?_))
  generalize hLL : x0 :: l0 = l at *
  refine Q1 ?_
  refine SPB.cut (X:=List Opt) (fun B => ⟨[(21,.me .sl 52 (l.map aH).length []),(xk 52,.me .arr 52 9 (B.map aH)),(20,.loc 20 0),(19,ak ps),(18,aM l),(17,.loc 17 0),(13,.loc 13 0),(10,.loc 10 0),(3,.int .i64 wh),(4,.int .i64 kk),(6,au raw),(7,.int .i64 set)],[(20,aK a b),(17,bg s),(13,aK p q),(10,aG pp)]⟩) (fun B => o5 B) ?_ (fun B hB => ?_)
  ·repeat' first|refine Q1 ?_|refine Q2 ?_|refine Q3 hG aa az ?_|refine Q4 hG aa az ?_|refine Q5 hG aa ?_|refine Q6 hG aa ?_|refine Q7 hG aa ?_|refine Q8 hG aa ?_|refine Q9 rfl ?_|refine QF rfl ?_|refine QC rfl ⟨fun h => ?_,fun h => ?_⟩|((conv => whnf); first|refine anF ?_|refine anT ?_|refine anK ?_|refine And.intro pwh.1 (And.intro pwh.2 ?_)|refine Exists.intro _ (And.intro hidx ?_)|refine Exists.intro _ (And.intro (kwh) ?_)|refine Exists.intro _ (And.intro (cf) ?_)|refine And.intro (fun h => ?_) (fun h => ?_)|refine Or.inl ?_)
   ·refine Exists.intro (bN l (am wh ((l.map aH).length : Int)).toNat (wg o1)) (And.intro (hl.set _ _) (ah ?_ ?_))
    ·refine And.intro rfl (And.intro (congrArg (fun z => some (AV.me .arr 52 9 z)) (lu aH _ _ _)) ?_)
     repeat' (first | exact trivial | refine And.intro rfl ?_)
    ·repeat' (first | exact trivial | refine And.intro rfl ?_)
   ·refine Exists.intro l (And.intro hl (ah ?_ ?_))
    ·repeat' (first | exact trivial | refine And.intro rfl ?_)
    ·repeat' (first | exact trivial | refine And.intro rfl ?_)
  ·refine SPB.frz [.tmp 21] ?_
   conv => whnf
   refine SPB.le (ah ?_ ?_) (tP s l B ps pp a b p q wh kk set raw hl hB hps hsd hG)
   ·repeat' (first | exact trivial | refine And.intro rfl ?_)
   ·repeat' (first | exact trivial | refine And.intro rfl ?_)
theorem bQ.gfew (c : bQ) : o5 c.gl:=by
 obtain ⟨_,_,hfit⟩:=sA.of c.gvalid
 refine ⟨by have:=c.glen; omega,fun o ho => ?_⟩
 have:=(hfit o ho).len
 omega
theorem FH (c : bQ) (o1 : Opt) (pp : al) (wh kk p q : Int) (raw : List Int) (set : Int) (hw : inI wh) :
  ae Tryz.prog 10 [.agg (wt c),.agg (aH o1),.agg (aG pp),.int .i64 wh,.int .i64 kk,.agg (aK p q),au raw,.int .i64 set] (.bool true):=
 CG c o1 c.s c.gl c.gps pp c.ga c.gb p q wh kk set raw c.gfew (by have:=c.gpasses.2.1; omega) hw (yr c)
end Go.Proofs
namespace Go.Proofs
open Go Go.AI Go.Proofs.YtehdegggapeihaaGreat
set_option maxRecDepth 100000
theorem CP : ownKnob Tryz.prog.godebug = none:=by kernel_rfl
theorem uT : laidOutB Tryz.prog = true:=by kernel_rfl
def yT : List Sh:=[.int .i64,.int .i64,.int .i64,.int .i64,.int .i64,.int .i64,.int .i64,.int .i64,.sl [.int .i64,.int .i64,.int .i64]]
def Fs : List Sh:=[.int .i64,.int .i64,.int .i64,.int .i64,.int .i64,.int .i64,.int .i64,.int .i64,.int .i64,.int .i64,.int .i64,.int .i64,.int .i64,.int .i64,.int .i64,.int .i64,.int .i64,.int .i64,.int .i64,.int .i64,.int .i64]
def BM : List Sh:=[.int .i64,.int .i64,.int .i64,.int .i64,.int .i64,.int .i64]
def yB : List Sh:=[.int .i64,.int .i64]
theorem wJ : (Tryz.prog.readableRec 3 && Nat.blt 3 Tryz.prog.types.size) = true:=by kernel_rfl
theorem uN : (Tryz.prog.readableRec 29 && Nat.blt 29 Tryz.prog.types.size) = true:=by kernel_rfl
theorem uL : (Tryz.prog.readableRec 32 && Nat.blt 32 Tryz.prog.types.size) = true:=by kernel_rfl
theorem uK : (Tryz.prog.readableRec 39 && Nat.blt 39 Tryz.prog.types.size) = true:=by kernel_rfl
theorem uJ : (Tryz.prog.readableRec 79 && Nat.blt 79 Tryz.prog.types.size) = true:=by kernel_rfl
theorem uI : (Tryz.prog.readableRec 95 && Nat.blt 95 Tryz.prog.types.size) = true:=by kernel_rfl
def Ct : List Sh:=[.int .i64,.int .i64,.int .i64,.int .i64,.int .i64,.int .i64,.int .i64,.int .i64,.int .i64,.int .i64,.int .i64,.sl [.int .i64,.int .i64,.int .i64],.sl [.int .i64,.int .i64,.int .i64,.int .i64,.int .i64],.int .i64]
def B6 : List (Bool × List Sh):=[(true,Ct),(true,yT),(true,BM),(false,[.int .i64]),(false,[.int .i64]),(true,yB),(false,[.sl [.int .i64]]),(false,[.int .i64])]
theorem CJ : js Tryz.prog 8 [95,32,39,3,3,29,79,3] = some B6:=by kernel_rfl
theorem wL (law : ∀ avs,jd 8 B6 avs → ae Tryz.prog 10 avs (.bool true)) (os : Os) (started : os.Started) (H : Type) (enc : TypeId × Value → H) :
  ReturnsInHanded {} Tryz.checked os 10 .any (Rows.branchMatchesReferenceSpec.pre6 enc Tryz.prog Tryz.f10 Rows.branchMatchesReferenceRow.domain false) (Rows.branchMatchesReferenceSpec.post enc Tryz.prog Tryz.f10 false true false false):=
 xK (C:=Tryz.checked) (tb:=4) CP started (by kernel_rfl) Tryz.func10
  (ChangeSpec.witness6 (enc:=enc) (C:=Tryz.checked) false ⟨#[],#[.agg #[.int .i64 0,.int .i64 0,.int .i64 0,.int .i64 0,.int .i64 0,.int .i64 0,.int .i64 0,.int .i64 0,.int .i64 0,.int .i64 0,.int .i64 0,.slice none 0 0,.slice none 0 0,.int .i64 0],.agg #[.int .i64 0,.int .i64 0,.int .i64 0,.int .i64 0,.int .i64 0,.int .i64 0,.int .i64 0,.int .i64 0,.slice none 0 0],.agg #[.int .i64 0,.int .i64 0,.int .i64 0,.int .i64 0,.int .i64 0,.int .i64 0],.int .i64 0,.int .i64 0,.agg #[.int .i64 0,.int .i64 0],.slice none 0 0,.int .i64 0],[]⟩ 8 (by kernel_rfl) (by kernel_rfl) (by kernel_rfl) (by kernel_rfl))
  rfl (by kernel_rfl) (by kernel_rfl) (fun ds h => by
   match ds,h with
   | [d0,d1,d2,d3,d4,d5,d6,d7],_ => rfl) CJ uT (fun t ht => by
   have e : Tryz.f10.params.toList = [95,32,39,3,3,29,79,3]:=by kernel_rfl
   rw [e] at ht
   simp only [List.mem_cons,List.not_mem_nil,or_false] at ht
   have h3:=wJ
   have h29:=uN
   have h32:=uL
   have h39:=uK
   have h79:=uJ
   have h95:=uI
   simp only [Bool.and_eq_true] at h3 h29 h32 h39 h79 h95
   rcases ht with h | h | h | h | h | h | h | h <;> subst h <;> first | exact ⟨h3.1,Nat.le_of_ble_eq_true h3.2⟩ | exact ⟨h29.1,Nat.le_of_ble_eq_true h29.2⟩ | exact ⟨h32.1,Nat.le_of_ble_eq_true h32.2⟩ | exact ⟨h39.1,Nat.le_of_ble_eq_true h39.2⟩ | exact ⟨h79.1,Nat.le_of_ble_eq_true h79.2⟩ | exact ⟨h95.1,Nat.le_of_ble_eq_true h95.2⟩) law
theorem C0 : (Rows.branchMatchesReferenceRow.wf (OpenSpec.ofChange Rows.branchMatchesReferenceSpec) : Bool) = true:=by kernel_rfl
theorem CZ : (laidOutB Tryz.pinned.checked.prog : Bool) = true:=by kernel_rfl
theorem CY : (mapsRowed Tryz.pinned.checked.prog : Bool) = true:=by kernel_rfl
theorem CX : (Tryz.f10.params.all (Tryz.pinned.checked.prog.readableRec ·) : Bool) = true:=by kernel_rfl
theorem CW : (namedTie Tryz.pinned.checked.prog Rows.branchMatchesReferenceRow.named Rows.branchMatchesReferenceSpec.vars : Bool) = true:=by kernel_rfl
theorem CV : ((Rows.branchMatchesReferenceRow.stops == []) : Bool) = true:=by kernel_rfl
theorem CU : ((Tryz.pinned.checked.prog.stops == []) : Bool) = true:=by kernel_rfl
theorem CT : ((Rows.branchMatchesReferenceRow.knobs == []) : Bool) = true:=by kernel_rfl
theorem CS : ((Tryz.pinned.checked.prog.stopKnobs == []) : Bool) = true:=by kernel_rfl
theorem CR : ((Rows.branchMatchesReferenceRow.inPlace == Tryz.pinned.checked.prog.inPlace 10) : Bool) = true:=by kernel_rfl
theorem A8 : ((Rows.branchMatchesReferenceRow.unfollowed == Tryz.pinned.checked.prog.unfollowed 10) : Bool) = true:=by kernel_rfl
theorem A7 : ((Rows.branchMatchesReferenceRow.recurses == Tryz.pinned.checked.prog.recurses 10) : Bool) = true:=by kernel_rfl
theorem A6 : ((Rows.branchMatchesReferenceRow.named == Tryz.pinned.checked.prog.varsNamed 10) : Bool) = true:=by kernel_rfl
theorem A5 : ((Rows.branchMatchesReferenceRow.maps == (Tryz.f10.params.toList ++ Rows.branchMatchesReferenceSpec.plain.varTypes Tryz.pinned.checked.prog).any (Tryz.pinned.checked.prog.mapsRec ·)) : Bool) = true:=by kernel_rfl
theorem A4 : ((Rows.branchMatchesReferenceRow.ifaces == (Tryz.f10.params.toList ++ Rows.branchMatchesReferenceSpec.plain.varTypes Tryz.pinned.checked.prog).any (Tryz.pinned.checked.prog.ifacesRec ·)) : Bool) = true:=by kernel_rfl
theorem A3 : ((Rows.branchMatchesReferenceRow.mapsOut == Tryz.pinned.checked.prog.mapsAmong Tryz.f10.resultTypes.toList) : Bool) = true:=by kernel_rfl
theorem A1 : ((Rows.branchMatchesReferenceRow.loops == (Tryz.f10.params.toList ++ Rows.branchMatchesReferenceSpec.plain.varTypes Tryz.pinned.checked.prog).any (Tryz.pinned.checked.prog.loopsFrom ·)) : Bool) = true:=by kernel_rfl
theorem A0 : ((Rows.branchMatchesReferenceRow.wideKeys == (Tryz.f10.params.toList ++ Rows.branchMatchesReferenceSpec.plain.varTypes Tryz.pinned.checked.prog ++ Tryz.f10.resultTypes.toList).any (Tryz.pinned.checked.prog.wideKeysFrom ·)) : Bool) = true:=by kernel_rfl
theorem AZ : (Rows.branchMatchesReferenceSpec.vars.all (Tryz.pinned.checked.prog.varReadable ·) : Bool) = true:=by kernel_rfl
theorem AY : (Tryz.f10.resultTypes.all (fun t => Tryz.pinned.checked.prog.readableRec t && decide (t < Tryz.pinned.checked.prog.types.size)) : Bool) = true:=by kernel_rfl
theorem AX : ((Rows.branchMatchesReferenceRow.ifacesOut == Tryz.f10.resultTypes.toList.any (Tryz.pinned.checked.prog.ifacesRec ·)) : Bool) = true:=by kernel_rfl
theorem AW : ((Rows.branchMatchesReferenceRow.loopsOut == Tryz.f10.resultTypes.toList.any (Tryz.pinned.checked.prog.loopsFrom ·)) : Bool) = true:=by kernel_rfl
theorem AU : ((Rows.branchMatchesReferenceRow.plainKeys == Tryz.pinned.checked.prog.plainKeys) : Bool) = true:=by kernel_rfl
theorem AT : (Rows.branchMatchesReferenceRow.shortTexts.isNone : Bool) = true:=by kernel_rfl
theorem AS : (Tryz.pinned.checked.prog.stopsHeard : Bool) = true:=by kernel_rfl
theorem AR : (Tryz.pinned.checked.prog.mayEnter : Bool) = true:=by kernel_rfl
theorem AQ : ((Rows.branchMatchesReferenceRow.lifted == Tryz.pinned.checked.prog.liftsFinal) : Bool) = true:=by kernel_rfl
theorem AP : ((Tryz.pinned.checked.prog.make == some Rows.branchMatchesReferenceRow.make) : Bool) = true:=by kernel_rfl
theorem AO : ((Rows.branchMatchesReferenceRow.kinds == (if Rows.branchMatchesReferenceRow.domain.isEmpty then [] else Tryz.f10.params.toList.map fun t => match Tryz.pinned.checked.prog.underlying t with | some (.int k) => some k | _ => none)) : Bool) = true:=by kernel_rfl
theorem AN : ((Rows.branchMatchesReferenceRow.pinned == Rows.branchMatchesReferenceRow.pinnedBy) : Bool) = true:=by kernel_rfl
theorem AM : ((Rows.branchMatchesReferenceRow.veiled == (Tryz.f10.params.toList ++ Rows.branchMatchesReferenceSpec.plain.varTypes Tryz.pinned.checked.prog ++ Tryz.f10.resultTypes.toList).any (Tryz.pinned.checked.prog.veiledRec ·)) : Bool) = true:=by kernel_rfl
theorem AL : (Rows.branchMatchesReferenceRow.veiledFits Tryz.pinned.checked.prog Tryz.f10.params.toList (Tryz.f10.params.toList ++ Rows.branchMatchesReferenceSpec.plain.varTypes Tryz.pinned.checked.prog ++ Tryz.f10.resultTypes.toList) : Bool) = true:=by kernel_rfl
theorem cw {a b : Bool} (h : a = true) (k : b = true) : (a && b) = true:=by rw [h,k]; rfl
theorem Ey : joinedFacts Tryz.pinned.checked.prog 10 Tryz.f10 Rows.branchMatchesReferenceSpec Rows.branchMatchesReferenceRow = true:=by
 unfold joinedFacts
 exact cw (cw (cw (cw (cw (cw (cw (cw (cw (cw (cw (cw (cw (cw (cw (cw (cw (cw (cw (cw (cw (cw (cw (cw (cw (cw (cw (cw (cw (cw (cw (C0) CZ) CY) CX) CW) CV) CU) CT) CS) CR) A8) A7) A6) A5) A4) A3) A1) A0) AZ) AY) AX) AW) AU) AT) AS) AR) AQ) AP) AO) AN) AM) AL
theorem CM (law : ∀ avs,jd 8 B6 avs → ae Tryz.prog 10 avs (.bool true)) : Rows.BranchMatchesReferenceSaid:=
 OpenClaim.holds_of_wide (p:=Tryz.pinned) (s:=Rows.branchMatchesReferenceSpec) (c:=Rows.branchMatchesReferenceRow) 10 Tryz.f10 rfl rfl rfl rfl rfl rfl rfl ⟨rfl,rfl,rfl,rfl,rfl⟩ rfl rfl rfl rfl rfl (by kernel_rfl) Tryz.func10 Ey
  (of_decide_eq_true (by kernel_rfl)) (by unfold Func.isWrapper; first | (rw [if_pos (by decide +kernel)]; kernel_rfl) | (rw [if_neg (by decide +kernel)]; exact ⟨rfl,rfl⟩))
  (fun os started H enc _ => wL law os started H enc)
theorem kx {n : Nat} {L : List Sh} {r : List (Bool × List Sh)} {avs : List AV} (h : jd n ((true,L) :: r) avs) : ∃ cs q,avs = .agg cs :: q ∧ Fa (ed n) L cs ∧ jd n r q:=by
 match avs,h with
 | _ :: q,h =>
  obtain ⟨⟨cs,rfl,h1⟩,h2⟩:=h
  exact ⟨cs,q,rfl,h1,h2⟩
 | [],h => exact h.elim
theorem oM {n : Nat} {r : List (Bool × List Sh)} {avs : List AV} (h : jd (n + 1) ((false,[.int .i64]) :: r) avs) : ∃ z q,avs = .int .i64 z :: q ∧ inI z ∧ jd (n + 1) r q:=by
 match avs,h with
 | _ :: q,h =>
  obtain ⟨⟨s,e,h1⟩,h2⟩:=h
  cases e
  obtain ⟨z,rfl,hz⟩:=aB h1
  exact ⟨z,q,rfl,hz,h2⟩
 | [],h => exact h.elim
theorem BO {n : Nat} {e : List Sh} {r : List (Bool × List Sh)} {avs : List AV} (h : jd n ((false,[.sl e]) :: r) avs) : ∃ z q,avs = z :: q ∧ ed n (.sl e) z ∧ jd n r q:=by
 match avs,h with
 | _ :: q,h =>
  obtain ⟨⟨s,e,h1⟩,h2⟩:=h
  cases e
  exact ⟨_,q,rfl,h1,h2⟩
 | [],h => exact h.elim
theorem zJ {n : Nat} {avs : List AV} (h : jd n [] avs) : avs = []:=by
 match avs,h with
 | [],_ => rfl
 | _ :: _,h => exact h.elim
theorem B8 {n : Nat} {a : AV} (h : ed (n + 2) (.sl [.int .i64]) a) : ∃ z : List Int,(∀ x ∈ z,inI x) ∧ a = au z:=by
 obtain ⟨xs,rfl,h2⟩:=h
 suffices hs : ∀ l : List (List AV),(∀ x ∈ l,Fa (ed (n + 1)) [.int .i64] x) → ∃ z : List Int,(∀ x ∈ z,inI x) ∧ l = z.map fun h => [AV.int .i64 h] by
  obtain ⟨z,g1,g2⟩:=hs xs h2
  exact ⟨z,g1,congrArg (AV.sl .no 1) g2⟩
 intro l
 induction l with
 | nil => exact fun _ => ⟨[],by simp,rfl⟩
 | cons y r ih =>
  intro h
  obtain ⟨z,g1,rfl⟩:=ih (fun x hx => h x (List.mem_cons_of_mem _ hx))
  obtain ⟨b,q,rfl,h0,h'⟩:=ai (h y List.mem_cons_self)
  obtain rfl:=dQ h'
  obtain ⟨w,rfl,hw⟩:=aB h0
  exact ⟨w :: z,fun v hv => by rcases List.mem_cons.1 hv with rfl | hv; exact hw; exact g1 v hv,rfl⟩
theorem BE {n : Nat} {a : AV} (h : ed (n + 2) (.sl [.int .i64,.int .i64,.int .i64,.int .i64,.int .i64]) a) : ∃ z : List R5,(∀ x ∈ z,vW x) ∧ a = .sl .no 5 (z.map jK):=by
 obtain ⟨xs,rfl,h2⟩:=h
 suffices hs : ∀ l : List (List AV),(∀ x ∈ l,Fa (ed (n + 1)) [.int .i64,.int .i64,.int .i64,.int .i64,.int .i64] x) → ∃ z : List R5,(∀ x ∈ z,vW x) ∧ l = z.map jK by
  obtain ⟨z,g1,g2⟩:=hs xs h2
  exact ⟨z,g1,congrArg (AV.sl .no 5) g2⟩
 intro l
 induction l with
 | nil => exact fun _ => ⟨[],by simp,rfl⟩
 | cons y r ih =>
  intro h
  obtain ⟨z,g1,rfl⟩:=ih (fun x hx => h x (List.mem_cons_of_mem _ hx))
  obtain ⟨b0,q,rfl,h0,h'⟩:=ai (h y List.mem_cons_self)
  obtain ⟨b1,q,rfl,h1,h'⟩:=ai h'
  obtain ⟨b2,q,rfl,h2,h'⟩:=ai h'
  obtain ⟨b3,q,rfl,h3,h'⟩:=ai h'
  obtain ⟨b4,q,rfl,h4,h'⟩:=ai h'
  obtain rfl:=dQ h'
  obtain ⟨z0,rfl,i0⟩:=aB h0
  obtain ⟨z1,rfl,i1⟩:=aB h1
  obtain ⟨z2,rfl,i2⟩:=aB h2
  obtain ⟨z3,rfl,i3⟩:=aB h3
  obtain ⟨z4,rfl,i4⟩:=aB h4
  exact ⟨⟨z0,z1,z2,z3,z4⟩ :: z,fun w hw => by rcases List.mem_cons.1 hw with rfl | hw; exact ⟨i0,i1,i2,i3,i4⟩; exact g1 w hw,rfl⟩
theorem vY {l : List Int} (h : ∀ y ∈ l,inI y) (i : Nat) : inI (l.getD i 0):=by
 rw [List.getD_eq_getElem?_getD]
 cases hi : l[i]? with
 | none => show inI 0; unfold inI; omega
 | some y => exact h y (List.mem_of_getElem? hi)
theorem Eo {n : Nat} {cs : List AV} (h : Fa (ed (n + 2)) Ct cs) : ∃ c : bQ,cs = wt c:=by
 obtain ⟨b0,q,rfl,h0,h⟩:=ai h
 obtain ⟨b1,q,rfl,h1,h⟩:=ai h
 obtain ⟨b2,q,rfl,h2,h⟩:=ai h
 obtain ⟨b3,q,rfl,h3,h⟩:=ai h
 obtain ⟨b4,q,rfl,h4,h⟩:=ai h
 obtain ⟨b5,q,rfl,h5,h⟩:=ai h
 obtain ⟨b6,q,rfl,h6,h⟩:=ai h
 obtain ⟨b7,q,rfl,h7,h⟩:=ai h
 obtain ⟨b8,q,rfl,h8,h⟩:=ai h
 obtain ⟨b9,q,rfl,h9,h⟩:=ai h
 obtain ⟨b10,q,rfl,h10,h⟩:=ai h
 obtain ⟨b11,q,rfl,h11,h⟩:=ai h
 obtain ⟨b12,q,rfl,h12,h⟩:=ai h
 obtain ⟨b13,q,rfl,h13,h⟩:=ai h
 obtain rfl:=dQ h
 obtain ⟨z0,rfl,i0⟩:=aB h0
 obtain ⟨z1,rfl,i1⟩:=aB h1
 obtain ⟨z2,rfl,i2⟩:=aB h2
 obtain ⟨z3,rfl,i3⟩:=aB h3
 obtain ⟨z4,rfl,i4⟩:=aB h4
 obtain ⟨z5,rfl,i5⟩:=aB h5
 obtain ⟨z6,rfl,i6⟩:=aB h6
 obtain ⟨z7,rfl,i7⟩:=aB h7
 obtain ⟨z8,rfl,i8⟩:=aB h8
 obtain ⟨z9,rfl,i9⟩:=aB h9
 obtain ⟨z10,rfl,i10⟩:=aB h10
 obtain ⟨z,hz,rfl⟩:=DV h11
 obtain ⟨v,hv,rfl⟩:=BE h12
 obtain ⟨f,rfl,hf⟩:=aB h13
 exact ⟨⟨fun i => [z0,z1,z2,z3,z4,z5,z6].getD i 0,fun i => [z7,z8,z9,z10].getD i 0,z,v,f,vY (by simp [*]),vY (by simp [*]),hz,hv,hf⟩,rfl⟩
theorem Bv {n : Nat} {a : AV} (h : ed (n + 2) (.sl [.int .i64,.int .i64,.int .i64]) a) : ∃ z : List aU,a = ua z:=by
 obtain ⟨xs,rfl,h2⟩:=h
 suffices hs : ∀ l : List (List AV),(∀ x ∈ l,Fa (ed (n + 1)) [.int .i64,.int .i64,.int .i64] x) → ∃ z : List aU,l = z.map aw by
  obtain ⟨z,g2⟩:=hs xs h2
  exact ⟨z,congrArg (AV.sl .no 3) g2⟩
 intro l
 induction l with
 | nil => exact fun _ => ⟨[],rfl⟩
 | cons y r ih =>
  intro h
  obtain ⟨z,rfl⟩:=ih (fun x hx => h x (List.mem_cons_of_mem _ hx))
  obtain ⟨b0,q,rfl,h0,h'⟩:=ai (h y List.mem_cons_self)
  obtain ⟨b1,q,rfl,h1,h'⟩:=ai h'
  obtain ⟨b2,q,rfl,h2,h'⟩:=ai h'
  obtain rfl:=dQ h'
  obtain ⟨z0,rfl,_⟩:=aB h0
  obtain ⟨z1,rfl,_⟩:=aB h1
  obtain ⟨z2,rfl,_⟩:=aB h2
  exact ⟨⟨z0,z1,z2⟩ :: z,rfl⟩
theorem BS {n : Nat} {cs : List AV} (h : Fa (ed (n + 2)) yT cs) : ∃ o : Opt,cs = aH o:=by
 obtain ⟨b0,q,rfl,h0,h⟩:=ai h
 obtain ⟨b1,q,rfl,h1,h⟩:=ai h
 obtain ⟨b2,q,rfl,h2,h⟩:=ai h
 obtain ⟨b3,q,rfl,h3,h⟩:=ai h
 obtain ⟨b4,q,rfl,h4,h⟩:=ai h
 obtain ⟨b5,q,rfl,h5,h⟩:=ai h
 obtain ⟨b6,q,rfl,h6,h⟩:=ai h
 obtain ⟨b7,q,rfl,h7,h⟩:=ai h
 obtain ⟨b,q,rfl,hs,h⟩:=ai h
 obtain rfl:=dQ h
 obtain ⟨z0,rfl,_⟩:=aB h0
 obtain ⟨z1,rfl,_⟩:=aB h1
 obtain ⟨z2,rfl,_⟩:=aB h2
 obtain ⟨z3,rfl,_⟩:=aB h3
 obtain ⟨z4,rfl,_⟩:=aB h4
 obtain ⟨z5,rfl,_⟩:=aB h5
 obtain ⟨z6,rfl,_⟩:=aB h6
 obtain ⟨z7,rfl,_⟩:=aB h7
 obtain ⟨sl,rfl⟩:=Bv hs
 exact ⟨⟨z0,z1,z2,z3,z4,z5,z6,z7,sl⟩,rfl⟩
theorem FN {n : Nat} {cs : List AV} (h : Fa (ed (n + 2)) Fs cs) : ∃ s : Nat → Int,cs = bg s:=by
 obtain ⟨b0,q,rfl,h0,h⟩:=ai h
 obtain ⟨b1,q,rfl,h1,h⟩:=ai h
 obtain ⟨b2,q,rfl,h2,h⟩:=ai h
 obtain ⟨b3,q,rfl,h3,h⟩:=ai h
 obtain ⟨b4,q,rfl,h4,h⟩:=ai h
 obtain ⟨b5,q,rfl,h5,h⟩:=ai h
 obtain ⟨b6,q,rfl,h6,h⟩:=ai h
 obtain ⟨b7,q,rfl,h7,h⟩:=ai h
 obtain ⟨b8,q,rfl,h8,h⟩:=ai h
 obtain ⟨b9,q,rfl,h9,h⟩:=ai h
 obtain ⟨b10,q,rfl,h10,h⟩:=ai h
 obtain ⟨b11,q,rfl,h11,h⟩:=ai h
 obtain ⟨b12,q,rfl,h12,h⟩:=ai h
 obtain ⟨b13,q,rfl,h13,h⟩:=ai h
 obtain ⟨b14,q,rfl,h14,h⟩:=ai h
 obtain ⟨b15,q,rfl,h15,h⟩:=ai h
 obtain ⟨b16,q,rfl,h16,h⟩:=ai h
 obtain ⟨b17,q,rfl,h17,h⟩:=ai h
 obtain ⟨b18,q,rfl,h18,h⟩:=ai h
 obtain ⟨b19,q,rfl,h19,h⟩:=ai h
 obtain ⟨b20,q,rfl,h20,h⟩:=ai h
 obtain rfl:=dQ h
 obtain ⟨z0,rfl,_⟩:=aB h0
 obtain ⟨z1,rfl,_⟩:=aB h1
 obtain ⟨z2,rfl,_⟩:=aB h2
 obtain ⟨z3,rfl,_⟩:=aB h3
 obtain ⟨z4,rfl,_⟩:=aB h4
 obtain ⟨z5,rfl,_⟩:=aB h5
 obtain ⟨z6,rfl,_⟩:=aB h6
 obtain ⟨z7,rfl,_⟩:=aB h7
 obtain ⟨z8,rfl,_⟩:=aB h8
 obtain ⟨z9,rfl,_⟩:=aB h9
 obtain ⟨z10,rfl,_⟩:=aB h10
 obtain ⟨z11,rfl,_⟩:=aB h11
 obtain ⟨z12,rfl,_⟩:=aB h12
 obtain ⟨z13,rfl,_⟩:=aB h13
 obtain ⟨z14,rfl,_⟩:=aB h14
 obtain ⟨z15,rfl,_⟩:=aB h15
 obtain ⟨z16,rfl,_⟩:=aB h16
 obtain ⟨z17,rfl,_⟩:=aB h17
 obtain ⟨z18,rfl,_⟩:=aB h18
 obtain ⟨z19,rfl,_⟩:=aB h19
 obtain ⟨z20,rfl,_⟩:=aB h20
 exact ⟨fun i => [z0,z1,z2,z3,z4,z5,z6,z7,z8,z9,z10,z11,z12,z13,z14,z15,z16,z17,z18,z19,z20].getD i 0,rfl⟩
theorem D7 {n : Nat} {cs : List AV} (h : Fa (ed (n + 2)) BM cs) : ∃ p : al,cs = aG p:=by
 obtain ⟨b0,q,rfl,h0,h⟩:=ai h
 obtain ⟨b1,q,rfl,h1,h⟩:=ai h
 obtain ⟨b2,q,rfl,h2,h⟩:=ai h
 obtain ⟨b3,q,rfl,h3,h⟩:=ai h
 obtain ⟨b4,q,rfl,h4,h⟩:=ai h
 obtain ⟨b5,q,rfl,h5,h⟩:=ai h
 obtain rfl:=dQ h
 obtain ⟨z0,rfl,_⟩:=aB h0
 obtain ⟨z1,rfl,_⟩:=aB h1
 obtain ⟨z2,rfl,_⟩:=aB h2
 obtain ⟨z3,rfl,_⟩:=aB h3
 obtain ⟨z4,rfl,_⟩:=aB h4
 obtain ⟨z5,rfl,_⟩:=aB h5
 exact ⟨⟨z0,z1,z2,z3,z4,z5⟩,rfl⟩
theorem Bs {n : Nat} {cs : List AV} (h : Fa (ed (n + 2)) yB cs) : ∃ p q : Int,cs = aK p q:=by
 obtain ⟨b0,q,rfl,h0,h⟩:=ai h
 obtain ⟨b1,q,rfl,h1,h⟩:=ai h
 obtain rfl:=dQ h
 obtain ⟨z0,rfl,_⟩:=aB h0
 obtain ⟨z1,rfl,_⟩:=aB h1
 exact ⟨z0,z1,rfl⟩
theorem FM {n : Nat} {a : AV} (h : ed (n + 3) (.sl yT) a) : ∃ z : List Opt,a = aM z:=by
 obtain ⟨xs,rfl,h2⟩:=h
 suffices hs : ∀ l : List (List AV),(∀ x ∈ l,Fa (ed (n + 2)) yT x) → ∃ z : List Opt,l = z.map aH by
  obtain ⟨z,g2⟩:=hs xs h2
  exact ⟨z,congrArg (AV.sl .no 9) g2⟩
 intro l
 induction l with
 | nil => exact fun _ => ⟨[],rfl⟩
 | cons y r ih =>
  intro h
  obtain ⟨z,rfl⟩:=ih (fun x hx => h x (List.mem_cons_of_mem _ hx))
  obtain ⟨o,rfl⟩:=BS (h y List.mem_cons_self)
  exact ⟨o :: z,rfl⟩
end Go.Proofs
namespace Go.Proofs.YtehdegggapeihaaGreat
open Go Go.AI
theorem branchMatchesReference : Rows.BranchMatchesReferenceSaid:=CM fun avs h => by
 obtain ⟨v0,q,rfl,g0,h⟩:=kx h
 obtain ⟨v1,q,rfl,g1,h⟩:=kx h
 obtain ⟨v2,q,rfl,g2,h⟩:=kx h
 obtain ⟨v3,q,rfl,g3,h⟩:=oM h
 obtain ⟨v4,q,rfl,g4,h⟩:=oM h
 obtain ⟨v5,q,rfl,g5,h⟩:=kx h
 obtain ⟨v6,q,rfl,g6,h⟩:=BO h
 obtain ⟨v7,q,rfl,g7,h⟩:=oM h
 obtain rfl:=zJ h
 obtain ⟨c,rfl⟩:=Eo g0
 obtain ⟨o1,rfl⟩:=BS g1
 obtain ⟨p2,rfl⟩:=D7 g2
 obtain ⟨x5,y5,rfl⟩:=Bs g5
 obtain ⟨r6,_,rfl⟩:=B8 g6
 exact Go.Proofs.FH c o1 p2 v3 v4 x5 y5 r6 v7 g3
end Go.Proofs.YtehdegggapeihaaGreat
