/- Contracts of the functions and plain facts about what they reckon, part 5: called with arguments that read so, each hands back what is typed. The conditions are those typed. -/
import Derived.Test.YtehdegggapeihaaGreatXConD
set_option linter.unusedSectionVars false
set_option linter.unusedVariables false
set_option linter.unusedSimpArgs false
namespace Go.Proofs
open Go Go.AI
set_option maxRecDepth 10000
theorem y9 {α : Type} (p : α → Bool) : ∀ (l : List α) (k : Nat),bV p l k = -1 ∨ ∃ j,j < l.length ∧ bV p l k = ((k + j : Nat) : Int)
 | [],k => .inl rfl
 | x :: l,k => by
  rw [bV]
  split
  ·exact .inr ⟨0,by simp,by simp⟩
  ·rcases y9 p l (k + 1) with h | ⟨j,h1,h2⟩
   ·exact .inl h
   ·exact .inr ⟨j + 1,by simpa using h1,by rw [h2]; congr 1; omega⟩
def kS (o : Opt) (lost : List Int) : Nat:=if f7 o lost ≥ 0 then (f7 o lost).toNat else o.sl.length
def flA (s : Nat → Int) (l : List Opt) (ps : List al) (a b : Int) : List AV:=bg s ++ [aM l,ak ps,.int .i64 a,.int .i64 b]
def fz (l : List Opt) (lost : List Int) : List Int:=l.map fun o => f7 o lost
def ee (l : List Opt) (lost : List Int) : List Img:=l.map fun o => mJ o (kS o lost)
def bG (l : List Opt) (lost : List Int) : List Opt:=l.map fun o => oP o (kS o lost)
def kO (l : List Opt) (lost : List Int) : List AV:=[au lost,au (fz l lost),eR (ee l lost),br (aL (bG l lost))]
theorem vO (o : Opt) (lost : List Int) : (f7 o lost = -1 ∧ kS o lost = o.sl.length) ∨ ∃ j,j < o.sl.length ∧ f7 o lost = (j : Int) ∧ kS o lost = j:=by
 rcases y9 (fun x : aU => !inP lost x.p) o.sl 0 with h | ⟨j,h1,h2⟩
 ·have h : f7 o lost = -1:=h
  exact .inl ⟨h,by unfold kS; rw [if_neg (by omega)]⟩
 ·have h : f7 o lost = (j : Int):=by rw [f7,h2]; simp
  exact .inr ⟨j,h1,h,by unfold kS; rw [if_pos (by omega),h]; simp⟩
theorem gO {α : Type} (f : Opt → α) {l : List Opt} {i : Nat} (h : i < l.length) : (l.take (i + 1)).map f = (l.take i).map f ++ [f (aF l i)]:=by
 rw [List.take_add_one,List.getElem?_eq_getElem h,cp h]; exact List.map_append
theorem yU (o : Opt) (k : Nat) : (oP o k).sl.length ≤ o.sl.length:=by
 unfold oP
 split
 ·show (o.sl.take _).length ≤ _; rw [List.length_take]; omega
 ·exact Nat.le_refl _
theorem s7 (n : Nat) : ∀ l : List Opt,(∀ o ∈ l,o.sl.length ≤ n) → (bu l).length ≤ n * l.length
 | [],_ => Nat.zero_le _
 | o :: l,h => by
  have h1:=s7 n l fun p hp => h p (List.mem_cons_of_mem _ hp)
  have h2:=h o List.mem_cons_self
  simp only [bu,List.flatMap_cons,List.length_append,List.length_map,List.length_cons] at h1 ⊢
  rw [Nat.mul_add]
  omega
set_option maxHeartbeats 16000000 in
theorem CH (s : Nat → Int) (l : List Opt) (ps : List al) (a b : Int) (lost : List Int) (hl : l.length ≤ 8) (hsl : ∀ o ∈ l,o.sl.length ≤ 6) (hps : ps.length ≤ 1000000) (hlo : lost.length ≤ 1000000)
  (hs : ∀ o ∈ l,gQ o ps lost = true) (hc : ∀ o ∈ l,iY o = true) : ae Tryz.prog 122 [.agg (flA s l ps a b),au lost] (.tup [.agg (kO l lost),.bool true]):=by
 refine ag aa Tryz.func122 rfl (by kernel_rfl) af (Nat.le_of_ble_eq_true rfl) ?_
 intro F n' w0 m0 hG hro h1
 repeat' first|refine Q1 ?_|refine Q2 ?_|refine Q3 hG aa dg ?_|refine Q4 hG aa dg ?_|refine Q5 hG aa ?_|refine Q6 hG aa ?_|refine Q7 hG aa ?_|refine Q8 hG aa ?_|refine Q9 rfl ?_|refine QF rfl ?_|refine QC rfl ⟨fun h => ?_,fun h => ?_⟩|((conv => whnf); first|refine anF ?_|refine anT ?_|refine anK ?_|refine Exists.intro _ (And.intro (wO lost hlo) ?_)|refine And.intro (fun h => ?_) (fun h => ?_)|refine Or.inl ?_)
 refine SPB.resize 4 1 1004001 1 rfl rfl ?_
 refine SPB.resize 4 2 1004002 4 rfl rfl ?_
 refine ar (X:=Nat) (fun x => ⟨[(18,.int .i64 x),(6,.sl (.id 6) 9 ((bG (l.take x) lost).map aH)),(17,.int .i64 (l.map aH).length),(16,aM l),(5,.bool false),(4,.loc 4 0),(2,.loc 2 0),(1,au lost)],[(4,[au lost,.sl (.id 1004001) 1 ((fz (l.take x) lost).map fun h => [AV.int .i64 h]),.sl (.id 1004002) 4 ((ee (l.take x) lost).map fE),.sl (.id 1004003) 0 []]),(2,flA s l ps a b)]⟩) (fun x => x ≤ l.length) (fun x => l.length - x) 0 (Nat.zero_le _) (ah ?_ ?_) (fun x hx => ?_)
 ·repeat' (first | exact trivial | refine And.intro rfl ?_)
 ·repeat' (first | exact trivial | refine And.intro rfl ?_)
 ·rename Nat => i
  have hi:=hx
  by_cases hlt_i : i < l.length
  ·have bbk : decide ((i : Int) < ((l.map aH).length : Int)) = false → False:=fun h => by have:=of_decide_eq_false h; simp at this; omega
   have hx:=gh hlt_i
   have hm : aF l i ∈ l:=by rw [cp hlt_i]; exact List.getElem_mem hlt_i
   have hso:=hs _ hm
   have hco:=hc _ hm
   have hso6:=hsl _ hm
   have cS : ae Tryz.prog 198 [.agg (aH (aF l i)),ak ps,au lost] (.tup [.int .i64 (f7 (aF l i) lost),.int .i64 0]):=by
    have h:=yi (aF l i) ps lost (by omega) hps hlo
    rw [qS,hso,if_pos rfl] at h; exact h
   have cW:=x2 (aF l i) (by omega) hco
   have e1 : (bG (l.take (i + 1)) lost).map aH = (bG (l.take i) lost).map aH ++ [aH (oP (aF l i) (kS (aF l i) lost))]:=by rw [bG,gO _ hlt_i,List.map_append]; rfl
   have e2 : (fz (l.take (i + 1)) lost).map (fun h => [AV.int .i64 h]) = (fz (l.take i) lost).map (fun h => [AV.int .i64 h]) ++ [[.int .i64 (f7 (aF l i) lost)]]:=by rw [fz,gO _ hlt_i,List.map_append]; rfl
   have e3 : (ee (l.take (i + 1)) lost).map fE = (ee (l.take i) lost).map fE ++ [fE (mJ (aF l i) (kS (aF l i) lost))]:=by rw [ee,gO _ hlt_i,List.map_append]; rfl
   have n1 : ((bG (l.take i) lost).map aH).length = i:=by simp [bG]; omega
   have n2 : ((fz (l.take i) lost).map fun h => [AV.int .i64 h]).length = i:=by simp [fz]; omega
   have n3 : ((ee (l.take i) lost).map fE).length = i:=by simp [ee]; omega
   have hkc:=vO (aF l i) lost
   have cF:=fun (j : Nat) (hj : j < (aF l i).sl.length) => su (aF l i) j (by omega) hco hj
   generalize (bG (l.take i) lost).map aH = r1 at e1 n1 ⊢
   generalize ((fz (l.take i) lost).map fun h => [AV.int .i64 h]) = r2 at e2 n2 ⊢
   generalize (ee (l.take i) lost).map fE = r3 at e3 n3 ⊢
   generalize f7 (aF l i) lost = n at cS e2 hkc
   generalize kS (aF l i) lost = q at e1 e3 hkc
   generalize aF l i = u at *
   rcases hkc with ⟨rfl,rfl⟩ | ⟨_,hj,rfl,rfl⟩
   ·repeat' first|exact (bbk (by assumption)).elim|refine Q1 ?_|refine Q2 ?_|refine Q3 hG aa dg ?_|refine Q4 hG aa dg ?_|refine Q5 hG aa ?_|refine Q6 hG aa ?_|refine Q7 hG aa ?_|refine Q8 hG aa ?_|refine Q9 rfl ?_|refine QF rfl ?_|refine QC rfl ⟨fun h => ?_,fun h => ?_⟩|((conv => whnf); first|refine anF ?_|refine anT ?_|refine anK ?_|refine And.intro (Int.natCast_nonneg i) (Exists.intro _ (And.intro hx ?_))|refine Exists.intro _ (And.intro (cS) ?_)|refine Exists.intro _ (And.intro (cW) ?_)|refine And.intro (show (r1.length + 1) * 88 ≤ 70368744177664 by omega) (And.intro (show r1.length + 1 ≤ 4611686018427387904 by omega) ?_)|refine And.intro (show (r2.length + 1) * 8 ≤ 70368744177664 by omega) (And.intro (show r2.length + 1 ≤ 4611686018427387904 by omega) ?_)|refine And.intro (show (r3.length + 1) * 32 ≤ 70368744177664 by omega) (And.intro (show r3.length + 1 ≤ 4611686018427387904 by omega) ?_)|refine And.intro (fun h => ?_) (fun h => ?_)|refine Or.inl ?_)
    refine Exists.intro (i + 1) (And.intro hlt_i (And.intro (by omega) (ah ?_ ?_)))
    ·refine And.intro (congrArg some (ap (by omega))) (And.intro (congrArg (fun z => some (AV.sl (.id 6) 9 z)) (e1.trans (congrArg (r1 ++ ·) ?_)).symm) ?_)
     ·rw [oP,if_neg (by omega)]; rfl
     ·repeat' (first | exact trivial | refine And.intro rfl ?_)
    ·refine And.intro (congrArg some ?_) ?_
     ·rw [e2,e3]
      rw [mJ,if_neg (by omega)]; rfl
     ·repeat' (first | exact trivial | refine And.intro rfl ?_)
   ·have hjw : IntKind.i64.wrap ((q : Int) + 1) = ((q + 1 : Nat) : Int):=(aq (by omega) (by omega)).trans (by omega)
    have hj1 : 0 ≤ IntKind.i64.wrap ((q : Int) + 1):=by rw [hjw]; exact Int.natCast_nonneg _
    have hj2 : (IntKind.i64.wrap ((q : Int) + 1)).toNat ≤ (u.sl.map aw).length:=by rw [hjw,List.length_map]; omega
    have hrow : ((u.sl.map aw).take (IntKind.i64.wrap ((q : Int) + 1)).toNat).drop 0 = (u.sl.take (q + 1)).map aw:=by rw [hjw,List.drop_zero,Int.toNat_natCast,List.map_take]
    have bbn : decide ((q : Int) ≥ 0) = false → False:=fun h => by have:=of_decide_eq_false h; omega
    have cFj:=cF q hj
    repeat' first|exact (bbk (by assumption)).elim|exact (bbn (by assumption)).elim|refine Q1 ?_|refine Q2 ?_|refine Q3 hG aa dg ?_|refine Q4 hG aa dg ?_|refine Q5 hG aa ?_|refine Q6 hG aa ?_|refine Q7 hG aa ?_|refine Q8 hG aa ?_|refine Q9 rfl ?_|refine QF rfl ?_|refine QC rfl ⟨fun h => ?_,fun h => ?_⟩|((conv => whnf); first|refine anF ?_|refine anT ?_|refine anK ?_|refine And.intro (Int.natCast_nonneg i) (Exists.intro _ (And.intro hx ?_))|refine Exists.intro _ (And.intro (cS) ?_)|refine Exists.intro _ (And.intro (cW) ?_)|refine Exists.intro _ (And.intro (cFj) ?_)|refine And.intro hj1 (And.intro (Nat.zero_le _) (And.intro hj2 ?_))|refine And.intro (show (r1.length + 1) * 88 ≤ 70368744177664 by omega) (And.intro (show r1.length + 1 ≤ 4611686018427387904 by omega) ?_)|refine And.intro (show (r2.length + 1) * 8 ≤ 70368744177664 by omega) (And.intro (show r2.length + 1 ≤ 4611686018427387904 by omega) ?_)|refine And.intro (show (r3.length + 1) * 32 ≤ 70368744177664 by omega) (And.intro (show r3.length + 1 ≤ 4611686018427387904 by omega) ?_)|refine And.intro (fun h => ?_) (fun h => ?_)|refine Or.inl ?_)
    refine Exists.intro (i + 1) (And.intro hlt_i (And.intro (by omega) (ah ?_ ?_)))
    ·refine And.intro (congrArg some (ap (by omega))) (And.intro (congrArg (fun z => some (AV.sl (.id 6) 9 z)) (e1.trans (congrArg (r1 ++ ·) ?_)).symm) ?_)
     ·rw [oP,if_pos hj]
      exact congrArg (fun z => [[AV.int .i64 u.id,.int .i64 u.ord,.int .i64 u.cl,.int .i64 u.sat,.int .i64 u.a,.int .i64 u.b,.int .i64 u.look,.int .i64 u.size,.sl .no 3 z]]) hrow.symm
     ·repeat' (first | exact trivial | refine And.intro rfl ?_)
    ·refine And.intro (congrArg some ?_) ?_
     ·rw [e2,e3]
      rw [mJ,if_pos hj]; rfl
     ·repeat' (first | exact trivial | refine And.intro rfl ?_)
  ·have bbk : decide ((i : Int) < ((l.map aH).length : Int)) = true → False:=fun h => by have:=of_decide_eq_true h; simp at this; omega
   have he : l.take i = l:=List.take_of_length_le (by omega)
   rw [he]
   have hw6 : ∀ o ∈ bG l lost,o.sl.length ≤ 6:=fun o ho => by
    obtain ⟨p,hp,rfl⟩:=List.mem_map.1 ho
    exact Nat.le_trans (yU _ _) (hsl p hp)
   have hwl : (bG l lost).length ≤ 8:=by simp [bG]; omega
   have cL:=yj (bG l lost) (by omega) (fun o ho => by have:=hw6 o ho; omega) (by have:=s7 6 _ hw6; omega)
   repeat' first|exact (bbk (by assumption)).elim|refine Q1 ?_|refine Q2 ?_|refine Q3 hG aa dg ?_|refine Q4 hG aa dg ?_|refine Q5 hG aa ?_|refine Q6 hG aa ?_|refine Q7 hG aa ?_|refine Q8 hG aa ?_|refine Q9 rfl ?_|refine QF rfl ?_|refine QC rfl ⟨fun h => ?_,fun h => ?_⟩|((conv => whnf); first|refine anF ?_|refine anT ?_|refine anK ?_|refine Exists.intro _ (And.intro (cL) ?_)|refine And.intro (fun h => ?_) (fun h => ?_)|refine Or.inl ?_)
   exact Ends.mk (Or.inl rfl) (ac rfl)
end Go.Proofs
namespace Go.Proofs
open Go Go.AI
set_option maxRecDepth 10000
def gZ (x : Int) (r : List Int) : Int:=r.foldl min x
theorem AK (x : Int) (r : List Int) (hl : r.length ≤ 1000000) : ae Tryz.prog 202 [au (x :: r)] (.int .i64 (gZ x r)):=by
 have hlen : (((x :: r).map fun h => [AV.int .i64 h]).length : Int) = (r.length : Int) + 1:=by simp
 have bb0 : decide ((((x :: r).map fun h => [AV.int .i64 h]).length : Int) < 1) = true → False:=fun h => by have:=of_decide_eq_true h; omega
 have hx0 : ((x :: r).map fun h => [AV.int .i64 h])[((0 : Int)).toNat]? = some [.int .i64 x]:=rfl
 refine ag aa Tryz.func202 rfl (by kernel_rfl) af (Nat.le_of_ble_eq_true rfl) ?_
 intro F n' w0 m0 hG hro h1
 repeat' first|exact (bb0 (by assumption)).elim|refine Q1 ?_|refine Q2 ?_|refine Q3 hG aa ey ?_|refine Q4 hG aa ey ?_|refine Q5 hG aa ?_|refine Q6 hG aa ?_|refine Q7 hG aa ?_|refine Q8 hG aa ?_|refine Q9 rfl ?_|refine QF rfl ?_|refine QC rfl ⟨fun h => ?_,fun h => ?_⟩|((conv => whnf); first|refine anF ?_|refine anT ?_|refine anK ?_|refine And.intro (of_decide_eq_true (Eq.refl true)) (Exists.intro _ (And.intro hx0 ?_))|refine And.intro (fun h => ?_) (fun h => ?_)|refine Or.inl ?_)
 refine ar (X:=Nat) (fun i_ => ⟨[(4,.int .i64 ((i_ + 1 : Nat) : Int)),(3,.int .i64 (gZ x (r.take i_))),(0,au (x :: r))],[]⟩) (fun i_ => i_ ≤ r.length) (fun x => r.length - x) 0 (Nat.zero_le _) (ah ?_ ?_) (fun i hx => ?_)
 ·repeat' (first | exact trivial | refine And.intro rfl ?_)
 ·repeat' (first | exact trivial | refine And.intro rfl ?_)
 ·have hi:=hx
  by_cases hlt_i : i < r.length
  ·have bbk : decide (((i + 1 : Nat) : Int) < (((x :: r).map fun h => [AV.int .i64 h]).length : Int)) = false → False:=fun h => by have:=of_decide_eq_false h; rw [hlen] at this; omega
   have hx : ((x :: r).map fun h => [AV.int .i64 h])[(((i + 1 : Nat) : Int)).toNat]? = some [.int .i64 (r.getD i 0)]:=by rw [Int.toNat_natCast]; simp [List.getElem?_eq_getElem hlt_i]
   have hm : gZ x (r.take (i + 1)) = min (gZ x (r.take i)) (r.getD i 0):=by
    rw [gZ,eW hlt_i,List.foldl_append]; rfl
   generalize r.getD i 0 = u at hx hm
   repeat' first|exact (bbk (by assumption)).elim|refine Q1 ?_|refine Q2 ?_|refine Q3 hG aa ey ?_|refine Q4 hG aa ey ?_|refine Q5 hG aa ?_|refine Q6 hG aa ?_|refine Q7 hG aa ?_|refine Q8 hG aa ?_|refine Q9 rfl ?_|refine QF rfl ?_|refine QC rfl ⟨fun h => ?_,fun h => ?_⟩|((conv => whnf); first|refine anF ?_|refine anT ?_|refine anK ?_|refine And.intro (Int.natCast_nonneg (i + 1)) (Exists.intro _ (And.intro hx ?_))|refine And.intro (fun h => ?_) (fun h => ?_)|refine Or.inl ?_)
   refine Exists.intro (i + 1) (And.intro hlt_i (And.intro (by omega) (ah ?_ ?_)))
   ·refine And.intro (congrArg some (ap (by omega))) (And.intro (congrArg (fun z => some (AV.int .i64 z)) hm.symm) ?_)
    repeat' (first | exact trivial | refine And.intro rfl ?_)
   ·repeat' (first | exact trivial | refine And.intro rfl ?_)
  ·have bbk : decide (((i + 1 : Nat) : Int) < (((x :: r).map fun h => [AV.int .i64 h]).length : Int)) = true → False:=fun h => by have:=of_decide_eq_true h; rw [hlen] at this; omega
   have he : r.take i = r:=List.take_of_length_le (by omega)
   rw [he]
   repeat' first|exact (bbk (by assumption)).elim|refine Q1 ?_|refine Q2 ?_|refine Q3 hG aa ey ?_|refine Q4 hG aa ey ?_|refine Q5 hG aa ?_|refine Q6 hG aa ?_|refine Q7 hG aa ?_|refine Q8 hG aa ?_|refine Q9 rfl ?_|refine QF rfl ?_|refine QC rfl ⟨fun h => ?_,fun h => ?_⟩|((conv => whnf); first|refine anF ?_|refine anT ?_|refine anK ?_|refine And.intro (fun h => ?_) (fun h => ?_)|refine Or.inl ?_)
   exact Ends.mk (Or.inl rfl) (ac rfl)
structure Fnd where
 n : Int
 at_ : Int
 what : List Int
 is : Bool
def ur (x : Fnd) : List AV:=[.int .i64 x.n,.int .i64 x.at_,au x.what,.bool x.is]
def rT (a b : Fnd) : Fnd:=if !a.is || (b.is && decide (b.n > a.n)) then b else a
theorem w9 (x y : Fnd) : ae Tryz.prog 201 [.agg (ur x),.agg (ur y)] (.agg (ur (rT x y))):=by
 obtain ⟨n,t,w,i⟩:=x
 obtain ⟨n2,t2,w2,i2⟩:=y
 cases i <;> cases i2
 ·refine ag aa Tryz.func201 rfl (by kernel_rfl) af (Nat.le_of_ble_eq_true rfl) ?_
  intro F n' w0 m0 hG hro h1
  repeat' first|refine Q1 ?_|refine Q2 ?_|refine Q3 hG aa da ?_|refine Q4 hG aa da ?_|refine Q5 hG aa ?_|refine Q6 hG aa ?_|refine Q7 hG aa ?_|refine Q8 hG aa ?_|refine Q9 rfl ?_|refine QF rfl ?_|refine QC rfl ⟨fun h => ?_,fun h => ?_⟩|((conv => whnf); first|refine anF ?_|refine anT ?_|refine anK ?_|refine And.intro (fun h => ?_) (fun h => ?_)|refine Or.inl ?_)
  all_goals refine Ends.mk (Or.inl rfl) (ac (congrArg (fun z => AV.agg (ur z)) ?_))
  all_goals (clear hG; first | rfl | (simp only [rT]; symm; first | (apply if_pos; simp_all; done) | (apply if_neg; simp_all; done)))
 ·refine ag aa Tryz.func201 rfl (by kernel_rfl) af (Nat.le_of_ble_eq_true rfl) ?_
  intro F n' w0 m0 hG hro h1
  repeat' first|refine Q1 ?_|refine Q2 ?_|refine Q3 hG aa da ?_|refine Q4 hG aa da ?_|refine Q5 hG aa ?_|refine Q6 hG aa ?_|refine Q7 hG aa ?_|refine Q8 hG aa ?_|refine Q9 rfl ?_|refine QF rfl ?_|refine QC rfl ⟨fun h => ?_,fun h => ?_⟩|((conv => whnf); first|refine anF ?_|refine anT ?_|refine anK ?_|refine And.intro (fun h => ?_) (fun h => ?_)|refine Or.inl ?_)
  all_goals refine Ends.mk (Or.inl rfl) (ac (congrArg (fun z => AV.agg (ur z)) ?_))
  all_goals (clear hG; first | rfl | (simp only [rT]; symm; first | (apply if_pos; simp_all; done) | (apply if_neg; simp_all; done)))
 ·refine ag aa Tryz.func201 rfl (by kernel_rfl) af (Nat.le_of_ble_eq_true rfl) ?_
  intro F n' w0 m0 hG hro h1
  repeat' first|refine Q1 ?_|refine Q2 ?_|refine Q3 hG aa da ?_|refine Q4 hG aa da ?_|refine Q5 hG aa ?_|refine Q6 hG aa ?_|refine Q7 hG aa ?_|refine Q8 hG aa ?_|refine Q9 rfl ?_|refine QF rfl ?_|refine QC rfl ⟨fun h => ?_,fun h => ?_⟩|((conv => whnf); first|refine anF ?_|refine anT ?_|refine anK ?_|refine And.intro (fun h => ?_) (fun h => ?_)|refine Or.inl ?_)
  all_goals refine Ends.mk (Or.inl rfl) (ac (congrArg (fun z => AV.agg (ur z)) ?_))
  all_goals (clear hG; first | rfl | (simp only [rT]; symm; first | (apply if_pos; simp_all; done) | (apply if_neg; simp_all; done)))
 ·refine ag aa Tryz.func201 rfl (by kernel_rfl) af (Nat.le_of_ble_eq_true rfl) ?_
  intro F n' w0 m0 hG hro h1
  repeat' first|refine Q1 ?_|refine Q2 ?_|refine Q3 hG aa da ?_|refine Q4 hG aa da ?_|refine Q5 hG aa ?_|refine Q6 hG aa ?_|refine Q7 hG aa ?_|refine Q8 hG aa ?_|refine Q9 rfl ?_|refine QF rfl ?_|refine QC rfl ⟨fun h => ?_,fun h => ?_⟩|((conv => whnf); first|refine anF ?_|refine anT ?_|refine anK ?_|refine And.intro (fun h => ?_) (fun h => ?_)|refine Or.inl ?_)
  all_goals refine Ends.mk (Or.inl rfl) (ac (congrArg (fun z => AV.agg (ur z)) ?_))
  all_goals (clear hG; first | rfl | (simp only [rT]; symm; first | (apply if_pos; simp_all; done) | (apply if_neg; simp_all; done)))
def iU (l : List (Int × Int)) : Int × Int:=l.foldl (fun r x => if x.2 > r.1 then (x.2,x.1) else r) (0,-1)
set_option maxHeartbeats 4000000 in
theorem yg (l : List Img) (hl : l.length ≤ 1000000) (hv : fN l = true) : ae Tryz.prog 62 [eR l] (.tup [.int .i64 (iU (fF l)).1,.int .i64 (iU (fF l)).2,.int .i64 0]):=by
 have cV : ae Tryz.prog 105 [eR l] (.bool true):=by rw [← hv]; exact sM l hl
 have hu : ∀ x ∈ l,0 ≤ x.u ∧ x.u ≤ 1000000:=by
  simp only [fN,Bool.and_eq_true] at hv
  exact o9 l [] hv.1
 have hseq:=sQ l hl hu
 refine ag aa Tryz.func62 rfl (by kernel_rfl) af (Nat.le_of_ble_eq_true rfl) ?_
 intro F n' w0 m0 hG hro h1
 repeat' first|refine Q1 ?_|refine Q2 ?_|refine Q3 hG aa dF ?_|refine Q4 hG aa dF ?_|refine Q5 hG aa ?_|refine Q6 hG aa ?_|refine Q7 hG aa ?_|refine Q8 hG aa ?_|refine Q9 rfl ?_|refine QF rfl ?_|refine QC rfl ⟨fun h => ?_,fun h => ?_⟩|((conv => whnf); first|refine anF ?_|refine anT ?_|refine anK ?_|refine Exists.intro _ (And.intro (cV) ?_)|refine Exists.intro _ (And.intro (yn l) ?_)|refine And.intro (fun h => ?_) (fun h => ?_)|refine Or.inl ?_)
 generalize fF l = items at hseq
 refine ⟨SP.rangeM2 hG hro h1 (α:=Int × Int) pA (f:=171) (cap:=[.ref [eR l]]) (items:=items) rfl hseq (fun _ => rfl) (fun _ => [(6,.loc 6 0),(5,.loc 5 0)]) [6,5] (fun _ => rfl)
  (fun p => [(6,[.int .i64 (iU p).2]),(5,[.int .i64 (iU p).1])]) (ah ?_ ?_) (by kernel_rfl) (by decide) ?_ ?_⟩
 ·repeat' (first | exact trivial | refine And.intro rfl ?_)
 ·repeat' (first | exact trivial | refine And.intro rfl ?_)
 ·intro F' n'' m' hG' _ _ pre x rest hx
  clear hG
  have hG:=hG'
  have hm : iU (pre ++ [x]) = if x.2 > (iU pre).1 then (x.2,x.1) else iU pre:=by rw [iU,List.foldl_append]; rfl
  generalize iU pre = r at hm
  obtain ⟨n,t⟩:=r
  refine SPB.out (Q1 ?_)
  repeat' first|refine Q1 ?_|refine Q2 ?_|refine Q3 hG aa dF ?_|refine Q4 hG aa dF ?_|refine Q5 hG aa ?_|refine Q6 hG aa ?_|refine Q7 hG aa ?_|refine Q8 hG aa ?_|refine Q9 rfl ?_|refine QF rfl ?_|refine QC rfl ⟨fun h => ?_,fun h => ?_⟩|((conv => whnf); first|refine anF ?_|refine anT ?_|refine anK ?_|refine And.intro (fun h => ?_) (fun h => ?_)|refine Or.inl ?_)
  refine And.intro (ah ?_ ?_) ?_
  ·repeat' (first | exact trivial | refine And.intro rfl ?_)
  ·repeat' (first | exact trivial | refine And.intro rfl ?_)
  refine SPB.out ?_
  repeat' first|refine Q1 ?_|refine Q2 ?_|refine Q3 hG aa dF ?_|refine Q4 hG aa dF ?_|refine Q5 hG aa ?_|refine Q6 hG aa ?_|refine Q7 hG aa ?_|refine Q8 hG aa ?_|refine Q9 rfl ?_|refine QF rfl ?_|refine QC rfl ⟨fun h => ?_,fun h => ?_⟩|((conv => whnf); first|refine anF ?_|refine anT ?_|refine anK ?_|refine And.intro (fun h => ?_) (fun h => ?_)|refine Or.inl ?_)
  ·rw [if_pos (of_decide_eq_true (by assumption))] at hm
   refine ah ?_ ?_
   ·repeat' (first | exact trivial | refine And.intro rfl ?_)
   ·dsimp only; rw [hm]; repeat' (first | exact trivial | refine And.intro rfl ?_)
  ·rw [if_neg (of_decide_eq_false (by assumption))] at hm
   refine ah ?_ ?_
   ·repeat' (first | exact trivial | refine And.intro rfl ?_)
   ·dsimp only; rw [hm]; repeat' (first | exact trivial | refine And.intro rfl ?_)
 ·conv => whnf
  repeat' first|refine Q1 ?_|refine Q2 ?_|refine Q3 hG aa dF ?_|refine Q4 hG aa dF ?_|refine Q5 hG aa ?_|refine Q6 hG aa ?_|refine Q7 hG aa ?_|refine Q8 hG aa ?_|refine Q9 rfl ?_|refine QF rfl ?_|refine QC rfl ⟨fun h => ?_,fun h => ?_⟩|((conv => whnf); first|refine anF ?_|refine anT ?_|refine anK ?_|refine And.intro (fun h => ?_) (fun h => ?_)|refine Or.inl ?_)
  all_goals exact Ends.mk (Or.inl rfl) (ac rfl)
theorem A9 (s : Nat → Int) (l : List Opt) (ps : List al) (a b : Int) (lost : List Int) (I : List Img) (n t : Int) (h1 : ee l lost = I) (h2 : iU (fF I) = (n,t)) (hl : I.length ≤ 1000000) (hv : fN I = true) :
  ae Tryz.prog 127 [.agg (flA s l ps a b),.agg (kO l lost)] (.tup [.int .i64 n,.int .i64 t,.bool true]):=by
 have c:=yg I hl hv
 rw [h2] at c
 rw [kO,h1]
 refine ag aa Tryz.func127 rfl (by kernel_rfl) af (Nat.le_of_ble_eq_true rfl) ?_
 intro F n' w0 m0 hG hro h1
 repeat' first|refine Q1 ?_|refine Q2 ?_|refine Q3 hG aa oh ?_|refine Q4 hG aa oh ?_|refine Q5 hG aa ?_|refine Q6 hG aa ?_|refine Q7 hG aa ?_|refine Q8 hG aa ?_|refine Q9 rfl ?_|refine QF rfl ?_|refine QC rfl ⟨fun h => ?_,fun h => ?_⟩|((conv => whnf); first|refine anF ?_|refine anT ?_|refine anK ?_|refine Exists.intro _ (And.intro (c) ?_)|refine And.intro (fun h => ?_) (fun h => ?_)|refine Or.inl ?_)
 all_goals exact Ends.mk (Or.inl rfl) (ac rfl)
def lvL (s : Nat → Int) (D : List ax) (a b : Int) : List Int:=(dX (s 11) (f9 s D a b)).2
theorem yo (s : Nat → Int) (l : List Opt) (ps : List al) (a b : Int) (lost : List Int) (D : List ax) (x : Int) (r : List Int) (h1 : aL (bG l lost) = D) (h2 : lvL s D a b = x :: r) (hD : D.length ≤ 1000000) (hv : iG s D a b = true) (hr : r.length ≤ 100000) :
  ae Tryz.prog 129 [.agg (flA s l ps a b),.agg (kO l lost)] (.tup [.int .i64 (w64 (0 - gZ x r)),.int .i64 (w64 (a + bV (fun y => gZ x r == y) (x :: r) 0)),.bool true]):=by
 have c:=Du s D a b hD hv
 rw [show (dX (s 11) (f9 s D a b)).2 = x :: r from h2] at c
 have c2:=AK x r (by omega)
 have c3:=qi (x :: r) (gZ x r) (by simp; omega)
 have bb0 : ((((x :: r).map fun h => [AV.int .i64 h]).length : Int) == 0) = true → False:=fun h => by have:=eq_of_beq h; simp at this; omega
 rw [kO,h1]
 generalize gZ x r = m at *
 generalize bV (fun y => m == y) (x :: r) 0 = j at *
 refine ag aa Tryz.func129 rfl (by kernel_rfl) af (Nat.le_of_ble_eq_true rfl) ?_
 intro F n' w0 m0 hG hro h1
 repeat' first|exact (bb0 (by assumption)).elim|refine Q1 ?_|refine Q2 ?_|refine Q3 hG aa og ?_|refine Q4 hG aa og ?_|refine Q5 hG aa ?_|refine Q6 hG aa ?_|refine Q7 hG aa ?_|refine Q8 hG aa ?_|refine Q9 rfl ?_|refine QF rfl ?_|refine QC rfl ⟨fun h => ?_,fun h => ?_⟩|((conv => whnf); first|refine anF ?_|refine anT ?_|refine anK ?_|refine Exists.intro _ (And.intro (c) ?_)|refine Exists.intro _ (And.intro (c2) ?_)|refine Exists.intro _ (And.intro (c3) ?_)|refine And.intro (fun h => ?_) (fun h => ?_)|refine Or.inl ?_)
 all_goals exact Ends.mk (Or.inl rfl) (ac rfl)
def bI (s : Nat → Int) (l : List Opt) (ps : List al) (k a b : Int) : Bool:=ka k && aX s l ps a b && decide (((aC l).length : Int) ≤ 6)
theorem fy (s : Nat → Int) (l : List Opt) (ps : List al) (k a b : Int) (hl : l.length ≤ 1000000) (hs : fc l) (hps : ps.length ≤ 1000000) : ae Tryz.prog 51 [.agg (bg s),aM l,ak ps,.int .i64 k,.agg (aK a b)] (.bool (bI s l ps k a b)):=by
 have hfl : (((aC l).map fun h => [AV.int .i64 h]).length : Int) = ((aC l).length : Int):=by rw [List.length_map]
 refine ag aa Tryz.func51 rfl (by kernel_rfl) af (Nat.le_of_ble_eq_true rfl) ?_
 intro F n' w0 m0 hG hro h1
 repeat' first|refine Q1 ?_|refine Q2 ?_|refine Q3 hG aa p9 ?_|refine Q4 hG aa p9 ?_|refine Q5 hG aa ?_|refine Q6 hG aa ?_|refine Q7 hG aa ?_|refine Q8 hG aa ?_|refine Q9 rfl ?_|refine QF rfl ?_|refine QC rfl ⟨fun h => ?_,fun h => ?_⟩|((conv => whnf); first|refine anF ?_|refine anT ?_|refine anK ?_|refine Exists.intro _ (And.intro (x4 s l ps a b hl hs hps) ?_)|refine Exists.intro _ (And.intro (fT l hl hs) ?_)|refine And.intro (fun h => ?_) (fun h => ?_)|refine Or.inl ?_)
 all_goals refine Ends.mk (Or.inl rfl) (ac (congrArg AV.bool ?_))
 all_goals (try rw [hfl] at *)
 all_goals (clear hG; grind [bI,ka])
end Go.Proofs
namespace Go.Proofs
open Go Go.AI
set_option maxRecDepth 10000
section
variable {Γ : aP} {s : St} {K : Exit → St → Prop}
theorem SPB.unown {c : Code} (d j k sz sz2 : Nat) {cs : List AV} (h1 : AI.get s.b d = some cs) (h2 : cs[j]? = some (.sl (.id k) sz [])) (h : SPB Γ ⟨s.t,(d,bN cs j (.sl .no sz2 [])) :: s.b⟩ c K) : SPB Γ s c K:=by
 refine ⟨fun a w hI => h.out a w ?_⟩
 obtain ⟨⟨cx,hW,ht⟩,hs,hd,hrn⟩:=hI
 have hne : cs ≠ []:=fun e => by rw [e] at h2; simp at h2
 refine ⟨⟨cx,hW.rebox h1 hne (el _ _ _) (fun x hx => ?_) (fun vs hvs i x v q1 q2 => ?_),ht⟩,hs,hd,hrn⟩
 ·obtain ⟨p,hp⟩:=List.getElem?_of_mem hx
  rw [cK] at hp
  split at hp
  ·cases hp; rfl
  ·exact (hW.box d cs h1 hne).2.2.1 x (List.mem_of_getElem? hp)
 ·rw [cK] at q1
  split at q1
  ·rename_i hj
   cases q1
   have hr:=hvs i _ v (by rw [← hj.1]; exact h2) q2
   obtain ⟨r1,r2,r3⟩:=(show RC1 cx (.sl (.id k) sz []) v from hr)
   show RD cx.m _ v
   match r3 with
   | .sl _ _ _ base len cap ho hf hl hc _ _ b off hb g _ _ => exact .sl _ _ _ _ _ _ (by intro k hk; cases hk) (by intro hk; cases hk) hl hc (by simp) (by simp) b off hb g (by simp) (by simp)
  ·exact hvs i x v q1 q2
end
theorem ve {s : Nat → Int} {ps : List al} {z : Int} (hpl : ps.length ≤ 64) : ∀ (l : List aU) (t t2 : Int),t2 ≤ t → bv s ps z t l = true → ql ps t2 l = true
 | [],_,_,_,_ => rfl
 | x :: r,t,t2,ht,h => by
  simp only [bv,fO,Bool.and_eq_true,inS,decide_eq_true_eq,Bool.not_eq_true'] at h
  obtain ⟨⟨⟨h0,h1⟩,⟨⟨⟨_,h2⟩,h3⟩,h4⟩,_⟩,h5⟩:=h
  rw [aq (by omega) (by omega)] at h1
  rw [ql,ve hpl r x.b x.b (Int.le_refl _) h5,Bool.and_true]
  simp only [slL,Bool.and_eq_true,Bool.not_eq_true',decide_eq_false_iff_not]
  omega
theorem pF {s : Nat → Int} {o : Opt} {ps : List al} (hps : bp ps = true) (ho : 0 ≤ o.b) (h : dp s o ps = true) : bz o ps = true:=by
 have hl:=(qX hps).2
 simp only [dp,Bool.and_eq_true,inS,decide_eq_true_eq] at h
 obtain ⟨⟨_,h1⟩,h2⟩:=h
 have h3:=ve hl o.sl o.b 0 ho h2
 simp only [bz,Bool.and_eq_true,Bool.not_eq_true',decide_eq_false_iff_not,h3,hps,and_true]
 omega
theorem qH {s : Nat → Int} {l : List Opt} {ps : List al} {a b : Int} (h : aX s l ps a b = true) {lost : List Int} (hs : gq ps lost = true) : ∀ o ∈ l,gQ o ps lost = true:=fun o ho => by
 obtain ⟨_,hr,_,_,hp,hf,_⟩:=bC.1 h
 obtain ⟨_,_,hfit⟩:=sA.of h
 have h1:=hfit o ho
 unfold gQ
 rw [hs,Bool.and_true]
 exact pF hp (by have:=h1.shot; omega) (hf o ho).1
theorem tL {s : Nat → Int} {l : List Opt} {ps : List al} {a b : Int} (h : aX s l ps a b = true) {lost : List Int} (hs : gq ps lost = true) (hlo : lost.length ≤ 1000000) : ae Tryz.prog 122 [.agg (flA s l ps a b),au lost] (.tup [.agg (kO l lost),.bool true]):=by
 obtain ⟨hl,_,_,_,hp,_,_⟩:=bC.1 h
 obtain ⟨_,_,hfit⟩:=sA.of h
 exact CH s l ps a b lost hl (fun o ho => (hfit o ho).len.2) (by have:=(qX hp).2; omega) hlo (qH h hs) (fun o ho => (hfit o ho).can)
def El : Fnd:=⟨0,0,[],false⟩
def fj (m : List Int → Int × Int) (L : List (List Int)) : Fnd:=L.foldl (fun x y => rT x ⟨(m y).1,(m y).2,y,true⟩) El
theorem xX (m : List Int → Int × Int) (L : List (List Int)) (y : List Int) : fj m (L ++ [y]) = rT (fj m L) ⟨(m y).1,(m y).2,y,true⟩:=by rw [fj,List.foldl_append]; rfl
set_option maxHeartbeats 8000000 in
theorem pI (s : Nat → Int) (l : List Opt) (ps : List al) (k a b : Int) (g : FuncId) (m : List Int → Int × Int) (hl : l.length ≤ 1000000) (hs : fc l) (hps : ps.length ≤ 1000000) (hv : bI s l ps k a b = true)
  (hw : ∀ lost ∈ cm (aC l) ps k,ae Tryz.prog 122 [.agg (flA s l ps a b),au lost] (.tup [.agg (kO l lost),.bool true]))
  (hg : ∀ lost ∈ cm (aC l) ps k,ae Tryz.prog g [.agg (flA s l ps a b),.agg (kO l lost)] (.tup [.int .i64 (m lost).1,.int .i64 (m lost).2,.bool true])) :
  ae Tryz.prog 126 [.agg (bg s),aM l,ak ps,.int .i64 k,.agg (aK a b),.fn g] (.tup [.agg (ur (fj m (cm (aC l) ps k))),.int .i64 0]):=by
 have cV:=fy s l ps k a b hl hs hps
 rw [hv] at cV
 have hf6 : (aC l).length ≤ 6:=by
  simp only [bI,Bool.and_eq_true,decide_eq_true_eq] at hv; omega
 have hseq:=na (aC l) ps k hf6 hps
 refine ag aa Tryz.func126 rfl (by kernel_rfl) af (Nat.le_of_ble_eq_true rfl) ?_
 intro F n' w0 m0 hG hro h1
 repeat' first|refine Q1 ?_|refine Q2 ?_|refine Q3 hG aa dO ?_|refine Q4 hG aa dO ?_|refine Q5 hG aa ?_|refine Q6 hG aa ?_|refine Q7 hG aa ?_|refine Q8 hG aa ?_|refine Q9 rfl ?_|refine QF rfl ?_|refine QC rfl ⟨fun h => ?_,fun h => ?_⟩|((conv => whnf); first|refine anF ?_|refine anT ?_|refine anK ?_|refine Exists.intro _ (And.intro (cV) ?_)|refine Exists.intro _ (And.intro (fT l hl hs) ?_)|refine Exists.intro _ (And.intro (tM _ _ _) ?_)|refine And.intro (fun h => ?_) (fun h => ?_)|refine Or.inl ?_)
 generalize cm (aC l) ps k = items at hseq hw hg
 refine SPB.unown 12 2 1012002 0 1 rfl rfl ?_
 conv => whnf
 refine ⟨SP.rangeM2 hG hro h1 (α:=List Int) (fun l => [au l]) (f:=191) (cap:=[.ref [au (aC l)],.ref [ak ps],.ref [.int .i64 k]]) (items:=items) rfl hseq (fun _ => rfl) (fun _ => [(14,.loc 14 0),(13,.loc 13 0),(12,.loc 12 0),(11,.loc 11 0)]) [14,13,12,11] (fun _ => rfl)
  (fun p => [(14,flA s l ps a b),(13,[.int .i64 0]),(12,ur (fj m p)),(11,[.fn g])]) (ah ?_ ?_) (by kernel_rfl) (by decide) ?_ ?_⟩
 ·repeat' (first | exact trivial | refine And.intro rfl ?_)
 ·repeat' (first | exact trivial | refine And.intro rfl ?_)
 ·intro F' n'' m' hG' _ _ pre x rest hx
  clear hG
  have hG:=hG'
  have hxm : x ∈ items:=by rw [hx]; simp
  have cW:=hw x hxm
  have cM:=hg x hxm
  have hb:=xX m pre x
  generalize fj m pre = z at hb
  refine SPB.out (Q4 hG aa dO ?_)
  conv => whnf
  refine And.intro rfl (And.intro (ah ?_ ?_) ?_)
  ·repeat' (first | exact trivial | refine And.intro rfl ?_)
  ·repeat' (first | exact trivial | refine And.intro rfl ?_)
  refine SPB.out ?_
  repeat' first|refine Q1 ?_|refine Q2 ?_|refine Q3 hG aa dO ?_|refine Q4 hG aa dO ?_|refine Q5 hG aa ?_|refine Q6 hG aa ?_|refine Q7 hG aa ?_|refine Q8 hG aa ?_|refine Q9 rfl ?_|refine QF rfl ?_|refine QC rfl ⟨fun h => ?_,fun h => ?_⟩|((conv => whnf); first|refine anF ?_|refine anT ?_|refine anK ?_|refine Exists.intro _ (And.intro (cW) ?_)|refine Exists.intro _ (And.intro (cM) ?_)|refine Exists.intro _ (And.intro (w9 z ⟨(m x).1,(m x).2,x,true⟩) ?_)|refine And.intro (fun h => ?_) (fun h => ?_)|refine Or.inl ?_)
  refine ah ?_ ?_
  ·repeat' (first | exact trivial | refine And.intro rfl ?_)
  ·dsimp only; rw [hb]; repeat' (first | exact trivial | refine And.intro rfl ?_)
 ·conv => whnf
  repeat' first|refine Q1 ?_|refine Q2 ?_|refine Q3 hG aa dO ?_|refine Q4 hG aa dO ?_|refine Q5 hG aa ?_|refine Q6 hG aa ?_|refine Q7 hG aa ?_|refine Q8 hG aa ?_|refine Q9 rfl ?_|refine QF rfl ?_|refine QC rfl ⟨fun h => ?_,fun h => ?_⟩|((conv => whnf); first|refine anF ?_|refine anT ?_|refine anK ?_|refine And.intro (fun h => ?_) (fun h => ?_)|refine Or.inl ?_)
  all_goals exact Ends.mk (Or.inl rfl) (ac rfl)
end Go.Proofs
namespace Go.Proofs
open Go Go.AI
set_option maxRecDepth 10000
theorem Ae {s : Nat → Int} {l : List Opt} {ps : List al} {a b : Int} (h : aX s l ps a b = true) (k : Opt → Nat) : ∀ o ∈ l,(mJ o (k o)).i = o.id ∧ (mJ o (k o)).u = o.size ∧ (mJ o (k o)).a = o.a ∧ o.a < (mJ o (k o)).b ∧ (mJ o (k o)).b ≤ ff o:=fun o ho => by
 obtain ⟨_,_,hfit⟩:=sA.of h
 have hf:=hfit o ho
 have hs:=hf.shot
 have hla:=hf.last
 have hc:=hf.can
 simp only [iY,Bool.and_eq_true] at hc
 have hge:=tw _ _ hc.1
 unfold mJ
 split
 ·rename_i hk
  have h1:=hge _ (yD hk)
  have h2:=hf.slot _ (yD hk)
  exact ⟨rfl,rfl,rfl,by show _ < (eh _ _).b; omega,h2.2.2⟩
 ·exact ⟨rfl,rfl,rfl,by show _ < ff _; omega,Int.le_refl _⟩
theorem xN {s : Nat → Int} {l : List Opt} {ps : List al} {a b : Int} (h : aX s l ps a b = true) (k : Opt → Nat) : fN (l.map fun o => mJ o (k o)) = true:=by
 obtain ⟨hl,hr,_,hsat,_,_,hids⟩:=bC.1 h
 obtain ⟨_,_,hfit⟩:=sA.of h
 have hq:=yH hsat
 have himg:=Ae h k
 rw [fN,Bool.and_eq_true]
 refine ⟨(qZ _ []).2 ⟨fun x hx => ?_,?_,fun p hp => nomatch hp⟩,by simp; omega⟩
 ·obtain ⟨o,ho,rfl⟩:=List.mem_map.1 hx
  obtain ⟨e1,e2,e3,e4,e5⟩:=himg o ho
  have hf:=hfit o ho
  have f1:=hf.id; have f2:=hf.size; have f3:=hf.shot; have f4:=hf.last
  rw [e1,e2,e3]
  refine ⟨f1,⟨f2.1,by omega⟩,f3.1,e4,by omega⟩
 ·rw [List.pairwise_map]
  refine List.Pairwise.imp_of_mem (fun {x y} hx hy hxy => ?_) hids
  rw [(himg x hx).1,(himg y hy).1]; exact hxy
theorem ku {s : Nat → Int} {l : List Opt} {ps : List al} {a b : Int} (h : aX s l ps a b = true) (k : Opt → Nat) : dI (l.map fun o => oP o (k o)):=by
 obtain ⟨_,hg,_⟩:=sA.of h
 refine ⟨by have:=hg.n; simpa using this,fun o ho => ?_,fun o ho x hx => ?_⟩
 ·obtain ⟨p,hp,rfl⟩:=List.mem_map.1 ho
  have:=hg.shot p hp
  unfold oP
  split
  ·exact ⟨this.1,this.2.1,this.2.2.1,by show (List.take _ _).length ≤ 6; rw [List.length_take]; omega⟩
  ·exact this
 ·obtain ⟨p,hp,rfl⟩:=List.mem_map.1 ho
  refine hg.slot p hp x ?_
  unfold oP at hx
  split at hx
  ·exact List.mem_of_mem_take hx
  ·exact hx
theorem vN {s : Nat → Int} {l : List Opt} {ps : List al} {a b : Int} (h : aX s l ps a b = true) {D : List Opt} (hg : dI D) : iG s (aL D) a b = true:=by
 obtain ⟨_,hr,hab,hsat,_,_,_⟩:=bC.1 h
 have hw : w64 (b - a) = b - a:=aq (by omega) (by omega)
 simp only [iG,Bool.and_eq_true,decide_eq_true_eq,hg.proper,hsat,and_true,dy,hw]
 omega
theorem py (c : Int) : ∀ (pre : List (Int × Int)) (r : Int × List Int),(pre.foldl (gv c) r).2.length = r.2.length + pre.length
 | [],r => by simp
 | p :: pre,r => by rw [List.foldl_cons,py c pre]; simp [gv]; omega
theorem Ec (s : Nat → Int) (D : List ax) (a b : Int) : (lvL s D a b).length = (b - a).toNat:=by
 rw [lvL,dX,py]; simp [f9,gW]
def pkM (l : List Opt) (lost : List Int) : Int × Int:=iU (fF (ee l lost))
def zS (l : List Int) : Int:=match l with | [] => 0 | x :: r => gZ x r
def loM (s : Nat → Int) (l : List Opt) (a b : Int) (lost : List Int) : Int × Int:=(w64 (0 - zS (lvL s (aL (bG l lost)) a b)),w64 (a + bV (fun y => zS (lvL s (aL (bG l lost)) a b) == y) (lvL s (aL (bG l lost)) a b) 0))
def pkS (l : List Opt) (ps : List al) (k : Int) : Fnd:=fj (pkM l) (cm (aC l) ps k)
def loS (s : Nat → Int) (l : List Opt) (ps : List al) (k a b : Int) : Fnd:=fj (loM s l a b) (cm (aC l) ps k)
theorem vg {f : List Int} {ps : List al} {k : Int} {x : List Int} (h : x ∈ cm f ps k) : ej ps x k = true ∧ ∃ b,b < 2 ^ f.length ∧ x = iH f b:=by
 obtain ⟨h1,h2⟩:=List.mem_filter.1 h
 obtain ⟨b,hb,rfl⟩:=List.mem_map.1 h1
 exact ⟨h2,b,List.mem_range.1 hb,rfl⟩
theorem Ax {ps : List al} {x : List Int} {k : Int} (h : ej ps x k = true) : gq ps x = true:=by
 simp only [ej,Bool.and_eq_true] at h; exact h.1.2
theorem ef {s : Nat → Int} {l : List Opt} {ps : List al} {k a b : Int} (hv : bI s l ps k a b = true) : aX s l ps a b = true ∧ (aC l).length ≤ 6 ∧ 0 ≤ k ∧ k ≤ 3:=by
 simp only [bI,ka,Bool.and_eq_true,decide_eq_true_eq] at hv
 exact ⟨hv.1.2,by omega,hv.1.1⟩
theorem jR {s : Nat → Int} {l : List Opt} {ps : List al} {a b : Int} (h : aX s l ps a b = true) : l.length ≤ 1000000 ∧ fc l ∧ ps.length ≤ 1000000:=by
 obtain ⟨hl,_,_,_,hp,_,_⟩:=bC.1 h
 obtain ⟨hk,_,_⟩:=sA.of h
 have:=(qX hp).2
 exact ⟨by omega,hk.sl,by omega⟩
theorem yy {f : List Int} {b : Nat} (hf : f.length ≤ 6) : (iH f b).length ≤ 1000000:=Nat.le_trans (iN f b f.length) (by omega)
theorem tT {s : Nat → Int} {l : List Opt} {ps : List al} {k a b : Int} (hv : bI s l ps k a b = true) : ∀ lost ∈ cm (aC l) ps k,ae Tryz.prog 122 [.agg (flA s l ps a b),au lost] (.tup [.agg (kO l lost),.bool true]):=fun lost hm => by
 obtain ⟨ht,hf,_⟩:=ef hv
 obtain ⟨ha,bb,_,rfl⟩:=vg hm
 exact tL ht (Ax ha) (yy hf)
theorem ym {s : Nat → Int} {l : List Opt} {ps : List al} {a b : Int} (ht : aX s l ps a b = true) (lost : List Int) : ae Tryz.prog 127 [.agg (flA s l ps a b),.agg (kO l lost)] (.tup [.int .i64 (pkM l lost).1,.int .i64 (pkM l lost).2,.bool true]):=
 A9 s l ps a b lost _ _ _ rfl rfl (by have:=(bC.1 ht).1; simp [ee]; omega) (xN ht _)
theorem wN {s : Nat → Int} {l : List Opt} {ps : List al} {a b : Int} (ht : aX s l ps a b = true) (lost : List Int) : ae Tryz.prog 129 [.agg (flA s l ps a b),.agg (kO l lost)] (.tup [.int .i64 (loM s l a b lost).1,.int .i64 (loM s l a b lost).2,.bool true]):=by
 obtain ⟨_,hr,hab,_⟩:=bC.1 ht
 have hg : dI (bG l lost):=ku ht _
 have hlen:=Ec s (aL (bG l lost)) a b
 have hd:=my hg
 have hv:=vN ht hg
 unfold loM
 generalize hlv : lvL s (aL (bG l lost)) a b = lv at hlen
 cases lv with
 | nil => simp at hlen; omega
 | cons x r => exact yo s l ps a b lost _ x r rfl hlv (by omega) hv (by simp at hlen; omega)
theorem lT {s : Nat → Int} {l : List Opt} {ps : List al} {k a b : Int} (hv : bI s l ps k a b = true) : ae Tryz.prog 56 [.agg (bg s),aM l,ak ps,.int .i64 k,.agg (aK a b)] (.tup [.int .i64 (pkS l ps k).n,.int .i64 (pkS l ps k).at_,au (pkS l ps k).what,.int .i64 0]):=by
 obtain ⟨ht,hf,_⟩:=ef hv
 obtain ⟨hl,hs,hp⟩:=jR ht
 have c:=pI s l ps k a b 127 (pkM l) hl hs hp hv (tT hv) (fun lost _ => ym ht lost)
 have e : fj (pkM l) (cm (aC l) ps k) = pkS l ps k:=rfl
 rw [e] at c
 generalize pkS l ps k = z at c
 refine ag aa Tryz.func56 rfl (by kernel_rfl) af (Nat.le_of_ble_eq_true rfl) ?_
 intro F n' w0 m0 hG hro h1
 repeat' first|refine Q1 ?_|refine Q2 ?_|refine Q3 hG aa pZ ?_|refine Q4 hG aa pZ ?_|refine Q5 hG aa ?_|refine Q6 hG aa ?_|refine Q7 hG aa ?_|refine Q8 hG aa ?_|refine Q9 rfl ?_|refine QF rfl ?_|refine QC rfl ⟨fun h => ?_,fun h => ?_⟩|((conv => whnf); first|refine anF ?_|refine anT ?_|refine anK ?_|refine Exists.intro _ (And.intro (c) ?_)|refine And.intro (fun h => ?_) (fun h => ?_)|refine Or.inl ?_)
 all_goals exact Ends.mk (Or.inl rfl) (ac rfl)
theorem tR {s : Nat → Int} {l : List Opt} {ps : List al} {k a b : Int} (hv : bI s l ps k a b = true) : ae Tryz.prog 58 [.agg (bg s),aM l,ak ps,.int .i64 k,.agg (aK a b)] (.tup [.int .i64 (w64 (0 - (loS s l ps k a b).n)),.int .i64 (loS s l ps k a b).at_,au (loS s l ps k a b).what,.int .i64 0]):=by
 obtain ⟨ht,hf,_⟩:=ef hv
 obtain ⟨hl,hs,hp⟩:=jR ht
 have c:=pI s l ps k a b 129 (loM s l a b) hl hs hp hv (tT hv) (fun lost _ => wN ht lost)
 have e : fj (loM s l a b) (cm (aC l) ps k) = loS s l ps k a b:=rfl
 rw [e] at c
 generalize loS s l ps k a b = z at c
 refine ag aa Tryz.func58 rfl (by kernel_rfl) af (Nat.le_of_ble_eq_true rfl) ?_
 intro F n' w0 m0 hG hro h1
 repeat' first|refine Q1 ?_|refine Q2 ?_|refine Q3 hG aa pY ?_|refine Q4 hG aa pY ?_|refine Q5 hG aa ?_|refine Q6 hG aa ?_|refine Q7 hG aa ?_|refine Q8 hG aa ?_|refine Q9 rfl ?_|refine QF rfl ?_|refine QC rfl ⟨fun h => ?_,fun h => ?_⟩|((conv => whnf); first|refine anF ?_|refine anT ?_|refine anK ?_|refine Exists.intro _ (And.intro (c) ?_)|refine And.intro (fun h => ?_) (fun h => ?_)|refine Or.inl ?_)
 all_goals exact Ends.mk (Or.inl rfl) (ac rfl)
theorem sv {s : Nat → Int} {l : List Opt} {ps : List al} {k a b : Int} (hv : bI s l ps k a b = true) : ae Tryz.prog 60 [.agg (bg s),aM l,ak ps,.int .i64 k,.agg (aK a b)] (.bool (decide ((pkS l ps k).n ≤ s 10) && decide (w64 (0 - (loS s l ps k a b).n) ≥ 0))):=by
 have c1:=lT hv
 have c2:=tR hv
 generalize pkS l ps k = z at *
 generalize w64 (0 - (loS s l ps k a b).n) = m at *
 generalize loS s l ps k a b = z2 at *
 refine ag aa Tryz.func60 rfl (by kernel_rfl) af (Nat.le_of_ble_eq_true rfl) ?_
 intro F n' w0 m0 hG hro h1
 repeat' first|refine Q1 ?_|refine Q2 ?_|refine Q3 hG aa pX ?_|refine Q4 hG aa pX ?_|refine Q5 hG aa ?_|refine Q6 hG aa ?_|refine Q7 hG aa ?_|refine Q8 hG aa ?_|refine Q9 rfl ?_|refine QF rfl ?_|refine QC rfl ⟨fun h => ?_,fun h => ?_⟩|((conv => whnf); first|refine anF ?_|refine anT ?_|refine anK ?_|refine Exists.intro _ (And.intro (c1) ?_)|refine Exists.intro _ (And.intro (c2) ?_)|refine And.intro (fun h => ?_) (fun h => ?_)|refine Or.inl ?_)
 all_goals refine Ends.mk (Or.inl rfl) (ac (congrArg AV.bool ?_))
 all_goals (clear hG c1 c2; first | grind | (simp_all; done) | (simp_all; omega))
def jA (f l : List Int) (i : Nat) : Bool:=inP f (ay l i) && (decide (i = 0) || decide (ay l (i - 1) < ay l i))
def gn (f l : List Int) : Bool:=(List.range l.length).all (jA f l)
theorem tv {f l : List Int} {i : Nat} (hi : i < l.length) (h : jA f l i = false) : gn f l = false:=by
 unfold gn
 rw [List.all_eq_false]
 exact ⟨i,List.mem_range.2 hi,by rw [h]; simp⟩
theorem rH {s : Nat → Int} {l : List Opt} {ps : List al} {a b : Int} (h : aX s l ps a b = true) {lost : List Int} (hf : gn (aC l) lost = true) : gq ps lost = true:=by
 obtain ⟨_,hr,_,_,hp,hft,_⟩:=bC.1 h
 have hpl:=(qX hp).2
 have hin : ∀ x ∈ aC l,0 ≤ x ∧ x < (ps.length : Int):=fun x hx => by
  rw [tn,oL,List.mem_flatMap] at hx
  obtain ⟨o,ho,hx⟩:=hx
  obtain ⟨y,hy,rfl⟩:=List.mem_map.1 hx
  have hfo:=(hft o (List.mem_of_mem_take ho)).1
  simp only [dp,Bool.and_eq_true] at hfo
  have hall : ∀ (sl : List aU) (t : Int),bv s ps o.size t sl = true → ∀ z ∈ sl,0 ≤ z.p ∧ z.p < (ps.length : Int):=fun sl => by
   induction sl with
   | nil => intro _ _ z hz; cases hz
   | cons x r ih =>
    intro t ht z hz
    simp only [bv,fO,Bool.and_eq_true,inS,decide_eq_true_eq] at ht
    rcases List.mem_cons.1 hz with e | hz
    ·subst e
     have:=ht.1.1
     rw [aq (by omega) (by omega)] at this
     omega
    ·exact ih _ ht.2 z hz
  exact hall o.sl o.b hfo.2 y (List.mem_of_mem_take hy)
 unfold gq
 rw [hp,Bool.and_true,List.all_eq_true]
 intro i hi
 unfold gn at hf
 rw [List.all_eq_true] at hf
 have h1:=hf i hi
 simp only [jA,inP,Bool.and_eq_true,List.any_eq_true,beq_iff_eq] at h1
 obtain ⟨⟨y,hy,e⟩,h2⟩:=h1
 have h3:=hin y hy
 simp only [j9,Bool.and_eq_true,decide_eq_true_eq]
 rw [e]
 rw [e] at h2
 exact ⟨h3,h2⟩
def jQ (s : Nat → Int) (l : List Opt) (ps : List al) (a b : Int) (lost : List Int) : AV:=.tup (if (bI s l ps 0 a b && gn (aC l) lost) = true then [.agg (kO l lost),.int .i64 0] else [.agg [.sl .full 0 [],.sl .full 0 [],.sl .full 0 [],.sl .full 0 []],.int .i64 210])
set_option maxHeartbeats 4000000 in
theorem kL (s : Nat → Int) (l : List Opt) (ps : List al) (a b : Int) (lost : List Int) (hl : l.length ≤ 1000000) (hs : fc l) (hps : ps.length ≤ 1000000) (hlo : lost.length ≤ 1000000) : ae Tryz.prog 53 [.agg (bg s),aM l,ak ps,.agg (aK a b),au lost] (jQ s l ps a b lost):=by
 have cV:=fy s l ps 0 a b hl hs hps
 have cFk:=fT l hl hs
 cases hv : bI s l ps 0 a b with
 | false =>
  rw [hv] at cV
  rw [jQ,hv,Bool.false_and,if_neg (by decide)]
  refine ag aa Tryz.func53 rfl (by kernel_rfl) af (Nat.le_of_ble_eq_true rfl) ?_
  intro F n' w0 m0 hG hro h1
  repeat' first|refine Q1 ?_|refine Q2 ?_|refine Q3 hG aa dG ?_|refine Q4 hG aa dG ?_|refine Q5 hG aa ?_|refine Q6 hG aa ?_|refine Q7 hG aa ?_|refine Q8 hG aa ?_|refine Q9 rfl ?_|refine QF rfl ?_|refine QC rfl ⟨fun h => ?_,fun h => ?_⟩|((conv => whnf); first|refine anF ?_|refine anT ?_|refine anK ?_|refine Exists.intro _ (And.intro (cV) ?_)|refine And.intro (fun h => ?_) (fun h => ?_)|refine Or.inl ?_)
  all_goals exact Ends.mk (Or.inl rfl) (ac rfl)
 | true =>
  rw [hv] at cV
  obtain ⟨ht,hf6,_⟩:=ef hv
  have cC:=fun x => ko (aC l) x (by omega)
  have cW:=fun h : gn (aC l) lost = true => tL ht (rH ht h) hlo
  rw [jQ,hv,Bool.true_and]
  generalize hfk : aC l = f at *
  refine ag aa Tryz.func53 rfl (by kernel_rfl) af (Nat.le_of_ble_eq_true rfl) ?_
  intro F n' w0 m0 hG hro h1
  repeat' first|refine Q1 ?_|refine Q2 ?_|refine Q3 hG aa dG ?_|refine Q4 hG aa dG ?_|refine Q5 hG aa ?_|refine Q6 hG aa ?_|refine Q7 hG aa ?_|refine Q8 hG aa ?_|refine Q9 rfl ?_|refine QF rfl ?_|refine QC rfl ⟨fun h => ?_,fun h => ?_⟩|((conv => whnf); first|refine anF ?_|refine anT ?_|refine anK ?_|refine Exists.intro _ (And.intro (cV) ?_)|refine Exists.intro _ (And.intro (cFk) ?_)|refine And.intro (fun h => ?_) (fun h => ?_)|refine Or.inl ?_)
  refine ar (X:=Nat) (fun x => ⟨[(28,.int .i64 x),(27,.int .i64 (lost.map fun h => [AV.int .i64 h]).length),(26,au lost),(12,au f),(10,.loc 10 0),(8,.loc 8 0),(5,.loc 5 0),(4,au lost),(2,ak ps),(1,aM l)],[(10,[.sl (.id 1010000) 0 [],.sl (.id 1010001) 0 [],.sl (.id 1010002) 0 [],.sl (.id 1010003) 0 []]),(8,aK a b),(5,bg s)]⟩) (fun x => x ≤ lost.length ∧ (List.range x).all (jA f lost) = true) (fun x => lost.length - x) 0 ⟨Nat.zero_le _,rfl⟩ (ah ?_ ?_) (fun x hx => ?_)
  ·repeat' (first | exact trivial | refine And.intro rfl ?_)
  ·repeat' (first | exact trivial | refine And.intro rfl ?_)
  ·rename Nat => i
   obtain ⟨hi,hall⟩:=hx
   by_cases hlt_i : i < lost.length
   ·have bbk : decide ((i : Int) < ((lost.map fun h => [AV.int .i64 h]).length : Int)) = false → False:=fun h => by have:=of_decide_eq_false h; simp at this; omega
    have hx:=ea hlt_i
    have hw : (i : Int) > 0 → IntKind.i64.wrap ((i : Int) - 1) = ((i - 1 : Nat) : Int):=fun h => (aq (by omega) (by omega)).trans (by omega)
    have hp0 : decide ((i : Int) > 0) = true → 0 ≤ IntKind.i64.wrap ((i : Int) - 1):=fun h => by rw [hw (of_decide_eq_true h)]; omega
    have hp : decide ((i : Int) > 0) = true → (lost.map fun h => [AV.int .i64 h])[(IntKind.i64.wrap ((i : Int) - 1)).toNat]? = some [.int .i64 (ay lost (i - 1))]:=fun h => by rw [hw (of_decide_eq_true h)]; exact ea (by omega)
    have hok : jA f lost i = (inP f (ay lost i) && (decide (i = 0) || decide (ay lost (i - 1) < ay lost i))):=rfl
    have cCi:=cC (ay lost i)
    generalize ay lost (i - 1) = v at hp hok
    generalize ay lost i = u at hx hok cCi
    repeat' first|exact (bbk (by assumption)).elim|refine Q1 ?_|refine Q2 ?_|refine Q3 hG aa dG ?_|refine Q4 hG aa dG ?_|refine Q5 hG aa ?_|refine Q6 hG aa ?_|refine Q7 hG aa ?_|refine Q8 hG aa ?_|refine Q9 rfl ?_|refine QF rfl ?_|refine QC rfl ⟨fun h => ?_,fun h => ?_⟩|((conv => whnf); first|refine anF ?_|refine anT ?_|refine anK ?_|refine And.intro (Int.natCast_nonneg i) (Exists.intro _ (And.intro hx ?_))|refine Exists.intro _ (And.intro (cCi) ?_)|refine And.intro (hp0 (by assumption)) (Exists.intro _ (And.intro (hp (by assumption)) ?_))|refine And.intro (fun h => ?_) (fun h => ?_)|refine Or.inl ?_)
    all_goals first
     |((try dsimp only)
       refine Ends.mk (Or.inl rfl) (ac ?_)
       rw [if_neg (by rw [tv hlt_i (by rw [hok]; clear hG; grind)]; decide)]
       rfl)
     | skip
    all_goals (refine Exists.intro (i + 1) (And.intro ?_ (And.intro (by omega) (ah ?_ ?_))))
    all_goals first
     |(refine And.intro (congrArg some (ap (by omega))) ?_
       repeat' (first | exact trivial | refine And.intro rfl ?_))
     |((repeat' (first | exact trivial | refine And.intro rfl ?_)); done)
     |(exact ⟨hlt_i,by rw [m9,hall,hok]; clear hG; grind⟩)
   ·have bbk : decide ((i : Int) < ((lost.map fun h => [AV.int .i64 h]).length : Int)) = true → False:=fun h => by have:=of_decide_eq_true h; simp at this; omega
    have he : i = lost.length:=by omega
    rw [he] at hall
    have hfs : gn f lost = true:=hall
    have cWl:=cW hfs
    rw [if_pos hfs]
    repeat' first|exact (bbk (by assumption)).elim|refine Q1 ?_|refine Q2 ?_|refine Q3 hG aa dG ?_|refine Q4 hG aa dG ?_|refine Q5 hG aa ?_|refine Q6 hG aa ?_|refine Q7 hG aa ?_|refine Q8 hG aa ?_|refine Q9 rfl ?_|refine QF rfl ?_|refine QC rfl ⟨fun h => ?_,fun h => ?_⟩|((conv => whnf); first|refine anF ?_|refine anT ?_|refine anK ?_|refine Exists.intro _ (And.intro (cWl) ?_)|refine And.intro (fun h => ?_) (fun h => ?_)|refine Or.inl ?_)
    exact Ends.mk (Or.inl rfl) (ac rfl)
end Go.Proofs
namespace Go.Proofs
open Go Go.AI
def BP (m : List Int → Int × Int) (L : List (List Int)) (x : Fnd) : Prop:=(L = [] ∧ x = El) ∨ (x.is = true ∧ x.what ∈ L ∧ x.n = (m x.what).1 ∧ x.at_ = (m x.what).2 ∧ ∀ y ∈ L,(m y).1 ≤ x.n)
theorem BP.step {m : List Int → Int × Int} {L : List (List Int)} {x : Fnd} (h : BP m L x) (y : List Int) : BP m (L ++ [y]) (rT x ⟨(m y).1,(m y).2,y,true⟩):=by
 refine .inr ?_
 rcases h with ⟨rfl,rfl⟩ | ⟨h1,h2,h3,h4,h5⟩
 ·refine ⟨rfl,by simp [rT,El],rfl,rfl,fun z hz => ?_⟩
  simp only [List.nil_append,List.mem_singleton] at hz
  subst hz
  exact Int.le_refl _
 ·unfold rT
  simp only [h1,Bool.not_true,Bool.false_or,Bool.true_and]
  split
  ·rename_i hg
   have hg:=of_decide_eq_true hg
   refine ⟨rfl,by simp,rfl,rfl,fun z hz => ?_⟩
   show _ ≤ (m y).1
   rcases List.mem_append.1 hz with hz | hz
   ·have:=h5 z hz; omega
   ·rw [List.mem_singleton.1 hz]; exact Int.le_refl _
  ·rename_i hg
   have hg : ¬ (m y).1 > x.n:=fun h => hg (decide_eq_true h)
   refine ⟨h1,List.mem_append_left _ h2,h3,h4,fun z hz => ?_⟩
   rcases List.mem_append.1 hz with hz | hz
   ·exact h5 z hz
   ·rw [List.mem_singleton.1 hz]; omega
theorem BP.fold {m : List Int → Int × Int} : ∀ (L pre : List (List Int)) (x : Fnd),BP m pre x → BP m (pre ++ L) (L.foldl (fun x y => rT x ⟨(m y).1,(m y).2,y,true⟩) x)
 | [],pre,x,h => by simpa using h
 | y :: L,pre,x,h => by
  have:=BP.fold L (pre ++ [y]) _ (h.step y)
  simpa using this
theorem Au (m : List Int → Int × Int) (L : List (List Int)) : BP m L (fj m L):=by
 have:=BP.fold (m:=m) L [] El (.inl ⟨rfl,rfl⟩)
 rw [List.nil_append] at this; exact this
theorem Ev {m : List Int → Int × Int} {L : List (List Int)} (h : L ≠ []) : (fj m L).what ∈ L ∧ (fj m L).n = (m (fj m L).what).1 ∧ (fj m L).at_ = (m (fj m L).what).2 ∧ ∀ y ∈ L,(m y).1 ≤ (fj m L).n:=by
 rcases Au m L with ⟨h1,_⟩ | ⟨_,h1⟩
 ·exact absurd h1 h
 ·exact h1
theorem Bx {f : List Int} {ps : List al} {k : Int} (hp : bp ps = true) (h0 : 0 ≤ k) (h3 : k ≤ 3) : [] ∈ cm f ps k:=by
 unfold cm dx
 rw [List.mem_filter,List.mem_map]
 refine ⟨⟨0,List.mem_range.2 (Nat.two_pow_pos _),?_⟩,?_⟩
 ·unfold iH fZ
  rw [List.filterMap_eq_nil_iff]
  intro i _
  simp [uB]
 ·simp only [ej,ka,gq,rd,yX,hp,Bool.and_eq_true,decide_eq_true_eq]
  simp; omega
theorem DT {f : List Int} {ps : List al} {k : Int} (hp : bp ps = true) (h0 : 0 ≤ k) (h3 : k ≤ 3) : cm f ps k ≠ []:=fun e => by
 have:=Bx (f:=f) hp h0 h3
 rw [e] at this; cases this
theorem ww : ∀ (l : List Int) (a b : Int),asc l → (∀ x ∈ l,a ≤ x ∧ x < b) → a ≤ b → (l.length : Int) ≤ b - a
 | [],a,b,_,_,h => by simp; omega
 | x :: l,a,b,hl,hx,h => by
  obtain ⟨h1,h2⟩:=List.pairwise_cons.1 hl
  have hx0:=hx x List.mem_cons_self
  have:=ww l (x + 1) b h2 (fun y hy => ⟨by have:=h1 y hy; omega,(hx y (List.mem_cons_of_mem _ hy)).2⟩) (by omega)
  rw [List.length_cons]; omega
theorem Ch {s : Nat → Int} {l : List Opt} {ps : List al} {a b : Int} (h : aX s l ps a b = true) : ∀ x ∈ aC l,0 ≤ x ∧ x < (ps.length : Int):=fun x hx => by
 have hf : gn (aC l) [x] = true:=by
  unfold gn
  rw [List.all_eq_true]
  intro i hi
  have : i = 0:=by have:=List.mem_range.1 hi; simp at this; omega
  subst this
  simp [jA,inP,ay,hx]
 have hs:=rH h hf
 have:=qu hs (i:=0) (by simp)
 simpa [ay] using this
theorem tt {s : Nat → Int} {l : List Opt} {ps : List al} {a b : Int} (h : aX s l ps a b = true) : (aC l).length ≤ ps.length:=by
 have:=ww (aC l) 0 ps.length (tu l) (Ch h) (by omega)
 omega
theorem lX {s : Nat → Int} {l : List Opt} {ps : List al} {a b k : Int} (h : aX s l ps a b = true) (h6 : ps.length ≤ 6) (h0 : 0 ≤ k) (h3 : k ≤ 3) : bI s l ps k a b = true:=by
 have:=tt h
 simp only [bI,ka,h,Bool.and_eq_true,decide_eq_true_eq,and_true]
 omega
theorem DS {s : Nat → Int} {l : List Opt} {ps : List al} {a b k : Int} (h : aX s l ps a b = true) (h6 : ps.length ≤ 6) (h0 : 0 ≤ k) (h3 : k ≤ 3) : dv l ps k = false:=by
 have hf:=tt h
 obtain ⟨hl,_,_,_,hp,hft,_⟩:=bC.1 h
 obtain ⟨_,_,hfit⟩:=sA.of h
 have hlv : (l.any fun o => !bz o ps) = false:=by
  rw [List.any_eq_false]
  intro o ho
  have h1:=hfit o ho
  rw [pF hp (by have:=h1.shot; omega) (hft o ho).1]; simp
 simp only [dv,fW,hlv,hp,Bool.not_true,Bool.or_false,Bool.or_eq_false_iff,decide_eq_false_iff_not]
 omega
end Go.Proofs
namespace Go.Proofs
open Go Go.AI
set_option maxRecDepth 10000
set_option maxHeartbeats 4000000 in
theorem dH (l m : List Int) (hl : l.length ≤ 1000000) : ae Tryz.prog 46 [au l,au m] (.bool (decide (l = m))):=by
 have hlm : ((l.map (fun h => [AV.int .i64 h])).length : Int) = (l.length : Int):=by rw [List.length_map]
 have hmm : ((m.map (fun h => [AV.int .i64 h])).length : Int) = (m.length : Int):=by rw [List.length_map]
 refine ag aa Tryz.func46 rfl (by kernel_rfl) af (Nat.le_of_ble_eq_true rfl) ?_
 intro F n' w0 m0 hG hro h1
 repeat' first|refine Q1 ?_|refine Q2 ?_|refine Q3 hG aa fq ?_|refine Q4 hG aa fq ?_|refine Q5 hG aa ?_|refine Q6 hG aa ?_|refine Q7 hG aa ?_|refine Q8 hG aa ?_|refine Q9 rfl ?_|refine QF rfl ?_|refine QC rfl ⟨fun h => ?_,fun h => ?_⟩|((conv => whnf); first|refine anF ?_|refine anT ?_|refine anK ?_|refine And.intro (fun h => ?_) (fun h => ?_)|refine Or.inl ?_)
 all_goals first
  |(refine Ends.mk (Or.inl rfl) (ac (congrArg AV.bool ?_))
    have h:=(by assumption : (((l.map (fun h => [AV.int .i64 h])).length : Int) != ((m.map (fun h => [AV.int .i64 h])).length : Int)) = true)
    rw [hlm,hmm] at h
    exact (decide_eq_false fun e => by rw [e] at h; simp at h).symm)
  | skip
 have hll : l.length = m.length:=by
  have h:=(by assumption : (((l.map (fun h => [AV.int .i64 h])).length : Int) != ((m.map (fun h => [AV.int .i64 h])).length : Int)) = false)
  rw [hlm,hmm] at h
  simp at h; omega
 refine ar (X:=Nat) (fun x => ⟨[(5,.int .i64 x),(1,au m),(0,au l)],[]⟩) (fun x => x ≤ l.length ∧ l.take x = m.take x) (fun x => l.length - x) 0 ⟨Nat.zero_le _,rfl⟩ (ah ?_ ?_) (fun x hx => ?_)
 ·repeat' (first | exact trivial | refine And.intro rfl ?_)
 ·repeat' (first | exact trivial | refine And.intro rfl ?_)
 ·rename Nat => i
  obtain ⟨hi,ht⟩:=hx
  by_cases hlt_i : i < l.length
  ·have bbk : decide ((i : Int) < ((l.map (fun h => [AV.int .i64 h])).length : Int)) = false → False:=fun h => by have:=of_decide_eq_false h; simp at this; omega
   have hx:=fA (f:=(fun h => [AV.int .i64 h])) 0 hlt_i
   have hy:=fA (f:=(fun h => [AV.int .i64 h])) 0 (show i < m.length by omega)
   have hn1:=bD 0 hlt_i
   have hn2:=bD 0 (show i < m.length by omega)
   have hne : l.getD i 0 ≠ m.getD i 0 → decide (l = m) = false:=fun h => decide_eq_false fun e => h (by rw [e])
   generalize l.getD i 0 = u at *
   generalize m.getD i 0 = v at *
   repeat' first|exact (bbk (by assumption)).elim|refine Q1 ?_|refine Q2 ?_|refine Q3 hG aa fq ?_|refine Q4 hG aa fq ?_|refine Q5 hG aa ?_|refine Q6 hG aa ?_|refine Q7 hG aa ?_|refine Q8 hG aa ?_|refine Q9 rfl ?_|refine QF rfl ?_|refine QC rfl ⟨fun h => ?_,fun h => ?_⟩|((conv => whnf); first|refine anF ?_|refine anT ?_|refine anK ?_|refine And.intro (Int.natCast_nonneg i) (Exists.intro _ (And.intro hx ?_))|refine And.intro (Int.natCast_nonneg i) (Exists.intro _ (And.intro hy ?_))|refine And.intro (fun h => ?_) (fun h => ?_)|refine Or.inl ?_)
   all_goals first
    |(refine Ends.mk (Or.inl rfl) (ac (congrArg AV.bool ?_))
      exact (hne fun e => by subst e; have h:=(by assumption : (u != u) = true); simp at h).symm)
    | skip
   refine Exists.intro (i + 1) (And.intro ⟨hlt_i,?_⟩ (And.intro (by omega) (ah ?_ ?_)))
   ·rw [hn1,hn2,ht]
    have e : u = v:=by
     have h:=(by assumption : (u != v) = false)
     simpa using h
    rw [e]
   ·refine And.intro (congrArg some (ap (by omega))) ?_
    repeat' (first | exact trivial | refine And.intro rfl ?_)
   ·repeat' (first | exact trivial | refine And.intro rfl ?_)
  ·have bbk : decide ((i : Int) < ((l.map (fun h => [AV.int .i64 h])).length : Int)) = true → False:=fun h => by have:=of_decide_eq_true h; simp at this; omega
   have he : l.take i = l:=List.take_of_length_le (by omega)
   have he2 : m.take i = m:=List.take_of_length_le (by omega)
   rw [he,he2] at ht
   repeat' first|exact (bbk (by assumption)).elim|refine Q1 ?_|refine Q2 ?_|refine Q3 hG aa fq ?_|refine Q4 hG aa fq ?_|refine Q5 hG aa ?_|refine Q6 hG aa ?_|refine Q7 hG aa ?_|refine Q8 hG aa ?_|refine Q9 rfl ?_|refine QF rfl ?_|refine QC rfl ⟨fun h => ?_,fun h => ?_⟩|((conv => whnf); first|refine anF ?_|refine anT ?_|refine anK ?_|refine And.intro (fun h => ?_) (fun h => ?_)|refine Or.inl ?_)
   exact Ends.mk (Or.inl rfl) (ac (congrArg AV.bool (decide_eq_true ht).symm))
set_option maxHeartbeats 4000000 in
theorem kj (l m : List (List Int)) (hl : l.length ≤ 1000000) (hin : ∀ i,i < l.length → (l.getD i []).length ≤ 1000000) : ae Tryz.prog 50 [iO l,iO m] (.bool (decide (l = m))):=by
 have hlm : ((l.map (fun x => [au x])).length : Int) = (l.length : Int):=by rw [List.length_map]
 have hmm : ((m.map (fun x => [au x])).length : Int) = (m.length : Int):=by rw [List.length_map]
 refine ag aa Tryz.func50 rfl (by kernel_rfl) af (Nat.le_of_ble_eq_true rfl) ?_
 intro F n' w0 m0 hG hro h1
 repeat' first|refine Q1 ?_|refine Q2 ?_|refine Q3 hG aa fp ?_|refine Q4 hG aa fp ?_|refine Q5 hG aa ?_|refine Q6 hG aa ?_|refine Q7 hG aa ?_|refine Q8 hG aa ?_|refine Q9 rfl ?_|refine QF rfl ?_|refine QC rfl ⟨fun h => ?_,fun h => ?_⟩|((conv => whnf); first|refine anF ?_|refine anT ?_|refine anK ?_|refine And.intro (fun h => ?_) (fun h => ?_)|refine Or.inl ?_)
 all_goals first
  |(refine Ends.mk (Or.inl rfl) (ac (congrArg AV.bool ?_))
    have h:=(by assumption : (((l.map (fun x => [au x])).length : Int) != ((m.map (fun x => [au x])).length : Int)) = true)
    rw [hlm,hmm] at h
    exact (decide_eq_false fun e => by rw [e] at h; simp at h).symm)
  | skip
 have hll : l.length = m.length:=by
  have h:=(by assumption : (((l.map (fun x => [au x])).length : Int) != ((m.map (fun x => [au x])).length : Int)) = false)
  rw [hlm,hmm] at h
  simp at h; omega
 refine ar (X:=Nat) (fun x => ⟨[(5,.int .i64 x),(1,iO m),(0,iO l)],[]⟩) (fun x => x ≤ l.length ∧ l.take x = m.take x) (fun x => l.length - x) 0 ⟨Nat.zero_le _,rfl⟩ (ah ?_ ?_) (fun x hx => ?_)
 ·repeat' (first | exact trivial | refine And.intro rfl ?_)
 ·repeat' (first | exact trivial | refine And.intro rfl ?_)
 ·rename Nat => i
  obtain ⟨hi,ht⟩:=hx
  by_cases hlt_i : i < l.length
  ·have bbk : decide ((i : Int) < ((l.map (fun x => [au x])).length : Int)) = false → False:=fun h => by have:=of_decide_eq_false h; simp at this; omega
   have hx:=fA (f:=(fun x => [au x])) [] hlt_i
   have hy:=fA (f:=(fun x => [au x])) [] (show i < m.length by omega)
   have hn1:=bD [] hlt_i
   have hn2:=bD [] (show i < m.length by omega)
   have hne : l.getD i [] ≠ m.getD i [] → decide (l = m) = false:=fun h => decide_eq_false fun e => h (by rw [e])
   have cI:=dH (l.getD i []) (m.getD i []) (hin i hlt_i)
   generalize l.getD i [] = u at *
   generalize m.getD i [] = v at *
   repeat' first|exact (bbk (by assumption)).elim|refine Q1 ?_|refine Q2 ?_|refine Q3 hG aa fp ?_|refine Q4 hG aa fp ?_|refine Q5 hG aa ?_|refine Q6 hG aa ?_|refine Q7 hG aa ?_|refine Q8 hG aa ?_|refine Q9 rfl ?_|refine QF rfl ?_|refine QC rfl ⟨fun h => ?_,fun h => ?_⟩|((conv => whnf); first|refine anF ?_|refine anT ?_|refine anK ?_|refine And.intro (Int.natCast_nonneg i) (Exists.intro _ (And.intro hx ?_))|refine And.intro (Int.natCast_nonneg i) (Exists.intro _ (And.intro hy ?_))|refine Exists.intro _ (And.intro (cI) ?_)|refine And.intro (fun h => ?_) (fun h => ?_)|refine Or.inl ?_)
   all_goals first
    |(refine Ends.mk (Or.inl rfl) (ac (congrArg AV.bool ?_))
      exact (hne fun e => by subst e; have h:=(by assumption : (!decide (u = u)) = true); simp at h).symm)
    | skip
   refine Exists.intro (i + 1) (And.intro ⟨hlt_i,?_⟩ (And.intro (by omega) (ah ?_ ?_)))
   ·rw [hn1,hn2,ht]
    have e : u = v:=by
     have h:=(by assumption : (!decide (u = v)) = false)
     simpa using h
    rw [e]
   ·refine And.intro (congrArg some (ap (by omega))) ?_
    repeat' (first | exact trivial | refine And.intro rfl ?_)
   ·repeat' (first | exact trivial | refine And.intro rfl ?_)
  ·have bbk : decide ((i : Int) < ((l.map (fun x => [au x])).length : Int)) = true → False:=fun h => by have:=of_decide_eq_true h; simp at this; omega
   have he : l.take i = l:=List.take_of_length_le (by omega)
   have he2 : m.take i = m:=List.take_of_length_le (by omega)
   rw [he,he2] at ht
   repeat' first|exact (bbk (by assumption)).elim|refine Q1 ?_|refine Q2 ?_|refine Q3 hG aa fp ?_|refine Q4 hG aa fp ?_|refine Q5 hG aa ?_|refine Q6 hG aa ?_|refine Q7 hG aa ?_|refine Q8 hG aa ?_|refine Q9 rfl ?_|refine QF rfl ?_|refine QC rfl ⟨fun h => ?_,fun h => ?_⟩|((conv => whnf); first|refine anF ?_|refine anT ?_|refine anK ?_|refine And.intro (fun h => ?_) (fun h => ?_)|refine Or.inl ?_)
   exact Ends.mk (Or.inl rfl) (ac (congrArg AV.bool (decide_eq_true ht).symm))
theorem yp (p a b : Int) : ae Tryz.prog 187 [.int .i64 p,.int .i64 a,.int .i64 b] (.agg (aw ⟨p,a,b⟩)):=by
 refine ag aa Tryz.func187 rfl (by kernel_rfl) af (Nat.le_of_ble_eq_true rfl) ?_
 intro F n' w0 m0 hG hro h1
 repeat' first|refine Q1 ?_|refine Q2 ?_|refine Q3 hG aa nH ?_|refine Q4 hG aa nH ?_|refine Q5 hG aa ?_|refine Q6 hG aa ?_|refine Q7 hG aa ?_|refine Q8 hG aa ?_|refine Q9 rfl ?_|refine QF rfl ?_|refine QC rfl ⟨fun h => ?_,fun h => ?_⟩|((conv => whnf); first|refine anF ?_|refine anT ?_|refine anK ?_|refine And.intro (fun h => ?_) (fun h => ?_)|refine Or.inl ?_)
 all_goals exact Ends.mk (Or.inl rfl) (ac rfl)
theorem yq (a b : Int) : ae Tryz.prog 188 [.int .i64 a,.int .i64 b] (.agg (aG ⟨3,0,a,b,a,b⟩)):=by
 refine ag aa Tryz.func188 rfl (by kernel_rfl) af (Nat.le_of_ble_eq_true rfl) ?_
 intro F n' w0 m0 hG hro h1
 repeat' first|refine Q1 ?_|refine Q2 ?_|refine Q3 hG aa nG ?_|refine Q4 hG aa nG ?_|refine Q5 hG aa ?_|refine Q6 hG aa ?_|refine Q7 hG aa ?_|refine Q8 hG aa ?_|refine Q9 rfl ?_|refine QF rfl ?_|refine QC rfl ⟨fun h => ?_,fun h => ?_⟩|((conv => whnf); first|refine anF ?_|refine anT ?_|refine anK ?_|refine And.intro (fun h => ?_) (fun h => ?_)|refine Or.inl ?_)
 all_goals exact Ends.mk (Or.inl rfl) (ac rfl)
def bxS (i : Nat) : Int:=match i with
 | 0 => 3 | 2 => 96 | 4 => 4000 | 5 => 20000 | 10 => 10 | 11 => 100 | 13 => 1 | 18 => 100 | 20 => 3 | _ => 0
def bxP : List al:=[⟨3,0,18,26,18,26⟩,⟨3,0,38,50,38,50⟩]
def bx1 : Opt:=⟨1,0,0,3,10,12,0,6,[⟨0,20,22⟩,⟨1,40,42⟩]⟩
def bx2 : Opt:=⟨2,0,0,3,30,31,0,5,[⟨1,44,46⟩]⟩
def bxL : List Opt:=[bx1,bx2]
theorem vA (o : Opt) (ow : Go.AI.Own) : iC [.int .i64 o.id,.int .i64 o.ord,.int .i64 o.cl,.int .i64 o.sat,.int .i64 o.a,.int .i64 o.b,.int .i64 o.look,.int .i64 o.size,.sl ow 3 (o.sl.map aw)] (aH o):=
 .cons (.refl _) (.cons (.refl _) (.cons (.refl _) (.cons (.refl _) (.cons (.refl _) (.cons (.refl _) (.cons (.refl _) (.cons (.refl _) (.cons AV.weak.sl .nil))))))))
theorem Er : ∀ y ∈ bxL.map aH,∀ c ∈ y,AV.isCell c = true:=by
 intro y hy c hc
 obtain ⟨o,_,rfl⟩:=List.mem_map.1 hy
 simp only [aH,List.mem_cons,List.not_mem_nil,or_false] at hc
 rcases hc with h | h | h | h | h | h | h | h | h <;> subst h <;> rfl
theorem sT : ae Tryz.prog 112 [] (.tup [.agg (bg bxS),aM bxL,ak bxP,.agg (aK 0 60)]):=by
 refine ag aa Tryz.func112 rfl (by kernel_rfl) af (Nat.le_of_ble_eq_true rfl) ?_
 intro F n' w0 m0 hG hro h1
 repeat' first|refine Q1 ?_|refine Q2 ?_|refine Q3 hG aa oq ?_|refine Q4 hG aa oq ?_|refine Q5 hG aa ?_|refine Q6 hG aa ?_|refine Q7 hG aa ?_|refine Q8 hG aa ?_|refine Q9 rfl ?_|refine QF rfl ?_|refine QC rfl ⟨fun h => ?_,fun h => ?_⟩|((conv => whnf); first|refine anF ?_|refine anT ?_|refine anK ?_|refine Exists.intro _ (And.intro (yp _ _ _) ?_)|refine Exists.intro _ (And.intro (yq _ _) ?_)|refine And.intro (fun h => ?_) (fun h => ?_)|refine Or.inl ?_)
 all_goals exact Ends.mk (Or.inl rfl) (AV.weak.tup (.cons (.refl _) (.cons (AV.weak.rows (ys:=bxL.map aH) (.cons (vA bx1 .full) (.cons (vA bx2 .full) .nil)) Er) (.cons AV.weak.sl (.cons (.refl _) .nil)))))
theorem rS : aX bxS bxL bxP 0 60 = true:=by kernel_rfl
theorem Cv : aC bxL = [0,1]:=(oK bxL).symm.trans (by kernel_rfl)
theorem FA : cm (aC bxL) bxP 1 = [[],[0],[1]]:=by rw [Cv]; kernel_rfl
theorem Fz : cm (aC bxL) bxP 0 = [[]]:=by rw [Cv]; kernel_rfl
end Go.Proofs
namespace Go.Proofs
open Go Go.AI
theorem xF (x : Int) : ∀ r : List Int,gZ x r ∈ x :: r ∧ ∀ y ∈ x :: r,gZ x r ≤ y:=by
 intro r
 induction r generalizing x with
 | nil => exact ⟨by simp [gZ],fun y hy => by simp at hy; rw [hy]; exact Int.le_refl _⟩
 | cons z r ih =>
  obtain ⟨h1,h2⟩:=ih (min x z)
  have e : gZ x (z :: r) = gZ (min x z) r:=rfl
  rw [e]
  have h3:=h2 (min x z) List.mem_cons_self
  refine ⟨?_,fun y hy => ?_⟩
  ·rcases List.mem_cons.1 h1 with h | h
   ·rw [h]
    rcases Int.le_total x z with h4 | h4
    ·rw [Int.min_eq_left h4]; exact List.mem_cons_self
    ·rw [Int.min_eq_right h4]; exact List.mem_cons_of_mem _ List.mem_cons_self
   ·exact List.mem_cons_of_mem _ (List.mem_cons_of_mem _ h)
  ·rcases List.mem_cons.1 hy with h | h
   ·subst h; omega
   ·rcases List.mem_cons.1 h with h | h
    ·subst h; omega
    ·exact h2 y (List.mem_cons_of_mem _ h)
theorem tj {l : List Int} (h : l ≠ []) : zS l ∈ l ∧ ∀ y ∈ l,zS l ≤ y:=by
 cases l with
 | nil => exact absurd rfl h
 | cons x r => exact xF x r
def sF (s : Nat → Int) (D : List ax) (a : Int) (i : Nat) : Int:=zQ s D (a + (i : Int))
theorem B3 {s : Nat → Int} {l : List Opt} {ps : List al} {a b : Int} (h : aX s l ps a b = true) {D : List Opt} (hg : dI D) :
  lvL s (aL D) a b = (List.range (b - a).toNat).map (fun i => rl (s 11) (sF s (aL D) a) (i + 1)) ∧ (∀ i,-1000000 ≤ sF s (aL D) a i ∧ sF s (aL D) a i ≤ 1000000):=by
 obtain ⟨_,hr,hab,hsat,_⟩:=bC.1 h
 have hq:=yH hsat
 have hfed:=vj hsat
 have hd:=my hg
 have hn : ∀ i,-1000000 ≤ sF s (aL D) a i ∧ sF s (aL D) a i ≤ 1000000:=fun i => by
  obtain ⟨e,h1,h2⟩:=BV hfed (a + (i : Int)) (aL D) (xJ (iS s) (a + (i : Int))) (by omega)
  unfold sF zQ
  rw [e]; omega
 refine ⟨?_,hn⟩
 have h1:=B5 (c:=s 11) (f:=sF s (aL D) a) (by omega) hn a (b - a).toNat (by omega)
 unfold lvL
 rw [show f9 s (aL D) a b = gW a (sF s (aL D) a) (b - a).toNat from rfl,h1]
theorem B1 {s : Nat → Int} {l : List Opt} {ps : List al} {a b : Int} (h : aX s l ps a b = true) {D : List Opt} (hg : dI D) : lvL s (aL D) a b ≠ [] ∧ ∀ x ∈ lvL s (aL D) a b,-4000000000 ≤ x ∧ x ≤ s 11 ∧ s 11 ≤ 1000000:=by
 obtain ⟨_,hr,hab,hsat,_⟩:=bC.1 h
 have hq:=yH hsat
 obtain ⟨h1,h2⟩:=B3 h hg
 rw [h1]
 refine ⟨fun e => ?_,fun x hx => ?_⟩
 ·have:=congrArg List.length e
  simp at this; omega
 ·obtain ⟨i,hi,rfl⟩:=List.mem_map.1 hx
  have:=rk (c:=s 11) h2 (i + 1)
  have:=List.mem_range.1 hi
  omega
def mG (s : Nat → Int) (l : List Opt) (a b : Int) (lost : List Int) : Int:=zS (lvL s (aL (bG l lost)) a b)
theorem B4 {s : Nat → Int} {l : List Opt} {ps : List al} {a b : Int} (h : aX s l ps a b = true) (lost : List Int) : (loM s l a b lost).1 = -(mG s l a b lost) ∧ -4000000000 ≤ mG s l a b lost ∧ mG s l a b lost ≤ 1000000:=by
 obtain ⟨h1,h2⟩:=B1 h (ku h fun o => kS o lost)
 have h3:=tj h1
 have h4:=h2 _ h3.1
 have e : mG s l a b lost = zS (lvL s (aL (l.map fun o => oP o (kS o lost))) a b):=rfl
 rw [← e] at h4
 refine ⟨?_,by omega,by omega⟩
 show w64 (0 - mG s l a b lost) = _
 rw [aq (by omega) (by omega)]; omega
def lowV (s : Nat → Int) (l : List Opt) (ps : List al) (k a b : Int) : Int:=w64 (0 - (loS s l ps k a b).n)
theorem Ee {s : Nat → Int} {l : List Opt} {ps : List al} {a b k : Int} (h : aX s l ps a b = true) (h0 : 0 ≤ k) (h3 : k ≤ 3) :
  (loS s l ps k a b).what ∈ cm (aC l) ps k ∧ lowV s l ps k a b = mG s l a b (loS s l ps k a b).what ∧ (loS s l ps k a b).n = -(lowV s l ps k a b) ∧ ∀ y ∈ cm (aC l) ps k,lowV s l ps k a b ≤ mG s l a b y:=by
 obtain ⟨_,_,_,_,hp,_⟩:=bC.1 h
 obtain ⟨h1,h2,_,h4⟩:=Ev (m:=loM s l a b) (DT (f:=aC l) hp h0 h3)
 have e : fj (loM s l a b) (cm (aC l) ps k) = loS s l ps k a b:=rfl
 rw [e] at h1 h2 h4
 obtain ⟨v1,v2,v3⟩:=B4 h (loS s l ps k a b).what
 rw [v1] at h2
 have e2 : lowV s l ps k a b = mG s l a b (loS s l ps k a b).what:=by
  unfold lowV
  rw [h2,aq (by omega) (by omega)]; omega
 refine ⟨h1,e2,by rw [h2,e2],fun y hy => ?_⟩
 have h5:=h4 y hy
 obtain ⟨u1,_,_⟩:=B4 h y
 rw [u1,h2] at h5
 omega
end Go.Proofs
namespace Go.Proofs
open Go Go.AI
set_option maxRecDepth 10000
def Es : List Img:=[⟨1,6,10,22⟩,⟨2,5,30,46⟩]
def Fh : List Img:=[⟨1,6,10,42⟩,⟨2,5,30,46⟩]
theorem Cu : ee bxL [] = Es:=by kernel_rfl
theorem ER : ee bxL [0] = Fh:=by kernel_rfl
theorem FE : ee bxL [1] = Es:=by kernel_rfl
theorem EQ : iU (fF Es) = (6,10):=by
 rw [← rM (l:=Es) (s:=[(10,6),(22,-6),(30,5),(46,-5)]) (.refl _) (by simp [List.pairwise_cons])]
 kernel_rfl
theorem FB : iU (fF Fh) = (11,30):=by
 rw [← rM (l:=Fh) (s:=[(10,6),(30,5),(42,-6),(46,-5)]) (.cons _ (.swap _ _ _)) (by simp [List.pairwise_cons])]
 kernel_rfl
theorem EP : pkS bxL bxP 0 = ⟨6,10,[],true⟩:=by
 unfold pkS; rw [Fz,fj,List.foldl_cons,List.foldl_nil,pkM,Cu,EQ]; rfl
theorem EO : pkS bxL bxP 1 = ⟨11,30,[0],true⟩:=by
 unfold pkS; rw [FA,fj,List.foldl_cons,List.foldl_cons,List.foldl_cons,List.foldl_nil,pkM,pkM,pkM,Cu,ER,FE,EQ,FB]; rfl
theorem Cw (t : Int) : ∀ D : List ax,qr bxS t D = 0
 | [] => rfl
 | x :: D => by
  rw [qr,Cw t D]
  simp [vD,zf,bxS]
theorem FC {D : List Opt} (hg : dI D) : ∀ x ∈ lvL bxS (aL D) 0 60,0 ≤ x:=fun x hx => by
 have h1:=(B3 rS hg).1
 have hf:=vj (bC.1 rS).2.2.2.1
 have hd:=my hg
 have hn : sF bxS (aL D) 0 = fun _ => 1:=funext fun i => by
  unfold sF zQ
  rw [(BV hf _ _ _ (by omega)).1,BW,Cw]
  simp [bxS]
 rw [h1,hn] at hx
 obtain ⟨i,hi,rfl⟩:=List.mem_map.1 hx
 have hall : ((List.range 60).all fun i => decide (0 ≤ rl (bxS 11) (fun _ => 1) (i + 1))) = true:=by kernel_rfl
 exact of_decide_eq_true (List.all_eq_true.1 hall i hi)
theorem FD (k : Int) (h0 : 0 ≤ k) (h3 : k ≤ 3) : 0 ≤ lowV bxS bxL bxP k 0 60 ∧ lowV bxS bxL bxP k 0 60 ≤ 100:=by
 obtain ⟨_,h2,_⟩:=Ee rS h0 h3
 rw [h2]
 generalize (loS bxS bxL bxP k 0 60).what = w
 have hg : dI (bG bxL w):=ku rS fun o => kS o w
 obtain ⟨h4,h5⟩:=B1 rS hg
 obtain ⟨h6,_⟩:=tj h4
 exact ⟨FC hg _ h6,by have:=h5 _ h6; have e : bxS 11 = 100:=rfl; unfold mG; omega⟩
theorem Fy (lost : List Int) (h : gn [0,1] lost = true) : jQ bxS bxL bxP 0 60 lost = .tup [.agg (kO bxL lost),.int .i64 0]:=by
 rw [jQ,lX rS (by decide) (by decide) (by decide),Cv,h]; rfl
theorem Fx : jQ bxS bxL bxP 0 60 [2] = .tup [.agg [.sl .full 0 [],.sl .full 0 [],.sl .full 0 [],.sl .full 0 []],.int .i64 210]:=by
 rw [jQ,lX rS (by decide) (by decide) (by decide),Cv,show gn [0,1] [2] = false from by kernel_rfl]; rfl
set_option maxHeartbeats 8000000 in
theorem wD : ae Tryz.prog 41 [] (.bool true):=by
 have hs:=(jR rS).2.1
 have L6 : bxL.length ≤ 1000000:=Nat.le_of_ble_eq_true rfl
 have P6 : bxP.length ≤ 1000000:=Nat.le_of_ble_eq_true rfl
 have v0:=lX (k:=0) rS (by decide) (by decide) (by decide)
 have v1:=lX (k:=1) rS (by decide) (by decide) (by decide)
 have v4 : bI bxS bxL bxP 4 0 60 = false:=by
  unfold bI
  rw [show ka 4 = false from by decide]; rfl
 have q1:=lS bxL bxP 1 L6 hs P6
 rw [sZ,DS rS (by decide) (by decide) (by decide),if_neg (by decide),FA] at q1
 have q2:=lS bxL bxP 4 L6 hs P6
 rw [sZ,show dv bxL bxP 4 = true from by unfold dv; rw [show fW bxL bxP 4 = true from by kernel_rfl]; rfl,if_pos rfl] at q2
 have q3 : ae Tryz.prog 53 [.agg (bg bxS),aM bxL,ak bxP,.agg (aK 0 60),.sl .full 0 []] _:=(kL bxS bxL bxP 0 60 [] L6 hs P6 (Nat.zero_le _)).weak (.cons (.refl _) (.cons (.refl _) (.cons (.refl _) (.cons (.refl _) (.cons AV.weak.slnil (.refl _))))))
 rw [Fy [] rfl,kO,show fz bxL [] = [0,0] from by kernel_rfl,Cu] at q3
 have q4 : ae Tryz.prog 53 [.agg (bg bxS),aM bxL,ak bxP,.agg (aK 0 60),.sl .full 1 [[.int .i64 0]]] _:=(kL bxS bxL bxP 0 60 [0] L6 hs P6 (Nat.le_of_ble_eq_true rfl)).weak (.cons (.refl _) (.cons (.refl _) (.cons (.refl _) (.cons (.refl _) (.cons AV.weak.sl (.refl _))))))
 rw [Fy [0] (by kernel_rfl),kO,show fz bxL [0] = [1,0] from by kernel_rfl,ER] at q4
 have q5 : ae Tryz.prog 53 [.agg (bg bxS),aM bxL,ak bxP,.agg (aK 0 60),.sl .full 1 [[.int .i64 2]]] _:=(kL bxS bxL bxP 0 60 [2] L6 hs P6 (Nat.le_of_ble_eq_true rfl)).weak (.cons (.refl _) (.cons (.refl _) (.cons (.refl _) (.cons (.refl _) (.cons AV.weak.sl (.refl _))))))
 rw [Fx] at q5
 have q6:=lT v0
 rw [EP] at q6
 have q7:=lT v1
 rw [EO] at q7
 have q8:=tR v1
 have l1:=FD 1 (by decide) (by decide)
 have l0:=FD 0 (by decide) (by decide)
 have q9:=sv v0
 rw [EP,show (decide ((⟨6,10,[],true⟩ : Fnd).n ≤ bxS 10) && decide (w64 (0 - (loS bxS bxL bxP 0 0 60).n) ≥ 0)) = true from by rw [decide_eq_true (show w64 (0 - (loS bxS bxL bxP 0 0 60).n) ≥ 0 from l0.1)]; rfl] at q9
 have q10:=sv v1
 rw [EO,show (decide ((⟨11,30,[0],true⟩ : Fnd).n ≤ bxS 10) && decide (w64 (0 - (loS bxS bxL bxP 1 0 60).n) ≥ 0)) = false from rfl] at q10
 have q11:=fT bxL L6 hs
 rw [Cv] at q11
 have q12:=fy bxS bxL bxP 1 0 60 L6 hs P6
 rw [v1] at q12
 have q13:=fy bxS bxL bxP 4 0 60 L6 hs P6
 rw [v4] at q13
 have i1 : ae Tryz.prog 46 [au [0,0],.sl .full 1 [[.int .i64 0],[.int .i64 0]]] (.bool true):=by
  have h:=(dH [0,0] [0,0] (by decide)).sl1 (o:=.full)
  rw [decide_eq_true rfl] at h; exact h
 have i2 : ae Tryz.prog 46 [au [1,0],.sl .full 1 [[.int .i64 1],[.int .i64 0]]] (.bool true):=by
  have h:=(dH [1,0] [1,0] (by decide)).sl1 (o:=.full)
  rw [decide_eq_true rfl] at h; exact h
 have i3 : ae Tryz.prog 46 [au [0],.sl .full 1 [[.int .i64 0]]] (.bool true):=by
  have h:=(dH [0] [0] (by decide)).sl1 (o:=.full)
  rw [decide_eq_true rfl] at h; exact h
 have i4 : ae Tryz.prog 46 [au [0,1],.sl .full 1 [[.int .i64 0],[.int .i64 1]]] (.bool true):=by
  have h:=(dH [0,1] [0,1] (by decide)).sl1 (o:=.full)
  rw [decide_eq_true rfl] at h; exact h
 have i5 : ae Tryz.prog 50 [iO [[],[0],[1]],.sl .full 1 [[.sl .full 0 []],[.sl .full 1 [[.int .i64 0]]],[.sl .full 1 [[.int .i64 1]]]]] (.bool true):=by
  have h:=(kj [[],[0],[1]] [[],[0],[1]] (by decide) (fun i hi => by
   match i,hi with
   | 0,_ | 1,_ | 2,_ => decide)).weak (us:=[iO [[],[0],[1]],.sl .full 1 [[.sl .full 0 []],[.sl .full 1 [[.int .i64 0]]],[.sl .full 1 [[.int .i64 1]]]]]) (.cons (.refl _) (.cons (AV.weak.rows (.cons (.cons AV.weak.slnil (.refl _)) (.cons (.cons AV.weak.sl (.refl _)) (.cons (.cons AV.weak.sl (.refl _)) .nil))) (by decide)) (.refl _)))
  rw [decide_eq_true rfl] at h; exact h
 have bl : decide (w64 (0 - (loS bxS bxL bxP 1 0 60).n) ≤ 100) = false → False:=fun h => by have:=of_decide_eq_false h; exact this l1.2
 generalize aL (bG bxL []) = D0 at *
 generalize aL (bG bxL [0]) = D1 at *
 generalize w64 (0 - (loS bxS bxL bxP 1 0 60).n) = lo at *
 generalize (loS bxS bxL bxP 1 0 60).at_ = lt at *
 generalize (loS bxS bxL bxP 1 0 60).what = lw at *
 refine ag aa Tryz.func41 rfl (by kernel_rfl) af (Nat.le_of_ble_eq_true rfl) ?_
 intro F n' w0 m0 hG hro h1
 repeat' first|exact (bl (by assumption)).elim|refine Q1 ?_|refine Q2 ?_|refine Q3 hG aa qd ?_|refine Q4 hG aa qd ?_|refine Q5 hG aa ?_|refine Q6 hG aa ?_|refine Q7 hG aa ?_|refine Q8 hG aa ?_|refine Q9 rfl ?_|refine QF rfl ?_|refine QC rfl ⟨fun h => ?_,fun h => ?_⟩|((conv => whnf); first|refine anF ?_|refine anT ?_|refine anK ?_|refine And.intro (of_decide_eq_true (Eq.refl true)) (Exists.intro _ (And.intro rfl ?_))|refine Exists.intro _ (And.intro (sT) ?_)|refine Exists.intro _ (And.intro (q1) ?_)|refine Exists.intro _ (And.intro (q2) ?_)|refine Exists.intro _ (And.intro (q3) ?_)|refine Exists.intro _ (And.intro (q4) ?_)|refine Exists.intro _ (And.intro (q5) ?_)|refine Exists.intro _ (And.intro (q6) ?_)|refine Exists.intro _ (And.intro (q7) ?_)|refine Exists.intro _ (And.intro (q8) ?_)|refine Exists.intro _ (And.intro (q9) ?_)|refine Exists.intro _ (And.intro (q10) ?_)|refine Exists.intro _ (And.intro (q11) ?_)|refine Exists.intro _ (And.intro (q12) ?_)|refine Exists.intro _ (And.intro (q13) ?_)|refine Exists.intro _ (And.intro (i1) ?_)|refine Exists.intro _ (And.intro (i2) ?_)|refine Exists.intro _ (And.intro (i3) ?_)|refine Exists.intro _ (And.intro (i4) ?_)|refine Exists.intro _ (And.intro (i5) ?_)|refine And.intro (fun h => ?_) (fun h => ?_)|refine Or.inl ?_)
 all_goals exact Ends.mk (Or.inl rfl) (ac rfl)
end Go.Proofs
