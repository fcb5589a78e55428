/- Contracts of the functions and plain facts about what they reckon, part 5: called with arguments that read so, each hands back what is typed. The conditions are those typed. -/
import Derived.Test.YtehdegggapeihaaGreatYConD
set_option linter.unusedSectionVars false
set_option linter.unusedVariables false
set_option linter.unusedSimpArgs false
namespace Go.Proofs
open Go Go.AI
set_option maxRecDepth 10000
theorem vA {α:Type} (p:α→Bool):∀ (l:List α) (k:Nat),bK p l k = -1∨∃ j,j<l.length∧bK p l k=((k+j:Nat):Int)
 | [],k => .inl rfl
 | x::l,k=>by
  rw [bK]
  split
  ·exact .inr ⟨0,by simp,by simp⟩
  ·rcases vA p l (k+1) with h | ⟨j,h1,h2⟩
   ·exact .inl h
   ·exact .inr ⟨j+1,by simpa using h1,by rw [h2]; congr 1; omega⟩
def kS (o:Opt) (lost:List Int):Nat:=if gp o lost≥0 then (gp o lost).toNat else o.sl.length
def flA (s:Nat→Int) (l:List Opt) (ps:List am) (a b:Int):List AV:=aU s++[aK l,al ps,.int .i64 a,.int .i64 b]
def fX (l:List Opt) (lost:List Int):List Int:=l.map fun o=>gp o lost
def dP (l:List Opt) (lost:List Int):List Img:=l.map fun o=>nf o (kS o lost)
def a8 (l:List Opt) (lost:List Int):List Opt:=l.map fun o=>pD o (kS o lost)
def ko (l:List Opt) (lost:List Int):List AV:=[aw lost,aw (fX l lost),fe (dP l lost),bM (aA (a8 l lost))]
theorem xe (o:Opt) (lost:List Int):(gp o lost = -1∧kS o lost=o.sl.length)∨∃ j,j<o.sl.length∧gp o lost=(j:Int)∧kS o lost=j:=by
 rcases vA (fun x:aV => !inP lost x.p) o.sl 0 with h | ⟨j,h1,h2⟩
 ·have h:gp o lost = -1:=h
  exact .inl ⟨h,by unfold kS; rw [if_neg (by omega)]⟩
 ·have h:gp o lost=(j:Int):=by rw [gp,h2]; simp
  exact .inr ⟨j,h1,h,by unfold kS; rw [if_pos (by omega),h]; simp⟩
theorem ic {α:Type} (f:Opt→α) {l:List Opt} {i:Nat} (h:i<l.length):(l.take (i+1)).map f=(l.take i).map f++[f (aG l i)]:=by
 rw [List.take_add_one,List.getElem?_eq_getElem h,cK h]; exact List.map_append
theorem Ao (o:Opt) (k:Nat):(pD o k).sl.length≤o.sl.length:=by
 unfold pD
 split
 ·show (o.sl.take _).length≤_; rw [List.length_take]; omega
 ·exact Nat.le_refl _
theorem ue (n:Nat):∀ l:List Opt,(∀ o∈l,o.sl.length≤n)→(bD l).length≤n*l.length
 | [],_=>Nat.zero_le _
 | o::l,h=>by
  have h1:=ue n l fun p hp=>h p (List.mem_cons_of_mem _ hp)
  have h2:=h o List.mem_cons_self
  simp only [bD,List.flatMap_cons,List.length_append,List.length_map,List.length_cons] at h1 ⊢
  rw [Nat.mul_add]
  omega
set_option maxHeartbeats 16000000 in
theorem D8 (s:Nat→Int) (l:List Opt) (ps:List am) (a b:Int) (lost:List Int) (hl:l.length≤8) (hsl:∀ o∈l,o.sl.length≤6) (hps:ps.length≤1000000) (hlo:lost.length≤1000000)
  (hs:∀ o∈l,ii o ps lost=true) (hc:∀ o∈l,jw o=true):ae Tryz.prog 122 [.agg (flA s l ps a b),aw lost] (.tup [.agg (ko l lost),.bool true]):=by
 refine ag aa Tryz.func122 rfl (by kernel_rfl) af (Nat.le_of_ble_eq_true rfl) ?_
 intro F n' w0 m0 hG hro h1
 repeat' first|refine Q1 ?_|refine Q2 ?_|refine Q3 hG aa dy ?_|refine Q4 hG aa dy ?_|refine Q5 hG aa ?_|refine Q6 hG aa ?_|refine Q7 hG aa ?_|refine Q8 hG aa ?_|refine Q9 rfl ?_|refine QF rfl ?_|refine QC rfl ⟨fun h=>?_,fun h=>?_⟩|((conv=>whnf); first|refine anF ?_|refine anT ?_|refine anK ?_|refine Exists.intro _ (And.intro (ym lost hlo) ?_)|refine And.intro (fun h=>?_) (fun h=>?_)|refine Or.inl ?_)
 refine SPB.resize 4 1 1004001 1 rfl rfl ?_
 refine SPB.resize 4 2 1004002 4 rfl rfl ?_
 refine ap (X:=Nat) (fun x=>⟨[(18,.int .i64 x),(6,.sl (.id 6) 9 ((a8 (l.take x) lost).map aH)),(17,.int .i64 (l.map aH).length),(16,aK l),(5,.bool false),(4,.loc 4 0),(2,.loc 2 0),(1,aw lost)],[(4,[aw lost,.sl (.id 1004001) 1 ((fX (l.take x) lost).map fun h=>[AV.int .i64 h]),.sl (.id 1004002) 4 ((dP (l.take x) lost).map e9),.sl (.id 1004003) 0 []]),(2,flA s l ps a b)]⟩) (fun x=>x≤l.length) (fun x=>l.length - x) 0 (Nat.zero_le _) (ah ?_ ?_) (fun x hx=>?_)
 ·repeat' (first | exact trivial | refine And.intro rfl ?_)
 ·repeat' (first | exact trivial | refine And.intro rfl ?_)
 ·rename Nat=>i
  have hi:=hx
  by_cases hlt_i:i<l.length
  ·have bbk:decide ((i:Int)<((l.map aH).length:Int))=false→False:=fun h=>by have:=of_decide_eq_false h; simp at this; omega
   have hx:=gB hlt_i
   have hm:aG l i∈l:=by rw [cK hlt_i]; exact List.getElem_mem hlt_i
   have hso:=hs _ hm
   have hco:=hc _ hm
   have hso6:=hsl _ hm
   have cS:ae Tryz.prog 198 [.agg (aH (aG l i)),al ps,aw lost] (.tup [.int .i64 (gp (aG l i) lost),.int .i64 0]):=by
    have h:=zG (aG l i) ps lost (by omega) hps hlo
    rw [rO,hso,if_pos rfl] at h; exact h
   have cW:=zu (aG l i) (by omega) hco
   have e1:(a8 (l.take (i+1)) lost).map aH=(a8 (l.take i) lost).map aH++[aH (pD (aG l i) (kS (aG l i) lost))]:=by rw [a8,ic _ hlt_i,List.map_append]; rfl
   have e2:(fX (l.take (i+1)) lost).map (fun h=>[AV.int .i64 h])=(fX (l.take i) lost).map (fun h=>[AV.int .i64 h])++[[.int .i64 (gp (aG l i) lost)]]:=by rw [fX,ic _ hlt_i,List.map_append]; rfl
   have e3:(dP (l.take (i+1)) lost).map e9=(dP (l.take i) lost).map e9++[e9 (nf (aG l i) (kS (aG l i) lost))]:=by rw [dP,ic _ hlt_i,List.map_append]; rfl
   have n1:((a8 (l.take i) lost).map aH).length=i:=by simp [a8]; omega
   have n2:((fX (l.take i) lost).map fun h=>[AV.int .i64 h]).length=i:=by simp [fX]; omega
   have n3:((dP (l.take i) lost).map e9).length=i:=by simp [dP]; omega
   have hkc:=xe (aG l i) lost
   have cF:=fun (j:Nat) (hj:j<(aG l i).sl.length)=>tz (aG l i) j (by omega) hco hj
   generalize (a8 (l.take i) lost).map aH=r1 at e1 n1 ⊢
   generalize ((fX (l.take i) lost).map fun h=>[AV.int .i64 h])=r2 at e2 n2 ⊢
   generalize (dP (l.take i) lost).map e9=r3 at e3 n3 ⊢
   generalize gp (aG l i) lost=n at cS e2 hkc
   generalize kS (aG l i) lost=q at e1 e3 hkc
   generalize aG l i=u at *
   rcases hkc with ⟨rfl,rfl⟩ | ⟨_,hj,rfl,rfl⟩
   ·repeat' first|exact (bbk (by assumption)).elim|refine Q1 ?_|refine Q2 ?_|refine Q3 hG aa dy ?_|refine Q4 hG aa dy ?_|refine Q5 hG aa ?_|refine Q6 hG aa ?_|refine Q7 hG aa ?_|refine Q8 hG aa ?_|refine Q9 rfl ?_|refine QF rfl ?_|refine QC rfl ⟨fun h=>?_,fun h=>?_⟩|((conv=>whnf); first|refine anF ?_|refine anT ?_|refine anK ?_|refine And.intro (Int.natCast_nonneg i) (Exists.intro _ (And.intro hx ?_))|refine Exists.intro _ (And.intro (cS) ?_)|refine Exists.intro _ (And.intro (cW) ?_)|refine And.intro (show (r1.length+1)*88≤70368744177664 by omega) (And.intro (show r1.length+1≤4611686018427387904 by omega) ?_)|refine And.intro (show (r2.length+1)*8≤70368744177664 by omega) (And.intro (show r2.length+1≤4611686018427387904 by omega) ?_)|refine And.intro (show (r3.length+1)*32≤70368744177664 by omega) (And.intro (show r3.length+1≤4611686018427387904 by omega) ?_)|refine And.intro (fun h=>?_) (fun h=>?_)|refine Or.inl ?_)
    refine Exists.intro (i+1) (And.intro hlt_i (And.intro (by omega) (ah ?_ ?_)))
    ·refine And.intro (congrArg some (ao (by omega))) (And.intro (congrArg (fun z=>some (AV.sl (.id 6) 9 z)) (e1.trans (congrArg (r1++·) ?_)).symm) ?_)
     ·rw [pD,if_neg (by omega)]; rfl
     ·repeat' (first | exact trivial | refine And.intro rfl ?_)
    ·refine And.intro (congrArg some ?_) ?_
     ·rw [e2,e3]
      rw [nf,if_neg (by omega)]; rfl
     ·repeat' (first | exact trivial | refine And.intro rfl ?_)
   ·have hjw:IntKind.i64.wrap ((q:Int)+1)=((q+1:Nat):Int):=(ai (by omega) (by omega)).trans (by omega)
    have hj1:0≤IntKind.i64.wrap ((q:Int)+1):=by rw [hjw]; exact Int.natCast_nonneg _
    have hj2:(IntKind.i64.wrap ((q:Int)+1)).toNat≤(u.sl.map ay).length:=by rw [hjw,List.length_map]; omega
    have hrow:((u.sl.map ay).take (IntKind.i64.wrap ((q:Int)+1)).toNat).drop 0=(u.sl.take (q+1)).map ay:=by rw [hjw,List.drop_zero,Int.toNat_natCast,List.map_take]
    have bbn:decide ((q:Int)≥0)=false→False:=fun h=>by have:=of_decide_eq_false h; omega
    have cFj:=cF q hj
    repeat' first|exact (bbk (by assumption)).elim|exact (bbn (by assumption)).elim|refine Q1 ?_|refine Q2 ?_|refine Q3 hG aa dy ?_|refine Q4 hG aa dy ?_|refine Q5 hG aa ?_|refine Q6 hG aa ?_|refine Q7 hG aa ?_|refine Q8 hG aa ?_|refine Q9 rfl ?_|refine QF rfl ?_|refine QC rfl ⟨fun h=>?_,fun h=>?_⟩|((conv=>whnf); first|refine anF ?_|refine anT ?_|refine anK ?_|refine And.intro (Int.natCast_nonneg i) (Exists.intro _ (And.intro hx ?_))|refine Exists.intro _ (And.intro (cS) ?_)|refine Exists.intro _ (And.intro (cW) ?_)|refine Exists.intro _ (And.intro (cFj) ?_)|refine And.intro hj1 (And.intro (Nat.zero_le _) (And.intro hj2 ?_))|refine And.intro (show (r1.length+1)*88≤70368744177664 by omega) (And.intro (show r1.length+1≤4611686018427387904 by omega) ?_)|refine And.intro (show (r2.length+1)*8≤70368744177664 by omega) (And.intro (show r2.length+1≤4611686018427387904 by omega) ?_)|refine And.intro (show (r3.length+1)*32≤70368744177664 by omega) (And.intro (show r3.length+1≤4611686018427387904 by omega) ?_)|refine And.intro (fun h=>?_) (fun h=>?_)|refine Or.inl ?_)
    refine Exists.intro (i+1) (And.intro hlt_i (And.intro (by omega) (ah ?_ ?_)))
    ·refine And.intro (congrArg some (ao (by omega))) (And.intro (congrArg (fun z=>some (AV.sl (.id 6) 9 z)) (e1.trans (congrArg (r1++·) ?_)).symm) ?_)
     ·rw [pD,if_pos hj]
      exact congrArg (fun z=>[[AV.int .i64 u.id,.int .i64 u.ord,.int .i64 u.cl,.int .i64 u.sat,.int .i64 u.a,.int .i64 u.b,.int .i64 u.look,.int .i64 u.size,.sl .no 3 z]]) hrow.symm
     ·repeat' (first | exact trivial | refine And.intro rfl ?_)
    ·refine And.intro (congrArg some ?_) ?_
     ·rw [e2,e3]
      rw [nf,if_pos hj]; rfl
     ·repeat' (first | exact trivial | refine And.intro rfl ?_)
  ·have bbk:decide ((i:Int)<((l.map aH).length:Int))=true→False:=fun h=>by have:=of_decide_eq_true h; simp at this; omega
   have he:l.take i=l:=List.take_of_length_le (by omega)
   rw [he]
   have hw6:∀ o∈a8 l lost,o.sl.length≤6:=fun o ho=>by
    obtain ⟨p,hp,rfl⟩:=List.mem_map.1 ho
    exact Nat.le_trans (Ao _ _) (hsl p hp)
   have hwl:(a8 l lost).length≤8:=by simp [a8]; omega
   have cL:=zH (a8 l lost) (by omega) (fun o ho=>by have:=hw6 o ho; omega) (by have:=ue 6 _ hw6; omega)
   repeat' first|exact (bbk (by assumption)).elim|refine Q1 ?_|refine Q2 ?_|refine Q3 hG aa dy ?_|refine Q4 hG aa dy ?_|refine Q5 hG aa ?_|refine Q6 hG aa ?_|refine Q7 hG aa ?_|refine Q8 hG aa ?_|refine Q9 rfl ?_|refine QF rfl ?_|refine QC rfl ⟨fun h=>?_,fun h=>?_⟩|((conv=>whnf); first|refine anF ?_|refine anT ?_|refine anK ?_|refine Exists.intro _ (And.intro (cL) ?_)|refine And.intro (fun h=>?_) (fun h=>?_)|refine Or.inl ?_)
   exact Ends.mk (Or.inl rfl) (ac rfl)
end Go.Proofs
namespace Go.Proofs
open Go Go.AI
set_option maxRecDepth 10000
def iy (x:Int) (r:List Int):Int:=r.foldl min x
theorem B4 (x:Int) (r:List Int) (hl:r.length≤1000000):ae Tryz.prog 202 [aw (x::r)] (.int .i64 (iy x r)):=by
 have hlen:(((x::r).map fun h=>[AV.int .i64 h]).length:Int)=(r.length:Int)+1:=by simp
 have bb0:decide ((((x::r).map fun h=>[AV.int .i64 h]).length:Int)<1)=true→False:=fun h=>by have:=of_decide_eq_true h; omega
 have hx0:((x::r).map fun h=>[AV.int .i64 h])[((0:Int)).toNat]?=some [.int .i64 x]:=rfl
 refine ag aa Tryz.func202 rfl (by kernel_rfl) af (Nat.le_of_ble_eq_true rfl) ?_
 intro F n' w0 m0 hG hro h1
 repeat' first|exact (bb0 (by assumption)).elim|refine Q1 ?_|refine Q2 ?_|refine Q3 hG aa eM ?_|refine Q4 hG aa eM ?_|refine Q5 hG aa ?_|refine Q6 hG aa ?_|refine Q7 hG aa ?_|refine Q8 hG aa ?_|refine Q9 rfl ?_|refine QF rfl ?_|refine QC rfl ⟨fun h=>?_,fun h=>?_⟩|((conv=>whnf); first|refine anF ?_|refine anT ?_|refine anK ?_|refine And.intro (of_decide_eq_true (Eq.refl true)) (Exists.intro _ (And.intro hx0 ?_))|refine And.intro (fun h=>?_) (fun h=>?_)|refine Or.inl ?_)
 refine ap (X:=Nat) (fun i_=>⟨[(4,.int .i64 ((i_+1:Nat):Int)),(3,.int .i64 (iy x (r.take i_))),(0,aw (x::r))],[]⟩) (fun i_=>i_≤r.length) (fun x=>r.length - x) 0 (Nat.zero_le _) (ah ?_ ?_) (fun i hx=>?_)
 ·repeat' (first | exact trivial | refine And.intro rfl ?_)
 ·repeat' (first | exact trivial | refine And.intro rfl ?_)
 ·have hi:=hx
  by_cases hlt_i:i<r.length
  ·have bbk:decide (((i+1:Nat):Int)<(((x::r).map fun h=>[AV.int .i64 h]).length:Int))=false→False:=fun h=>by have:=of_decide_eq_false h; rw [hlen] at this; omega
   have hx:((x::r).map fun h=>[AV.int .i64 h])[(((i+1:Nat):Int)).toNat]?=some [.int .i64 (r.getD i 0)]:=by rw [Int.toNat_natCast]; simp [List.getElem?_eq_getElem hlt_i]
   have hm:iy x (r.take (i+1))=min (iy x (r.take i)) (r.getD i 0):=by
    rw [iy,fj hlt_i,List.foldl_append]; rfl
   generalize r.getD i 0=u at hx hm
   repeat' first|exact (bbk (by assumption)).elim|refine Q1 ?_|refine Q2 ?_|refine Q3 hG aa eM ?_|refine Q4 hG aa eM ?_|refine Q5 hG aa ?_|refine Q6 hG aa ?_|refine Q7 hG aa ?_|refine Q8 hG aa ?_|refine Q9 rfl ?_|refine QF rfl ?_|refine QC rfl ⟨fun h=>?_,fun h=>?_⟩|((conv=>whnf); first|refine anF ?_|refine anT ?_|refine anK ?_|refine And.intro (Int.natCast_nonneg (i+1)) (Exists.intro _ (And.intro hx ?_))|refine And.intro (fun h=>?_) (fun h=>?_)|refine Or.inl ?_)
   refine Exists.intro (i+1) (And.intro hlt_i (And.intro (by omega) (ah ?_ ?_)))
   ·refine And.intro (congrArg some (ao (by omega))) (And.intro (congrArg (fun z=>some (AV.int .i64 z)) hm.symm) ?_)
    repeat' (first | exact trivial | refine And.intro rfl ?_)
   ·repeat' (first | exact trivial | refine And.intro rfl ?_)
  ·have bbk:decide (((i+1:Nat):Int)<(((x::r).map fun h=>[AV.int .i64 h]).length:Int))=true→False:=fun h=>by have:=of_decide_eq_true h; rw [hlen] at this; omega
   have he:r.take i=r:=List.take_of_length_le (by omega)
   rw [he]
   repeat' first|exact (bbk (by assumption)).elim|refine Q1 ?_|refine Q2 ?_|refine Q3 hG aa eM ?_|refine Q4 hG aa eM ?_|refine Q5 hG aa ?_|refine Q6 hG aa ?_|refine Q7 hG aa ?_|refine Q8 hG aa ?_|refine Q9 rfl ?_|refine QF rfl ?_|refine QC rfl ⟨fun h=>?_,fun h=>?_⟩|((conv=>whnf); first|refine anF ?_|refine anT ?_|refine anK ?_|refine And.intro (fun h=>?_) (fun h=>?_)|refine Or.inl ?_)
   exact Ends.mk (Or.inl rfl) (ac rfl)
structure Fnd where
 n:Int
 at_:Int
 what:List Int
 is:Bool
def vC (x:Fnd):List AV:=[.int .i64 x.n,.int .i64 x.at_,aw x.what,.bool x.is]
def pS (a b:Fnd):Fnd:=if !a.is||(b.is&&decide (b.n>a.n)) then b else a
theorem yB (x y:Fnd):ae Tryz.prog 201 [.agg (vC x),.agg (vC y)] (.agg (vC (pS x y))):=by
 obtain ⟨n,t,w,i⟩:=x
 obtain ⟨n2,t2,w2,i2⟩:=y
 cases i <;> cases i2
 ·refine ag aa Tryz.func201 rfl (by kernel_rfl) af (Nat.le_of_ble_eq_true rfl) ?_
  intro F n' w0 m0 hG hro h1
  repeat' first|refine Q1 ?_|refine Q2 ?_|refine Q3 hG aa du ?_|refine Q4 hG aa du ?_|refine Q5 hG aa ?_|refine Q6 hG aa ?_|refine Q7 hG aa ?_|refine Q8 hG aa ?_|refine Q9 rfl ?_|refine QF rfl ?_|refine QC rfl ⟨fun h=>?_,fun h=>?_⟩|((conv=>whnf); first|refine anF ?_|refine anT ?_|refine anK ?_|refine And.intro (fun h=>?_) (fun h=>?_)|refine Or.inl ?_)
  all_goals refine Ends.mk (Or.inl rfl) (ac (congrArg (fun z=>AV.agg (vC z)) ?_))
  all_goals (clear hG; first | rfl | (simp only [pS]; symm; first | (apply if_pos; simp_all; done) | (apply if_neg; simp_all; done)))
 ·refine ag aa Tryz.func201 rfl (by kernel_rfl) af (Nat.le_of_ble_eq_true rfl) ?_
  intro F n' w0 m0 hG hro h1
  repeat' first|refine Q1 ?_|refine Q2 ?_|refine Q3 hG aa du ?_|refine Q4 hG aa du ?_|refine Q5 hG aa ?_|refine Q6 hG aa ?_|refine Q7 hG aa ?_|refine Q8 hG aa ?_|refine Q9 rfl ?_|refine QF rfl ?_|refine QC rfl ⟨fun h=>?_,fun h=>?_⟩|((conv=>whnf); first|refine anF ?_|refine anT ?_|refine anK ?_|refine And.intro (fun h=>?_) (fun h=>?_)|refine Or.inl ?_)
  all_goals refine Ends.mk (Or.inl rfl) (ac (congrArg (fun z=>AV.agg (vC z)) ?_))
  all_goals (clear hG; first | rfl | (simp only [pS]; symm; first | (apply if_pos; simp_all; done) | (apply if_neg; simp_all; done)))
 ·refine ag aa Tryz.func201 rfl (by kernel_rfl) af (Nat.le_of_ble_eq_true rfl) ?_
  intro F n' w0 m0 hG hro h1
  repeat' first|refine Q1 ?_|refine Q2 ?_|refine Q3 hG aa du ?_|refine Q4 hG aa du ?_|refine Q5 hG aa ?_|refine Q6 hG aa ?_|refine Q7 hG aa ?_|refine Q8 hG aa ?_|refine Q9 rfl ?_|refine QF rfl ?_|refine QC rfl ⟨fun h=>?_,fun h=>?_⟩|((conv=>whnf); first|refine anF ?_|refine anT ?_|refine anK ?_|refine And.intro (fun h=>?_) (fun h=>?_)|refine Or.inl ?_)
  all_goals refine Ends.mk (Or.inl rfl) (ac (congrArg (fun z=>AV.agg (vC z)) ?_))
  all_goals (clear hG; first | rfl | (simp only [pS]; symm; first | (apply if_pos; simp_all; done) | (apply if_neg; simp_all; done)))
 ·refine ag aa Tryz.func201 rfl (by kernel_rfl) af (Nat.le_of_ble_eq_true rfl) ?_
  intro F n' w0 m0 hG hro h1
  repeat' first|refine Q1 ?_|refine Q2 ?_|refine Q3 hG aa du ?_|refine Q4 hG aa du ?_|refine Q5 hG aa ?_|refine Q6 hG aa ?_|refine Q7 hG aa ?_|refine Q8 hG aa ?_|refine Q9 rfl ?_|refine QF rfl ?_|refine QC rfl ⟨fun h=>?_,fun h=>?_⟩|((conv=>whnf); first|refine anF ?_|refine anT ?_|refine anK ?_|refine And.intro (fun h=>?_) (fun h=>?_)|refine Or.inl ?_)
  all_goals refine Ends.mk (Or.inl rfl) (ac (congrArg (fun z=>AV.agg (vC z)) ?_))
  all_goals (clear hG; first | rfl | (simp only [pS]; symm; first | (apply if_pos; simp_all; done) | (apply if_neg; simp_all; done)))
def fC (l:List (Int×Int)):Int×Int:=l.foldl (fun r x=>if x.2>r.1 then (x.2,x.1) else r) (0,-1)
set_option maxHeartbeats 4000000 in
theorem zD (l:List Img) (hl:l.length≤1000000) (hv:dB l=true):ae Tryz.prog 62 [fe l] (.tup [.int .i64 (fC (cp l)).1,.int .i64 (fC (cp l)).2,.int .i64 0]):=by
 have cV:ae Tryz.prog 105 [fe l] (.bool true):=by rw [← hv]; exact tS l hl
 have hu:∀ x∈l,0≤x.u∧x.u≤1000000:=by
  simp only [dB,Bool.and_eq_true] at hv
  exact kp l [] hv.1
 have hseq:=tW l hl hu
 refine ag aa Tryz.func62 rfl (by kernel_rfl) af (Nat.le_of_ble_eq_true rfl) ?_
 intro F n' w0 m0 hG hro h1
 repeat' first|refine Q1 ?_|refine Q2 ?_|refine Q3 hG aa dT ?_|refine Q4 hG aa dT ?_|refine Q5 hG aa ?_|refine Q6 hG aa ?_|refine Q7 hG aa ?_|refine Q8 hG aa ?_|refine Q9 rfl ?_|refine QF rfl ?_|refine QC rfl ⟨fun h=>?_,fun h=>?_⟩|((conv=>whnf); first|refine anF ?_|refine anT ?_|refine anK ?_|refine Exists.intro _ (And.intro (cV) ?_)|refine Exists.intro _ (And.intro (zL l) ?_)|refine And.intro (fun h=>?_) (fun h=>?_)|refine Or.inl ?_)
 generalize cp l=items at hseq
 refine ⟨SP.rangeM2 hG hro h1 (α:=Int×Int) pA (f:=171) (cap:=[.ref [fe l]]) (items:=items) rfl hseq (fun _=>rfl) (fun _=>[(6,.loc 6 0),(5,.loc 5 0)]) [6,5] (fun _=>rfl)
  (fun p=>[(6,[.int .i64 (fC p).2]),(5,[.int .i64 (fC p).1])]) (ah ?_ ?_) (by kernel_rfl) (by decide) ?_ ?_⟩
 ·repeat' (first | exact trivial | refine And.intro rfl ?_)
 ·repeat' (first | exact trivial | refine And.intro rfl ?_)
 ·intro F' n'' m' hG' _ _ pre x rest hx
  clear hG
  have hG:=hG'
  have hm:fC (pre++[x])=if x.2>(fC pre).1 then (x.2,x.1) else fC pre:=by rw [fC,List.foldl_append]; rfl
  generalize fC pre=r at hm
  obtain ⟨n,t⟩:=r
  refine SPB.out (Q1 ?_)
  repeat' first|refine Q1 ?_|refine Q2 ?_|refine Q3 hG aa dT ?_|refine Q4 hG aa dT ?_|refine Q5 hG aa ?_|refine Q6 hG aa ?_|refine Q7 hG aa ?_|refine Q8 hG aa ?_|refine Q9 rfl ?_|refine QF rfl ?_|refine QC rfl ⟨fun h=>?_,fun h=>?_⟩|((conv=>whnf); first|refine anF ?_|refine anT ?_|refine anK ?_|refine And.intro (fun h=>?_) (fun h=>?_)|refine Or.inl ?_)
  refine And.intro (ah ?_ ?_) ?_
  ·repeat' (first | exact trivial | refine And.intro rfl ?_)
  ·repeat' (first | exact trivial | refine And.intro rfl ?_)
  refine SPB.out ?_
  repeat' first|refine Q1 ?_|refine Q2 ?_|refine Q3 hG aa dT ?_|refine Q4 hG aa dT ?_|refine Q5 hG aa ?_|refine Q6 hG aa ?_|refine Q7 hG aa ?_|refine Q8 hG aa ?_|refine Q9 rfl ?_|refine QF rfl ?_|refine QC rfl ⟨fun h=>?_,fun h=>?_⟩|((conv=>whnf); first|refine anF ?_|refine anT ?_|refine anK ?_|refine And.intro (fun h=>?_) (fun h=>?_)|refine Or.inl ?_)
  ·rw [if_pos (of_decide_eq_true (by assumption))] at hm
   refine ah ?_ ?_
   ·repeat' (first | exact trivial | refine And.intro rfl ?_)
   ·dsimp only; rw [hm]; repeat' (first | exact trivial | refine And.intro rfl ?_)
  ·rw [if_neg (of_decide_eq_false (by assumption))] at hm
   refine ah ?_ ?_
   ·repeat' (first | exact trivial | refine And.intro rfl ?_)
   ·dsimp only; rw [hm]; repeat' (first | exact trivial | refine And.intro rfl ?_)
 ·conv=>whnf
  repeat' first|refine Q1 ?_|refine Q2 ?_|refine Q3 hG aa dT ?_|refine Q4 hG aa dT ?_|refine Q5 hG aa ?_|refine Q6 hG aa ?_|refine Q7 hG aa ?_|refine Q8 hG aa ?_|refine Q9 rfl ?_|refine QF rfl ?_|refine QC rfl ⟨fun h=>?_,fun h=>?_⟩|((conv=>whnf); first|refine anF ?_|refine anT ?_|refine anK ?_|refine And.intro (fun h=>?_) (fun h=>?_)|refine Or.inl ?_)
  all_goals exact Ends.mk (Or.inl rfl) (ac rfl)
theorem Cr (s:Nat→Int) (l:List Opt) (ps:List am) (a b:Int) (lost:List Int) (I:List Img) (n t:Int) (h1:dP l lost=I) (h2:fC (cp I)=(n,t)) (hl:I.length≤1000000) (hv:dB I=true) :
  ae Tryz.prog 127 [.agg (flA s l ps a b),.agg (ko l lost)] (.tup [.int .i64 n,.int .i64 t,.bool true]):=by
 have c:=zD I hl hv
 rw [h2] at c
 rw [ko,h1]
 refine ag aa Tryz.func127 rfl (by kernel_rfl) af (Nat.le_of_ble_eq_true rfl) ?_
 intro F n' w0 m0 hG hro h1
 repeat' first|refine Q1 ?_|refine Q2 ?_|refine Q3 hG aa o3 ?_|refine Q4 hG aa o3 ?_|refine Q5 hG aa ?_|refine Q6 hG aa ?_|refine Q7 hG aa ?_|refine Q8 hG aa ?_|refine Q9 rfl ?_|refine QF rfl ?_|refine QC rfl ⟨fun h=>?_,fun h=>?_⟩|((conv=>whnf); first|refine anF ?_|refine anT ?_|refine anK ?_|refine Exists.intro _ (And.intro (c) ?_)|refine And.intro (fun h=>?_) (fun h=>?_)|refine Or.inl ?_)
 all_goals exact Ends.mk (Or.inl rfl) (ac rfl)
def lvL (s:Nat→Int) (D:List au) (a b:Int):List Int:=(cR (s 11) (fP s D a b)).2
theorem zM (s:Nat→Int) (l:List Opt) (ps:List am) (a b:Int) (lost:List Int) (D:List au) (x:Int) (r:List Int) (h1:aA (a8 l lost)=D) (h2:lvL s D a b=x::r) (hD:D.length≤1000000) (hv:fN s D a b=true) (hr:r.length≤100000) :
  ae Tryz.prog 129 [.agg (flA s l ps a b),.agg (ko l lost)] (.tup [.int .i64 (w64 (0 - iy x r)),.int .i64 (w64 (a+bK (fun y=>iy x r==y) (x::r) 0)),.bool true]):=by
 have c:=EU s D a b hD hv
 rw [show (cR (s 11) (fP s D a b)).2=x::r from h2] at c
 have c2:=B4 x r (by omega)
 have c3:=qZ (x::r) (iy x r) (by simp; omega)
 have bb0:((((x::r).map fun h=>[AV.int .i64 h]).length:Int)==0)=true→False:=fun h=>by have:=eq_of_beq h; simp at this; omega
 rw [ko,h1]
 generalize iy x r=m at *
 generalize bK (fun y=>m==y) (x::r) 0=j at *
 refine ag aa Tryz.func129 rfl (by kernel_rfl) af (Nat.le_of_ble_eq_true rfl) ?_
 intro F n' w0 m0 hG hro h1
 repeat' first|exact (bb0 (by assumption)).elim|refine Q1 ?_|refine Q2 ?_|refine Q3 hG aa o2 ?_|refine Q4 hG aa o2 ?_|refine Q5 hG aa ?_|refine Q6 hG aa ?_|refine Q7 hG aa ?_|refine Q8 hG aa ?_|refine Q9 rfl ?_|refine QF rfl ?_|refine QC rfl ⟨fun h=>?_,fun h=>?_⟩|((conv=>whnf); first|refine anF ?_|refine anT ?_|refine anK ?_|refine Exists.intro _ (And.intro (c) ?_)|refine Exists.intro _ (And.intro (c2) ?_)|refine Exists.intro _ (And.intro (c3) ?_)|refine And.intro (fun h=>?_) (fun h=>?_)|refine Or.inl ?_)
 all_goals exact Ends.mk (Or.inl rfl) (ac rfl)
def aX (s:Nat→Int) (l:List Opt) (ps:List am) (k a b:Int):Bool:=jc k&&aY s l ps a b&&decide (((az l).length:Int)≤6)
theorem gx (s:Nat→Int) (l:List Opt) (ps:List am) (k a b:Int) (hl:l.length≤1000000) (hs:dQ l) (hps:ps.length≤1000000):ae Tryz.prog 51 [.agg (aU s),aK l,al ps,.int .i64 k,.agg (aD a b)] (.bool (aX s l ps k a b)):=by
 have hfl:(((az l).map fun h=>[AV.int .i64 h]).length:Int)=((az l).length:Int):=by rw [List.length_map]
 refine ag aa Tryz.func51 rfl (by kernel_rfl) af (Nat.le_of_ble_eq_true rfl) ?_
 intro F n' w0 m0 hG hro h1
 repeat' first|refine Q1 ?_|refine Q2 ?_|refine Q3 hG aa qQ ?_|refine Q4 hG aa qQ ?_|refine Q5 hG aa ?_|refine Q6 hG aa ?_|refine Q7 hG aa ?_|refine Q8 hG aa ?_|refine Q9 rfl ?_|refine QF rfl ?_|refine QC rfl ⟨fun h=>?_,fun h=>?_⟩|((conv=>whnf); first|refine anF ?_|refine anT ?_|refine anK ?_|refine Exists.intro _ (And.intro (zw s l ps a b hl hs hps) ?_)|refine Exists.intro _ (And.intro (iI l hl hs) ?_)|refine And.intro (fun h=>?_) (fun h=>?_)|refine Or.inl ?_)
 all_goals refine Ends.mk (Or.inl rfl) (ac (congrArg AV.bool ?_))
 all_goals (try rw [hfl] at *)
 all_goals (clear hG; grind [aX,jc])
end Go.Proofs
namespace Go.Proofs
open Go Go.AI
set_option maxRecDepth 10000
section
variable {Γ:aO} {s:St} {K:Exit→St→Prop}
theorem SPB.unown {c:Code} (d j k sz sz2:Nat) {cs:List AV} (h1:AI.get s.b d=some cs) (h2:cs[j]?=some (.sl (.id k) sz [])) (h:SPB Γ ⟨s.t,(d,bZ cs j (.sl .no sz2 []))::s.b⟩ c K):SPB Γ s c K:=by
 refine ⟨fun a w hI=>h.out a w ?_⟩
 obtain ⟨⟨cx,hW,ht⟩,hs,hd,hrn⟩:=hI
 have hne:cs≠[]:=fun e=>by rw [e] at h2; simp at h2
 refine ⟨⟨cx,hW.rebox h1 hne (eB _ _ _) (fun x hx=>?_) (fun vs hvs i x v q1 q2=>?_),ht⟩,hs,hd,hrn⟩
 ·obtain ⟨p,hp⟩:=List.getElem?_of_mem hx
  rw [da] at hp
  split at hp
  ·cases hp; rfl
  ·exact (hW.box d cs h1 hne).2.2.1 x (List.mem_of_getElem? hp)
 ·rw [da] at q1
  split at q1
  ·rename_i hj
   cases q1
   have hr:=hvs i _ v (by rw [← hj.1]; exact h2) q2
   obtain ⟨r1,r2,r3⟩:=(show RC1 cx (.sl (.id k) sz []) v from hr)
   show RD cx.m _ v
   match r3 with
   | .sl _ _ _ base len cap ho hf hl hc _ _ b off hb g _ _=>exact .sl _ _ _ _ _ _ (by intro k hk; cases hk) (by intro hk; cases hk) hl hc (by simp) (by simp) b off hb g (by simp) (by simp)
  ·exact hvs i x v q1 q2
end
theorem ww {s:Nat→Int} {ps:List am} {z:Int} (hpl:ps.length≤64):∀ (l:List aV) (t t2:Int),t2≤t→bE s ps z t l=true→rf ps t2 l=true
 | [],_,_,_,_=>rfl
 | x::r,t,t2,ht,h=>by
  simp only [bE,gc,Bool.and_eq_true,inS,decide_eq_true_eq,Bool.not_eq_true'] at h
  obtain ⟨⟨⟨h0,h1⟩,⟨⟨⟨_,h2⟩,h3⟩,h4⟩,_⟩,h5⟩:=h
  rw [ai (by omega) (by omega)] at h1
  rw [rf,ww hpl r x.b x.b (Int.le_refl _) h5,Bool.and_true]
  simp only [slL,Bool.and_eq_true,Bool.not_eq_true',decide_eq_false_iff_not]
  omega
theorem kO {s:Nat→Int} {o:Opt} {ps:List am} (hps:bz ps=true) (ho:0≤o.b) (h:dG s o ps=true):bB o ps=true:=by
 have hl:=(rV hps).2
 simp only [dG,Bool.and_eq_true,inS,decide_eq_true_eq] at h
 obtain ⟨⟨_,h1⟩,h2⟩:=h
 have h3:=ww hl o.sl o.b 0 ho h2
 simp only [bB,Bool.and_eq_true,Bool.not_eq_true',decide_eq_false_iff_not,h3,hps,and_true]
 omega
theorem rD {s:Nat→Int} {l:List Opt} {ps:List am} {a b:Int} (h:aY s l ps a b=true) {lost:List Int} (hs:gG ps lost=true):∀ o∈l,ii o ps lost=true:=fun o ho=>by
 obtain ⟨_,hr,_,_,hp,hf,_⟩:=ba.1 h
 obtain ⟨_,_,hfit⟩:=pY.of h
 have h1:=hfit o ho
 unfold ii
 rw [hs,Bool.and_true]
 exact kO hp (by have:=h1.shot; omega) (hf o ho).1
theorem uV {s:Nat→Int} {l:List Opt} {ps:List am} {a b:Int} (h:aY s l ps a b=true) {lost:List Int} (hs:gG ps lost=true) (hlo:lost.length≤1000000):ae Tryz.prog 122 [.agg (flA s l ps a b),aw lost] (.tup [.agg (ko l lost),.bool true]):=by
 obtain ⟨hl,_,_,_,hp,_,_⟩:=ba.1 h
 obtain ⟨_,_,hfit⟩:=pY.of h
 exact D8 s l ps a b lost hl (fun o ho=>(hfit o ho).len.2) (by have:=(rV hp).2; omega) hlo (rD h hs) (fun o ho=>(hfit o ho).can)
def FM:Fnd:=⟨0,0,[],false⟩
def bu (m:List Int→Int×Int) (L:List (List Int)):Fnd:=L.foldl (fun x y=>pS x ⟨(m y).1,(m y).2,y,true⟩) FM
theorem mC (m:List Int→Int×Int) (L:List (List Int)) (y:List Int):bu m (L++[y])=pS (bu m L) ⟨(m y).1,(m y).2,y,true⟩:=by rw [bu,List.foldl_append]; rfl
set_option maxHeartbeats 8000000 in
theorem qx (s:Nat→Int) (l:List Opt) (ps:List am) (k a b:Int) (g:FuncId) (m:List Int→Int×Int) (hl:l.length≤1000000) (hs:dQ l) (hps:ps.length≤1000000) (hv:aX s l ps k a b=true)
  (hw:∀ lost∈bj (az l) ps k,ae Tryz.prog 122 [.agg (flA s l ps a b),aw lost] (.tup [.agg (ko l lost),.bool true]))
  (hg:∀ lost∈bj (az l) ps k,ae Tryz.prog g [.agg (flA s l ps a b),.agg (ko l lost)] (.tup [.int .i64 (m lost).1,.int .i64 (m lost).2,.bool true])) :
  ae Tryz.prog 126 [.agg (aU s),aK l,al ps,.int .i64 k,.agg (aD a b),.fn g] (.tup [.agg (vC (bu m (bj (az l) ps k))),.int .i64 0]):=by
 have cV:=gx s l ps k a b hl hs hps
 rw [hv] at cV
 have hf6:(az l).length≤6:=by
  simp only [aX,Bool.and_eq_true,decide_eq_true_eq] at hv; omega
 have hseq:=nH (az l) ps k hf6 hps
 refine ag aa Tryz.func126 rfl (by kernel_rfl) af (Nat.le_of_ble_eq_true rfl) ?_
 intro F n' w0 m0 hG hro h1
 repeat' first|refine Q1 ?_|refine Q2 ?_|refine Q3 hG aa cr ?_|refine Q4 hG aa cr ?_|refine Q5 hG aa ?_|refine Q6 hG aa ?_|refine Q7 hG aa ?_|refine Q8 hG aa ?_|refine Q9 rfl ?_|refine QF rfl ?_|refine QC rfl ⟨fun h=>?_,fun h=>?_⟩|((conv=>whnf); first|refine anF ?_|refine anT ?_|refine anK ?_|refine Exists.intro _ (And.intro (cV) ?_)|refine Exists.intro _ (And.intro (iI l hl hs) ?_)|refine Exists.intro _ (And.intro (uW _ _ _) ?_)|refine And.intro (fun h=>?_) (fun h=>?_)|refine Or.inl ?_)
 generalize bj (az l) ps k=items at hseq hw hg
 refine SPB.unown 12 2 1012002 0 1 rfl rfl ?_
 conv=>whnf
 refine ⟨SP.rangeM2 hG hro h1 (α:=List Int) (fun l=>[aw l]) (f:=191) (cap:=[.ref [aw (az l)],.ref [al ps],.ref [.int .i64 k]]) (items:=items) rfl hseq (fun _=>rfl) (fun _=>[(14,.loc 14 0),(13,.loc 13 0),(12,.loc 12 0),(11,.loc 11 0)]) [14,13,12,11] (fun _=>rfl)
  (fun p=>[(14,flA s l ps a b),(13,[.int .i64 0]),(12,vC (bu m p)),(11,[.fn g])]) (ah ?_ ?_) (by kernel_rfl) (by decide) ?_ ?_⟩
 ·repeat' (first | exact trivial | refine And.intro rfl ?_)
 ·repeat' (first | exact trivial | refine And.intro rfl ?_)
 ·intro F' n'' m' hG' _ _ pre x rest hx
  clear hG
  have hG:=hG'
  have hxm:x∈items:=by rw [hx]; simp
  have cW:=hw x hxm
  have cM:=hg x hxm
  have hb:=mC m pre x
  generalize bu m pre=z at hb
  refine SPB.out (Q4 hG aa cr ?_)
  conv=>whnf
  refine And.intro rfl (And.intro (ah ?_ ?_) ?_)
  ·repeat' (first | exact trivial | refine And.intro rfl ?_)
  ·repeat' (first | exact trivial | refine And.intro rfl ?_)
  refine SPB.out ?_
  repeat' first|refine Q1 ?_|refine Q2 ?_|refine Q3 hG aa cr ?_|refine Q4 hG aa cr ?_|refine Q5 hG aa ?_|refine Q6 hG aa ?_|refine Q7 hG aa ?_|refine Q8 hG aa ?_|refine Q9 rfl ?_|refine QF rfl ?_|refine QC rfl ⟨fun h=>?_,fun h=>?_⟩|((conv=>whnf); first|refine anF ?_|refine anT ?_|refine anK ?_|refine Exists.intro _ (And.intro (cW) ?_)|refine Exists.intro _ (And.intro (cM) ?_)|refine Exists.intro _ (And.intro (yB z ⟨(m x).1,(m x).2,x,true⟩) ?_)|refine And.intro (fun h=>?_) (fun h=>?_)|refine Or.inl ?_)
  refine ah ?_ ?_
  ·repeat' (first | exact trivial | refine And.intro rfl ?_)
  ·dsimp only; rw [hb]; repeat' (first | exact trivial | refine And.intro rfl ?_)
 ·conv=>whnf
  repeat' first|refine Q1 ?_|refine Q2 ?_|refine Q3 hG aa cr ?_|refine Q4 hG aa cr ?_|refine Q5 hG aa ?_|refine Q6 hG aa ?_|refine Q7 hG aa ?_|refine Q8 hG aa ?_|refine Q9 rfl ?_|refine QF rfl ?_|refine QC rfl ⟨fun h=>?_,fun h=>?_⟩|((conv=>whnf); first|refine anF ?_|refine anT ?_|refine anK ?_|refine And.intro (fun h=>?_) (fun h=>?_)|refine Or.inl ?_)
  all_goals exact Ends.mk (Or.inl rfl) (ac rfl)
theorem qy (s:Nat→Int) (l:List Opt) (ps:List am) (k a b:Int) (g:FuncId) (hl:l.length≤1000000) (hs:dQ l) (hps:ps.length≤1000000) (hv:aX s l ps k a b=false) :
  ae Tryz.prog 126 [.agg (aU s),aK l,al ps,.int .i64 k,.agg (aD a b),.fn g] (.tup [.agg [.int .i64 0,.int .i64 0,.sl .full 0 [],.bool false],.int .i64 210]):=by
 have cV:=gx s l ps k a b hl hs hps
 rw [hv] at cV
 refine ag aa Tryz.func126 rfl (by kernel_rfl) af (Nat.le_of_ble_eq_true rfl) ?_
 intro F n' w0 m0 hG hro h1
 repeat' first|refine Q1 ?_|refine Q2 ?_|refine Q3 hG aa cr ?_|refine Q4 hG aa cr ?_|refine Q5 hG aa ?_|refine Q6 hG aa ?_|refine Q7 hG aa ?_|refine Q8 hG aa ?_|refine Q9 rfl ?_|refine QF rfl ?_|refine QC rfl ⟨fun h=>?_,fun h=>?_⟩|((conv=>whnf); first|refine anF ?_|refine anT ?_|refine anK ?_|refine Exists.intro _ (And.intro (cV) ?_)|refine And.intro (fun h=>?_) (fun h=>?_)|refine Or.inl ?_)
 all_goals exact Ends.mk (Or.inl rfl) (ac rfl)
end Go.Proofs
namespace Go.Proofs
open Go Go.AI
set_option maxRecDepth 10000
theorem uz {s:Nat→Int} {l:List Opt} {ps:List am} {a b:Int} (h:aY s l ps a b=true) (k:Opt→Nat):∀ o∈l,(nf o (k o)).i=o.id∧(nf o (k o)).u=o.size∧(nf o (k o)).a=o.a∧o.a<(nf o (k o)).b∧(nf o (k o)).b≤fE o:=fun o ho=>by
 obtain ⟨_,_,hfit⟩:=pY.of h
 have hf:=hfit o ho
 have hs:=hf.shot
 have hla:=hf.last
 have hc:=hf.can
 simp only [jw,Bool.and_eq_true] at hc
 have hge:=uD _ _ hc.1
 unfold nf
 split
 ·rename_i hk
  have h1:=hge _ (zY hk)
  have h2:=hf.slot _ (zY hk)
  exact ⟨rfl,rfl,rfl,by show _<(er _ _).b; omega,h2.2.2⟩
 ·exact ⟨rfl,rfl,rfl,by show _<fE _; omega,Int.le_refl _⟩
theorem sD {s:Nat→Int} {l:List Opt} {ps:List am} {a b:Int} (h:aY s l ps a b=true) (k:Opt→Nat):dB (l.map fun o=>nf o (k o))=true:=by
 obtain ⟨hl,hr,_,hsat,_,_,hids⟩:=ba.1 h
 obtain ⟨_,_,hfit⟩:=pY.of h
 have hq:=Ab hsat
 have himg:=uz h k
 rw [dB,Bool.and_eq_true]
 refine ⟨(rX _ []).2 ⟨fun x hx=>?_,?_,fun p hp=>nomatch hp⟩,by simp; omega⟩
 ·obtain ⟨o,ho,rfl⟩:=List.mem_map.1 hx
  obtain ⟨e1,e2,e3,e4,e5⟩:=himg o ho
  have hf:=hfit o ho
  have f1:=hf.id; have f2:=hf.size; have f3:=hf.shot; have f4:=hf.last
  rw [e1,e2,e3]
  refine ⟨f1,⟨f2.1,by omega⟩,f3.1,e4,by omega⟩
 ·rw [List.pairwise_map]
  refine List.Pairwise.imp_of_mem (fun {x y} hx hy hxy=>?_) hids
  rw [(himg x hx).1,(himg y hy).1]; exact hxy
theorem jn {s:Nat→Int} {l:List Opt} {ps:List am} {a b:Int} (h:aY s l ps a b=true) (k:Opt→Nat):dW (l.map fun o=>pD o (k o)):=by
 obtain ⟨_,hg,_⟩:=pY.of h
 refine ⟨by have:=hg.n; simpa using this,fun o ho=>?_,fun o ho x hx=>?_⟩
 ·obtain ⟨p,hp,rfl⟩:=List.mem_map.1 ho
  have:=hg.shot p hp
  unfold pD
  split
  ·exact ⟨this.1,this.2.1,this.2.2.1,by show (List.take _ _).length≤6; rw [List.length_take]; omega⟩
  ·exact this
 ·obtain ⟨p,hp,rfl⟩:=List.mem_map.1 ho
  refine hg.slot p hp x ?_
  unfold pD at hx
  split at hx
  ·exact List.mem_of_mem_take hx
  ·exact hx
theorem qn {s:Nat→Int} {l:List Opt} {ps:List am} {a b:Int} (h:aY s l ps a b=true) {D:List Opt} (hg:dW D):fN s (aA D) a b=true:=by
 obtain ⟨_,hr,hab,hsat,_,_,_⟩:=ba.1 h
 have hw:w64 (b - a)=b - a:=ai (by omega) (by omega)
 simp only [fN,Bool.and_eq_true,decide_eq_true_eq,hg.proper,hsat,and_true,dK,hw]
 omega
theorem qo (c:Int):∀ (pre:List (Int×Int)) (r:Int×List Int),(pre.foldl (gi c) r).2.length=r.2.length+pre.length
 | [],r=>by simp
 | p::pre,r=>by rw [List.foldl_cons,qo c pre]; simp [gi]; omega
theorem vu (s:Nat→Int) (D:List au) (a b:Int):(lvL s D a b).length=(b - a).toNat:=by
 rw [lvL,cR,qo]; simp [fP,c9]
def pkM (l:List Opt) (lost:List Int):Int×Int:=fC (cp (dP l lost))
def kI (l:List Int):Int:=match l with | []=>0 | x::r=>iy x r
def loM (s:Nat→Int) (l:List Opt) (a b:Int) (lost:List Int):Int×Int:=(w64 (0 - kI (lvL s (aA (a8 l lost)) a b)),w64 (a+bK (fun y=>kI (lvL s (aA (a8 l lost)) a b)==y) (lvL s (aA (a8 l lost)) a b) 0))
def pkS (l:List Opt) (ps:List am) (k:Int):Fnd:=bu (pkM l) (bj (az l) ps k)
def loS (s:Nat→Int) (l:List Opt) (ps:List am) (k a b:Int):Fnd:=bu (loM s l a b) (bj (az l) ps k)
theorem rK {f:List Int} {ps:List am} {k:Int} {x:List Int} (h:x∈bj f ps k):ey ps x k=true∧∃ b,b<2 ^ f.length∧x=fk f b:=by
 obtain ⟨h1,h2⟩:=List.mem_filter.1 h
 obtain ⟨b,hb,rfl⟩:=List.mem_map.1 h1
 exact ⟨h2,b,List.mem_range.1 hb,rfl⟩
theorem BL {ps:List am} {x:List Int} {k:Int} (h:ey ps x k=true):gG ps x=true:=by
 simp only [ey,Bool.and_eq_true] at h; exact h.1.2
theorem bQ {s:Nat→Int} {l:List Opt} {ps:List am} {k a b:Int} (hv:aX s l ps k a b=true):aY s l ps a b=true∧(az l).length≤6∧0≤k∧k≤3:=by
 simp only [aX,jc,Bool.and_eq_true,decide_eq_true_eq] at hv
 exact ⟨hv.1.2,by omega,hv.1.1⟩
theorem fA {s:Nat→Int} {l:List Opt} {ps:List am} {a b:Int} (h:aY s l ps a b=true):l.length≤1000000∧dQ l∧ps.length≤1000000:=by
 obtain ⟨hl,_,_,_,hp,_,_⟩:=ba.1 h
 obtain ⟨hk,_,_⟩:=pY.of h
 have:=(rV hp).2
 exact ⟨by omega,hk.sl,by omega⟩
theorem vc {f:List Int} {b:Nat} (hf:f.length≤6):(fk f b).length≤1000000:=Nat.le_trans (jm f b f.length) (by omega)
theorem u4 {s:Nat→Int} {l:List Opt} {ps:List am} {k a b:Int} (hv:aX s l ps k a b=true):∀ lost∈bj (az l) ps k,ae Tryz.prog 122 [.agg (flA s l ps a b),aw lost] (.tup [.agg (ko l lost),.bool true]):=fun lost hm=>by
 obtain ⟨ht,hf,_⟩:=bQ hv
 obtain ⟨ha,bb,_,rfl⟩:=rK hm
 exact uV ht (BL ha) (vc hf)
theorem zJ {s:Nat→Int} {l:List Opt} {ps:List am} {a b:Int} (ht:aY s l ps a b=true) (lost:List Int):ae Tryz.prog 127 [.agg (flA s l ps a b),.agg (ko l lost)] (.tup [.int .i64 (pkM l lost).1,.int .i64 (pkM l lost).2,.bool true]):=
 Cr s l ps a b lost _ _ _ rfl rfl (by have:=(ba.1 ht).1; simp [dP]; omega) (sD ht _)
theorem yl {s:Nat→Int} {l:List Opt} {ps:List am} {a b:Int} (ht:aY s l ps a b=true) (lost:List Int):ae Tryz.prog 129 [.agg (flA s l ps a b),.agg (ko l lost)] (.tup [.int .i64 (loM s l a b lost).1,.int .i64 (loM s l a b lost).2,.bool true]):=by
 obtain ⟨_,hr,hab,_⟩:=ba.1 ht
 have hg:dW (a8 l lost):=jn ht _
 have hlen:=vu s (aA (a8 l lost)) a b
 have hd:=m6 hg
 have hv:=qn ht hg
 unfold loM
 generalize hlv:lvL s (aA (a8 l lost)) a b=lv at hlen
 cases lv with
 | nil=>simp at hlen; omega
 | cons x r=>exact zM s l ps a b lost _ x r rfl hlv (by omega) hv (by simp at hlen; omega)
theorem j7 {s:Nat→Int} {l:List Opt} {ps:List am} {k a b:Int} (hv:aX s l ps k a b=true):ae Tryz.prog 56 [.agg (aU s),aK l,al ps,.int .i64 k,.agg (aD a b)] (.tup [.int .i64 (pkS l ps k).n,.int .i64 (pkS l ps k).at_,aw (pkS l ps k).what,.int .i64 0]):=by
 obtain ⟨ht,hf,_⟩:=bQ hv
 obtain ⟨hl,hs,hp⟩:=fA ht
 have c:=qx s l ps k a b 127 (pkM l) hl hs hp hv (u4 hv) (fun lost _=>zJ ht lost)
 have e:bu (pkM l) (bj (az l) ps k)=pkS l ps k:=rfl
 rw [e] at c
 generalize pkS l ps k=z at c
 refine ag aa Tryz.func56 rfl (by kernel_rfl) af (Nat.le_of_ble_eq_true rfl) ?_
 intro F n' w0 m0 hG hro h1
 repeat' first|refine Q1 ?_|refine Q2 ?_|refine Q3 hG aa ja ?_|refine Q4 hG aa ja ?_|refine Q5 hG aa ?_|refine Q6 hG aa ?_|refine Q7 hG aa ?_|refine Q8 hG aa ?_|refine Q9 rfl ?_|refine QF rfl ?_|refine QC rfl ⟨fun h=>?_,fun h=>?_⟩|((conv=>whnf); first|refine anF ?_|refine anT ?_|refine anK ?_|refine Exists.intro _ (And.intro (c) ?_)|refine And.intro (fun h=>?_) (fun h=>?_)|refine Or.inl ?_)
 all_goals exact Ends.mk (Or.inl rfl) (ac rfl)
theorem pV {s:Nat→Int} {l:List Opt} {ps:List am} {k a b:Int} (hv:aX s l ps k a b=true):ae Tryz.prog 58 [.agg (aU s),aK l,al ps,.int .i64 k,.agg (aD a b)] (.tup [.int .i64 (w64 (0 - (loS s l ps k a b).n)),.int .i64 (loS s l ps k a b).at_,aw (loS s l ps k a b).what,.int .i64 0]):=by
 obtain ⟨ht,hf,_⟩:=bQ hv
 obtain ⟨hl,hs,hp⟩:=fA ht
 have c:=qx s l ps k a b 129 (loM s l a b) hl hs hp hv (u4 hv) (fun lost _=>yl ht lost)
 have e:bu (loM s l a b) (bj (az l) ps k)=loS s l ps k a b:=rfl
 rw [e] at c
 generalize loS s l ps k a b=z at c
 refine ag aa Tryz.func58 rfl (by kernel_rfl) af (Nat.le_of_ble_eq_true rfl) ?_
 intro F n' w0 m0 hG hro h1
 repeat' first|refine Q1 ?_|refine Q2 ?_|refine Q3 hG aa iZ ?_|refine Q4 hG aa iZ ?_|refine Q5 hG aa ?_|refine Q6 hG aa ?_|refine Q7 hG aa ?_|refine Q8 hG aa ?_|refine Q9 rfl ?_|refine QF rfl ?_|refine QC rfl ⟨fun h=>?_,fun h=>?_⟩|((conv=>whnf); first|refine anF ?_|refine anT ?_|refine anK ?_|refine Exists.intro _ (And.intro (c) ?_)|refine And.intro (fun h=>?_) (fun h=>?_)|refine Or.inl ?_)
 all_goals exact Ends.mk (Or.inl rfl) (ac rfl)
theorem mG {s:Nat→Int} {l:List Opt} {ps:List am} {k a b:Int} (hv:aX s l ps k a b=true):ae Tryz.prog 60 [.agg (aU s),aK l,al ps,.int .i64 k,.agg (aD a b)] (.bool (decide ((pkS l ps k).n≤s 10)&&decide (w64 (0 - (loS s l ps k a b).n)≥0))):=by
 have c1:=j7 hv
 have c2:=pV hv
 generalize pkS l ps k=z at *
 generalize w64 (0 - (loS s l ps k a b).n)=m at *
 generalize loS s l ps k a b=z2 at *
 refine ag aa Tryz.func60 rfl (by kernel_rfl) af (Nat.le_of_ble_eq_true rfl) ?_
 intro F n' w0 m0 hG hro h1
 repeat' first|refine Q1 ?_|refine Q2 ?_|refine Q3 hG aa iY ?_|refine Q4 hG aa iY ?_|refine Q5 hG aa ?_|refine Q6 hG aa ?_|refine Q7 hG aa ?_|refine Q8 hG aa ?_|refine Q9 rfl ?_|refine QF rfl ?_|refine QC rfl ⟨fun h=>?_,fun h=>?_⟩|((conv=>whnf); first|refine anF ?_|refine anT ?_|refine anK ?_|refine Exists.intro _ (And.intro (c1) ?_)|refine Exists.intro _ (And.intro (c2) ?_)|refine And.intro (fun h=>?_) (fun h=>?_)|refine Or.inl ?_)
 all_goals refine Ends.mk (Or.inl rfl) (ac (congrArg AV.bool ?_))
 all_goals (clear hG c1 c2; first | grind | (simp_all; done) | (simp_all; omega))
theorem tt (s:Nat→Int) (l:List Opt) (ps:List am) (k a b:Int) (hl:l.length≤1000000) (hs:dQ l) (hps:ps.length≤1000000) (hv:aX s l ps k a b=false):ae Tryz.prog 56 [.agg (aU s),aK l,al ps,.int .i64 k,.agg (aD a b)] (.tup [.int .i64 0,.int .i64 0,.sl .full 0 [],.int .i64 210]):=by
 have c:=qy s l ps k a b 127 hl hs hps hv
 refine ag aa Tryz.func56 rfl (by kernel_rfl) af (Nat.le_of_ble_eq_true rfl) ?_
 intro F n' w0 m0 hG hro h1
 repeat' first|refine Q1 ?_|refine Q2 ?_|refine Q3 hG aa ja ?_|refine Q4 hG aa ja ?_|refine Q5 hG aa ?_|refine Q6 hG aa ?_|refine Q7 hG aa ?_|refine Q8 hG aa ?_|refine Q9 rfl ?_|refine QF rfl ?_|refine QC rfl ⟨fun h=>?_,fun h=>?_⟩|((conv=>whnf); first|refine anF ?_|refine anT ?_|refine anK ?_|refine Exists.intro _ (And.intro (c) ?_)|refine And.intro (fun h=>?_) (fun h=>?_)|refine Or.inl ?_)
 all_goals exact Ends.mk (Or.inl rfl) (ac rfl)
theorem uZ (s:Nat→Int) (l:List Opt) (ps:List am) (k a b:Int) (hl:l.length≤1000000) (hs:dQ l) (hps:ps.length≤1000000) (hv:aX s l ps k a b=false):ae Tryz.prog 58 [.agg (aU s),aK l,al ps,.int .i64 k,.agg (aD a b)] (.tup [.int .i64 0,.int .i64 0,.sl .full 0 [],.int .i64 210]):=by
 have c:=qy s l ps k a b 129 hl hs hps hv
 refine ag aa Tryz.func58 rfl (by kernel_rfl) af (Nat.le_of_ble_eq_true rfl) ?_
 intro F n' w0 m0 hG hro h1
 repeat' first|refine Q1 ?_|refine Q2 ?_|refine Q3 hG aa iZ ?_|refine Q4 hG aa iZ ?_|refine Q5 hG aa ?_|refine Q6 hG aa ?_|refine Q7 hG aa ?_|refine Q8 hG aa ?_|refine Q9 rfl ?_|refine QF rfl ?_|refine QC rfl ⟨fun h=>?_,fun h=>?_⟩|((conv=>whnf); first|refine anF ?_|refine anT ?_|refine anK ?_|refine Exists.intro _ (And.intro (c) ?_)|refine And.intro (fun h=>?_) (fun h=>?_)|refine Or.inl ?_)
 all_goals exact Ends.mk (Or.inl rfl) (ac rfl)
theorem zK (s:Nat→Int) (l:List Opt) (ps:List am) (k a b:Int) (hl:l.length≤1000000) (hs:dQ l) (hps:ps.length≤1000000) (hv:aX s l ps k a b=false):ae Tryz.prog 60 [.agg (aU s),aK l,al ps,.int .i64 k,.agg (aD a b)] (.bool false):=by
 have c1:=tt s l ps k a b hl hs hps hv
 have c2:=uZ s l ps k a b hl hs hps hv
 refine ag aa Tryz.func60 rfl (by kernel_rfl) af (Nat.le_of_ble_eq_true rfl) ?_
 intro F n' w0 m0 hG hro h1
 repeat' first|refine Q1 ?_|refine Q2 ?_|refine Q3 hG aa iY ?_|refine Q4 hG aa iY ?_|refine Q5 hG aa ?_|refine Q6 hG aa ?_|refine Q7 hG aa ?_|refine Q8 hG aa ?_|refine Q9 rfl ?_|refine QF rfl ?_|refine QC rfl ⟨fun h=>?_,fun h=>?_⟩|((conv=>whnf); first|refine anF ?_|refine anT ?_|refine anK ?_|refine Exists.intro _ (And.intro (c1) ?_)|refine Exists.intro _ (And.intro (c2) ?_)|refine And.intro (fun h=>?_) (fun h=>?_)|refine Or.inl ?_)
 all_goals exact Ends.mk (Or.inl rfl) (ac rfl)
def jg (f l:List Int) (i:Nat):Bool:=inP f (ax l i)&&(decide (i=0)||decide (ax l (i - 1)<ax l i))
def f9 (f l:List Int):Bool:=(List.range l.length).all (jg f l)
theorem uC {f l:List Int} {i:Nat} (hi:i<l.length) (h:jg f l i=false):f9 f l=false:=by
 unfold f9
 rw [List.all_eq_false]
 exact ⟨i,List.mem_range.2 hi,by rw [h]; simp⟩
theorem sJ {s:Nat→Int} {l:List Opt} {ps:List am} {a b:Int} (h:aY s l ps a b=true) {lost:List Int} (hf:f9 (az l) lost=true):gG ps lost=true:=by
 obtain ⟨_,hr,_,_,hp,hft,_⟩:=ba.1 h
 have hpl:=(rV hp).2
 have hin:∀ x∈az l,0≤x∧x<(ps.length:Int):=fun x hx=>by
  rw [uv,tJ,List.mem_flatMap] at hx
  obtain ⟨o,ho,hx⟩:=hx
  obtain ⟨y,hy,rfl⟩:=List.mem_map.1 hx
  have hfo:=(hft o (List.mem_of_mem_take ho)).1
  simp only [dG,Bool.and_eq_true] at hfo
  have hall:∀ (sl:List aV) (t:Int),bE s ps o.size t sl=true→∀ z∈sl,0≤z.p∧z.p<(ps.length:Int):=fun sl=>by
   induction sl with
   | nil=>intro _ _ z hz; cases hz
   | cons x r ih=>
    intro t ht z hz
    simp only [bE,gc,Bool.and_eq_true,inS,decide_eq_true_eq] at ht
    rcases List.mem_cons.1 hz with e | hz
    ·subst e
     have:=ht.1.1
     rw [ai (by omega) (by omega)] at this
     omega
    ·exact ih _ ht.2 z hz
  exact hall o.sl o.b hfo.2 y (List.mem_of_mem_take hy)
 unfold gG
 rw [hp,Bool.and_true,List.all_eq_true]
 intro i hi
 unfold f9 at hf
 rw [List.all_eq_true] at hf
 have h1:=hf i hi
 simp only [jg,inP,Bool.and_eq_true,List.any_eq_true,beq_iff_eq] at h1
 obtain ⟨⟨y,hy,e⟩,h2⟩:=h1
 have h3:=hin y hy
 simp only [kJ,Bool.and_eq_true,decide_eq_true_eq]
 rw [e]
 rw [e] at h2
 exact ⟨h3,h2⟩
def ki (s:Nat→Int) (l:List Opt) (ps:List am) (a b:Int) (lost:List Int):AV := .tup (if (aX s l ps 0 a b&&f9 (az l) lost)=true then [.agg (ko l lost),.int .i64 0] else [.agg [.sl .full 0 [],.sl .full 0 [],.sl .full 0 [],.sl .full 0 []],.int .i64 210])
set_option maxHeartbeats 4000000 in
theorem pU (s:Nat→Int) (l:List Opt) (ps:List am) (a b:Int) (lost:List Int) (hl:l.length≤1000000) (hs:dQ l) (hps:ps.length≤1000000) (hlo:lost.length≤1000000):ae Tryz.prog 53 [.agg (aU s),aK l,al ps,.agg (aD a b),aw lost] (ki s l ps a b lost):=by
 have cV:=gx s l ps 0 a b hl hs hps
 have cFk:=iI l hl hs
 cases hv:aX s l ps 0 a b with
 | false=>
  rw [hv] at cV
  rw [ki,hv,Bool.false_and,if_neg (by decide)]
  refine ag aa Tryz.func53 rfl (by kernel_rfl) af (Nat.le_of_ble_eq_true rfl) ?_
  intro F n' w0 m0 hG hro h1
  repeat' first|refine Q1 ?_|refine Q2 ?_|refine Q3 hG aa dU ?_|refine Q4 hG aa dU ?_|refine Q5 hG aa ?_|refine Q6 hG aa ?_|refine Q7 hG aa ?_|refine Q8 hG aa ?_|refine Q9 rfl ?_|refine QF rfl ?_|refine QC rfl ⟨fun h=>?_,fun h=>?_⟩|((conv=>whnf); first|refine anF ?_|refine anT ?_|refine anK ?_|refine Exists.intro _ (And.intro (cV) ?_)|refine And.intro (fun h=>?_) (fun h=>?_)|refine Or.inl ?_)
  all_goals exact Ends.mk (Or.inl rfl) (ac rfl)
 | true=>
  rw [hv] at cV
  obtain ⟨ht,hf6,_⟩:=bQ hv
  have cC:=fun x=>kY (az l) x (by omega)
  have cW:=fun h:f9 (az l) lost=true=>uV ht (sJ ht h) hlo
  rw [ki,hv,Bool.true_and]
  generalize hfk:az l=f at *
  refine ag aa Tryz.func53 rfl (by kernel_rfl) af (Nat.le_of_ble_eq_true rfl) ?_
  intro F n' w0 m0 hG hro h1
  repeat' first|refine Q1 ?_|refine Q2 ?_|refine Q3 hG aa dU ?_|refine Q4 hG aa dU ?_|refine Q5 hG aa ?_|refine Q6 hG aa ?_|refine Q7 hG aa ?_|refine Q8 hG aa ?_|refine Q9 rfl ?_|refine QF rfl ?_|refine QC rfl ⟨fun h=>?_,fun h=>?_⟩|((conv=>whnf); first|refine anF ?_|refine anT ?_|refine anK ?_|refine Exists.intro _ (And.intro (cV) ?_)|refine Exists.intro _ (And.intro (cFk) ?_)|refine And.intro (fun h=>?_) (fun h=>?_)|refine Or.inl ?_)
  refine ap (X:=Nat) (fun x=>⟨[(28,.int .i64 x),(27,.int .i64 (lost.map fun h=>[AV.int .i64 h]).length),(26,aw lost),(12,aw f),(10,.loc 10 0),(8,.loc 8 0),(5,.loc 5 0),(4,aw lost),(2,al ps),(1,aK l)],[(10,[.sl (.id 1010000) 0 [],.sl (.id 1010001) 0 [],.sl (.id 1010002) 0 [],.sl (.id 1010003) 0 []]),(8,aD a b),(5,aU s)]⟩) (fun x=>x≤lost.length∧(List.range x).all (jg f lost)=true) (fun x=>lost.length - x) 0 ⟨Nat.zero_le _,rfl⟩ (ah ?_ ?_) (fun x hx=>?_)
  ·repeat' (first | exact trivial | refine And.intro rfl ?_)
  ·repeat' (first | exact trivial | refine And.intro rfl ?_)
  ·rename Nat=>i
   obtain ⟨hi,hall⟩:=hx
   by_cases hlt_i:i<lost.length
   ·have bbk:decide ((i:Int)<((lost.map fun h=>[AV.int .i64 h]).length:Int))=false→False:=fun h=>by have:=of_decide_eq_false h; simp at this; omega
    have hx:=el hlt_i
    have hw:(i:Int)>0→IntKind.i64.wrap ((i:Int) - 1)=((i - 1:Nat):Int):=fun h=>(ai (by omega) (by omega)).trans (by omega)
    have hp0:decide ((i:Int)>0)=true→0≤IntKind.i64.wrap ((i:Int) - 1):=fun h=>by rw [hw (of_decide_eq_true h)]; omega
    have hp:decide ((i:Int)>0)=true→(lost.map fun h=>[AV.int .i64 h])[(IntKind.i64.wrap ((i:Int) - 1)).toNat]?=some [.int .i64 (ax lost (i - 1))]:=fun h=>by rw [hw (of_decide_eq_true h)]; exact el (by omega)
    have hok:jg f lost i=(inP f (ax lost i)&&(decide (i=0)||decide (ax lost (i - 1)<ax lost i))):=rfl
    have cCi:=cC (ax lost i)
    generalize ax lost (i - 1)=v at hp hok
    generalize ax lost i=u at hx hok cCi
    repeat' first|exact (bbk (by assumption)).elim|refine Q1 ?_|refine Q2 ?_|refine Q3 hG aa dU ?_|refine Q4 hG aa dU ?_|refine Q5 hG aa ?_|refine Q6 hG aa ?_|refine Q7 hG aa ?_|refine Q8 hG aa ?_|refine Q9 rfl ?_|refine QF rfl ?_|refine QC rfl ⟨fun h=>?_,fun h=>?_⟩|((conv=>whnf); first|refine anF ?_|refine anT ?_|refine anK ?_|refine And.intro (Int.natCast_nonneg i) (Exists.intro _ (And.intro hx ?_))|refine Exists.intro _ (And.intro (cCi) ?_)|refine And.intro (hp0 (by assumption)) (Exists.intro _ (And.intro (hp (by assumption)) ?_))|refine And.intro (fun h=>?_) (fun h=>?_)|refine Or.inl ?_)
    all_goals first
     |((try dsimp only)
       refine Ends.mk (Or.inl rfl) (ac ?_)
       rw [if_neg (by rw [uC hlt_i (by rw [hok]; clear hG; grind)]; decide)]
       rfl)
     | skip
    all_goals (refine Exists.intro (i+1) (And.intro ?_ (And.intro (by omega) (ah ?_ ?_))))
    all_goals first
     |(refine And.intro (congrArg some (ao (by omega))) ?_
       repeat' (first | exact trivial | refine And.intro rfl ?_))
     |((repeat' (first | exact trivial | refine And.intro rfl ?_)); done)
     |(exact ⟨hlt_i,by rw [nG,hall,hok]; clear hG; grind⟩)
   ·have bbk:decide ((i:Int)<((lost.map fun h=>[AV.int .i64 h]).length:Int))=true→False:=fun h=>by have:=of_decide_eq_true h; simp at this; omega
    have he:i=lost.length:=by omega
    rw [he] at hall
    have hfs:f9 f lost=true:=hall
    have cWl:=cW hfs
    rw [if_pos hfs]
    repeat' first|exact (bbk (by assumption)).elim|refine Q1 ?_|refine Q2 ?_|refine Q3 hG aa dU ?_|refine Q4 hG aa dU ?_|refine Q5 hG aa ?_|refine Q6 hG aa ?_|refine Q7 hG aa ?_|refine Q8 hG aa ?_|refine Q9 rfl ?_|refine QF rfl ?_|refine QC rfl ⟨fun h=>?_,fun h=>?_⟩|((conv=>whnf); first|refine anF ?_|refine anT ?_|refine anK ?_|refine Exists.intro _ (And.intro (cWl) ?_)|refine And.intro (fun h=>?_) (fun h=>?_)|refine Or.inl ?_)
    exact Ends.mk (Or.inl rfl) (ac rfl)
end Go.Proofs
namespace Go.Proofs
open Go Go.AI
def BP (m:List Int→Int×Int) (L:List (List Int)) (x:Fnd):Prop:=(L=[]∧x=FM)∨(x.is=true∧x.what∈L∧x.n=(m x.what).1∧x.at_=(m x.what).2∧∀ y∈L,(m y).1≤x.n)
theorem BP.step {m:List Int→Int×Int} {L:List (List Int)} {x:Fnd} (h:BP m L x) (y:List Int):BP m (L++[y]) (pS x ⟨(m y).1,(m y).2,y,true⟩):=by
 refine .inr ?_
 rcases h with ⟨rfl,rfl⟩ | ⟨h1,h2,h3,h4,h5⟩
 ·refine ⟨rfl,by simp [pS,FM],rfl,rfl,fun z hz=>?_⟩
  simp only [List.nil_append,List.mem_singleton] at hz
  subst hz
  exact Int.le_refl _
 ·unfold pS
  simp only [h1,Bool.not_true,Bool.false_or,Bool.true_and]
  split
  ·rename_i hg
   have hg:=of_decide_eq_true hg
   refine ⟨rfl,by simp,rfl,rfl,fun z hz=>?_⟩
   show _≤(m y).1
   rcases List.mem_append.1 hz with hz | hz
   ·have:=h5 z hz; omega
   ·rw [List.mem_singleton.1 hz]; exact Int.le_refl _
  ·rename_i hg
   have hg:¬ (m y).1>x.n:=fun h=>hg (decide_eq_true h)
   refine ⟨h1,List.mem_append_left _ h2,h3,h4,fun z hz=>?_⟩
   rcases List.mem_append.1 hz with hz | hz
   ·exact h5 z hz
   ·rw [List.mem_singleton.1 hz]; omega
theorem BP.fold {m:List Int→Int×Int}:∀ (L pre:List (List Int)) (x:Fnd),BP m pre x→BP m (pre++L) (L.foldl (fun x y=>pS x ⟨(m y).1,(m y).2,y,true⟩) x)
 | [],pre,x,h=>by simpa using h
 | y::L,pre,x,h=>by
  have:=BP.fold L (pre++[y]) _ (h.step y)
  simpa using this
theorem uK (m:List Int→Int×Int) (L:List (List Int)):BP m L (bu m L):=by
 have:=BP.fold (m:=m) L [] FM (.inl ⟨rfl,rfl⟩)
 rw [List.nil_append] at this; exact this
theorem AH {m:List Int→Int×Int} {L:List (List Int)} (h:L≠[]):(bu m L).what∈L∧(bu m L).n=(m (bu m L).what).1∧(bu m L).at_=(m (bu m L).what).2∧∀ y∈L,(m y).1≤(bu m L).n:=by
 rcases uK m L with ⟨h1,_⟩ | ⟨_,h1⟩
 ·exact absurd h1 h
 ·exact h1
theorem CR {f:List Int} {ps:List am} {k:Int} (hp:bz ps=true) (h0:0≤k) (h3:k≤3):[]∈bj f ps k:=by
 unfold bj dC
 rw [List.mem_filter,List.mem_map]
 refine ⟨⟨0,List.mem_range.2 (Nat.two_pow_pos _),?_⟩,?_⟩
 ·unfold fk eq
  rw [List.filterMap_eq_nil_iff]
  intro i _
  simp [vL]
 ·simp only [ey,jc,gG,rZ,As,hp,Bool.and_eq_true,decide_eq_true_eq]
  simp; omega
theorem rm {f:List Int} {ps:List am} {k:Int} (hp:bz ps=true) (h0:0≤k) (h3:k≤3):bj f ps k≠[]:=fun e=>by
 have:=CR (f:=f) hp h0 h3
 rw [e] at this; cases this
theorem xR:∀ (l:List Int) (a b:Int),asc l→(∀ x∈l,a≤x∧x<b)→a≤b→(l.length:Int)≤b - a
 | [],a,b,_,_,h=>by simp; omega
 | x::l,a,b,hl,hx,h=>by
  obtain ⟨h1,h2⟩:=List.pairwise_cons.1 hl
  have hx0:=hx x List.mem_cons_self
  have:=xR l (x+1) b h2 (fun y hy=>⟨by have:=h1 y hy; omega,(hx y (List.mem_cons_of_mem _ hy)).2⟩) (by omega)
  rw [List.length_cons]; omega
theorem DA {s:Nat→Int} {l:List Opt} {ps:List am} {a b:Int} (h:aY s l ps a b=true):∀ x∈az l,0≤x∧x<(ps.length:Int):=fun x hx=>by
 have hf:f9 (az l) [x]=true:=by
  unfold f9
  rw [List.all_eq_true]
  intro i hi
  have:i=0:=by have:=List.mem_range.1 hi; simp at this; omega
  subst this
  simp [jg,inP,ax,hx]
 have hs:=sJ h hf
 have:=rn hs (i:=0) (by simp)
 simpa [ax] using this
theorem lk {s:Nat→Int} {l:List Opt} {ps:List am} {a b:Int} (h:aY s l ps a b=true):(az l).length≤ps.length:=by
 have:=xR (az l) 0 ps.length (pJ l) (DA h) (by omega)
 omega
theorem kq {s:Nat→Int} {l:List Opt} {ps:List am} {a b k:Int} (h:aY s l ps a b=true) (h6:ps.length≤6) (h0:0≤k) (h3:k≤3):aX s l ps k a b=true:=by
 have:=lk h
 simp only [aX,jc,h,Bool.and_eq_true,decide_eq_true_eq,and_true]
 omega
theorem Fl {s:Nat→Int} {l:List Opt} {ps:List am} {a b k:Int} (h:aY s l ps a b=true) (h6:ps.length≤6) (h0:0≤k) (h3:k≤3):c8 l ps k=false:=by
 have hf:=lk h
 obtain ⟨hl,_,_,_,hp,hft,_⟩:=ba.1 h
 obtain ⟨_,_,hfit⟩:=pY.of h
 have hlv:(l.any fun o => !bB o ps)=false:=by
  rw [List.any_eq_false]
  intro o ho
  have h1:=hfit o ho
  rw [kO hp (by have:=h1.shot; omega) (hft o ho).1]; simp
 simp only [c8,fR,hlv,hp,Bool.not_true,Bool.or_false,Bool.or_eq_false_iff,decide_eq_false_iff_not]
 omega
end Go.Proofs
namespace Go.Proofs
open Go Go.AI
set_option maxRecDepth 10000
set_option maxHeartbeats 4000000 in
theorem dV (l m:List Int) (hl:l.length≤1000000):ae Tryz.prog 46 [aw l,aw m] (.bool (decide (l=m))):=by
 have hlm:((l.map (fun h=>[AV.int .i64 h])).length:Int)=(l.length:Int):=by rw [List.length_map]
 have hmm:((m.map (fun h=>[AV.int .i64 h])).length:Int)=(m.length:Int):=by rw [List.length_map]
 refine ag aa Tryz.func46 rfl (by kernel_rfl) af (Nat.le_of_ble_eq_true rfl) ?_
 intro F n' w0 m0 hG hro h1
 repeat' first|refine Q1 ?_|refine Q2 ?_|refine Q3 hG aa fK ?_|refine Q4 hG aa fK ?_|refine Q5 hG aa ?_|refine Q6 hG aa ?_|refine Q7 hG aa ?_|refine Q8 hG aa ?_|refine Q9 rfl ?_|refine QF rfl ?_|refine QC rfl ⟨fun h=>?_,fun h=>?_⟩|((conv=>whnf); first|refine anF ?_|refine anT ?_|refine anK ?_|refine And.intro (fun h=>?_) (fun h=>?_)|refine Or.inl ?_)
 all_goals first
  |(refine Ends.mk (Or.inl rfl) (ac (congrArg AV.bool ?_))
    have h:=(by assumption:(((l.map (fun h=>[AV.int .i64 h])).length:Int) !=((m.map (fun h=>[AV.int .i64 h])).length:Int))=true)
    rw [hlm,hmm] at h
    exact (decide_eq_false fun e=>by rw [e] at h; simp at h).symm)
  | skip
 have hll:l.length=m.length:=by
  have h:=(by assumption:(((l.map (fun h=>[AV.int .i64 h])).length:Int) !=((m.map (fun h=>[AV.int .i64 h])).length:Int))=false)
  rw [hlm,hmm] at h
  simp at h; omega
 refine ap (X:=Nat) (fun x=>⟨[(5,.int .i64 x),(1,aw m),(0,aw l)],[]⟩) (fun x=>x≤l.length∧l.take x=m.take x) (fun x=>l.length - x) 0 ⟨Nat.zero_le _,rfl⟩ (ah ?_ ?_) (fun x hx=>?_)
 ·repeat' (first | exact trivial | refine And.intro rfl ?_)
 ·repeat' (first | exact trivial | refine And.intro rfl ?_)
 ·rename Nat=>i
  obtain ⟨hi,ht⟩:=hx
  by_cases hlt_i:i<l.length
  ·have bbk:decide ((i:Int)<((l.map (fun h=>[AV.int .i64 h])).length:Int))=false→False:=fun h=>by have:=of_decide_eq_false h; simp at this; omega
   have hx:=fO (f:=(fun h=>[AV.int .i64 h])) 0 hlt_i
   have hy:=fO (f:=(fun h=>[AV.int .i64 h])) 0 (show i<m.length by omega)
   have hn1:=bw 0 hlt_i
   have hn2:=bw 0 (show i<m.length by omega)
   have hne:l.getD i 0≠m.getD i 0→decide (l=m)=false:=fun h=>decide_eq_false fun e=>h (by rw [e])
   generalize l.getD i 0=u at *
   generalize m.getD i 0=v at *
   repeat' first|exact (bbk (by assumption)).elim|refine Q1 ?_|refine Q2 ?_|refine Q3 hG aa fK ?_|refine Q4 hG aa fK ?_|refine Q5 hG aa ?_|refine Q6 hG aa ?_|refine Q7 hG aa ?_|refine Q8 hG aa ?_|refine Q9 rfl ?_|refine QF rfl ?_|refine QC rfl ⟨fun h=>?_,fun h=>?_⟩|((conv=>whnf); first|refine anF ?_|refine anT ?_|refine anK ?_|refine And.intro (Int.natCast_nonneg i) (Exists.intro _ (And.intro hx ?_))|refine And.intro (Int.natCast_nonneg i) (Exists.intro _ (And.intro hy ?_))|refine And.intro (fun h=>?_) (fun h=>?_)|refine Or.inl ?_)
   all_goals first
    |(refine Ends.mk (Or.inl rfl) (ac (congrArg AV.bool ?_))
      exact (hne fun e=>by subst e; have h:=(by assumption:(u !=u)=true); simp at h).symm)
    | skip
   refine Exists.intro (i+1) (And.intro ⟨hlt_i,?_⟩ (And.intro (by omega) (ah ?_ ?_)))
   ·rw [hn1,hn2,ht]
    have e:u=v:=by
     have h:=(by assumption:(u !=v)=false)
     simpa using h
    rw [e]
   ·refine And.intro (congrArg some (ao (by omega))) ?_
    repeat' (first | exact trivial | refine And.intro rfl ?_)
   ·repeat' (first | exact trivial | refine And.intro rfl ?_)
  ·have bbk:decide ((i:Int)<((l.map (fun h=>[AV.int .i64 h])).length:Int))=true→False:=fun h=>by have:=of_decide_eq_true h; simp at this; omega
   have he:l.take i=l:=List.take_of_length_le (by omega)
   have he2:m.take i=m:=List.take_of_length_le (by omega)
   rw [he,he2] at ht
   repeat' first|exact (bbk (by assumption)).elim|refine Q1 ?_|refine Q2 ?_|refine Q3 hG aa fK ?_|refine Q4 hG aa fK ?_|refine Q5 hG aa ?_|refine Q6 hG aa ?_|refine Q7 hG aa ?_|refine Q8 hG aa ?_|refine Q9 rfl ?_|refine QF rfl ?_|refine QC rfl ⟨fun h=>?_,fun h=>?_⟩|((conv=>whnf); first|refine anF ?_|refine anT ?_|refine anK ?_|refine And.intro (fun h=>?_) (fun h=>?_)|refine Or.inl ?_)
   exact Ends.mk (Or.inl rfl) (ac (congrArg AV.bool (decide_eq_true ht).symm))
set_option maxHeartbeats 4000000 in
theorem xZ (l m:List (List Int)) (hl:l.length≤1000000) (hin:∀ i,i<l.length→(l.getD i []).length≤1000000):ae Tryz.prog 50 [ka l,ka m] (.bool (decide (l=m))):=by
 have hlm:((l.map (fun x=>[aw x])).length:Int)=(l.length:Int):=by rw [List.length_map]
 have hmm:((m.map (fun x=>[aw x])).length:Int)=(m.length:Int):=by rw [List.length_map]
 refine ag aa Tryz.func50 rfl (by kernel_rfl) af (Nat.le_of_ble_eq_true rfl) ?_
 intro F n' w0 m0 hG hro h1
 repeat' first|refine Q1 ?_|refine Q2 ?_|refine Q3 hG aa fJ ?_|refine Q4 hG aa fJ ?_|refine Q5 hG aa ?_|refine Q6 hG aa ?_|refine Q7 hG aa ?_|refine Q8 hG aa ?_|refine Q9 rfl ?_|refine QF rfl ?_|refine QC rfl ⟨fun h=>?_,fun h=>?_⟩|((conv=>whnf); first|refine anF ?_|refine anT ?_|refine anK ?_|refine And.intro (fun h=>?_) (fun h=>?_)|refine Or.inl ?_)
 all_goals first
  |(refine Ends.mk (Or.inl rfl) (ac (congrArg AV.bool ?_))
    have h:=(by assumption:(((l.map (fun x=>[aw x])).length:Int) !=((m.map (fun x=>[aw x])).length:Int))=true)
    rw [hlm,hmm] at h
    exact (decide_eq_false fun e=>by rw [e] at h; simp at h).symm)
  | skip
 have hll:l.length=m.length:=by
  have h:=(by assumption:(((l.map (fun x=>[aw x])).length:Int) !=((m.map (fun x=>[aw x])).length:Int))=false)
  rw [hlm,hmm] at h
  simp at h; omega
 refine ap (X:=Nat) (fun x=>⟨[(5,.int .i64 x),(1,ka m),(0,ka l)],[]⟩) (fun x=>x≤l.length∧l.take x=m.take x) (fun x=>l.length - x) 0 ⟨Nat.zero_le _,rfl⟩ (ah ?_ ?_) (fun x hx=>?_)
 ·repeat' (first | exact trivial | refine And.intro rfl ?_)
 ·repeat' (first | exact trivial | refine And.intro rfl ?_)
 ·rename Nat=>i
  obtain ⟨hi,ht⟩:=hx
  by_cases hlt_i:i<l.length
  ·have bbk:decide ((i:Int)<((l.map (fun x=>[aw x])).length:Int))=false→False:=fun h=>by have:=of_decide_eq_false h; simp at this; omega
   have hx:=fO (f:=(fun x=>[aw x])) [] hlt_i
   have hy:=fO (f:=(fun x=>[aw x])) [] (show i<m.length by omega)
   have hn1:=bw [] hlt_i
   have hn2:=bw [] (show i<m.length by omega)
   have hne:l.getD i []≠m.getD i []→decide (l=m)=false:=fun h=>decide_eq_false fun e=>h (by rw [e])
   have cI:=dV (l.getD i []) (m.getD i []) (hin i hlt_i)
   generalize l.getD i []=u at *
   generalize m.getD i []=v at *
   repeat' first|exact (bbk (by assumption)).elim|refine Q1 ?_|refine Q2 ?_|refine Q3 hG aa fJ ?_|refine Q4 hG aa fJ ?_|refine Q5 hG aa ?_|refine Q6 hG aa ?_|refine Q7 hG aa ?_|refine Q8 hG aa ?_|refine Q9 rfl ?_|refine QF rfl ?_|refine QC rfl ⟨fun h=>?_,fun h=>?_⟩|((conv=>whnf); first|refine anF ?_|refine anT ?_|refine anK ?_|refine And.intro (Int.natCast_nonneg i) (Exists.intro _ (And.intro hx ?_))|refine And.intro (Int.natCast_nonneg i) (Exists.intro _ (And.intro hy ?_))|refine Exists.intro _ (And.intro (cI) ?_)|refine And.intro (fun h=>?_) (fun h=>?_)|refine Or.inl ?_)
   all_goals first
    |(refine Ends.mk (Or.inl rfl) (ac (congrArg AV.bool ?_))
      exact (hne fun e=>by subst e; have h:=(by assumption:(!decide (u=u))=true); simp at h).symm)
    | skip
   refine Exists.intro (i+1) (And.intro ⟨hlt_i,?_⟩ (And.intro (by omega) (ah ?_ ?_)))
   ·rw [hn1,hn2,ht]
    have e:u=v:=by
     have h:=(by assumption:(!decide (u=v))=false)
     simpa using h
    rw [e]
   ·refine And.intro (congrArg some (ao (by omega))) ?_
    repeat' (first | exact trivial | refine And.intro rfl ?_)
   ·repeat' (first | exact trivial | refine And.intro rfl ?_)
  ·have bbk:decide ((i:Int)<((l.map (fun x=>[aw x])).length:Int))=true→False:=fun h=>by have:=of_decide_eq_true h; simp at this; omega
   have he:l.take i=l:=List.take_of_length_le (by omega)
   have he2:m.take i=m:=List.take_of_length_le (by omega)
   rw [he,he2] at ht
   repeat' first|exact (bbk (by assumption)).elim|refine Q1 ?_|refine Q2 ?_|refine Q3 hG aa fJ ?_|refine Q4 hG aa fJ ?_|refine Q5 hG aa ?_|refine Q6 hG aa ?_|refine Q7 hG aa ?_|refine Q8 hG aa ?_|refine Q9 rfl ?_|refine QF rfl ?_|refine QC rfl ⟨fun h=>?_,fun h=>?_⟩|((conv=>whnf); first|refine anF ?_|refine anT ?_|refine anK ?_|refine And.intro (fun h=>?_) (fun h=>?_)|refine Or.inl ?_)
   exact Ends.mk (Or.inl rfl) (ac (congrArg AV.bool (decide_eq_true ht).symm))
theorem zN (p a b:Int):ae Tryz.prog 187 [.int .i64 p,.int .i64 a,.int .i64 b] (.agg (ay ⟨p,a,b⟩)):=by
 refine ag aa Tryz.func187 rfl (by kernel_rfl) af (Nat.le_of_ble_eq_true rfl) ?_
 intro F n' w0 m0 hG hro h1
 repeat' first|refine Q1 ?_|refine Q2 ?_|refine Q3 hG aa oy ?_|refine Q4 hG aa oy ?_|refine Q5 hG aa ?_|refine Q6 hG aa ?_|refine Q7 hG aa ?_|refine Q8 hG aa ?_|refine Q9 rfl ?_|refine QF rfl ?_|refine QC rfl ⟨fun h=>?_,fun h=>?_⟩|((conv=>whnf); first|refine anF ?_|refine anT ?_|refine anK ?_|refine And.intro (fun h=>?_) (fun h=>?_)|refine Or.inl ?_)
 all_goals exact Ends.mk (Or.inl rfl) (ac rfl)
theorem zO (a b:Int):ae Tryz.prog 188 [.int .i64 a,.int .i64 b] (.agg (aL ⟨3,0,a,b,a,b⟩)):=by
 refine ag aa Tryz.func188 rfl (by kernel_rfl) af (Nat.le_of_ble_eq_true rfl) ?_
 intro F n' w0 m0 hG hro h1
 repeat' first|refine Q1 ?_|refine Q2 ?_|refine Q3 hG aa ox ?_|refine Q4 hG aa ox ?_|refine Q5 hG aa ?_|refine Q6 hG aa ?_|refine Q7 hG aa ?_|refine Q8 hG aa ?_|refine Q9 rfl ?_|refine QF rfl ?_|refine QC rfl ⟨fun h=>?_,fun h=>?_⟩|((conv=>whnf); first|refine anF ?_|refine anT ?_|refine anK ?_|refine And.intro (fun h=>?_) (fun h=>?_)|refine Or.inl ?_)
 all_goals exact Ends.mk (Or.inl rfl) (ac rfl)
def bxS (i:Nat):Int:=match i with
 | 0=>3 | 2=>96 | 4=>4000 | 5=>20000 | 10=>10 | 11=>100 | 13=>1 | 18=>100 | 20=>3 | _=>0
def bxP:List am:=[⟨3,0,18,26,18,26⟩,⟨3,0,38,50,38,50⟩]
def bx1:Opt:=⟨1,0,0,3,10,12,0,6,[⟨0,20,22⟩,⟨1,40,42⟩]⟩
def bx2:Opt:=⟨2,0,0,3,30,31,0,5,[⟨1,44,46⟩]⟩
def bxL:List Opt:=[bx1,bx2]
theorem wP (o:Opt) (ow:Go.AI.Own):iU [.int .i64 o.id,.int .i64 o.ord,.int .i64 o.cl,.int .i64 o.sat,.int .i64 o.a,.int .i64 o.b,.int .i64 o.look,.int .i64 o.size,.sl ow 3 (o.sl.map ay)] (aH o):=
 .cons (.refl _) (.cons (.refl _) (.cons (.refl _) (.cons (.refl _) (.cons (.refl _) (.cons (.refl _) (.cons (.refl _) (.cons (.refl _) (.cons AV.weak.sl .nil))))))))
theorem FR:∀ y∈bxL.map aH,∀ c∈y,AV.isCell c=true:=by
 intro y hy c hc
 obtain ⟨o,_,rfl⟩:=List.mem_map.1 hy
 simp only [aH,List.mem_cons,List.not_mem_nil,or_false] at hc
 rcases hc with h | h | h | h | h | h | h | h | h <;> subst h <;> rfl
theorem tZ:ae Tryz.prog 112 [] (.tup [.agg (aU bxS),aK bxL,al bxP,.agg (aD 0 60)]):=by
 refine ag aa Tryz.func112 rfl (by kernel_rfl) af (Nat.le_of_ble_eq_true rfl) ?_
 intro F n' w0 m0 hG hro h1
 repeat' first|refine Q1 ?_|refine Q2 ?_|refine Q3 hG aa o9 ?_|refine Q4 hG aa o9 ?_|refine Q5 hG aa ?_|refine Q6 hG aa ?_|refine Q7 hG aa ?_|refine Q8 hG aa ?_|refine Q9 rfl ?_|refine QF rfl ?_|refine QC rfl ⟨fun h=>?_,fun h=>?_⟩|((conv=>whnf); first|refine anF ?_|refine anT ?_|refine anK ?_|refine Exists.intro _ (And.intro (zN _ _ _) ?_)|refine Exists.intro _ (And.intro (zO _ _) ?_)|refine And.intro (fun h=>?_) (fun h=>?_)|refine Or.inl ?_)
 all_goals exact Ends.mk (Or.inl rfl) (AV.weak.tup (.cons (.refl _) (.cons (AV.weak.rows (ys:=bxL.map aH) (.cons (wP bx1 .full) (.cons (wP bx2 .full) .nil)) FR) (.cons AV.weak.sl (.cons (.refl _) .nil)))))
theorem sW:aY bxS bxL bxP 0 60=true:=by kernel_rfl
theorem DP:az bxL=[0,1]:=(uh bxL).symm.trans (by kernel_rfl)
theorem Ha:bj (az bxL) bxP 1=[[],[0],[1]]:=by rw [DP]; kernel_rfl
theorem G9:bj (az bxL) bxP 0=[[]]:=by rw [DP]; kernel_rfl
end Go.Proofs
namespace Go.Proofs
open Go Go.AI
def MP (L:List (Int×Int)) (r:Int×Int):Prop:=(∀ p∈L,p.2≤r.1)∧((r=(0,-1))∨(0<r.1∧(r.2,r.1)∈L))
theorem MP.fold:∀ (L pre:List (Int×Int)) (r:Int×Int),MP pre r→MP (pre++L) (L.foldl (fun r x=>if x.2>r.1 then (x.2,x.1) else r) r)
 | [],pre,r,h=>by simpa using h
 | x::L,pre,r,h=>by
  have:=MP.fold L (pre++[x]) (if x.2>r.1 then (x.2,x.1) else r) ?_
  ·simpa using this
  ·obtain ⟨h1,h2⟩:=h
   have h0:0≤r.1:=by
    rcases h2 with h2 | h2
    ·rw [h2]; exact Int.le_refl _
    ·omega
   split
   ·rename_i hg
    refine ⟨fun p hp=>?_,.inr ⟨by show 0<x.2; omega,by simp⟩⟩
    show p.2≤x.2
    rcases List.mem_append.1 hp with hp | hp
    ·have:=h1 p hp; omega
    ·rw [List.mem_singleton.1 hp]; exact Int.le_refl _
   ·rename_i hg
    refine ⟨fun p hp=>?_,?_⟩
    ·rcases List.mem_append.1 hp with hp | hp
     ·exact h1 p hp
     ·rw [List.mem_singleton.1 hp]; omega
    ·rcases h2 with h2 | ⟨h2,h3⟩
     ·exact .inl h2
     ·exact .inr ⟨h2,List.mem_append_left _ h3⟩
theorem FB (L:List (Int×Int)):MP L (fC L):=by
 have:=MP.fold L [] (0,-1) ⟨fun _ h=>(nomatch h),.inl rfl⟩
 rw [List.nil_append] at this; exact this
theorem wY (L:List (Int×Int)):0≤(fC L).1:=by
 rcases (FB L).2 with h | h
 ·rw [h]; exact Int.le_refl _
 ·omega
end Go.Proofs
namespace Go.Proofs
open Go Go.AI
theorem y7 (x:Int):∀ r:List Int,iy x r∈x::r∧∀ y∈x::r,iy x r≤y:=by
 intro r
 induction r generalizing x with
 | nil=>exact ⟨by simp [iy],fun y hy=>by simp at hy; rw [hy]; exact Int.le_refl _⟩
 | cons z r ih=>
  obtain ⟨h1,h2⟩:=ih (min x z)
  have e:iy x (z::r)=iy (min x z) r:=rfl
  rw [e]
  have h3:=h2 (min x z) List.mem_cons_self
  refine ⟨?_,fun y hy=>?_⟩
  ·rcases List.mem_cons.1 h1 with h | h
   ·rw [h]
    rcases Int.le_total x z with h4 | h4
    ·rw [Int.min_eq_left h4]; exact List.mem_cons_self
    ·rw [Int.min_eq_right h4]; exact List.mem_cons_of_mem _ List.mem_cons_self
   ·exact List.mem_cons_of_mem _ (List.mem_cons_of_mem _ h)
  ·rcases List.mem_cons.1 hy with h | h
   ·subst h; omega
   ·rcases List.mem_cons.1 h with h | h
    ·subst h; omega
    ·exact h2 y (List.mem_cons_of_mem _ h)
theorem lg {l:List Int} (h:l≠[]):kI l∈l∧∀ y∈l,kI l≤y:=by
 cases l with
 | nil=>exact absurd rfl h
 | cons x r=>exact y7 x r
def tL (s:Nat→Int) (D:List au) (a:Int) (i:Nat):Int:=kl s D (a+(i:Int))
theorem Dl {s:Nat→Int} {l:List Opt} {ps:List am} {a b:Int} (h:aY s l ps a b=true) {D:List Opt} (hg:dW D) :
  lvL s (aA D) a b=(List.range (b - a).toNat).map (fun i=>se (s 11) (tL s (aA D) a) (i+1))∧(∀ i,-1000000≤tL s (aA D) a i∧tL s (aA D) a i≤1000000):=by
 obtain ⟨_,hr,hab,hsat,_⟩:=ba.1 h
 have hq:=Ab hsat
 have hfed:=wB hsat
 have hd:=m6 hg
 have hn:∀ i,-1000000≤tL s (aA D) a i∧tL s (aA D) a i≤1000000:=fun i=>by
  obtain ⟨e,h1,h2⟩:=De hfed (a+(i:Int)) (aA D) (nb (ew s) (a+(i:Int))) (by omega)
  unfold tL kl
  rw [e]; omega
 refine ⟨?_,hn⟩
 have h1:=Do (c:=s 11) (f:=tL s (aA D) a) (by omega) hn a (b - a).toNat (by omega)
 unfold lvL
 rw [show fP s (aA D) a b=c9 a (tL s (aA D) a) (b - a).toNat from rfl,h1]
theorem zb {s:Nat→Int} {l:List Opt} {ps:List am} {a b:Int} (h:aY s l ps a b=true) {D:List Opt} (hg:dW D):lvL s (aA D) a b≠[]∧∀ x∈lvL s (aA D) a b,-4000000000≤x∧x≤s 11∧s 11≤1000000:=by
 obtain ⟨_,hr,hab,hsat,_⟩:=ba.1 h
 have hq:=Ab hsat
 obtain ⟨h1,h2⟩:=Dl h hg
 rw [h1]
 refine ⟨fun e=>?_,fun x hx=>?_⟩
 ·have:=congrArg List.length e
  simp at this; omega
 ·obtain ⟨i,hi,rfl⟩:=List.mem_map.1 hx
  have:=sd (c:=s 11) h2 (i+1)
  have:=List.mem_range.1 hi
  omega
def lK (s:Nat→Int) (l:List Opt) (a b:Int) (lost:List Int):Int:=kI (lvL s (aA (a8 l lost)) a b)
theorem vy {s:Nat→Int} {l:List Opt} {ps:List am} {a b:Int} (h:aY s l ps a b=true) (lost:List Int):(loM s l a b lost).1 = -(lK s l a b lost)∧-4000000000≤lK s l a b lost∧lK s l a b lost≤1000000:=by
 obtain ⟨h1,h2⟩:=zb h (jn h fun o=>kS o lost)
 have h3:=lg h1
 have h4:=h2 _ h3.1
 have e:lK s l a b lost=kI (lvL s (aA (l.map fun o=>pD o (kS o lost))) a b):=rfl
 rw [← e] at h4
 refine ⟨?_,by omega,by omega⟩
 show w64 (0 - lK s l a b lost)=_
 rw [ai (by omega) (by omega)]; omega
def lowV (s:Nat→Int) (l:List Opt) (ps:List am) (k a b:Int):Int:=w64 (0 - (loS s l ps k a b).n)
theorem vv {s:Nat→Int} {l:List Opt} {ps:List am} {a b k:Int} (h:aY s l ps a b=true) (h0:0≤k) (h3:k≤3) :
  (loS s l ps k a b).what∈bj (az l) ps k∧lowV s l ps k a b=lK s l a b (loS s l ps k a b).what∧(loS s l ps k a b).n = -(lowV s l ps k a b)∧∀ y∈bj (az l) ps k,lowV s l ps k a b≤lK s l a b y:=by
 obtain ⟨_,_,_,_,hp,_⟩:=ba.1 h
 obtain ⟨h1,h2,_,h4⟩:=AH (m:=loM s l a b) (rm (f:=az l) hp h0 h3)
 have e:bu (loM s l a b) (bj (az l) ps k)=loS s l ps k a b:=rfl
 rw [e] at h1 h2 h4
 obtain ⟨v1,v2,v3⟩:=vy h (loS s l ps k a b).what
 rw [v1] at h2
 have e2:lowV s l ps k a b=lK s l a b (loS s l ps k a b).what:=by
  unfold lowV
  rw [h2,ai (by omega) (by omega)]; omega
 refine ⟨h1,e2,by rw [h2,e2],fun y hy=>?_⟩
 have h5:=h4 y hy
 obtain ⟨u1,_,_⟩:=vy h y
 rw [u1,h2] at h5
 omega
end Go.Proofs
namespace Go.Proofs
open Go Go.AI
set_option maxRecDepth 10000
def FS:List Img:=[⟨1,6,10,22⟩,⟨2,5,30,46⟩]
def GN:List Img:=[⟨1,6,10,42⟩,⟨2,5,30,46⟩]
theorem DO:dP bxL []=FS:=by kernel_rfl
theorem Gh:dP bxL [0]=GN:=by kernel_rfl
theorem He:dP bxL [1]=FS:=by kernel_rfl
theorem Gg:fC (cp FS)=(6,10):=by
 rw [← sO (l:=FS) (s:=[(10,6),(22,-6),(30,5),(46,-5)]) (.refl _) (by simp [List.pairwise_cons])]
 kernel_rfl
theorem Hb:fC (cp GN)=(11,30):=by
 rw [← sO (l:=GN) (s:=[(10,6),(30,5),(42,-6),(46,-5)]) (.cons _ (.swap _ _ _)) (by simp [List.pairwise_cons])]
 kernel_rfl
theorem Gf:pkS bxL bxP 0=⟨6,10,[],true⟩:=by
 unfold pkS; rw [G9,bu,List.foldl_cons,List.foldl_nil,pkM,DO,Gg]; rfl
theorem Ge:pkS bxL bxP 1=⟨11,30,[0],true⟩:=by
 unfold pkS; rw [Ha,bu,List.foldl_cons,List.foldl_cons,List.foldl_cons,List.foldl_nil,pkM,pkM,pkM,DO,Gh,He,Gg,Hb]; rfl
theorem DQ (t:Int):∀ D:List au,rk bxS t D=0
 | []=>rfl
 | x::D=>by
  rw [rk,DQ t D]
  simp [wS,xJ,bxS]
theorem Hc {D:List Opt} (hg:dW D):∀ x∈lvL bxS (aA D) 0 60,0≤x:=fun x hx=>by
 have h1:=(Dl sW hg).1
 have hf:=wB (ba.1 sW).2.2.2.1
 have hd:=m6 hg
 have hn:tL bxS (aA D) 0=fun _=>1:=funext fun i=>by
  unfold tL kl
  rw [(De hf _ _ _ (by omega)).1,Dg,DQ]
  simp [bxS]
 rw [h1,hn] at hx
 obtain ⟨i,hi,rfl⟩:=List.mem_map.1 hx
 have hall:((List.range 60).all fun i=>decide (0≤se (bxS 11) (fun _=>1) (i+1)))=true:=by kernel_rfl
 exact of_decide_eq_true (List.all_eq_true.1 hall i hi)
theorem Hd (k:Int) (h0:0≤k) (h3:k≤3):0≤lowV bxS bxL bxP k 0 60∧lowV bxS bxL bxP k 0 60≤100:=by
 obtain ⟨_,h2,_⟩:=vv sW h0 h3
 rw [h2]
 generalize (loS bxS bxL bxP k 0 60).what=w
 have hg:dW (a8 bxL w):=jn sW fun o=>kS o w
 obtain ⟨h4,h5⟩:=zb sW hg
 obtain ⟨h6,_⟩:=lg h4
 exact ⟨Hc hg _ h6,by have:=h5 _ h6; have e:bxS 11=100:=rfl; unfold lK; omega⟩
theorem G8 (lost:List Int) (h:f9 [0,1] lost=true):ki bxS bxL bxP 0 60 lost = .tup [.agg (ko bxL lost),.int .i64 0]:=by
 rw [ki,kq sW (by decide) (by decide) (by decide),DP,h]; rfl
theorem G7:ki bxS bxL bxP 0 60 [2] = .tup [.agg [.sl .full 0 [],.sl .full 0 [],.sl .full 0 [],.sl .full 0 []],.int .i64 210]:=by
 rw [ki,kq sW (by decide) (by decide) (by decide),DP,show f9 [0,1] [2]=false from by kernel_rfl]; rfl
set_option maxHeartbeats 8000000 in
theorem x4:ae Tryz.prog 41 [] (.bool true):=by
 have hs:=(fA sW).2.1
 have L6:bxL.length≤1000000:=Nat.le_of_ble_eq_true rfl
 have P6:bxP.length≤1000000:=Nat.le_of_ble_eq_true rfl
 have v0:=kq (k:=0) sW (by decide) (by decide) (by decide)
 have v1:=kq (k:=1) sW (by decide) (by decide) (by decide)
 have v4:aX bxS bxL bxP 4 0 60=false:=by
  unfold aX
  rw [show jc 4=false from by decide]; rfl
 have q1:=th bxL bxP 1 L6 hs P6
 rw [wy,Fl sW (by decide) (by decide) (by decide),if_neg (by decide),Ha] at q1
 have q2:=th bxL bxP 4 L6 hs P6
 rw [wy,show c8 bxL bxP 4=true from by unfold c8; rw [show fR bxL bxP 4=true from by kernel_rfl]; rfl,if_pos rfl] at q2
 have q3:ae Tryz.prog 53 [.agg (aU bxS),aK bxL,al bxP,.agg (aD 0 60),.sl .full 0 []] _:=(pU bxS bxL bxP 0 60 [] L6 hs P6 (Nat.zero_le _)).weak (.cons (.refl _) (.cons (.refl _) (.cons (.refl _) (.cons (.refl _) (.cons AV.weak.slnil (.refl _))))))
 rw [G8 [] rfl,ko,show fX bxL []=[0,0] from by kernel_rfl,DO] at q3
 have q4:ae Tryz.prog 53 [.agg (aU bxS),aK bxL,al bxP,.agg (aD 0 60),.sl .full 1 [[.int .i64 0]]] _:=(pU bxS bxL bxP 0 60 [0] L6 hs P6 (Nat.le_of_ble_eq_true rfl)).weak (.cons (.refl _) (.cons (.refl _) (.cons (.refl _) (.cons (.refl _) (.cons AV.weak.sl (.refl _))))))
 rw [G8 [0] (by kernel_rfl),ko,show fX bxL [0]=[1,0] from by kernel_rfl,Gh] at q4
 have q5:ae Tryz.prog 53 [.agg (aU bxS),aK bxL,al bxP,.agg (aD 0 60),.sl .full 1 [[.int .i64 2]]] _:=(pU bxS bxL bxP 0 60 [2] L6 hs P6 (Nat.le_of_ble_eq_true rfl)).weak (.cons (.refl _) (.cons (.refl _) (.cons (.refl _) (.cons (.refl _) (.cons AV.weak.sl (.refl _))))))
 rw [G7] at q5
 have q6:=j7 v0
 rw [Gf] at q6
 have q7:=j7 v1
 rw [Ge] at q7
 have q8:=pV v1
 have l1:=Hd 1 (by decide) (by decide)
 have l0:=Hd 0 (by decide) (by decide)
 have q9:=mG v0
 rw [Gf,show (decide ((⟨6,10,[],true⟩:Fnd).n≤bxS 10)&&decide (w64 (0 - (loS bxS bxL bxP 0 0 60).n)≥0))=true from by rw [decide_eq_true (show w64 (0 - (loS bxS bxL bxP 0 0 60).n)≥0 from l0.1)]; rfl] at q9
 have q10:=mG v1
 rw [Ge,show (decide ((⟨11,30,[0],true⟩:Fnd).n≤bxS 10)&&decide (w64 (0 - (loS bxS bxL bxP 1 0 60).n)≥0))=false from rfl] at q10
 have q11:=iI bxL L6 hs
 rw [DP] at q11
 have q12:=gx bxS bxL bxP 1 0 60 L6 hs P6
 rw [v1] at q12
 have q13:=gx bxS bxL bxP 4 0 60 L6 hs P6
 rw [v4] at q13
 have i1:ae Tryz.prog 46 [aw [0,0],.sl .full 1 [[.int .i64 0],[.int .i64 0]]] (.bool true):=by
  have h:=(dV [0,0] [0,0] (by decide)).sl1 (o := .full)
  rw [decide_eq_true rfl] at h; exact h
 have i2:ae Tryz.prog 46 [aw [1,0],.sl .full 1 [[.int .i64 1],[.int .i64 0]]] (.bool true):=by
  have h:=(dV [1,0] [1,0] (by decide)).sl1 (o := .full)
  rw [decide_eq_true rfl] at h; exact h
 have i3:ae Tryz.prog 46 [aw [0],.sl .full 1 [[.int .i64 0]]] (.bool true):=by
  have h:=(dV [0] [0] (by decide)).sl1 (o := .full)
  rw [decide_eq_true rfl] at h; exact h
 have i4:ae Tryz.prog 46 [aw [0,1],.sl .full 1 [[.int .i64 0],[.int .i64 1]]] (.bool true):=by
  have h:=(dV [0,1] [0,1] (by decide)).sl1 (o := .full)
  rw [decide_eq_true rfl] at h; exact h
 have i5:ae Tryz.prog 50 [ka [[],[0],[1]],.sl .full 1 [[.sl .full 0 []],[.sl .full 1 [[.int .i64 0]]],[.sl .full 1 [[.int .i64 1]]]]] (.bool true):=by
  have h:=(xZ [[],[0],[1]] [[],[0],[1]] (by decide) (fun i hi=>by
   match i,hi with
   | 0,_ | 1,_ | 2,_=>decide)).weak (us:=[ka [[],[0],[1]],.sl .full 1 [[.sl .full 0 []],[.sl .full 1 [[.int .i64 0]]],[.sl .full 1 [[.int .i64 1]]]]]) (.cons (.refl _) (.cons (AV.weak.rows (.cons (.cons AV.weak.slnil (.refl _)) (.cons (.cons AV.weak.sl (.refl _)) (.cons (.cons AV.weak.sl (.refl _)) .nil))) (by decide)) (.refl _)))
  rw [decide_eq_true rfl] at h; exact h
 have bl:decide (w64 (0 - (loS bxS bxL bxP 1 0 60).n)≤100)=false→False:=fun h=>by have:=of_decide_eq_false h; exact this l1.2
 generalize aA (a8 bxL [])=D0 at *
 generalize aA (a8 bxL [0])=D1 at *
 generalize w64 (0 - (loS bxS bxL bxP 1 0 60).n)=lo at *
 generalize (loS bxS bxL bxP 1 0 60).at_=lt at *
 generalize (loS bxS bxL bxP 1 0 60).what=lw at *
 refine ag aa Tryz.func41 rfl (by kernel_rfl) af (Nat.le_of_ble_eq_true rfl) ?_
 intro F n' w0 m0 hG hro h1
 repeat' first|exact (bl (by assumption)).elim|refine Q1 ?_|refine Q2 ?_|refine Q3 hG aa qU ?_|refine Q4 hG aa qU ?_|refine Q5 hG aa ?_|refine Q6 hG aa ?_|refine Q7 hG aa ?_|refine Q8 hG aa ?_|refine Q9 rfl ?_|refine QF rfl ?_|refine QC rfl ⟨fun h=>?_,fun h=>?_⟩|((conv=>whnf); first|refine anF ?_|refine anT ?_|refine anK ?_|refine And.intro (of_decide_eq_true (Eq.refl true)) (Exists.intro _ (And.intro rfl ?_))|refine Exists.intro _ (And.intro (tZ) ?_)|refine Exists.intro _ (And.intro (q1) ?_)|refine Exists.intro _ (And.intro (q2) ?_)|refine Exists.intro _ (And.intro (q3) ?_)|refine Exists.intro _ (And.intro (q4) ?_)|refine Exists.intro _ (And.intro (q5) ?_)|refine Exists.intro _ (And.intro (q6) ?_)|refine Exists.intro _ (And.intro (q7) ?_)|refine Exists.intro _ (And.intro (q8) ?_)|refine Exists.intro _ (And.intro (q9) ?_)|refine Exists.intro _ (And.intro (q10) ?_)|refine Exists.intro _ (And.intro (q11) ?_)|refine Exists.intro _ (And.intro (q12) ?_)|refine Exists.intro _ (And.intro (q13) ?_)|refine Exists.intro _ (And.intro (i1) ?_)|refine Exists.intro _ (And.intro (i2) ?_)|refine Exists.intro _ (And.intro (i3) ?_)|refine Exists.intro _ (And.intro (i4) ?_)|refine Exists.intro _ (And.intro (i5) ?_)|refine And.intro (fun h=>?_) (fun h=>?_)|refine Or.inl ?_)
 all_goals exact Ends.mk (Or.inl rfl) (ac rfl)
end Go.Proofs
