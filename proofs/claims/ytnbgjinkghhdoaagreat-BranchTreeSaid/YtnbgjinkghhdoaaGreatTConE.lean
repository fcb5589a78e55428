/- Contracts of the functions and plain facts about what they reckon, part 5: called with arguments that read so, each hands back what is typed. The conditions are those typed. -/
import Derived.Test.YtnbgjinkghhdoaaGreatTConD
set_option linter.unusedSectionVars false
set_option linter.unusedVariables false
set_option linter.unusedSimpArgs false
namespace Go.Proofs
open Go Go.AI
set_option maxRecDepth 10000
theorem B4 {α:Type} (p:α→Bool):∀ (l:List α) (k:Nat),bC p l k = -1∨∃ j,j<l.length∧bC p l k=((k+j:Nat):Int)
 | [],k => .inl rfl
 | x::l,k=>by
  rw [bC]
  split
  ·exact .inr ⟨0,by simp,by simp⟩
  ·rcases B4 p l (k+1) with h | ⟨j,h1,h2⟩
   ·exact .inl h
   ·exact .inr ⟨j+1,by simpa using h1,by rw [h2]; congr 1; omega⟩
def kS (o:Opt) (lost:List Int):Nat:=if dL o lost≥0 then (dL o lost).toNat else o.sl.length
def flA (s:Nat→Int) (l:List Opt) (ps:List ao) (a b:Int):List AV:=cJ s++[aZ l,ay ps,.int .i64 a,.int .i64 b]
def il (l:List Opt) (lost:List Int):List Int:=l.map fun o=>dL o lost
def ij (l:List Opt) (lost:List Int):List Img:=l.map fun o=>rN o (kS o lost)
def dY (l:List Opt) (lost:List Int):List Opt:=l.map fun o=>sY o (kS o lost)
def kg (l:List Opt) (lost:List Int):List AV:=[aG lost,aG (il l lost),kQ (ij l lost),eE (aF (dY l lost))]
theorem xS (o:Opt) (lost:List Int):(dL o lost = -1∧kS o lost=o.sl.length)∨∃ j,j<o.sl.length∧dL o lost=(j:Int)∧kS o lost=j:=by
 rcases B4 (fun x:aS => !inP lost x.p) o.sl 0 with h | ⟨j,h1,h2⟩
 ·have h:dL o lost = -1:=h
  exact .inl ⟨h,by unfold kS; rw [if_neg (by omega)]⟩
 ·have h:dL o lost=(j:Int):=by rw [dL,h2]; simp
  exact .inr ⟨j,h1,h,by unfold kS; rw [if_pos (by omega),h]; simp⟩
theorem oW {α:Type} (f:Opt→α) {l:List Opt} {i:Nat} (h:i<l.length):(l.take (i+1)).map f=(l.take i).map f++[f (ap l i)]:=by
 rw [List.take_add_one,List.getElem?_eq_getElem h,bN h]; exact List.map_append
theorem Hm (o:Opt) (k:Nat):(sY o k).sl.length≤o.sl.length:=by
 unfold sY
 split
 ·show (o.sl.take _).length≤_; rw [List.length_take]; omega
 ·exact Nat.le_refl _
theorem tH (n:Nat):∀ l:List Opt,(∀ o∈l,o.sl.length≤n)→(dn l).length≤n*l.length
 | [],_=>Nat.zero_le _
 | o::l,h=>by
  have h1:=tH n l fun p hp=>h p (List.mem_cons_of_mem _ hp)
  have h2:=h o List.mem_cons_self
  simp only [dn,List.flatMap_cons,List.length_append,List.length_map,List.length_cons] at h1 ⊢
  rw [Nat.mul_add]
  omega
set_option maxHeartbeats 16000000 in
theorem FU (s:Nat→Int) (l:List Opt) (ps:List ao) (a b:Int) (lost:List Int) (hl:l.length≤8) (hsl:∀ o∈l,o.sl.length≤6) (hps:ps.length≤1000000) (hlo:lost.length≤1000000)
  (hs:∀ o∈l,kE o ps lost=true) (hc:∀ o∈l,na o=true):ae Tryz.prog 26 [.agg (flA s l ps a b),aG lost] (.tup [.agg (kg l lost),.bool true]):=by
 refine ah aa Tryz.func26 rfl (by kernel_rfl) af (Nat.le_of_ble_eq_true rfl) ?_
 intro F n' w0 m0 hG hro h1
 repeat' first|refine QS rfl hG aa iK ?_|((conv=>whnf); first|refine anF ?_|refine anT ?_|refine anK ?_|refine Exists.intro _ (And.intro (zC lost hlo) ?_)|refine And.intro (fun h=>?_) (fun h=>?_)|refine Or.inl ?_)
 refine SPB.resize 4 1 1004001 1 rfl rfl ?_
 refine SPB.resize 4 2 1004002 4 rfl rfl ?_
 refine ar (X:=Nat) (fun x=>⟨[(18,.int .i64 x),(6,.sl (.id 6) 9 ((dY (l.take x) lost).map aA)),(17,.int .i64 (l.map aA).length),(16,aZ l),(5,.bool false),(4,.loc 4 0),(2,.loc 2 0),(1,aG lost)],[(4,[aG lost,.sl (.id 1004001) 1 ((il (l.take x) lost).map fun h=>[AV.int .i64 h]),.sl (.id 1004002) 4 ((ij (l.take x) lost).map kR),.sl (.id 1004003) 0 []]),(2,flA s l ps a b)]⟩) (fun x=>x≤l.length) (fun x=>l.length - x) 0 (Nat.zero_le _) (ai ?_ ?_) (fun x hx=>?_)
 ·repeat' (first | exact trivial | refine And.intro rfl ?_)
 ·repeat' (first | exact trivial | refine And.intro rfl ?_)
 ·rename Nat=>i
  have hi:=hx
  by_cases hlt_i:i<l.length
  ·have bbk:decide ((i:Int)<((l.map aA).length:Int))=false→False:=fun h=>by have:=of_decide_eq_false h; simp at this; omega
   have hx:=fX hlt_i
   have hm:ap l i∈l:=by rw [bN hlt_i]; exact List.getElem_mem hlt_i
   have hso:=hs _ hm
   have hco:=hc _ hm
   have hso6:=hsl _ hm
   have cS:ae Tryz.prog 54 [.agg (aA (ap l i)),ay ps,aG lost] (.tup [.int .i64 (dL (ap l i) lost),.int .i64 0]):=by
    have h:=A6 (ap l i) ps lost (by omega) hps hlo
    rw [BD,hso,if_pos rfl] at h; exact h
   have cW:=sr (ap l i) (by omega) hco
   have e1:(dY (l.take (i+1)) lost).map aA=(dY (l.take i) lost).map aA++[aA (sY (ap l i) (kS (ap l i) lost))]:=by rw [dY,oW _ hlt_i,List.map_append]; rfl
   have e2:(il (l.take (i+1)) lost).map (fun h=>[AV.int .i64 h])=(il (l.take i) lost).map (fun h=>[AV.int .i64 h])++[[.int .i64 (dL (ap l i) lost)]]:=by rw [il,oW _ hlt_i,List.map_append]; rfl
   have e3:(ij (l.take (i+1)) lost).map kR=(ij (l.take i) lost).map kR++[kR (rN (ap l i) (kS (ap l i) lost))]:=by rw [ij,oW _ hlt_i,List.map_append]; rfl
   have n1:((dY (l.take i) lost).map aA).length=i:=by simp [dY]; omega
   have n2:((il (l.take i) lost).map fun h=>[AV.int .i64 h]).length=i:=by simp [il]; omega
   have n3:((ij (l.take i) lost).map kR).length=i:=by simp [ij]; omega
   have hkc:=xS (ap l i) lost
   have cF:=fun (j:Nat) (hj:j<(ap l i).sl.length)=>sJ (ap l i) j (by omega) hco hj
   generalize (dY (l.take i) lost).map aA=r1 at e1 n1 ⊢
   generalize ((il (l.take i) lost).map fun h=>[AV.int .i64 h])=r2 at e2 n2 ⊢
   generalize (ij (l.take i) lost).map kR=r3 at e3 n3 ⊢
   generalize dL (ap l i) lost=n at cS e2 hkc
   generalize kS (ap l i) lost=q at e1 e3 hkc
   generalize ap l i=u at *
   rcases hkc with ⟨rfl,rfl⟩ | ⟨_,hj,rfl,rfl⟩
   ·repeat' first|exact (bbk (by assumption)).elim|refine QS rfl hG aa iK ?_|((conv=>whnf); first|refine anF ?_|refine anT ?_|refine anK ?_|refine And.intro (Int.natCast_nonneg i) (Exists.intro _ (And.intro hx ?_))|refine Exists.intro _ (And.intro (cS) ?_)|refine Exists.intro _ (And.intro (cW) ?_)|refine And.intro (show (r1.length+1)*88≤70368744177664 by omega) (And.intro (show r1.length+1≤4611686018427387904 by omega) ?_)|refine And.intro (show (r2.length+1)*8≤70368744177664 by omega) (And.intro (show r2.length+1≤4611686018427387904 by omega) ?_)|refine And.intro (show (r3.length+1)*32≤70368744177664 by omega) (And.intro (show r3.length+1≤4611686018427387904 by omega) ?_)|refine And.intro (fun h=>?_) (fun h=>?_)|refine Or.inl ?_)
    refine Exists.intro (i+1) (And.intro hlt_i (And.intro (by omega) (ai ?_ ?_)))
    ·refine And.intro (congrArg some (aq (by omega))) (And.intro (congrArg (fun z=>some (AV.sl (.id 6) 9 z)) (e1.trans (congrArg (r1++·) ?_)).symm) ?_)
     ·rw [sY,if_neg (by omega)]; rfl
     ·repeat' (first | exact trivial | refine And.intro rfl ?_)
    ·refine And.intro (congrArg some ?_) ?_
     ·rw [e2,e3]
      rw [rN,if_neg (by omega)]; rfl
     ·repeat' (first | exact trivial | refine And.intro rfl ?_)
   ·have hjw:IntKind.i64.wrap ((q:Int)+1)=((q+1:Nat):Int):=(am (by omega) (by omega)).trans (by omega)
    have hj1:0≤IntKind.i64.wrap ((q:Int)+1):=by rw [hjw]; exact Int.natCast_nonneg _
    have hj2:(IntKind.i64.wrap ((q:Int)+1)).toNat≤(u.sl.map ax).length:=by rw [hjw,List.length_map]; omega
    have hrow:((u.sl.map ax).take (IntKind.i64.wrap ((q:Int)+1)).toNat).drop 0=(u.sl.take (q+1)).map ax:=by rw [hjw,List.drop_zero,Int.toNat_natCast,List.map_take]
    have bbn:decide ((q:Int)≥0)=false→False:=fun h=>by have:=of_decide_eq_false h; omega
    have cFj:=cF q hj
    repeat' first|exact (bbk (by assumption)).elim|exact (bbn (by assumption)).elim|refine QS rfl hG aa iK ?_|((conv=>whnf); first|refine anF ?_|refine anT ?_|refine anK ?_|refine And.intro (Int.natCast_nonneg i) (Exists.intro _ (And.intro hx ?_))|refine Exists.intro _ (And.intro (cS) ?_)|refine Exists.intro _ (And.intro (cW) ?_)|refine Exists.intro _ (And.intro (cFj) ?_)|refine And.intro hj1 (And.intro (Nat.zero_le _) (And.intro hj2 ?_))|refine And.intro (show (r1.length+1)*88≤70368744177664 by omega) (And.intro (show r1.length+1≤4611686018427387904 by omega) ?_)|refine And.intro (show (r2.length+1)*8≤70368744177664 by omega) (And.intro (show r2.length+1≤4611686018427387904 by omega) ?_)|refine And.intro (show (r3.length+1)*32≤70368744177664 by omega) (And.intro (show r3.length+1≤4611686018427387904 by omega) ?_)|refine And.intro (fun h=>?_) (fun h=>?_)|refine Or.inl ?_)
    refine Exists.intro (i+1) (And.intro hlt_i (And.intro (by omega) (ai ?_ ?_)))
    ·refine And.intro (congrArg some (aq (by omega))) (And.intro (congrArg (fun z=>some (AV.sl (.id 6) 9 z)) (e1.trans (congrArg (r1++·) ?_)).symm) ?_)
     ·rw [sY,if_pos hj]
      exact congrArg (fun z=>[[AV.int .i64 u.id,.int .i64 u.ord,.int .i64 u.cl,.int .i64 u.sat,.int .i64 u.a,.int .i64 u.b,.int .i64 u.look,.int .i64 u.size,.sl .no 3 z]]) hrow.symm
     ·repeat' (first | exact trivial | refine And.intro rfl ?_)
    ·refine And.intro (congrArg some ?_) ?_
     ·rw [e2,e3]
      rw [rN,if_pos hj]; rfl
     ·repeat' (first | exact trivial | refine And.intro rfl ?_)
  ·have bbk:decide ((i:Int)<((l.map aA).length:Int))=true→False:=fun h=>by have:=of_decide_eq_true h; simp at this; omega
   have he:l.take i=l:=List.take_of_length_le (by omega)
   rw [he]
   have hw6:∀ o∈dY l lost,o.sl.length≤6:=fun o ho=>by
    obtain ⟨p,hp,rfl⟩:=List.mem_map.1 ho
    exact Nat.le_trans (Hm _ _) (hsl p hp)
   have hwl:(dY l lost).length≤8:=by simp [dY]; omega
   have cL:=A7 (dY l lost) (by omega) (fun o ho=>by have:=hw6 o ho; omega) (by have:=tH 6 _ hw6; omega)
   repeat' first|exact (bbk (by assumption)).elim|refine QS rfl hG aa iK ?_|((conv=>whnf); first|refine anF ?_|refine anT ?_|refine anK ?_|refine Exists.intro _ (And.intro (cL) ?_)|refine And.intro (fun h=>?_) (fun h=>?_)|refine Or.inl ?_)
   exact Ends.mk (Or.inl rfl) (ac rfl)
end Go.Proofs
namespace Go.Proofs
open Go Go.AI
set_option maxRecDepth 10000
def gR (x:Int) (r:List Int):Int:=r.foldl min x
theorem DC (x:Int) (r:List Int) (hl:r.length≤1000000):ae Tryz.prog 74 [aG (x::r)] (.int .i64 (gR x r)):=by
 have hlen:(((x::r).map fun h=>[AV.int .i64 h]).length:Int)=(r.length:Int)+1:=by simp
 have bb0:decide ((((x::r).map fun h=>[AV.int .i64 h]).length:Int)<1)=true→False:=fun h=>by have:=of_decide_eq_true h; omega
 have hx0:((x::r).map fun h=>[AV.int .i64 h])[((0:Int)).toNat]?=some [.int .i64 x]:=rfl
 refine ah aa Tryz.func74 rfl (by kernel_rfl) af (Nat.le_of_ble_eq_true rfl) ?_
 intro F n' w0 m0 hG hro h1
 repeat' first|exact (bb0 (by assumption)).elim|refine QS rfl hG aa lg ?_|((conv=>whnf); first|refine anF ?_|refine anT ?_|refine anK ?_|refine And.intro (of_decide_eq_true (Eq.refl true)) (Exists.intro _ (And.intro hx0 ?_))|refine And.intro (fun h=>?_) (fun h=>?_)|refine Or.inl ?_)
 refine ar (X:=Nat) (fun i_=>⟨[(4,.int .i64 ((i_+1:Nat):Int)),(3,.int .i64 (gR x (r.take i_))),(0,aG (x::r))],[]⟩) (fun i_=>i_≤r.length) (fun x=>r.length - x) 0 (Nat.zero_le _) (ai ?_ ?_) (fun i hx=>?_)
 ·repeat' (first | exact trivial | refine And.intro rfl ?_)
 ·repeat' (first | exact trivial | refine And.intro rfl ?_)
 ·have hi:=hx
  by_cases hlt_i:i<r.length
  ·have bbk:decide (((i+1:Nat):Int)<(((x::r).map fun h=>[AV.int .i64 h]).length:Int))=false→False:=fun h=>by have:=of_decide_eq_false h; rw [hlen] at this; omega
   have hx:((x::r).map fun h=>[AV.int .i64 h])[(((i+1:Nat):Int)).toNat]?=some [.int .i64 (r.getD i 0)]:=by rw [Int.toNat_natCast]; simp [List.getElem?_eq_getElem hlt_i]
   have hm:gR x (r.take (i+1))=min (gR x (r.take i)) (r.getD i 0):=by
    rw [gR,mz hlt_i,List.foldl_append]; rfl
   generalize r.getD i 0=u at hx hm
   repeat' first|exact (bbk (by assumption)).elim|refine QS rfl hG aa lg ?_|((conv=>whnf); first|refine anF ?_|refine anT ?_|refine anK ?_|refine And.intro (Int.natCast_nonneg (i+1)) (Exists.intro _ (And.intro hx ?_))|refine And.intro (fun h=>?_) (fun h=>?_)|refine Or.inl ?_)
   refine Exists.intro (i+1) (And.intro hlt_i (And.intro (by omega) (ai ?_ ?_)))
   ·refine And.intro (congrArg some (aq (by omega))) (And.intro (congrArg (fun z=>some (AV.int .i64 z)) hm.symm) ?_)
    repeat' (first | exact trivial | refine And.intro rfl ?_)
   ·repeat' (first | exact trivial | refine And.intro rfl ?_)
  ·have bbk:decide (((i+1:Nat):Int)<(((x::r).map fun h=>[AV.int .i64 h]).length:Int))=true→False:=fun h=>by have:=of_decide_eq_true h; rw [hlen] at this; omega
   have he:r.take i=r:=List.take_of_length_le (by omega)
   rw [he]
   repeat' first|exact (bbk (by assumption)).elim|refine QS rfl hG aa lg ?_|((conv=>whnf); first|refine anF ?_|refine anT ?_|refine anK ?_|refine And.intro (fun h=>?_) (fun h=>?_)|refine Or.inl ?_)
   exact Ends.mk (Or.inl rfl) (ac rfl)
structure Fnd where
 n:Int
 at_:Int
 what:List Int
 is:Bool
def u8 (x:Fnd):List AV:=[.int .i64 x.n,.int .i64 x.at_,aG x.what,.bool x.is]
def se (a b:Fnd):Fnd:=if !a.is||(b.is&&decide (b.n>a.n)) then b else a
theorem zP (x y:Fnd):ae Tryz.prog 71 [.agg (u8 x),.agg (u8 y)] (.agg (u8 (se x y))):=by
 obtain ⟨n,t,w,i⟩:=x
 obtain ⟨n2,t2,w2,i2⟩:=y
 cases i <;> cases i2
 ·refine ah aa Tryz.func71 rfl (by kernel_rfl) af (Nat.le_of_ble_eq_true rfl) ?_
  intro F n' w0 m0 hG hro h1
  repeat' first|refine QS rfl hG aa iG ?_|((conv=>whnf); first|refine anF ?_|refine anT ?_|refine anK ?_|refine And.intro (fun h=>?_) (fun h=>?_)|refine Or.inl ?_)
  all_goals refine Ends.mk (Or.inl rfl) (ac (congrArg (fun z=>AV.agg (u8 z)) ?_))
  all_goals (clear hG; first | rfl | (simp only [se]; symm; first | (apply if_pos; simp_all; done) | (apply if_neg; simp_all; done)))
 ·refine ah aa Tryz.func71 rfl (by kernel_rfl) af (Nat.le_of_ble_eq_true rfl) ?_
  intro F n' w0 m0 hG hro h1
  repeat' first|refine QS rfl hG aa iG ?_|((conv=>whnf); first|refine anF ?_|refine anT ?_|refine anK ?_|refine And.intro (fun h=>?_) (fun h=>?_)|refine Or.inl ?_)
  all_goals refine Ends.mk (Or.inl rfl) (ac (congrArg (fun z=>AV.agg (u8 z)) ?_))
  all_goals (clear hG; first | rfl | (simp only [se]; symm; first | (apply if_pos; simp_all; done) | (apply if_neg; simp_all; done)))
 ·refine ah aa Tryz.func71 rfl (by kernel_rfl) af (Nat.le_of_ble_eq_true rfl) ?_
  intro F n' w0 m0 hG hro h1
  repeat' first|refine QS rfl hG aa iG ?_|((conv=>whnf); first|refine anF ?_|refine anT ?_|refine anK ?_|refine And.intro (fun h=>?_) (fun h=>?_)|refine Or.inl ?_)
  all_goals refine Ends.mk (Or.inl rfl) (ac (congrArg (fun z=>AV.agg (u8 z)) ?_))
  all_goals (clear hG; first | rfl | (simp only [se]; symm; first | (apply if_pos; simp_all; done) | (apply if_neg; simp_all; done)))
 ·refine ah aa Tryz.func71 rfl (by kernel_rfl) af (Nat.le_of_ble_eq_true rfl) ?_
  intro F n' w0 m0 hG hro h1
  repeat' first|refine QS rfl hG aa iG ?_|((conv=>whnf); first|refine anF ?_|refine anT ?_|refine anK ?_|refine And.intro (fun h=>?_) (fun h=>?_)|refine Or.inl ?_)
  all_goals refine Ends.mk (Or.inl rfl) (ac (congrArg (fun z=>AV.agg (u8 z)) ?_))
  all_goals (clear hG; first | rfl | (simp only [se]; symm; first | (apply if_pos; simp_all; done) | (apply if_neg; simp_all; done)))
def jd (l:List (Int×Int)):Int×Int:=l.foldl (fun r x=>if x.2>r.1 then (x.2,x.1) else r) (0,-1)
set_option maxHeartbeats 4000000 in
theorem A4 (l:List Img) (hl:l.length≤1000000) (hv:fq l=true):ae Tryz.prog 72 [kQ l] (.tup [.int .i64 (jd (eZ l)).1,.int .i64 (jd (eZ l)).2,.int .i64 0]):=by
 have cV:ae Tryz.prog 115 [kQ l] (.bool true):=by rw [← hv]; exact tg l hl
 have hu:∀ x∈l,0≤x.u∧x.u≤1000000:=by
  simp only [fq,Bool.and_eq_true] at hv
  exact pr l [] hv.1
 have hseq:=tn l hl hu
 refine ah aa Tryz.func72 rfl (by kernel_rfl) af (Nat.le_of_ble_eq_true rfl) ?_
 intro F n' w0 m0 hG hro h1
 repeat' first|refine QS rfl hG aa iF ?_|((conv=>whnf); first|refine anF ?_|refine anT ?_|refine anK ?_|refine Exists.intro _ (And.intro (cV) ?_)|refine Exists.intro _ (And.intro (Bd l) ?_)|refine And.intro (fun h=>?_) (fun h=>?_)|refine Or.inl ?_)
 generalize eZ l=items at hseq
 refine ⟨SP.rangeM2 hG hro h1 (α:=Int×Int) pA (f:=138) (cap:=[.ref [kQ l]]) (items:=items) rfl hseq (fun _=>rfl) (fun _=>[(6,.loc 6 0),(5,.loc 5 0)]) [6,5] (fun _=>rfl)
  (fun p=>[(6,[.int .i64 (jd p).2]),(5,[.int .i64 (jd p).1])]) (ai ?_ ?_) (by kernel_rfl) (by decide) ?_ ?_⟩
 ·repeat' (first | exact trivial | refine And.intro rfl ?_)
 ·repeat' (first | exact trivial | refine And.intro rfl ?_)
 ·intro F' n'' m' hG' _ _ pre x rest hx
  clear hG
  have hG:=hG'
  have hm:jd (pre++[x])=if x.2>(jd pre).1 then (x.2,x.1) else jd pre:=by rw [jd,List.foldl_append]; rfl
  generalize jd pre=r at hm
  obtain ⟨n,t⟩:=r
  refine SPB.out (Q1 ?_)
  repeat' first|refine QS rfl hG aa iF ?_|((conv=>whnf); first|refine anF ?_|refine anT ?_|refine anK ?_|refine And.intro (fun h=>?_) (fun h=>?_)|refine Or.inl ?_)
  refine And.intro (ai ?_ ?_) ?_
  ·repeat' (first | exact trivial | refine And.intro rfl ?_)
  ·repeat' (first | exact trivial | refine And.intro rfl ?_)
  refine SPB.out ?_
  repeat' first|refine QS rfl hG aa iF ?_|((conv=>whnf); first|refine anF ?_|refine anT ?_|refine anK ?_|refine And.intro (fun h=>?_) (fun h=>?_)|refine Or.inl ?_)
  ·rw [if_pos (of_decide_eq_true (by assumption))] at hm
   refine ai ?_ ?_
   ·repeat' (first | exact trivial | refine And.intro rfl ?_)
   ·dsimp only; rw [hm]; repeat' (first | exact trivial | refine And.intro rfl ?_)
  ·rw [if_neg (of_decide_eq_false (by assumption))] at hm
   refine ai ?_ ?_
   ·repeat' (first | exact trivial | refine And.intro rfl ?_)
   ·dsimp only; rw [hm]; repeat' (first | exact trivial | refine And.intro rfl ?_)
 ·conv=>whnf
  repeat' first|refine QS rfl hG aa iF ?_|((conv=>whnf); first|refine anF ?_|refine anT ?_|refine anK ?_|refine And.intro (fun h=>?_) (fun h=>?_)|refine Or.inl ?_)
  all_goals exact Ends.mk (Or.inl rfl) (ac rfl)
theorem D3 (s:Nat→Int) (l:List Opt) (ps:List ao) (a b:Int) (lost:List Int) (I:List Img) (n t:Int) (h1:ij l lost=I) (h2:jd (eZ I)=(n,t)) (hl:I.length≤1000000) (hv:fq I=true) :
  ae Tryz.prog 43 [.agg (flA s l ps a b),.agg (kg l lost)] (.tup [.int .i64 n,.int .i64 t,.bool true]):=by
 have c:=A4 I hl hv
 rw [h2] at c
 rw [kg,h1]
 refine ah aa Tryz.func43 rfl (by kernel_rfl) af (Nat.le_of_ble_eq_true rfl) ?_
 intro F n' w0 m0 hG hro h1
 repeat' first|refine QS rfl hG aa zh ?_|((conv=>whnf); first|refine anF ?_|refine anT ?_|refine anK ?_|refine Exists.intro _ (And.intro (c) ?_)|refine And.intro (fun h=>?_) (fun h=>?_)|refine Or.inl ?_)
 all_goals exact Ends.mk (Or.inl rfl) (ac rfl)
def lvL (s:Nat→Int) (D:List au) (a b:Int):List Int:=(dS (s 11) (fM s D a b)).2
theorem Be (s:Nat→Int) (l:List Opt) (ps:List ao) (a b:Int) (lost:List Int) (D:List au) (x:Int) (r:List Int) (h1:aF (dY l lost)=D) (h2:lvL s D a b=x::r) (hD:D.length≤1000000) (hv:iP s D a b=true) (hr:r.length≤100000) :
  ae Tryz.prog 44 [.agg (flA s l ps a b),.agg (kg l lost)] (.tup [.int .i64 (w64 (0 - gR x r)),.int .i64 (w64 (a+bC (fun y=>gR x r==y) (x::r) 0)),.bool true]):=by
 have c:=GH s D a b hD hv
 rw [show (dS (s 11) (fM s D a b)).2=x::r from h2] at c
 have c2:=DC x r (by omega)
 have c3:=p9 (x::r) (gR x r) (by simp; omega)
 have bb0:((((x::r).map fun h=>[AV.int .i64 h]).length:Int)==0)=true→False:=fun h=>by have:=eq_of_beq h; simp at this; omega
 rw [kg,h1]
 generalize gR x r=m at *
 generalize bC (fun y=>m==y) (x::r) 0=j at *
 refine ah aa Tryz.func44 rfl (by kernel_rfl) af (Nat.le_of_ble_eq_true rfl) ?_
 intro F n' w0 m0 hG hro h1
 repeat' first|exact (bb0 (by assumption)).elim|refine QS rfl hG aa zg ?_|((conv=>whnf); first|refine anF ?_|refine anT ?_|refine anK ?_|refine Exists.intro _ (And.intro (c) ?_)|refine Exists.intro _ (And.intro (c2) ?_)|refine Exists.intro _ (And.intro (c3) ?_)|refine And.intro (fun h=>?_) (fun h=>?_)|refine Or.inl ?_)
 all_goals exact Ends.mk (Or.inl rfl) (ac rfl)
def dQ (s:Nat→Int) (l:List Opt) (ps:List ao) (k a b:Int):Bool:=uZ k&&a8 s l ps a b&&decide (((az l).length:Int)≤6)
theorem iN (s:Nat→Int) (l:List Opt) (ps:List ao) (k a b:Int) (hl:l.length≤1000000) (hs:ku l) (hps:ps.length≤1000000):ae Tryz.prog 19 [.agg (cJ s),aZ l,ay ps,.int .i64 k,.agg (bp a b)] (.bool (dQ s l ps k a b)):=by
 have hfl:(((az l).map fun h=>[AV.int .i64 h]).length:Int)=((az l).length:Int):=by rw [List.length_map]
 refine ah aa Tryz.func19 rfl (by kernel_rfl) af (Nat.le_of_ble_eq_true rfl) ?_
 intro F n' w0 m0 hG hro h1
 repeat' first|refine QS rfl hG aa zt ?_|((conv=>whnf); first|refine anF ?_|refine anT ?_|refine anK ?_|refine Exists.intro _ (And.intro (A0 s l ps a b hl hs hps) ?_)|refine Exists.intro _ (And.intro (fD l hl hs) ?_)|refine And.intro (fun h=>?_) (fun h=>?_)|refine Or.inl ?_)
 all_goals refine Ends.mk (Or.inl rfl) (ac (congrArg AV.bool ?_))
 all_goals (try rw [hfl] at *)
 all_goals (clear hG; grind [dQ,uZ])
end Go.Proofs
namespace Go.Proofs
open Go Go.AI
set_option maxRecDepth 10000
section
variable {Γ:aH} {s:St} {K:Exit→St→Prop}
theorem SPB.unown {c:Code} (d j k sz sz2:Nat) {cs:List AV} (h1:AI.get s.b d=some cs) (h2:cs[j]?=some (.sl (.id k) sz [])) (h:SPB Γ ⟨s.t,(d,bB cs j (.sl .no sz2 []))::s.b⟩ c K):SPB Γ s c K:=by
 refine ⟨fun a w hI=>h.out a w ?_⟩
 obtain ⟨⟨cx,hW,ht⟩,hs,hd,hrn⟩:=hI
 have hne:cs≠[]:=fun e=>by rw [e] at h2; simp at h2
 refine ⟨⟨cx,hW.rebox h1 hne (ed _ _ _) (fun x hx=>?_) (fun vs hvs i x v q1 q2=>?_),ht⟩,hs,hd,hrn⟩
 ·obtain ⟨p,hp⟩:=List.getElem?_of_mem hx
  rw [cR] at hp
  split at hp
  ·cases hp; rfl
  ·exact (hW.box d cs h1 hne).2.2.1 x (List.mem_of_getElem? hp)
 ·rw [cR] at q1
  split at q1
  ·rename_i hj
   cases q1
   have hr:=hvs i _ v (by rw [← hj.1]; exact h2) q2
   obtain ⟨r1,r2,r3⟩:=(show RC1 cx (.sl (.id k) sz []) v from hr)
   show RD cx.m _ v
   match r3 with
   | .sl _ _ _ base len cap ho hf hl hc _ _ b off hb g _ _=>exact .sl _ _ _ _ _ _ (by intro k hk; cases hk) (by intro hk; cases hk) hl hc (by simp) (by simp) b off hb g (by simp) (by simp)
  ·exact hvs i x v q1 q2
end
theorem wX {s:Nat→Int} {ps:List ao} {z:Int} (hpl:ps.length≤64):∀ (l:List aS) (t t2:Int),t2≤t→bj s ps z t l=true→sS ps t2 l=true
 | [],_,_,_,_=>rfl
 | x::r,t,t2,ht,h=>by
  simp only [bj,ez,Bool.and_eq_true,inS,decide_eq_true_eq,Bool.not_eq_true'] at h
  obtain ⟨⟨⟨h0,h1⟩,⟨⟨⟨_,h2⟩,h3⟩,h4⟩,_⟩,h5⟩:=h
  rw [am (by omega) (by omega)] at h1
  rw [sS,wX hpl r x.b x.b (Int.le_refl _) h5,Bool.and_true]
  simp only [slL,Bool.and_eq_true,Bool.not_eq_true',decide_eq_false_iff_not]
  omega
theorem pN {s:Nat→Int} {o:Opt} {ps:List ao} (hps:cH ps=true) (ho:0≤o.b) (h:cY s o ps=true):eV o ps=true:=by
 have hl:=(qZ hps).2
 simp only [cY,Bool.and_eq_true,inS,decide_eq_true_eq] at h
 obtain ⟨⟨_,h1⟩,h2⟩:=h
 have h3:=wX hl o.sl o.b 0 ho h2
 simp only [eV,Bool.and_eq_true,Bool.not_eq_true',decide_eq_false_iff_not,h3,hps,and_true]
 omega
theorem Ad {s:Nat→Int} {l:List Opt} {ps:List ao} {a b:Int} (h:a8 s l ps a b=true) {lost:List Int} (hs:mE ps lost=true):∀ o∈l,kE o ps lost=true:=fun o ho=>by
 obtain ⟨_,hr,_,_,hp,hf,_⟩:=bz.1 h
 obtain ⟨_,_,hfit⟩:=qq.of h
 have h1:=hfit o ho
 unfold kE
 rw [hs,Bool.and_true]
 exact pN hp (by have:=h1.shot; omega) (hf o ho).1
theorem uu {s:Nat→Int} {l:List Opt} {ps:List ao} {a b:Int} (h:a8 s l ps a b=true) {lost:List Int} (hs:mE ps lost=true) (hlo:lost.length≤1000000):ae Tryz.prog 26 [.agg (flA s l ps a b),aG lost] (.tup [.agg (kg l lost),.bool true]):=by
 obtain ⟨hl,_,_,_,hp,_,_⟩:=bz.1 h
 obtain ⟨_,_,hfit⟩:=qq.of h
 exact FU s l ps a b lost hl (fun o ho=>(hfit o ho).len.2) (by have:=(qZ hp).2; omega) hlo (Ad h hs) (fun o ho=>(hfit o ho).can)
def HC:Fnd:=⟨0,0,[],false⟩
def eP (m:List Int→Int×Int) (L:List (List Int)):Fnd:=L.foldl (fun x y=>se x ⟨(m y).1,(m y).2,y,true⟩) HC
theorem AX (m:List Int→Int×Int) (L:List (List Int)) (y:List Int):eP m (L++[y])=se (eP m L) ⟨(m y).1,(m y).2,y,true⟩:=by rw [eP,List.foldl_append]; rfl
set_option maxHeartbeats 8000000 in
theorem pS (s:Nat→Int) (l:List Opt) (ps:List ao) (k a b:Int) (g:FuncId) (m:List Int→Int×Int) (hl:l.length≤1000000) (hs:ku l) (hps:ps.length≤1000000) (hv:dQ s l ps k a b=true)
  (hw:∀ lost∈dV (az l) ps k,ae Tryz.prog 26 [.agg (flA s l ps a b),aG lost] (.tup [.agg (kg l lost),.bool true]))
  (hg:∀ lost∈dV (az l) ps k,ae Tryz.prog g [.agg (flA s l ps a b),.agg (kg l lost)] (.tup [.int .i64 (m lost).1,.int .i64 (m lost).2,.bool true])) :
  ae Tryz.prog 42 [.agg (cJ s),aZ l,ay ps,.int .i64 k,.agg (bp a b),.fn g] (.tup [.agg (u8 (eP m (dV (az l) ps k))),.int .i64 0]):=by
 have cV:=iN s l ps k a b hl hs hps
 rw [hv] at cV
 have hf6:(az l).length≤6:=by
  simp only [dQ,Bool.and_eq_true,decide_eq_true_eq] at hv; omega
 have hseq:=oh (az l) ps k hf6 hps
 refine ah aa Tryz.func42 rfl (by kernel_rfl) af (Nat.le_of_ble_eq_true rfl) ?_
 intro F n' w0 m0 hG hro h1
 repeat' first|refine QS rfl hG aa iJ ?_|((conv=>whnf); first|refine anF ?_|refine anT ?_|refine anK ?_|refine Exists.intro _ (And.intro (cV) ?_)|refine Exists.intro _ (And.intro (fD l hl hs) ?_)|refine Exists.intro _ (And.intro (uv _ _ _) ?_)|refine And.intro (fun h=>?_) (fun h=>?_)|refine Or.inl ?_)
 generalize dV (az l) ps k=items at hseq hw hg
 refine SPB.unown 12 2 1012002 0 1 rfl rfl ?_
 conv=>whnf
 refine ⟨SP.rangeM2 hG hro h1 (α:=List Int) (fun l=>[aG l]) (f:=69) (cap:=[.ref [aG (az l)],.ref [ay ps],.ref [.int .i64 k]]) (items:=items) rfl hseq (fun _=>rfl) (fun _=>[(14,.loc 14 0),(13,.loc 13 0),(12,.loc 12 0),(11,.loc 11 0)]) [14,13,12,11] (fun _=>rfl)
  (fun p=>[(14,flA s l ps a b),(13,[.int .i64 0]),(12,u8 (eP m p)),(11,[.fn g])]) (ai ?_ ?_) (by kernel_rfl) (by decide) ?_ ?_⟩
 ·repeat' (first | exact trivial | refine And.intro rfl ?_)
 ·repeat' (first | exact trivial | refine And.intro rfl ?_)
 ·intro F' n'' m' hG' _ _ pre x rest hx
  clear hG
  have hG:=hG'
  have hxm:x∈items:=by rw [hx]; simp
  have cW:=hw x hxm
  have cM:=hg x hxm
  have hb:=AX m pre x
  generalize eP m pre=z at hb
  refine SPB.out (Q4 hG aa iJ (by kernel_rfl) ?_)
  conv=>whnf
  refine And.intro rfl (And.intro (ai ?_ ?_) ?_)
  ·repeat' (first | exact trivial | refine And.intro rfl ?_)
  ·repeat' (first | exact trivial | refine And.intro rfl ?_)
  refine SPB.out ?_
  repeat' first|refine QS rfl hG aa iJ ?_|((conv=>whnf); first|refine anF ?_|refine anT ?_|refine anK ?_|refine Exists.intro _ (And.intro (cW) ?_)|refine Exists.intro _ (And.intro (cM) ?_)|refine Exists.intro _ (And.intro (zP z ⟨(m x).1,(m x).2,x,true⟩) ?_)|refine And.intro (fun h=>?_) (fun h=>?_)|refine Or.inl ?_)
  refine ai ?_ ?_
  ·repeat' (first | exact trivial | refine And.intro rfl ?_)
  ·dsimp only; rw [hb]; repeat' (first | exact trivial | refine And.intro rfl ?_)
 ·conv=>whnf
  repeat' first|refine QS rfl hG aa iJ ?_|((conv=>whnf); first|refine anF ?_|refine anT ?_|refine anK ?_|refine And.intro (fun h=>?_) (fun h=>?_)|refine Or.inl ?_)
  all_goals exact Ends.mk (Or.inl rfl) (ac rfl)
end Go.Proofs
namespace Go.Proofs
open Go Go.AI
set_option maxRecDepth 10000
theorem Da {s:Nat→Int} {l:List Opt} {ps:List ao} {a b:Int} (h:a8 s l ps a b=true) (k:Opt→Nat):∀ o∈l,(rN o (k o)).i=o.id∧(rN o (k o)).u=o.size∧(rN o (k o)).a=o.a∧o.a<(rN o (k o)).b∧(rN o (k o)).b≤fk o:=fun o ho=>by
 obtain ⟨_,_,hfit⟩:=qq.of h
 have hf:=hfit o ho
 have hs:=hf.shot
 have hla:=hf.last
 have hc:=hf.can
 simp only [na,Bool.and_eq_true] at hc
 have hge:=ud _ _ hc.1
 unfold rN
 split
 ·rename_i hk
  have h1:=hge _ (BA hk)
  have h2:=hf.slot _ (BA hk)
  exact ⟨rfl,rfl,rfl,by show _<(aN _ _).b; omega,h2.2.2⟩
 ·exact ⟨rfl,rfl,rfl,by show _<fk _; omega,Int.le_refl _⟩
theorem AH {s:Nat→Int} {l:List Opt} {ps:List ao} {a b:Int} (h:a8 s l ps a b=true) (k:Opt→Nat):fq (l.map fun o=>rN o (k o))=true:=by
 obtain ⟨hl,hr,_,hsat,_,_,hids⟩:=bz.1 h
 obtain ⟨_,_,hfit⟩:=qq.of h
 have hq:=BF hsat
 have himg:=Da h k
 rw [fq,Bool.and_eq_true]
 refine ⟨(rk _ []).2 ⟨fun x hx=>?_,?_,fun p hp=>nomatch hp⟩,by simp; omega⟩
 ·obtain ⟨o,ho,rfl⟩:=List.mem_map.1 hx
  obtain ⟨e1,e2,e3,e4,e5⟩:=himg o ho
  have hf:=hfit o ho
  have f1:=hf.id; have f2:=hf.size; have f3:=hf.shot; have f4:=hf.last
  rw [e1,e2,e3]
  refine ⟨f1,⟨f2.1,by omega⟩,f3.1,e4,by omega⟩
 ·rw [List.pairwise_map]
  refine List.Pairwise.imp_of_mem (fun {x y} hx hy hxy=>?_) hids
  rw [(himg x hx).1,(himg y hy).1]; exact hxy
theorem oJ {s:Nat→Int} {l:List Opt} {ps:List ao} {a b:Int} (h:a8 s l ps a b=true) (k:Opt→Nat):ew (l.map fun o=>sY o (k o)):=by
 obtain ⟨_,hg,_⟩:=qq.of h
 refine ⟨by have:=hg.n; simpa using this,fun o ho=>?_,fun o ho x hx=>?_⟩
 ·obtain ⟨p,hp,rfl⟩:=List.mem_map.1 ho
  have:=hg.shot p hp
  unfold sY
  split
  ·exact ⟨this.1,this.2.1,this.2.2.1,by show (List.take _ _).length≤6; rw [List.length_take]; omega⟩
  ·exact this
 ·obtain ⟨p,hp,rfl⟩:=List.mem_map.1 ho
  refine hg.slot p hp x ?_
  unfold sY at hx
  split at hx
  ·exact List.mem_of_mem_take hx
  ·exact hx
theorem xR {s:Nat→Int} {l:List Opt} {ps:List ao} {a b:Int} (h:a8 s l ps a b=true) {D:List Opt} (hg:ew D):iP s (aF D) a b=true:=by
 obtain ⟨_,hr,hab,hsat,_,_,_⟩:=bz.1 h
 have hw:w64 (b - a)=b - a:=am (by omega) (by omega)
 simp only [iP,Bool.and_eq_true,decide_eq_true_eq,hg.proper,hsat,and_true,gD,hw]
 omega
theorem pI (c:Int):∀ (pre:List (Int×Int)) (r:Int×List Int),(pre.foldl (gi c) r).2.length=r.2.length+pre.length
 | [],r=>by simp
 | p::pre,r=>by rw [List.foldl_cons,pI c pre]; simp [gi]; omega
theorem Hr (s:Nat→Int) (D:List au) (a b:Int):(lvL s D a b).length=(b - a).toNat:=by
 rw [lvL,dS,pI]; simp [fM,gP]
def pkM (l:List Opt) (lost:List Int):Int×Int:=jd (eZ (ij l lost))
def CY (l:List Int):Int:=match l with | []=>0 | x::r=>gR x r
def loM (s:Nat→Int) (l:List Opt) (a b:Int) (lost:List Int):Int×Int:=(w64 (0 - CY (lvL s (aF (dY l lost)) a b)),w64 (a+bC (fun y=>CY (lvL s (aF (dY l lost)) a b)==y) (lvL s (aF (dY l lost)) a b) 0))
def pkS (l:List Opt) (ps:List ao) (k:Int):Fnd:=eP (pkM l) (dV (az l) ps k)
def loS (s:Nat→Int) (l:List Opt) (ps:List ao) (k a b:Int):Fnd:=eP (loM s l a b) (dV (az l) ps k)
theorem Ex {f:List Int} {ps:List ao} {k:Int} {x:List Int} (h:x∈dV f ps k):fC ps x k=true∧∃ b,b<2 ^ f.length∧x=dh f b:=by
 obtain ⟨h1,h2⟩:=List.mem_filter.1 h
 obtain ⟨b,hb,rfl⟩:=List.mem_map.1 h1
 exact ⟨h2,b,List.mem_range.1 hb,rfl⟩
theorem Dt {ps:List ao} {x:List Int} {k:Int} (h:fC ps x k=true):mE ps x=true:=by
 simp only [fC,Bool.and_eq_true] at h; exact h.1.2
theorem io {s:Nat→Int} {l:List Opt} {ps:List ao} {k a b:Int} (hv:dQ s l ps k a b=true):a8 s l ps a b=true∧(az l).length≤6∧0≤k∧k≤3:=by
 simp only [dQ,uZ,Bool.and_eq_true,decide_eq_true_eq] at hv
 exact ⟨hv.1.2,by omega,hv.1.1⟩
theorem kl {s:Nat→Int} {l:List Opt} {ps:List ao} {a b:Int} (h:a8 s l ps a b=true):l.length≤1000000∧ku l∧ps.length≤1000000:=by
 obtain ⟨hl,_,_,_,hp,_,_⟩:=bz.1 h
 obtain ⟨hk,_,_⟩:=qq.of h
 have:=(qZ hp).2
 exact ⟨by omega,hk.sl,by omega⟩
theorem G2 {f:List Int} {b:Nat} (hf:f.length≤6):(dh f b).length≤1000000:=Nat.le_trans (iY f b f.length) (by omega)
theorem uy {s:Nat→Int} {l:List Opt} {ps:List ao} {k a b:Int} (hv:dQ s l ps k a b=true):∀ lost∈dV (az l) ps k,ae Tryz.prog 26 [.agg (flA s l ps a b),aG lost] (.tup [.agg (kg l lost),.bool true]):=fun lost hm=>by
 obtain ⟨ht,hf,_⟩:=io hv
 obtain ⟨ha,bb,_,rfl⟩:=Ex hm
 exact uu ht (Dt ha) (G2 hf)
theorem Bc {s:Nat→Int} {l:List Opt} {ps:List ao} {a b:Int} (ht:a8 s l ps a b=true) (lost:List Int):ae Tryz.prog 43 [.agg (flA s l ps a b),.agg (kg l lost)] (.tup [.int .i64 (pkM l lost).1,.int .i64 (pkM l lost).2,.bool true]):=
 D3 s l ps a b lost _ _ _ rfl rfl (by have:=(bz.1 ht).1; simp [ij]; omega) (AH ht _)
theorem zB {s:Nat→Int} {l:List Opt} {ps:List ao} {a b:Int} (ht:a8 s l ps a b=true) (lost:List Int):ae Tryz.prog 44 [.agg (flA s l ps a b),.agg (kg l lost)] (.tup [.int .i64 (loM s l a b lost).1,.int .i64 (loM s l a b lost).2,.bool true]):=by
 obtain ⟨_,hr,hab,_⟩:=bz.1 ht
 have hg:ew (dY l lost):=oJ ht _
 have hlen:=Hr s (aF (dY l lost)) a b
 have hd:=qu hg
 have hv:=xR ht hg
 unfold loM
 generalize hlv:lvL s (aF (dY l lost)) a b=lv at hlen
 cases lv with
 | nil=>simp at hlen; omega
 | cons x r=>exact Be s l ps a b lost _ x r rfl hlv (by omega) hv (by simp at hlen; omega)
theorem nf {s:Nat→Int} {l:List Opt} {ps:List ao} {k a b:Int} (hv:dQ s l ps k a b=true):ae Tryz.prog 14 [.agg (cJ s),aZ l,ay ps,.int .i64 k,.agg (bp a b)] (.tup [.int .i64 (pkS l ps k).n,.int .i64 (pkS l ps k).at_,aG (pkS l ps k).what,.int .i64 0]):=by
 obtain ⟨ht,hf,_⟩:=io hv
 obtain ⟨hl,hs,hp⟩:=kl ht
 have c:=pS s l ps k a b 43 (pkM l) hl hs hp hv (uy hv) (fun lost _=>Bc ht lost)
 have e:eP (pkM l) (dV (az l) ps k)=pkS l ps k:=rfl
 rw [e] at c
 generalize pkS l ps k=z at c
 refine ah aa Tryz.func14 rfl (by kernel_rfl) af (Nat.le_of_ble_eq_true rfl) ?_
 intro F n' w0 m0 hG hro h1
 repeat' first|refine QS rfl hG aa zx ?_|((conv=>whnf); first|refine anF ?_|refine anT ?_|refine anK ?_|refine Exists.intro _ (And.intro (c) ?_)|refine And.intro (fun h=>?_) (fun h=>?_)|refine Or.inl ?_)
 all_goals exact Ends.mk (Or.inl rfl) (ac rfl)
theorem uw {s:Nat→Int} {l:List Opt} {ps:List ao} {k a b:Int} (hv:dQ s l ps k a b=true):ae Tryz.prog 15 [.agg (cJ s),aZ l,ay ps,.int .i64 k,.agg (bp a b)] (.tup [.int .i64 (w64 (0 - (loS s l ps k a b).n)),.int .i64 (loS s l ps k a b).at_,aG (loS s l ps k a b).what,.int .i64 0]):=by
 obtain ⟨ht,hf,_⟩:=io hv
 obtain ⟨hl,hs,hp⟩:=kl ht
 have c:=pS s l ps k a b 44 (loM s l a b) hl hs hp hv (uy hv) (fun lost _=>zB ht lost)
 have e:eP (loM s l a b) (dV (az l) ps k)=loS s l ps k a b:=rfl
 rw [e] at c
 generalize loS s l ps k a b=z at c
 refine ah aa Tryz.func15 rfl (by kernel_rfl) af (Nat.le_of_ble_eq_true rfl) ?_
 intro F n' w0 m0 hG hro h1
 repeat' first|refine QS rfl hG aa zw ?_|((conv=>whnf); first|refine anF ?_|refine anT ?_|refine anK ?_|refine Exists.intro _ (And.intro (c) ?_)|refine And.intro (fun h=>?_) (fun h=>?_)|refine Or.inl ?_)
 all_goals exact Ends.mk (Or.inl rfl) (ac rfl)
theorem sK {s:Nat→Int} {l:List Opt} {ps:List ao} {k a b:Int} (hv:dQ s l ps k a b=true):ae Tryz.prog 18 [.agg (cJ s),aZ l,ay ps,.int .i64 k,.agg (bp a b)] (.bool (decide ((pkS l ps k).n≤s 10)&&decide (w64 (0 - (loS s l ps k a b).n)≥0))):=by
 have c1:=nf hv
 have c2:=uw hv
 generalize pkS l ps k=z at *
 generalize w64 (0 - (loS s l ps k a b).n)=m at *
 generalize loS s l ps k a b=z2 at *
 refine ah aa Tryz.func18 rfl (by kernel_rfl) af (Nat.le_of_ble_eq_true rfl) ?_
 intro F n' w0 m0 hG hro h1
 repeat' first|refine QS rfl hG aa zu ?_|((conv=>whnf); first|refine anF ?_|refine anT ?_|refine anK ?_|refine Exists.intro _ (And.intro (c1) ?_)|refine Exists.intro _ (And.intro (c2) ?_)|refine And.intro (fun h=>?_) (fun h=>?_)|refine Or.inl ?_)
 all_goals refine Ends.mk (Or.inl rfl) (ac (congrArg AV.bool ?_))
 all_goals (clear hG c1 c2; first | grind | (simp_all; done) | (simp_all; omega))
def m4 (f l:List Int) (i:Nat):Bool:=inP f (aQ l i)&&(decide (i=0)||decide (aQ l (i - 1)<aQ l i))
def iw (f l:List Int):Bool:=(List.range l.length).all (m4 f l)
theorem Df {f l:List Int} {i:Nat} (hi:i<l.length) (h:m4 f l i=false):iw f l=false:=by
 unfold iw
 rw [List.all_eq_false]
 exact ⟨i,List.mem_range.2 hi,by rw [h]; simp⟩
theorem x7 {s:Nat→Int} {l:List Opt} {ps:List ao} {a b:Int} (h:a8 s l ps a b=true) {lost:List Int} (hf:iw (az l) lost=true):mE ps lost=true:=by
 obtain ⟨_,hr,_,_,hp,hft,_⟩:=bz.1 h
 have hpl:=(qZ hp).2
 have hin:∀ x∈az l,0≤x∧x<(ps.length:Int):=fun x hx=>by
  rw [tY,uN,List.mem_flatMap] at hx
  obtain ⟨o,ho,hx⟩:=hx
  obtain ⟨y,hy,rfl⟩:=List.mem_map.1 hx
  have hfo:=(hft o (List.mem_of_mem_take ho)).1
  simp only [cY,Bool.and_eq_true] at hfo
  have hall:∀ (sl:List aS) (t:Int),bj s ps o.size t sl=true→∀ z∈sl,0≤z.p∧z.p<(ps.length:Int):=fun sl=>by
   induction sl with
   | nil=>intro _ _ z hz; cases hz
   | cons x r ih=>
    intro t ht z hz
    simp only [bj,ez,Bool.and_eq_true,inS,decide_eq_true_eq] at ht
    rcases List.mem_cons.1 hz with e | hz
    ·subst e
     have:=ht.1.1
     rw [am (by omega) (by omega)] at this
     omega
    ·exact ih _ ht.2 z hz
  exact hall o.sl o.b hfo.2 y (List.mem_of_mem_take hy)
 unfold mE
 rw [hp,Bool.and_true,List.all_eq_true]
 intro i hi
 unfold iw at hf
 rw [List.all_eq_true] at hf
 have h1:=hf i hi
 simp only [m4,inP,Bool.and_eq_true,List.any_eq_true,beq_iff_eq] at h1
 obtain ⟨⟨y,hy,e⟩,h2⟩:=h1
 have h3:=hin y hy
 simp only [oX,Bool.and_eq_true,decide_eq_true_eq]
 rw [e]
 rw [e] at h2
 exact ⟨h3,h2⟩
def wQ (s:Nat→Int) (l:List Opt) (ps:List ao) (a b:Int) (lost:List Int):AV := .tup (if (dQ s l ps 0 a b&&iw (az l) lost)=true then [.agg (kg l lost),.int .i64 0] else [.agg [.sl .full 0 [],.sl .full 0 [],.sl .full 0 [],.sl .full 0 []],.int .i64 210])
set_option maxHeartbeats 4000000 in
theorem lN (s:Nat→Int) (l:List Opt) (ps:List ao) (a b:Int) (lost:List Int) (hl:l.length≤1000000) (hs:ku l) (hps:ps.length≤1000000) (hlo:lost.length≤1000000):ae Tryz.prog 9 [.agg (cJ s),aZ l,ay ps,.agg (bp a b),aG lost] (wQ s l ps a b lost):=by
 have cV:=iN s l ps 0 a b hl hs hps
 have cFk:=fD l hl hs
 cases hv:dQ s l ps 0 a b with
 | false=>
  rw [hv] at cV
  rw [wQ,hv,Bool.false_and,if_neg (by decide)]
  refine ah aa Tryz.func9 rfl (by kernel_rfl) af (Nat.le_of_ble_eq_true rfl) ?_
  intro F n' w0 m0 hG hro h1
  repeat' first|refine QS rfl hG aa jW ?_|((conv=>whnf); first|refine anF ?_|refine anT ?_|refine anK ?_|refine Exists.intro _ (And.intro (cV) ?_)|refine And.intro (fun h=>?_) (fun h=>?_)|refine Or.inl ?_)
  all_goals exact Ends.mk (Or.inl rfl) (ac rfl)
 | true=>
  rw [hv] at cV
  obtain ⟨ht,hf6,_⟩:=io hv
  have cC:=fun x=>hU (az l) x (by omega)
  have cW:=fun h:iw (az l) lost=true=>uu ht (x7 ht h) hlo
  rw [wQ,hv,Bool.true_and]
  generalize hfk:az l=f at *
  refine ah aa Tryz.func9 rfl (by kernel_rfl) af (Nat.le_of_ble_eq_true rfl) ?_
  intro F n' w0 m0 hG hro h1
  repeat' first|refine QS rfl hG aa jW ?_|((conv=>whnf); first|refine anF ?_|refine anT ?_|refine anK ?_|refine Exists.intro _ (And.intro (cV) ?_)|refine Exists.intro _ (And.intro (cFk) ?_)|refine And.intro (fun h=>?_) (fun h=>?_)|refine Or.inl ?_)
  refine ar (X:=Nat) (fun x=>⟨[(28,.int .i64 x),(27,.int .i64 (lost.map fun h=>[AV.int .i64 h]).length),(26,aG lost),(12,aG f),(10,.loc 10 0),(8,.loc 8 0),(5,.loc 5 0),(4,aG lost),(2,ay ps),(1,aZ l)],[(10,[.sl (.id 1010000) 0 [],.sl (.id 1010001) 0 [],.sl (.id 1010002) 0 [],.sl (.id 1010003) 0 []]),(8,bp a b),(5,cJ s)]⟩) (fun x=>x≤lost.length∧(List.range x).all (m4 f lost)=true) (fun x=>lost.length - x) 0 ⟨Nat.zero_le _,rfl⟩ (ai ?_ ?_) (fun x hx=>?_)
  ·repeat' (first | exact trivial | refine And.intro rfl ?_)
  ·repeat' (first | exact trivial | refine And.intro rfl ?_)
  ·rename Nat=>i
   obtain ⟨hi,hall⟩:=hx
   by_cases hlt_i:i<lost.length
   ·have bbk:decide ((i:Int)<((lost.map fun h=>[AV.int .i64 h]).length:Int))=false→False:=fun h=>by have:=of_decide_eq_false h; simp at this; omega
    have hx:=lB hlt_i
    have hw:(i:Int)>0→IntKind.i64.wrap ((i:Int) - 1)=((i - 1:Nat):Int):=fun h=>(am (by omega) (by omega)).trans (by omega)
    have hp0:decide ((i:Int)>0)=true→0≤IntKind.i64.wrap ((i:Int) - 1):=fun h=>by rw [hw (of_decide_eq_true h)]; omega
    have hp:decide ((i:Int)>0)=true→(lost.map fun h=>[AV.int .i64 h])[(IntKind.i64.wrap ((i:Int) - 1)).toNat]?=some [.int .i64 (aQ lost (i - 1))]:=fun h=>by rw [hw (of_decide_eq_true h)]; exact lB (by omega)
    have hok:m4 f lost i=(inP f (aQ lost i)&&(decide (i=0)||decide (aQ lost (i - 1)<aQ lost i))):=rfl
    have cCi:=cC (aQ lost i)
    generalize aQ lost (i - 1)=v at hp hok
    generalize aQ lost i=u at hx hok cCi
    repeat' first|exact (bbk (by assumption)).elim|refine QS rfl hG aa jW ?_|((conv=>whnf); first|refine anF ?_|refine anT ?_|refine anK ?_|refine And.intro (Int.natCast_nonneg i) (Exists.intro _ (And.intro hx ?_))|refine Exists.intro _ (And.intro (cCi) ?_)|refine And.intro (hp0 (by assumption)) (Exists.intro _ (And.intro (hp (by assumption)) ?_))|refine And.intro (fun h=>?_) (fun h=>?_)|refine Or.inl ?_)
    all_goals first
     |((try dsimp only)
       refine Ends.mk (Or.inl rfl) (ac ?_)
       rw [if_neg (by rw [Df hlt_i (by rw [hok]; clear hG; grind)]; decide)]
       rfl)
     | skip
    all_goals (refine Exists.intro (i+1) (And.intro ?_ (And.intro (by omega) (ai ?_ ?_))))
    all_goals first
     |(refine And.intro (congrArg some (aq (by omega))) ?_
       repeat' (first | exact trivial | refine And.intro rfl ?_))
     |((repeat' (first | exact trivial | refine And.intro rfl ?_)); done)
     |(exact ⟨hlt_i,by rw [yB,hall,hok]; clear hG; grind⟩)
   ·have bbk:decide ((i:Int)<((lost.map fun h=>[AV.int .i64 h]).length:Int))=true→False:=fun h=>by have:=of_decide_eq_true h; simp at this; omega
    have he:i=lost.length:=by omega
    rw [he] at hall
    have hfs:iw f lost=true:=hall
    have cWl:=cW hfs
    rw [if_pos hfs]
    repeat' first|exact (bbk (by assumption)).elim|refine QS rfl hG aa jW ?_|((conv=>whnf); first|refine anF ?_|refine anT ?_|refine anK ?_|refine Exists.intro _ (And.intro (cWl) ?_)|refine And.intro (fun h=>?_) (fun h=>?_)|refine Or.inl ?_)
    exact Ends.mk (Or.inl rfl) (ac rfl)
end Go.Proofs
namespace Go.Proofs
open Go Go.AI
def BP (m:List Int→Int×Int) (L:List (List Int)) (x:Fnd):Prop:=(L=[]∧x=HC)∨(x.is=true∧x.what∈L∧x.n=(m x.what).1∧x.at_=(m x.what).2∧∀ y∈L,(m y).1≤x.n)
theorem BP.step {m:List Int→Int×Int} {L:List (List Int)} {x:Fnd} (h:BP m L x) (y:List Int):BP m (L++[y]) (se x ⟨(m y).1,(m y).2,y,true⟩):=by
 refine .inr ?_
 rcases h with ⟨rfl,rfl⟩ | ⟨h1,h2,h3,h4,h5⟩
 ·refine ⟨rfl,by simp [se,HC],rfl,rfl,fun z hz=>?_⟩
  simp only [List.nil_append,List.mem_singleton] at hz
  subst hz
  exact Int.le_refl _
 ·unfold se
  simp only [h1,Bool.not_true,Bool.false_or,Bool.true_and]
  split
  ·rename_i hg
   have hg:=of_decide_eq_true hg
   refine ⟨rfl,by simp,rfl,rfl,fun z hz=>?_⟩
   show _≤(m y).1
   rcases List.mem_append.1 hz with hz | hz
   ·have:=h5 z hz; omega
   ·rw [List.mem_singleton.1 hz]; exact Int.le_refl _
  ·rename_i hg
   have hg:¬ (m y).1>x.n:=fun h=>hg (decide_eq_true h)
   refine ⟨h1,List.mem_append_left _ h2,h3,h4,fun z hz=>?_⟩
   rcases List.mem_append.1 hz with hz | hz
   ·exact h5 z hz
   ·rw [List.mem_singleton.1 hz]; omega
theorem BP.fold {m:List Int→Int×Int}:∀ (L pre:List (List Int)) (x:Fnd),BP m pre x→BP m (pre++L) (L.foldl (fun x y=>se x ⟨(m y).1,(m y).2,y,true⟩) x)
 | [],pre,x,h=>by simpa using h
 | y::L,pre,x,h=>by
  have:=BP.fold L (pre++[y]) _ (h.step y)
  simpa using this
theorem Do (m:List Int→Int×Int) (L:List (List Int)):BP m L (eP m L):=by
 have:=BP.fold (m:=m) L [] HC (.inl ⟨rfl,rfl⟩)
 rw [List.nil_append] at this; exact this
theorem HI {m:List Int→Int×Int} {L:List (List Int)} (h:L≠[]):(eP m L).what∈L∧(eP m L).n=(m (eP m L).what).1∧(eP m L).at_=(m (eP m L).what).2∧∀ y∈L,(m y).1≤(eP m L).n:=by
 rcases Do m L with ⟨h1,_⟩ | ⟨_,h1⟩
 ·exact absurd h1 h
 ·exact h1
theorem Ew {f:List Int} {ps:List ao} {k:Int} (hp:cH ps=true) (h0:0≤k) (h3:k≤3):[]∈dV f ps k:=by
 unfold dV eS
 rw [List.mem_filter,List.mem_map]
 refine ⟨⟨0,List.mem_range.2 (Nat.two_pow_pos _),?_⟩,?_⟩
 ·unfold dh dK
  rw [List.filterMap_eq_nil_iff]
  intro i _
  simp [sd]
 ·simp only [fC,uZ,mE,BU,BV,hp,Bool.and_eq_true,decide_eq_true_eq]
  simp; omega
theorem Hb {f:List Int} {ps:List ao} {k:Int} (hp:cH ps=true) (h0:0≤k) (h3:k≤3):dV f ps k≠[]:=fun e=>by
 have:=Ew (f:=f) hp h0 h3
 rw [e] at this; cases this
theorem yx:∀ (l:List Int) (a b:Int),asc l→(∀ x∈l,a≤x∧x<b)→a≤b→(l.length:Int)≤b - a
 | [],a,b,_,_,h=>by simp; omega
 | x::l,a,b,hl,hx,h=>by
  obtain ⟨h1,h2⟩:=List.pairwise_cons.1 hl
  have hx0:=hx x List.mem_cons_self
  have:=yx l (x+1) b h2 (fun y hy=>⟨by have:=h1 y hy; omega,(hx y (List.mem_cons_of_mem _ hy)).2⟩) (by omega)
  rw [List.length_cons]; omega
theorem x8 {s:Nat→Int} {l:List Opt} {ps:List ao} {a b:Int} (h:a8 s l ps a b=true):∀ x∈az l,0≤x∧x<(ps.length:Int):=fun x hx=>by
 have hf:iw (az l) [x]=true:=by
  unfold iw
  rw [List.all_eq_true]
  intro i hi
  have:i=0:=by have:=List.mem_range.1 hi; simp at this; omega
  subst this
  simp [m4,inP,aQ,hx]
 have hs:=x7 h hf
 have:=BB hs (i:=0) (by simp)
 simpa [aQ] using this
theorem o7 {s:Nat→Int} {l:List Opt} {ps:List ao} {a b:Int} (h:a8 s l ps a b=true):(az l).length≤ps.length:=by
 have:=yx (az l) 0 ps.length (o8 l) (x8 h) (by omega)
 omega
theorem nh {s:Nat→Int} {l:List Opt} {ps:List ao} {a b k:Int} (h:a8 s l ps a b=true) (h6:ps.length≤6) (h0:0≤k) (h3:k≤3):dQ s l ps k a b=true:=by
 have:=o7 h
 simp only [dQ,uZ,h,Bool.and_eq_true,decide_eq_true_eq,and_true]
 omega
theorem Ha {s:Nat→Int} {l:List Opt} {ps:List ao} {a b k:Int} (h:a8 s l ps a b=true) (h6:ps.length≤6) (h0:0≤k) (h3:k≤3):fE l ps k=false:=by
 have hf:=o7 h
 obtain ⟨hl,_,_,_,hp,hft,_⟩:=bz.1 h
 obtain ⟨_,_,hfit⟩:=qq.of h
 have hlv:(l.any fun o => !eV o ps)=false:=by
  rw [List.any_eq_false]
  intro o ho
  have h1:=hfit o ho
  rw [pN hp (by have:=h1.shot; omega) (hft o ho).1]; simp
 simp only [fE,od,hlv,hp,Bool.not_true,Bool.or_false,Bool.or_eq_false_iff,decide_eq_false_iff_not]
 omega
end Go.Proofs
namespace Go.Proofs
open Go Go.AI
set_option maxRecDepth 10000
set_option maxHeartbeats 4000000 in
theorem fU (l m:List Int) (hl:l.length≤1000000):ae Tryz.prog 17 [aG l,aG m] (.bool (decide (l=m))):=by
 have hlm:((l.map (fun h=>[AV.int .i64 h])).length:Int)=(l.length:Int):=by rw [List.length_map]
 have hmm:((m.map (fun h=>[AV.int .i64 h])).length:Int)=(m.length:Int):=by rw [List.length_map]
 refine ah aa Tryz.func17 rfl (by kernel_rfl) af (Nat.le_of_ble_eq_true rfl) ?_
 intro F n' w0 m0 hG hro h1
 repeat' first|refine QS rfl hG aa ln ?_|((conv=>whnf); first|refine anF ?_|refine anT ?_|refine anK ?_|refine And.intro (fun h=>?_) (fun h=>?_)|refine Or.inl ?_)
 all_goals first
  |(refine Ends.mk (Or.inl rfl) (ac (congrArg AV.bool ?_))
    have h:=(by assumption:(((l.map (fun h=>[AV.int .i64 h])).length:Int)!=((m.map (fun h=>[AV.int .i64 h])).length:Int))=true)
    rw [hlm,hmm] at h
    exact (decide_eq_false fun e=>by rw [e] at h; simp at h).symm)
  | skip
 have hll:l.length=m.length:=by
  have h:=(by assumption:(((l.map (fun h=>[AV.int .i64 h])).length:Int)!=((m.map (fun h=>[AV.int .i64 h])).length:Int))=false)
  rw [hlm,hmm] at h
  simp at h; omega
 refine ar (X:=Nat) (fun x=>⟨[(5,.int .i64 x),(1,aG m),(0,aG l)],[]⟩) (fun x=>x≤l.length∧l.take x=m.take x) (fun x=>l.length - x) 0 ⟨Nat.zero_le _,rfl⟩ (ai ?_ ?_) (fun x hx=>?_)
 ·repeat' (first | exact trivial | refine And.intro rfl ?_)
 ·repeat' (first | exact trivial | refine And.intro rfl ?_)
 ·rename Nat=>i
  obtain ⟨hi,ht⟩:=hx
  by_cases hlt_i:i<l.length
  ·have bbk:decide ((i:Int)<((l.map (fun h=>[AV.int .i64 h])).length:Int))=false→False:=fun h=>by have:=of_decide_eq_false h; simp at this; omega
   have hx:=oN (f:=(fun h=>[AV.int .i64 h])) 0 hlt_i
   have hy:=oN (f:=(fun h=>[AV.int .i64 h])) 0 (show i<m.length by omega)
   have hn1:=fw 0 hlt_i
   have hn2:=fw 0 (show i<m.length by omega)
   have hne:l.getD i 0≠m.getD i 0→decide (l=m)=false:=fun h=>decide_eq_false fun e=>h (by rw [e])
   generalize l.getD i 0=u at *
   generalize m.getD i 0=v at *
   repeat' first|exact (bbk (by assumption)).elim|refine QS rfl hG aa ln ?_|((conv=>whnf); first|refine anF ?_|refine anT ?_|refine anK ?_|refine And.intro (Int.natCast_nonneg i) (Exists.intro _ (And.intro hx ?_))|refine And.intro (Int.natCast_nonneg i) (Exists.intro _ (And.intro hy ?_))|refine And.intro (fun h=>?_) (fun h=>?_)|refine Or.inl ?_)
   all_goals first
    |(refine Ends.mk (Or.inl rfl) (ac (congrArg AV.bool ?_))
      exact (hne fun e=>by subst e; have h:=(by assumption:(u != u)=true); simp at h).symm)
    | skip
   refine Exists.intro (i+1) (And.intro ⟨hlt_i,?_⟩ (And.intro (by omega) (ai ?_ ?_)))
   ·rw [hn1,hn2,ht]
    have e:u=v:=by
     have h:=(by assumption:(u != v)=false)
     simpa using h
    rw [e]
   ·refine And.intro (congrArg some (aq (by omega))) ?_
    repeat' (first | exact trivial | refine And.intro rfl ?_)
   ·repeat' (first | exact trivial | refine And.intro rfl ?_)
  ·have bbk:decide ((i:Int)<((l.map (fun h=>[AV.int .i64 h])).length:Int))=true→False:=fun h=>by have:=of_decide_eq_true h; simp at this; omega
   have he:l.take i=l:=List.take_of_length_le (by omega)
   have he2:m.take i=m:=List.take_of_length_le (by omega)
   rw [he,he2] at ht
   repeat' first|exact (bbk (by assumption)).elim|refine QS rfl hG aa ln ?_|((conv=>whnf); first|refine anF ?_|refine anT ?_|refine anK ?_|refine And.intro (fun h=>?_) (fun h=>?_)|refine Or.inl ?_)
   exact Ends.mk (Or.inl rfl) (ac (congrArg AV.bool (decide_eq_true ht).symm))
set_option maxHeartbeats 4000000 in
theorem yH (l m:List (List Int)) (hl:l.length≤1000000) (hin:∀ i,i<l.length→(l.getD i []).length≤1000000):ae Tryz.prog 16 [qO l,qO m] (.bool (decide (l=m))):=by
 have hlm:((l.map (fun x=>[aG x])).length:Int)=(l.length:Int):=by rw [List.length_map]
 have hmm:((m.map (fun x=>[aG x])).length:Int)=(m.length:Int):=by rw [List.length_map]
 refine ah aa Tryz.func16 rfl (by kernel_rfl) af (Nat.le_of_ble_eq_true rfl) ?_
 intro F n' w0 m0 hG hro h1
 repeat' first|refine QS rfl hG aa lq ?_|((conv=>whnf); first|refine anF ?_|refine anT ?_|refine anK ?_|refine And.intro (fun h=>?_) (fun h=>?_)|refine Or.inl ?_)
 all_goals first
  |(refine Ends.mk (Or.inl rfl) (ac (congrArg AV.bool ?_))
    have h:=(by assumption:(((l.map (fun x=>[aG x])).length:Int)!=((m.map (fun x=>[aG x])).length:Int))=true)
    rw [hlm,hmm] at h
    exact (decide_eq_false fun e=>by rw [e] at h; simp at h).symm)
  | skip
 have hll:l.length=m.length:=by
  have h:=(by assumption:(((l.map (fun x=>[aG x])).length:Int)!=((m.map (fun x=>[aG x])).length:Int))=false)
  rw [hlm,hmm] at h
  simp at h; omega
 refine ar (X:=Nat) (fun x=>⟨[(5,.int .i64 x),(1,qO m),(0,qO l)],[]⟩) (fun x=>x≤l.length∧l.take x=m.take x) (fun x=>l.length - x) 0 ⟨Nat.zero_le _,rfl⟩ (ai ?_ ?_) (fun x hx=>?_)
 ·repeat' (first | exact trivial | refine And.intro rfl ?_)
 ·repeat' (first | exact trivial | refine And.intro rfl ?_)
 ·rename Nat=>i
  obtain ⟨hi,ht⟩:=hx
  by_cases hlt_i:i<l.length
  ·have bbk:decide ((i:Int)<((l.map (fun x=>[aG x])).length:Int))=false→False:=fun h=>by have:=of_decide_eq_false h; simp at this; omega
   have hx:=oN (f:=(fun x=>[aG x])) [] hlt_i
   have hy:=oN (f:=(fun x=>[aG x])) [] (show i<m.length by omega)
   have hn1:=fw [] hlt_i
   have hn2:=fw [] (show i<m.length by omega)
   have hne:l.getD i []≠m.getD i []→decide (l=m)=false:=fun h=>decide_eq_false fun e=>h (by rw [e])
   have cI:=fU (l.getD i []) (m.getD i []) (hin i hlt_i)
   generalize l.getD i []=u at *
   generalize m.getD i []=v at *
   repeat' first|exact (bbk (by assumption)).elim|refine QS rfl hG aa lq ?_|((conv=>whnf); first|refine anF ?_|refine anT ?_|refine anK ?_|refine And.intro (Int.natCast_nonneg i) (Exists.intro _ (And.intro hx ?_))|refine And.intro (Int.natCast_nonneg i) (Exists.intro _ (And.intro hy ?_))|refine Exists.intro _ (And.intro (cI) ?_)|refine And.intro (fun h=>?_) (fun h=>?_)|refine Or.inl ?_)
   all_goals first
    |(refine Ends.mk (Or.inl rfl) (ac (congrArg AV.bool ?_))
      exact (hne fun e=>by subst e; have h:=(by assumption:(!decide (u=u))=true); simp at h).symm)
    | skip
   refine Exists.intro (i+1) (And.intro ⟨hlt_i,?_⟩ (And.intro (by omega) (ai ?_ ?_)))
   ·rw [hn1,hn2,ht]
    have e:u=v:=by
     have h:=(by assumption:(!decide (u=v))=false)
     simpa using h
    rw [e]
   ·refine And.intro (congrArg some (aq (by omega))) ?_
    repeat' (first | exact trivial | refine And.intro rfl ?_)
   ·repeat' (first | exact trivial | refine And.intro rfl ?_)
  ·have bbk:decide ((i:Int)<((l.map (fun x=>[aG x])).length:Int))=true→False:=fun h=>by have:=of_decide_eq_true h; simp at this; omega
   have he:l.take i=l:=List.take_of_length_le (by omega)
   have he2:m.take i=m:=List.take_of_length_le (by omega)
   rw [he,he2] at ht
   repeat' first|exact (bbk (by assumption)).elim|refine QS rfl hG aa lq ?_|((conv=>whnf); first|refine anF ?_|refine anT ?_|refine anK ?_|refine And.intro (fun h=>?_) (fun h=>?_)|refine Or.inl ?_)
   exact Ends.mk (Or.inl rfl) (ac (congrArg AV.bool (decide_eq_true ht).symm))
theorem Bh (p a b:Int):ae Tryz.prog 35 [.int .i64 p,.int .i64 a,.int .i64 b] (.agg (ax ⟨p,a,b⟩)):=by
 refine ah aa Tryz.func35 rfl (by kernel_rfl) af (Nat.le_of_ble_eq_true rfl) ?_
 intro F n' w0 m0 hG hro h1
 repeat' first|refine QS rfl hG aa zm ?_|((conv=>whnf); first|refine anF ?_|refine anT ?_|refine anK ?_|refine And.intro (fun h=>?_) (fun h=>?_)|refine Or.inl ?_)
 all_goals exact Ends.mk (Or.inl rfl) (ac rfl)
theorem Bi (a b:Int):ae Tryz.prog 36 [.int .i64 a,.int .i64 b] (.agg (aO ⟨3,0,a,b,a,b⟩)):=by
 refine ah aa Tryz.func36 rfl (by kernel_rfl) af (Nat.le_of_ble_eq_true rfl) ?_
 intro F n' w0 m0 hG hro h1
 repeat' first|refine QS rfl hG aa zl ?_|((conv=>whnf); first|refine anF ?_|refine anT ?_|refine anK ?_|refine And.intro (fun h=>?_) (fun h=>?_)|refine Or.inl ?_)
 all_goals exact Ends.mk (Or.inl rfl) (ac rfl)
def bxS (i:Nat):Int:=match i with
 | 0=>3 | 2=>96 | 4=>4000 | 5=>20000 | 10=>10 | 11=>100 | 13=>1 | 18=>100 | 20=>3 | _=>0
def bxP:List ao:=[⟨3,0,18,26,18,26⟩,⟨3,0,38,50,38,50⟩]
def bx1:Opt:=⟨1,0,0,3,10,12,0,6,[⟨0,20,22⟩,⟨1,40,42⟩]⟩
def bx2:Opt:=⟨2,0,0,3,30,31,0,5,[⟨1,44,46⟩]⟩
def bxL:List Opt:=[bx1,bx2]
theorem xC (o:Opt) (ow:Go.AI.Own):iD [.int .i64 o.id,.int .i64 o.ord,.int .i64 o.cl,.int .i64 o.sat,.int .i64 o.a,.int .i64 o.b,.int .i64 o.look,.int .i64 o.size,.sl ow 3 (o.sl.map ax)] (aA o):=
 .cons (.refl _) (.cons (.refl _) (.cons (.refl _) (.cons (.refl _) (.cons (.refl _) (.cons (.refl _) (.cons (.refl _) (.cons (.refl _) (.cons AV.weak.sl .nil))))))))
theorem HF:∀ y∈bxL.map aA,∀ c∈y,AV.isCell c=true:=by
 intro y hy c hc
 obtain ⟨o,_,rfl⟩:=List.mem_map.1 hy
 simp only [aA,List.mem_cons,List.not_mem_nil,or_false] at hc
 rcases hc with h | h | h | h | h | h | h | h | h <;> subst h <;> rfl
theorem tu:ae Tryz.prog 12 [] (.tup [.agg (cJ bxS),aZ bxL,ay bxP,.agg (bp 0 60)]):=by
 refine ah aa Tryz.func12 rfl (by kernel_rfl) af (Nat.le_of_ble_eq_true rfl) ?_
 intro F n' w0 m0 hG hro h1
 repeat' first|refine QS rfl hG aa zy ?_|((conv=>whnf); first|refine anF ?_|refine anT ?_|refine anK ?_|refine Exists.intro _ (And.intro (Bh _ _ _) ?_)|refine Exists.intro _ (And.intro (Bi _ _) ?_)|refine And.intro (fun h=>?_) (fun h=>?_)|refine Or.inl ?_)
 all_goals exact Ends.mk (Or.inl rfl) (AV.weak.tup (.cons (.refl _) (.cons (AV.weak.rows (ys:=bxL.map aA) (.cons (xC bx1 .full) (.cons (xC bx2 .full) .nil)) HF) (.cons AV.weak.sl (.cons (.refl _) .nil)))))
theorem sc:a8 bxS bxL bxP 0 60=true:=by kernel_rfl
theorem FI:az bxL=[0,1]:=(CF bxL).symm.trans (by kernel_rfl)
theorem I6:dV (az bxL) bxP 1=[[],[0],[1]]:=by rw [FI]; kernel_rfl
theorem I5:dV (az bxL) bxP 0=[[]]:=by rw [FI]; kernel_rfl
end Go.Proofs
namespace Go.Proofs
open Go Go.AI
theorem Ax (x:Int):∀ r:List Int,gR x r∈x::r∧∀ y∈x::r,gR x r≤y:=by
 intro r
 induction r generalizing x with
 | nil=>exact ⟨by simp [gR],fun y hy=>by simp at hy; rw [hy]; exact Int.le_refl _⟩
 | cons z r ih=>
  obtain ⟨h1,h2⟩:=ih (min x z)
  have e:gR x (z::r)=gR (min x z) r:=rfl
  rw [e]
  have h3:=h2 (min x z) List.mem_cons_self
  refine ⟨?_,fun y hy=>?_⟩
  ·rcases List.mem_cons.1 h1 with h | h
   ·rw [h]
    rcases Int.le_total x z with h4 | h4
    ·rw [Int.min_eq_left h4]; exact List.mem_cons_self
    ·rw [Int.min_eq_right h4]; exact List.mem_cons_of_mem _ List.mem_cons_self
   ·exact List.mem_cons_of_mem _ (List.mem_cons_of_mem _ h)
  ·rcases List.mem_cons.1 hy with h | h
   ·subst h; omega
   ·rcases List.mem_cons.1 h with h | h
    ·subst h; omega
    ·exact h2 y (List.mem_cons_of_mem _ h)
theorem tW {l:List Int} (h:l≠[]):CY l∈l∧∀ y∈l,CY l≤y:=by
 cases l with
 | nil=>exact absurd rfl h
 | cons x r=>exact Ax x r
def s5 (s:Nat→Int) (D:List au) (a:Int) (i:Nat):Int:=CX s D (a+(i:Int))
theorem E9 {s:Nat→Int} {l:List Opt} {ps:List ao} {a b:Int} (h:a8 s l ps a b=true) {D:List Opt} (hg:ew D) :
  lvL s (aF D) a b=(List.range (b - a).toNat).map (fun i=>rz (s 11) (s5 s (aF D) a) (i+1))∧(∀ i,-1000000≤s5 s (aF D) a i∧s5 s (aF D) a i≤1000000):=by
 obtain ⟨_,hr,hab,hsat,_⟩:=bz.1 h
 have hq:=BF hsat
 have hfed:=xe hsat
 have hd:=qu hg
 have hn:∀ i,-1000000≤s5 s (aF D) a i∧s5 s (aF D) a i≤1000000:=fun i=>by
  obtain ⟨e,h1,h2⟩:=EY hfed (a+(i:Int)) (aF D) (AC (jb s) (a+(i:Int))) (by omega)
  unfold s5 CX
  rw [e]; omega
 refine ⟨?_,hn⟩
 have h1:=Fc (c:=s 11) (f:=s5 s (aF D) a) (by omega) hn a (b - a).toNat (by omega)
 unfold lvL
 rw [show fM s (aF D) a b=gP a (s5 s (aF D) a) (b - a).toNat from rfl,h1]
theorem E8 {s:Nat→Int} {l:List Opt} {ps:List ao} {a b:Int} (h:a8 s l ps a b=true) {D:List Opt} (hg:ew D):lvL s (aF D) a b≠[]∧∀ x∈lvL s (aF D) a b,-4000000000≤x∧x≤s 11∧s 11≤1000000:=by
 obtain ⟨_,hr,hab,hsat,_⟩:=bz.1 h
 have hq:=BF hsat
 obtain ⟨h1,h2⟩:=E9 h hg
 rw [h1]
 refine ⟨fun e=>?_,fun x hx=>?_⟩
 ·have:=congrArg List.length e
  simp at this; omega
 ·obtain ⟨i,hi,rfl⟩:=List.mem_map.1 hx
  have:=ry (c:=s 11) h2 (i+1)
  have:=List.mem_range.1 hi
  omega
def nM (s:Nat→Int) (l:List Opt) (a b:Int) (lost:List Int):Int:=CY (lvL s (aF (dY l lost)) a b)
theorem Fb {s:Nat→Int} {l:List Opt} {ps:List ao} {a b:Int} (h:a8 s l ps a b=true) (lost:List Int):(loM s l a b lost).1 = -(nM s l a b lost)∧-4000000000≤nM s l a b lost∧nM s l a b lost≤1000000:=by
 obtain ⟨h1,h2⟩:=E8 h (oJ h fun o=>kS o lost)
 have h3:=tW h1
 have h4:=h2 _ h3.1
 have e:nM s l a b lost=CY (lvL s (aF (l.map fun o=>sY o (kS o lost))) a b):=rfl
 rw [← e] at h4
 refine ⟨?_,by omega,by omega⟩
 show w64 (0 - nM s l a b lost)=_
 rw [am (by omega) (by omega)]; omega
def lowV (s:Nat→Int) (l:List Opt) (ps:List ao) (k a b:Int):Int:=w64 (0 - (loS s l ps k a b).n)
theorem Ht {s:Nat→Int} {l:List Opt} {ps:List ao} {a b k:Int} (h:a8 s l ps a b=true) (h0:0≤k) (h3:k≤3) :
  (loS s l ps k a b).what∈dV (az l) ps k∧lowV s l ps k a b=nM s l a b (loS s l ps k a b).what∧(loS s l ps k a b).n = -(lowV s l ps k a b)∧∀ y∈dV (az l) ps k,lowV s l ps k a b≤nM s l a b y:=by
 obtain ⟨_,_,_,_,hp,_⟩:=bz.1 h
 obtain ⟨h1,h2,_,h4⟩:=HI (m:=loM s l a b) (Hb (f:=az l) hp h0 h3)
 have e:eP (loM s l a b) (dV (az l) ps k)=loS s l ps k a b:=rfl
 rw [e] at h1 h2 h4
 obtain ⟨v1,v2,v3⟩:=Fb h (loS s l ps k a b).what
 rw [v1] at h2
 have e2:lowV s l ps k a b=nM s l a b (loS s l ps k a b).what:=by
  unfold lowV
  rw [h2,am (by omega) (by omega)]; omega
 refine ⟨h1,e2,by rw [h2,e2],fun y hy=>?_⟩
 have h5:=h4 y hy
 obtain ⟨u1,_,_⟩:=Fb h y
 rw [u1,h2] at h5
 omega
end Go.Proofs
namespace Go.Proofs
open Go Go.AI
set_option maxRecDepth 10000
def HG:List Img:=[⟨1,6,10,22⟩,⟨2,5,30,46⟩]
def IH:List Img:=[⟨1,6,10,42⟩,⟨2,5,30,46⟩]
theorem FH:ij bxL []=HG:=by kernel_rfl
theorem H9:ij bxL [0]=IH:=by kernel_rfl
theorem Ja:ij bxL [1]=HG:=by kernel_rfl
theorem H8:jd (eZ HG)=(6,10):=by
 rw [← rU (l:=HG) (s:=[(10,6),(22,-6),(30,5),(46,-5)]) (.refl _) (by simp [List.pairwise_cons])]
 kernel_rfl
theorem I7:jd (eZ IH)=(11,30):=by
 rw [← rU (l:=IH) (s:=[(10,6),(30,5),(42,-6),(46,-5)]) (.cons _ (.swap _ _ _)) (by simp [List.pairwise_cons])]
 kernel_rfl
theorem H7:pkS bxL bxP 0=⟨6,10,[],true⟩:=by
 unfold pkS; rw [I5,eP,List.foldl_cons,List.foldl_nil,pkM,FH,H8]; rfl
theorem H6:pkS bxL bxP 1=⟨11,30,[0],true⟩:=by
 unfold pkS; rw [I6,eP,List.foldl_cons,List.foldl_cons,List.foldl_cons,List.foldl_nil,pkM,pkM,pkM,FH,H9,Ja,H8,I7]; rfl
theorem FJ (t:Int):∀ D:List au,qn bxS t D=0
 | []=>rfl
 | x::D=>by
  rw [qn,FJ t D]
  simp [xF,Cc,bxS]
theorem I8 {D:List Opt} (hg:ew D):∀ x∈lvL bxS (aF D) 0 60,0≤x:=fun x hx=>by
 have h1:=(E9 sc hg).1
 have hf:=xe (bz.1 sc).2.2.2.1
 have hd:=qu hg
 have hn:s5 bxS (aF D) 0=fun _=>1:=funext fun i=>by
  unfold s5 CX
  rw [(EY hf _ _ _ (by omega)).1,EZ,FJ]
  simp [bxS]
 rw [h1,hn] at hx
 obtain ⟨i,hi,rfl⟩:=List.mem_map.1 hx
 have hall:((List.range 60).all fun i=>decide (0≤rz (bxS 11) (fun _=>1) (i+1)))=true:=by kernel_rfl
 exact of_decide_eq_true (List.all_eq_true.1 hall i hi)
theorem I9 (k:Int) (h0:0≤k) (h3:k≤3):0≤lowV bxS bxL bxP k 0 60∧lowV bxS bxL bxP k 0 60≤100:=by
 obtain ⟨_,h2,_⟩:=Ht sc h0 h3
 rw [h2]
 generalize (loS bxS bxL bxP k 0 60).what=w
 have hg:ew (dY bxL w):=oJ sc fun o=>kS o w
 obtain ⟨h4,h5⟩:=E8 sc hg
 obtain ⟨h6,_⟩:=tW h4
 exact ⟨I8 hg _ h6,by have:=h5 _ h6; have e:bxS 11=100:=rfl; unfold nM; omega⟩
theorem I4 (lost:List Int) (h:iw [0,1] lost=true):wQ bxS bxL bxP 0 60 lost = .tup [.agg (kg bxL lost),.int .i64 0]:=by
 rw [wQ,nh sc (by decide) (by decide) (by decide),FI,h]; rfl
theorem I3:wQ bxS bxL bxP 0 60 [2] = .tup [.agg [.sl .full 0 [],.sl .full 0 [],.sl .full 0 [],.sl .full 0 []],.int .i64 210]:=by
 rw [wQ,nh sc (by decide) (by decide) (by decide),FI,show iw [0,1] [2]=false from by kernel_rfl]; rfl
set_option maxHeartbeats 8000000 in
theorem yJ:ae Tryz.prog 4 [] (.bool true):=by
 have hs:=(kl sc).2.1
 have L6:bxL.length≤1000000:=Nat.le_of_ble_eq_true rfl
 have P6:bxP.length≤1000000:=Nat.le_of_ble_eq_true rfl
 have v0:=nh (k:=0) sc (by decide) (by decide) (by decide)
 have v1:=nh (k:=1) sc (by decide) (by decide) (by decide)
 have v4:dQ bxS bxL bxP 4 0 60=false:=by
  unfold dQ
  rw [show uZ 4=false from by decide]; rfl
 have q1:=sE bxL bxP 1 L6 hs P6
 rw [w9,Ha sc (by decide) (by decide) (by decide),if_neg (by decide),I6] at q1
 have q2:=sE bxL bxP 4 L6 hs P6
 rw [w9,show fE bxL bxP 4=true from by unfold fE; rw [show od bxL bxP 4=true from by kernel_rfl]; rfl,if_pos rfl] at q2
 have q3:ae Tryz.prog 9 [.agg (cJ bxS),aZ bxL,ay bxP,.agg (bp 0 60),.sl .full 0 []] _:=(lN bxS bxL bxP 0 60 [] L6 hs P6 (Nat.zero_le _)).weak (.cons (.refl _) (.cons (.refl _) (.cons (.refl _) (.cons (.refl _) (.cons AV.weak.slnil (.refl _))))))
 rw [I4 [] rfl,kg,show il bxL []=[0,0] from by kernel_rfl,FH] at q3
 have q4:ae Tryz.prog 9 [.agg (cJ bxS),aZ bxL,ay bxP,.agg (bp 0 60),.sl .full 1 [[.int .i64 0]]] _:=(lN bxS bxL bxP 0 60 [0] L6 hs P6 (Nat.le_of_ble_eq_true rfl)).weak (.cons (.refl _) (.cons (.refl _) (.cons (.refl _) (.cons (.refl _) (.cons AV.weak.sl (.refl _))))))
 rw [I4 [0] (by kernel_rfl),kg,show il bxL [0]=[1,0] from by kernel_rfl,H9] at q4
 have q5:ae Tryz.prog 9 [.agg (cJ bxS),aZ bxL,ay bxP,.agg (bp 0 60),.sl .full 1 [[.int .i64 2]]] _:=(lN bxS bxL bxP 0 60 [2] L6 hs P6 (Nat.le_of_ble_eq_true rfl)).weak (.cons (.refl _) (.cons (.refl _) (.cons (.refl _) (.cons (.refl _) (.cons AV.weak.sl (.refl _))))))
 rw [I3] at q5
 have q6:=nf v0
 rw [H7] at q6
 have q7:=nf v1
 rw [H6] at q7
 have q8:=uw v1
 have l1:=I9 1 (by decide) (by decide)
 have l0:=I9 0 (by decide) (by decide)
 have q9:=sK v0
 rw [H7,show (decide ((⟨6,10,[],true⟩:Fnd).n≤bxS 10)&&decide (w64 (0 - (loS bxS bxL bxP 0 0 60).n)≥0))=true from by rw [decide_eq_true (show w64 (0 - (loS bxS bxL bxP 0 0 60).n)≥0 from l0.1)]; rfl] at q9
 have q10:=sK v1
 rw [H6,show (decide ((⟨11,30,[0],true⟩:Fnd).n≤bxS 10)&&decide (w64 (0 - (loS bxS bxL bxP 1 0 60).n)≥0))=false from rfl] at q10
 have q11:=fD bxL L6 hs
 rw [FI] at q11
 have q12:=iN bxS bxL bxP 1 0 60 L6 hs P6
 rw [v1] at q12
 have q13:=iN bxS bxL bxP 4 0 60 L6 hs P6
 rw [v4] at q13
 have i1:ae Tryz.prog 17 [aG [0,0],.sl .full 1 [[.int .i64 0],[.int .i64 0]]] (.bool true):=by
  have h:=(fU [0,0] [0,0] (by decide)).sl1 (o := .full)
  rw [decide_eq_true rfl] at h; exact h
 have i2:ae Tryz.prog 17 [aG [1,0],.sl .full 1 [[.int .i64 1],[.int .i64 0]]] (.bool true):=by
  have h:=(fU [1,0] [1,0] (by decide)).sl1 (o := .full)
  rw [decide_eq_true rfl] at h; exact h
 have i3:ae Tryz.prog 17 [aG [0],.sl .full 1 [[.int .i64 0]]] (.bool true):=by
  have h:=(fU [0] [0] (by decide)).sl1 (o := .full)
  rw [decide_eq_true rfl] at h; exact h
 have i4:ae Tryz.prog 17 [aG [0,1],.sl .full 1 [[.int .i64 0],[.int .i64 1]]] (.bool true):=by
  have h:=(fU [0,1] [0,1] (by decide)).sl1 (o := .full)
  rw [decide_eq_true rfl] at h; exact h
 have i5:ae Tryz.prog 16 [qO [[],[0],[1]],.sl .full 1 [[.sl .full 0 []],[.sl .full 1 [[.int .i64 0]]],[.sl .full 1 [[.int .i64 1]]]]] (.bool true):=by
  have h:=(yH [[],[0],[1]] [[],[0],[1]] (by decide) (fun i hi=>by
   match i,hi with
   | 0,_ | 1,_ | 2,_=>decide)).weak (us:=[qO [[],[0],[1]],.sl .full 1 [[.sl .full 0 []],[.sl .full 1 [[.int .i64 0]]],[.sl .full 1 [[.int .i64 1]]]]]) (.cons (.refl _) (.cons (AV.weak.rows (.cons (.cons AV.weak.slnil (.refl _)) (.cons (.cons AV.weak.sl (.refl _)) (.cons (.cons AV.weak.sl (.refl _)) .nil))) (by decide)) (.refl _)))
  rw [decide_eq_true rfl] at h; exact h
 have bl:decide (w64 (0 - (loS bxS bxL bxP 1 0 60).n)≤100)=false→False:=fun h=>by have:=of_decide_eq_false h; exact this l1.2
 generalize aF (dY bxL [])=D0 at *
 generalize aF (dY bxL [0])=D1 at *
 generalize w64 (0 - (loS bxS bxL bxP 1 0 60).n)=lo at *
 generalize (loS bxS bxL bxP 1 0 60).at_=lt at *
 generalize (loS bxS bxL bxP 1 0 60).what=lw at *
 refine ah aa Tryz.func4 rfl (by kernel_rfl) af (Nat.le_of_ble_eq_true rfl) ?_
 intro F n' w0 m0 hG hro h1
 repeat' first|exact (bl (by assumption)).elim|refine QS rfl hG aa Ba ?_|((conv=>whnf); first|refine anF ?_|refine anT ?_|refine anK ?_|refine And.intro (of_decide_eq_true (Eq.refl true)) (Exists.intro _ (And.intro rfl ?_))|refine Exists.intro _ (And.intro (tu) ?_)|refine Exists.intro _ (And.intro (q1) ?_)|refine Exists.intro _ (And.intro (q2) ?_)|refine Exists.intro _ (And.intro (q3) ?_)|refine Exists.intro _ (And.intro (q4) ?_)|refine Exists.intro _ (And.intro (q5) ?_)|refine Exists.intro _ (And.intro (q6) ?_)|refine Exists.intro _ (And.intro (q7) ?_)|refine Exists.intro _ (And.intro (q8) ?_)|refine Exists.intro _ (And.intro (q9) ?_)|refine Exists.intro _ (And.intro (q10) ?_)|refine Exists.intro _ (And.intro (q11) ?_)|refine Exists.intro _ (And.intro (q12) ?_)|refine Exists.intro _ (And.intro (q13) ?_)|refine Exists.intro _ (And.intro (i1) ?_)|refine Exists.intro _ (And.intro (i2) ?_)|refine Exists.intro _ (And.intro (i3) ?_)|refine Exists.intro _ (And.intro (i4) ?_)|refine Exists.intro _ (And.intro (i5) ?_)|refine And.intro (fun h=>?_) (fun h=>?_)|refine Or.inl ?_)
 all_goals exact Ends.mk (Or.inl rfl) (ac rfl)
end Go.Proofs
