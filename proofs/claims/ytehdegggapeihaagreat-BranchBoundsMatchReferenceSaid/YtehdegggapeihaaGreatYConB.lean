/- Contracts of the functions and plain facts about what they reckon, part 2: called with arguments that read so, each hands back what is typed. The conditions are those typed. -/
import Derived.Test.YtehdegggapeihaaGreatYConA
import Derived.Shelf.SlLaysF0
set_option linter.unusedSectionVars false
set_option linter.unusedVariables false
set_option linter.unusedSimpArgs false
namespace Go.Proofs
open Go Go.AI
set_option maxRecDepth 10000
def F5 (a b:Int):Bool:=decide (0≤a)&&decide (a<b)&&decide (b≤1000000)&&decide (w64 (b - a)≤3000)
structure FZ where
 a:Int
 b:Int
 k:Int
end Go.Proofs
namespace Go.Proofs
open Go Go.AI
set_option maxRecDepth 10000
def Hg (s:Nat→Int) (x:FZ):Bool:=decide (0≤x.a)&&decide (x.a<x.b)&&decide (x.b≤1000000)&&decide (w64 (x.b - x.a)≤60)&&inS x.k (w64 (0 - s 9)) (s 9)
def Hf (s:Nat→Int) (l:List FZ):Bool:=l.all (Hg s)&&decide (l.length≤64)
def GU (s:Nat→Int) (l:List FZ):Bool:=Hf s l&&gq s
end Go.Proofs
namespace Go.Proofs
open Go Go.AI
set_option maxRecDepth 10000
def hv (g:Int→Int) (a:Int):Nat→Int
 | 0=>0
 | n+1=>max 0 (hv g a n+g (a+n))
end Go.Proofs
namespace Go.Proofs
open Go Go.AI
set_option maxRecDepth 10000
structure aV where
 p:Int
 a:Int
 b:Int
deriving DecidableEq
def ay (x:aV):List AV:=[.int .i64 x.p,.int .i64 x.a,.int .i64 x.b]
structure Opt where
 id:Int
 ord:Int
 cl:Int
 sat:Int
 a:Int
 b:Int
 look:Int
 size:Int
 sl:List aV
def vg (l:List aV):AV := .sl .no 3 (l.map ay)
def aH (o:Opt):List AV:=[.int .i64 o.id,.int .i64 o.ord,.int .i64 o.cl,.int .i64 o.sat,.int .i64 o.a,.int .i64 o.b,.int .i64 o.look,.int .i64 o.size,vg o.sl]
def aK (l:List Opt):AV := .sl .no 9 (l.map aH)
theorem jz (n a b:Int):ae Tryz.prog 153 [.int .i64 n,.int .i64 a,.int .i64 b] (.bool (inS n a b)):=by
 refine ag aa Tryz.func153 rfl (by kernel_rfl) af (Nat.le_of_ble_eq_true rfl) ?_
 intro F n' w0 m0 hG hro h1
 repeat' first|refine Q1 ?_|refine Q2 ?_|refine Q3 hG aa oV ?_|refine Q4 hG aa oV ?_|refine Q5 hG aa ?_|refine Q6 hG aa ?_|refine Q7 hG aa ?_|refine Q8 hG aa ?_|refine Q9 rfl ?_|refine QF rfl ?_|refine QC rfl ⟨fun h=>?_,fun h=>?_⟩|((conv=>whnf); first|refine anF ?_|refine anT ?_|refine anK ?_|refine And.intro (fun h=>?_) (fun h=>?_)|refine Or.inl ?_)
 all_goals refine Ends.mk (Or.inl rfl) (ac (congrArg AV.bool ?_))
 all_goals (simp_all [inS] <;> omega)
theorem BR (n a b:Int):ae Tryz.prog 228 [.int .i64 n,.int .i64 a,.int .i64 b] (.bool (inS n a b)):=by
 refine ag aa Tryz.func228 rfl (by kernel_rfl) af (Nat.le_of_ble_eq_true rfl) ?_
 intro F n' w0 m0 hG hro h1
 repeat' first|refine Q1 ?_|refine Q2 ?_|refine Q3 hG aa og ?_|refine Q4 hG aa og ?_|refine Q5 hG aa ?_|refine Q6 hG aa ?_|refine Q7 hG aa ?_|refine Q8 hG aa ?_|refine Q9 rfl ?_|refine QF rfl ?_|refine QC rfl ⟨fun h=>?_,fun h=>?_⟩|((conv=>whnf); first|refine anF ?_|refine anT ?_|refine anK ?_|refine And.intro (fun h=>?_) (fun h=>?_)|refine Or.inl ?_)
 all_goals refine Ends.mk (Or.inl rfl) (ac (congrArg AV.bool ?_))
 all_goals (simp_all [inS] <;> omega)
theorem uU (n a b:Int):ae Tryz.prog 104 [.int .i64 n,.int .i64 a,.int .i64 b] (.bool (inS n a b)):=by
 refine ag aa Tryz.func104 rfl (by kernel_rfl) af (Nat.le_of_ble_eq_true rfl) ?_
 intro F n' w0 m0 hG hro h1
 repeat' first|refine Q1 ?_|refine Q2 ?_|refine Q3 hG aa hU ?_|refine Q4 hG aa hU ?_|refine Q5 hG aa ?_|refine Q6 hG aa ?_|refine Q7 hG aa ?_|refine Q8 hG aa ?_|refine Q9 rfl ?_|refine QF rfl ?_|refine QC rfl ⟨fun h=>?_,fun h=>?_⟩|((conv=>whnf); first|refine anF ?_|refine anT ?_|refine anK ?_|refine And.intro (fun h=>?_) (fun h=>?_)|refine Or.inl ?_)
 all_goals refine Ends.mk (Or.inl rfl) (ac (congrArg AV.bool ?_))
 all_goals (simp_all [inS] <;> omega)
theorem s6 (a b:Int):ae Tryz.prog 83 [.agg (aD a b)] (.bool (bt a b)):=by
 refine ag aa Tryz.func83 rfl (by kernel_rfl) af (Nat.le_of_ble_eq_true rfl) ?_
 intro F n' w0 m0 hG hro h1
 repeat' first|refine Q1 ?_|refine Q2 ?_|refine Q3 hG aa qN ?_|refine Q4 hG aa qN ?_|refine Q5 hG aa ?_|refine Q6 hG aa ?_|refine Q7 hG aa ?_|refine Q8 hG aa ?_|refine Q9 rfl ?_|refine QF rfl ?_|refine QC rfl ⟨fun h=>?_,fun h=>?_⟩|((conv=>whnf); first|refine anF ?_|refine anT ?_|refine anK ?_|refine Exists.intro _ (And.intro (jz _ _ _) ?_)|refine And.intro (fun h=>?_) (fun h=>?_)|refine Or.inl ?_)
 all_goals refine Ends.mk (Or.inl rfl) (ac (congrArg AV.bool ?_))
 all_goals (simp only [bt, *,Bool.true_and,Bool.and_true,Bool.false_and,Bool.and_false]; try rfl)
def jX (a b:Int):Bool:=decide (0≤a)&&decide (a<b)&&decide (b≤1000001)
theorem uS (a b:Int):ae Tryz.prog 170 [.agg (aD a b)] (.bool (jX a b)):=by
 refine ag aa Tryz.func170 rfl (by kernel_rfl) af (Nat.le_of_ble_eq_true rfl) ?_
 intro F n' w0 m0 hG hro h1
 repeat' first|refine Q1 ?_|refine Q2 ?_|refine Q3 hG aa gY ?_|refine Q4 hG aa gY ?_|refine Q5 hG aa ?_|refine Q6 hG aa ?_|refine Q7 hG aa ?_|refine Q8 hG aa ?_|refine Q9 rfl ?_|refine QF rfl ?_|refine QC rfl ⟨fun h=>?_,fun h=>?_⟩|((conv=>whnf); first|refine anF ?_|refine anT ?_|refine anK ?_|refine And.intro (fun h=>?_) (fun h=>?_)|refine Or.inl ?_)
 all_goals refine Ends.mk (Or.inl rfl) (ac (congrArg AV.bool ?_))
 all_goals (simp_all [jX] <;> (intros; omega))
def xf (a b m:Int):Bool:=jX a b&&decide (w64 (b - a)≤m)
theorem BS (a b m:Int):ae Tryz.prog 227 [.agg (aD a b),.int .i64 m] (.bool (xf a b m)):=by
 refine ag aa Tryz.func227 rfl (by kernel_rfl) af (Nat.le_of_ble_eq_true rfl) ?_
 intro F n' w0 m0 hG hro h1
 repeat' first|refine Q1 ?_|refine Q2 ?_|refine Q3 hG aa oh ?_|refine Q4 hG aa oh ?_|refine Q5 hG aa ?_|refine Q6 hG aa ?_|refine Q7 hG aa ?_|refine Q8 hG aa ?_|refine Q9 rfl ?_|refine QF rfl ?_|refine QC rfl ⟨fun h=>?_,fun h=>?_⟩|((conv=>whnf); first|refine anF ?_|refine anT ?_|refine anK ?_|refine And.intro (fun h=>?_) (fun h=>?_)|refine Or.inl ?_)
 all_goals refine Ends.mk (Or.inl rfl) (ac (congrArg AV.bool ?_))
 all_goals (simp only [xf,jX,w64, *,Bool.true_and,Bool.and_true,Bool.false_and,Bool.and_false]; try rfl)
def px (o:Nat→Int) (a b k:Int):Bool:=ma o&&xf a b 60&&inS k (-4) 4
theorem BU (o:Nat→Int) (a b k:Int):ae Tryz.prog 161 [.agg (jb o),.agg (aD a b),.int .i64 k] (.bool (px o a b k)):=by
 refine ag aa Tryz.func161 rfl (by kernel_rfl) af (Nat.le_of_ble_eq_true rfl) ?_
 intro F n' w0 m0 hG hro h1
 repeat' first|refine Q1 ?_|refine Q2 ?_|refine Q3 hG aa oP ?_|refine Q4 hG aa oP ?_|refine Q5 hG aa ?_|refine Q6 hG aa ?_|refine Q7 hG aa ?_|refine Q8 hG aa ?_|refine Q9 rfl ?_|refine QF rfl ?_|refine QC rfl ⟨fun h=>?_,fun h=>?_⟩|((conv=>whnf); first|refine anF ?_|refine anT ?_|refine anK ?_|refine Exists.intro _ (And.intro (tD o) ?_)|refine Exists.intro _ (And.intro (BS _ _ _) ?_)|refine Exists.intro _ (And.intro (BR _ _ _) ?_)|refine And.intro (fun h=>?_) (fun h=>?_)|refine Or.inl ?_)
 all_goals refine Ends.mk (Or.inl rfl) (ac (congrArg AV.bool ?_))
 all_goals simp only [px, *,Bool.true_and,Bool.and_true,Bool.false_and,Bool.and_false]
def fa:Int→List aV→Bool
 | _,[]=>true
 | t,x::r=>decide (t≤x.a)&&jX x.a x.b&&fa x.b r
def jw (o:Opt):Bool:=fa o.b o.sl&&(inS o.id 0 63&&inS o.size 1 1000000&&jX o.a o.b&&inS (o.sl.length:Int) 1 6)
theorem dc {l:List aV} {i:Nat} (h:i<l.length):(l.map ay)[(i:Int).toNat]?=some [.int .i64 (l.getD i ⟨0,0,0⟩).p,.int .i64 (l.getD i ⟨0,0,0⟩).a,.int .i64 (l.getD i ⟨0,0,0⟩).b]:=by simp [List.getElem?_eq_getElem h]; rfl
theorem qt {t:Int} {l:List aV} {i:Nat} (h:i<l.length):fa t (l.drop i)=(decide (t≤(l.getD i ⟨0,0,0⟩).a)&&jX (l.getD i ⟨0,0,0⟩).a (l.getD i ⟨0,0,0⟩).b&&fa (l.getD i ⟨0,0,0⟩).b (l.drop (i+1))):=by
 rw [List.drop_eq_getElem_cons h,List.getD_eq_getElem?_getD,List.getElem?_eq_getElem h]; rfl
set_option maxHeartbeats 4000000 in
theorem BW (o:Opt) (hl:o.sl.length≤1000000):ae Tryz.prog 103 [.agg (aH o)] (.bool (jw o)):=by
 have hlm:((o.sl.map ay).length:Int)=(o.sl.length:Int):=by rw [List.length_map]
 refine ag aa Tryz.func103 rfl (by kernel_rfl) af (Nat.le_of_ble_eq_true rfl) ?_
 intro F n' w0 m0 hG hro h1
 repeat' first|refine Q1 ?_|refine Q2 ?_|refine Q3 hG aa eY ?_|refine Q4 hG aa eY ?_|refine Q5 hG aa ?_|refine Q6 hG aa ?_|refine Q7 hG aa ?_|refine Q8 hG aa ?_|refine Q9 rfl ?_|refine QF rfl ?_|refine QC rfl ⟨fun h=>?_,fun h=>?_⟩|((conv=>whnf); first|refine anF ?_|refine anT ?_|refine anK ?_|refine And.intro (fun h=>?_) (fun h=>?_)|refine Or.inl ?_)
 refine ap (X:=Nat×Int×Int) (fun q=>⟨[(11,.int .i64 q.1),(10,.int .i64 (o.sl.map ay).length),(9,vg o.sl),(3,.loc 3 0),(1,.loc 1 0)],[(3,aD q.2.1 q.2.2),(1,aH o)]⟩)
  (fun q=>q.1≤o.sl.length∧fa q.2.2 (o.sl.drop q.1)=fa o.b o.sl) (fun q=>o.sl.length - q.1) (0,o.a,o.b) ⟨Nat.zero_le _,rfl⟩ (ah ?_ ?_) (fun q hq=>?_)
 ·repeat' (first | exact trivial | refine And.intro rfl ?_)
 ·repeat' (first | exact trivial | refine And.intro rfl ?_)
 ·obtain ⟨i,la,lb⟩:=q
  obtain ⟨hi,hf⟩:=hq
  have hi:i≤o.sl.length:=hi
  have hf:fa lb (o.sl.drop i)=fa o.b o.sl:=hf
  by_cases hlt:i<o.sl.length
  ·have bbk:decide ((i:Int)<((o.sl.map ay).length:Int))=false→False:=fun h=>by have:=of_decide_eq_false h; omega
   have hx:=dc hlt
   rw [qt hlt] at hf
   generalize o.sl.getD i ⟨0,0,0⟩=x at hx hf
   have bad:(decide (lb≤x.a)&&jX x.a x.b)=false→false=jw o:=fun h=>by rw [h,Bool.false_and] at hf; rw [jw,← hf,Bool.false_and]
   repeat' first|exact (bbk (by assumption)).elim|refine Q1 ?_|refine Q2 ?_|refine Q3 hG aa eY ?_|refine Q4 hG aa eY ?_|refine Q5 hG aa ?_|refine Q6 hG aa ?_|refine Q7 hG aa ?_|refine Q8 hG aa ?_|refine Q9 rfl ?_|refine QF rfl ?_|refine QC rfl ⟨fun h=>?_,fun h=>?_⟩|((conv=>whnf); first|refine anF ?_|refine anT ?_|refine anK ?_|refine And.intro (Int.natCast_nonneg i) (Exists.intro _ (And.intro hx ?_))|refine Exists.intro _ (And.intro (uS _ _) ?_)|refine And.intro (fun h=>?_) (fun h=>?_)|refine Or.inl ?_)
   ·have h:=of_decide_eq_true (by assumption:decide (x.a<lb)=true)
    exact Ends.mk (Or.inl rfl) (ac (congrArg AV.bool (bad (by rw [decide_eq_false (by omega),Bool.false_and]))))
   ·have h:=Be (by assumption:(!jX x.a x.b)=true)
    exact Ends.mk (Or.inl rfl) (ac (congrArg AV.bool (bad (by rw [h,Bool.and_false]))))
   ·have h1:=of_decide_eq_false (by assumption:decide (x.a<lb)=false)
    have h2:=mm (by assumption:(!jX x.a x.b)=false)
    rw [decide_eq_true (show lb≤x.a by omega),h2,Bool.true_and,Bool.true_and] at hf
    refine Exists.intro (i+1,x.a,x.b) (And.intro ⟨hlt,hf⟩ (And.intro (by show o.sl.length - (i+1)<o.sl.length - i; omega) (ah ?_ ?_)))
    ·refine And.intro (congrArg some (ao (by omega))) ?_
     repeat' (first | exact trivial | refine And.intro rfl ?_)
    ·repeat' (first | exact trivial | refine And.intro rfl ?_)
  ·have hge:i=o.sl.length:=by omega
   have bbk:decide ((i:Int)<((o.sl.map ay).length:Int))=true→False:=fun h=>by have:=of_decide_eq_true h; omega
   rw [List.drop_of_length_le (by omega)] at hf
   have hft:fa o.b o.sl=true:=hf.symm
   clear hf
   repeat' first|exact (bbk (by assumption)).elim|refine Q1 ?_|refine Q2 ?_|refine Q3 hG aa eY ?_|refine Q4 hG aa eY ?_|refine Q5 hG aa ?_|refine Q6 hG aa ?_|refine Q7 hG aa ?_|refine Q8 hG aa ?_|refine Q9 rfl ?_|refine QF rfl ?_|refine QC rfl ⟨fun h=>?_,fun h=>?_⟩|((conv=>whnf); first|refine anF ?_|refine anT ?_|refine anK ?_|refine Exists.intro _ (And.intro (uU _ _ _) ?_)|refine Exists.intro _ (And.intro (uS _ _) ?_)|refine And.intro (fun h=>?_) (fun h=>?_)|refine Or.inl ?_)
   all_goals refine Ends.mk (Or.inl rfl) (ac (congrArg AV.bool ?_))
   all_goals (rw [jw,hft]; simp only [hlm, *,Bool.true_and,Bool.and_true,Bool.false_and,Bool.and_false])
end Go.Proofs
namespace Go.Proofs
open Go Go.AI
def fF (out:List au) (x:au):List au:=match out.getLast? with
 | some y=>if y.k=x.k∧x.a≤y.b then out.dropLast++[⟨y.k,y.a,max y.b x.b⟩] else out++[x]
 | none=>[x]
def eh (l:List au):List au:=l.foldl fF []
def fW (l:List au) (k t:Int):Prop:=∃ x∈l,x.k=k∧x.a≤t∧t<x.b
def mE (x y:au):Prop:=x.k<y.k∨(x.k=y.k∧x.b<y.a)
structure eZ (l:List au):Prop where
 ok:∀ x∈l,x.a<x.b
 sep:l.Pairwise mE
theorem eZ.tail {x:au} {l:List au} (h:eZ (x::l)):eZ l:=⟨fun y hy=>h.ok y (List.mem_cons_of_mem _ hy),(List.pairwise_cons.1 h.sep).2⟩
theorem eZ.head {x:au} {l:List au} (h:eZ (x::l)):x.a<x.b∧∀ y∈l,mE x y:=⟨h.ok x List.mem_cons_self,(List.pairwise_cons.1 h.sep).1⟩
theorem eZ.cov_tail {x:au} {l:List au} (h:eZ (x::l)) (k t:Int):fW l k t↔fW (x::l) k t∧¬ (k=x.k∧x.a≤t∧t<x.b):=by
 constructor
 ·rintro ⟨y,hy,h1,h2,h3⟩
  refine ⟨⟨y,List.mem_cons_of_mem _ hy,h1,h2,h3⟩,fun ⟨g1,g2,g3⟩=>?_⟩
  rcases h.head.2 y hy with g | g <;> omega
 ·rintro ⟨⟨y,hy,h1,h2,h3⟩,hn⟩
  rcases List.mem_cons.1 hy with rfl | hy
  ·exact absurd ⟨h1.symm,h2,h3⟩ hn
  ·exact ⟨y,hy,h1,h2,h3⟩
theorem eZ.cov_ge {x:au} {l:List au} (h:eZ (x::l)) {k t:Int} (hc:fW (x::l) k t):x.k<k∨(x.k=k∧x.a≤t):=by
 obtain ⟨y,hy,h1,h2,h3⟩:=hc
 rcases List.mem_cons.1 hy with rfl | hy
 ·right; omega
 ·have:=h.head.1
  rcases h.head.2 y hy with g | g <;> omega
theorem eZ.cov_end {x:au} {l:List au} (h:eZ (x::l)):¬ fW (x::l) x.k x.b:=by
 rintro ⟨y,hy,h1,h2,h3⟩
 rcases List.mem_cons.1 hy with rfl | hy
 ·omega
 ·rcases h.head.2 y hy with g | g <;> omega
theorem eZ.cov_head {x:au} {l:List au} {t:Int} (h1:x.a≤t) (h2:t<x.b):fW (x::l) x.k t:=⟨x,List.mem_cons_self,rfl,h1,h2⟩
theorem eZ.unique:∀ {l m:List au},eZ l→eZ m→(∀ k t,fW l k t↔fW m k t)→l=m
 | [],[],_,_,_=>rfl
 | [],y::m,_,hm,h=>by
  obtain ⟨z,hz,_⟩:=(h y.k y.a).2 (eZ.cov_head (Int.le_refl _) hm.head.1)
  cases hz
 | x::l,[],hl,_,h=>by
  obtain ⟨z,hz,_⟩:=(h x.k x.a).1 (eZ.cov_head (Int.le_refl _) hl.head.1)
  cases hz
 | x::l,y::m,hl,hm,h=>by
  have a1:=hm.cov_ge ((h x.k x.a).1 (eZ.cov_head (Int.le_refl _) hl.head.1))
  have a2:=hl.cov_ge ((h y.k y.a).2 (eZ.cov_head (Int.le_refl _) hm.head.1))
  have hk:x.k=y.k:=by omega
  have ha:x.a=y.a:=by omega
  have b1:¬ x.b<y.b:=fun hb=>hl.cov_end ((h x.k x.b).2 (by rw [hk]; exact eZ.cov_head (by have:=hl.head.1; omega) hb))
  have b2:¬ y.b<x.b:=fun hb=>hm.cov_end ((h y.k y.b).1 (by rw [← hk]; exact eZ.cov_head (by have:=hm.head.1; omega) hb))
  have hxy:x=y:=by
   obtain ⟨xk,xa,xb⟩:=x
   obtain ⟨yk,ya,yb⟩:=y
   (try simp only [au.mk.injEq] at *)
   omega
  subst hxy
  rw [eZ.unique hl.tail hm.tail fun k t=>by rw [hl.cov_tail,hm.cov_tail,h]]
theorem fH {l m:List au} {k t:Int}:fW (l++m) k t↔fW l k t∨fW m k t:=by
 constructor
 ·rintro ⟨x,hx,h⟩
  rcases List.mem_append.1 hx with hx | hx
  ·exact .inl ⟨x,hx,h⟩
  ·exact .inr ⟨x,hx,h⟩
 ·rintro (⟨x,hx,h⟩ | ⟨x,hx,h⟩)
  ·exact ⟨x,List.mem_append_left _ hx,h⟩
  ·exact ⟨x,List.mem_append_right _ hx,h⟩
theorem sT {x:au} {k t:Int}:fW [x] k t↔x.k=k∧x.a≤t∧t<x.b:=
 ⟨fun ⟨y,hy,h⟩=>by rw [List.mem_singleton] at hy; subst hy; exact h,fun h=>⟨x,List.mem_singleton.2 rfl,h⟩⟩
theorem uF {l m:List au} (h:l.Perm m) {k t:Int}:fW l k t↔fW m k t:=
 ⟨fun ⟨x,hx,g⟩=>⟨x,h.mem_iff.1 hx,g⟩,fun ⟨x,hx,g⟩=>⟨x,h.mem_iff.2 hx,g⟩⟩
def leL (x y:au):Prop:=x.k<y.k∨(x.k=y.k∧x.a≤y.a)
theorem pP {l:List au} {x:au}:eZ (l++[x])↔eZ l∧x.a<x.b∧∀ y∈l,mE y x:=by
 constructor
 ·rintro ⟨h1,h2⟩
  obtain ⟨p1,_,p3⟩:=List.pairwise_append.1 h2
  exact ⟨⟨fun y hy=>h1 y (List.mem_append_left _ hy),p1⟩,h1 x (by simp),fun y hy=>p3 y hy x (by simp)⟩
 ·rintro ⟨⟨h1,h2⟩,h3,h4⟩
  refine ⟨fun y hy=>?_,List.pairwise_append.2 ⟨h2,by simp,fun y hy z hz=>?_⟩⟩
  ·rcases List.mem_append.1 hy with hy | hy
   ·exact h1 y hy
   ·rw [List.mem_singleton] at hy; subst hy; exact h3
  ·rw [List.mem_singleton] at hz; subst hz; exact h4 y hy
theorem jW (o:List au) (y x:au):fF (o++[y]) x=if y.k=x.k∧x.a≤y.b then o++[⟨y.k,y.a,max y.b x.b⟩] else o++[y]++[x]:=by
 unfold fF
 rw [List.getLast?_concat]
 simp only [List.dropLast_concat]
theorem cG {α:Type} (l:List α):l=[]∨∃ o y,l=o++[y]:=by
 rcases List.eq_nil_or_concat l with h | ⟨o,y,h⟩
 ·exact .inl h
 ·exact .inr ⟨o,y,by rw [h,List.concat_eq_append]⟩
theorem Dq {out:List au} {x:au} (h:eZ out) (hx:x.a<x.b) (hle:∀ y∈out,leL y x):eZ (fF out x)∧(∀ k t,fW (fF out x) k t↔fW out k t∨fW [x] k t)∧∀ y∈fF out x,∀ z,leL x z→leL y z:=by
 rcases cG out with rfl | ⟨o,y,rfl⟩
 ·refine ⟨⟨fun y hy=>?_,by simp [fF]⟩,fun k t=>?_,fun y hy z hz=>?_⟩
  ·simp only [fF,List.getLast?_nil,List.mem_singleton] at hy; subst hy; exact hx
  ·simp only [fF,List.getLast?_nil]
   exact ⟨.inr,fun h=>h.elim (fun ⟨_,h,_⟩=>nomatch h) id⟩
  ·simp only [fF,List.getLast?_nil,List.mem_singleton] at hy; subst hy; exact hz
 ·rw [jW]
  obtain ⟨c1,c2,c3⟩:=pP.1 h
  have hyx:=hle y (by simp)
  by_cases ht:y.k=x.k∧x.a≤y.b
  ·rw [if_pos ht]
   have hya:y.a≤x.a:=by rcases hyx with g | g <;> omega
   refine ⟨pP.2 ⟨c1,by show y.a<max y.b x.b; omega,fun z hz=>?_⟩,fun k t=>?_,fun z hz q hq=>?_⟩
   ·have:=c3 z hz
    unfold mE at this ⊢
    exact this
   ·rw [fH,fH,sT,sT,sT]
    simp only
    constructor
    ·rintro (g0 | ⟨g1,g2,g3⟩)
     ·exact .inl (.inl g0)
     by_cases g4:t<y.b
     ·exact .inl (.inr ⟨g1,g2,g4⟩)
     ·exact .inr ⟨by omega,by omega,by omega⟩
    ·rintro ((g0 | ⟨g1,g2,g3⟩) | ⟨g1,g2,g3⟩)
     ·exact .inl g0
     ·exact .inr ⟨g1,g2,by omega⟩
     ·exact .inr ⟨by omega,by omega,by omega⟩
   ·rcases List.mem_append.1 hz with hz | hz
    ·have h1:=hle z (by simp [hz])
     unfold leL at *
     omega
    ·rw [List.mem_singleton] at hz; subst hz
     unfold leL at *
     simp only
     omega
  ·rw [if_neg ht]
   refine ⟨pP.2 ⟨h,hx,fun z hz=>?_⟩,fun k t=>fH,fun z hz q hq=>?_⟩
   ·rcases List.mem_append.1 hz with hz | hz
    ·have h1:=c3 z hz
     unfold mE leL at *
     have:=c1.ok z hz
     omega
    ·rw [List.mem_singleton] at hz; subst hz
     unfold mE leL at *
     omega
   ·rcases List.mem_append.1 hz with hz | hz
    ·have h1:=hle z hz
     unfold leL at *
     omega
    ·rw [List.mem_singleton] at hz; subst hz; exact hq
theorem Bp {x y z:au} (h1:leL x y) (h2:leL y z):leL x z:=by unfold leL at *; omega
theorem r8:∀ (l out:List au),eZ out→(∀ x∈l,x.a<x.b)→l.Pairwise leL→(∀ y∈out,∀ x∈l,leL y x)→eZ (l.foldl fF out)∧∀ k t,fW (l.foldl fF out) k t↔fW out k t∨fW l k t
 | [],out,h,_,_,_=>⟨h,fun k t=>⟨.inl,fun h=>h.elim id fun ⟨_,h,_⟩=>nomatch h⟩⟩
 | x::l,out,h,hx,hs,hle=>by
  obtain ⟨s1,s2⟩:=List.pairwise_cons.1 hs
  obtain ⟨j1,j2,j3⟩:=Dq h (hx x List.mem_cons_self) fun y hy=>hle y hy x List.mem_cons_self
  obtain ⟨r1,r2⟩:=r8 l (fF out x) j1 (fun y hy=>hx y (List.mem_cons_of_mem _ hy)) s2 fun y hy z hz=>j3 y hy z (s1 z hz)
  refine ⟨r1,fun k t=>?_⟩
  rw [List.foldl_cons,r2,j2,or_assoc,← fH]
  rfl
theorem uu {l:List au} (hx:∀ x∈l,x.a<x.b) (hs:l.Pairwise leL):eZ (eh l)∧∀ k t,fW (eh l) k t↔fW l k t:=by
 obtain ⟨h1,h2⟩:=r8 l [] ⟨by simp,by simp⟩ hx hs (by simp)
 exact ⟨h1,fun k t=>(h2 k t).trans ⟨fun h=>h.elim (fun ⟨_,h,_⟩=>nomatch h) id,.inr⟩⟩
def tN (x y:au):Bool:=decide (x.k<y.k)||(decide (x.k=y.k)&&decide (x.a≤y.a))
theorem ne {x y:au}:tN x y=true↔leL x y:=by simp [tN,leL]
def kT (l:List au):List au:=eh (l.mergeSort tN)
theorem CL (l:List au):(l.mergeSort tN).Pairwise leL:=
 (List.pairwise_mergeSort (le:=tN) (fun a b c h1 h2=>ne.2 (Bp (ne.1 h1) (ne.1 h2))) (fun a b=>by simp only [tN,Bool.or_eq_true,Bool.and_eq_true,decide_eq_true_eq]; omega) l).imp fun h=>ne.1 h
theorem uI {l:List au} (hx:∀ x∈l,x.a<x.b):eZ (kT l)∧∀ k t,fW (kT l) k t↔fW l k t:=by
 have hp:=List.mergeSort_perm l tN
 obtain ⟨h1,h2⟩:=uu (l:=l.mergeSort tN) (fun x h=>hx x (hp.mem_iff.1 h)) (CL l)
 exact ⟨h1,fun k t=>(h2 k t).trans (uF hp)⟩
theorem w9 {l m:List au} (hx:∀ x∈l,x.a<x.b) (hp:m.Perm l) (hs:m.Pairwise leL):eh m=kT l:=by
 obtain ⟨h1,h2⟩:=uu (fun x h=>hx x (hp.mem_iff.1 h)) hs
 obtain ⟨h3,h4⟩:=uI hx
 exact h1.unique h3 fun k t=>by rw [h2,h4,uF hp]
end Go.Proofs
namespace Go.Proofs
open Go Go.AI
structure Img where
 i:Int
 u:Int
 a:Int
 b:Int
deriving DecidableEq
def e9 (x:Img):List AV:=[.int .i64 x.i,.int .i64 x.u,.int .i64 x.a,.int .i64 x.b]
def fe (l:List Img):AV := .sl .no 4 (l.map e9)
def bN:List Img→List (Int×Int)
 | []=>[]
 | x::r=>(x.a,x.u)::(x.b,0 - x.u)::bN r
def jl (t:Int):List (Int×Int)→Int
 | []=>0
 | x::r=>(if x.1≤t then x.2 else 0)+jl t r
def bI (t:Int):List Img→Int
 | []=>0
 | x::r=>(if x.a≤t∧t<x.b then x.u else 0)+bI t r
def bH:Int→List (Int×Int)→List (Int×Int)
 | _,[]=>[]
 | f,x::[]=>[(x.1,f+x.2)]
 | f,x::y::r=>if y.1=x.1 then bH (f+x.2) (y::r) else (x.1,f+x.2)::bH (f+x.2) (y::r)
theorem qa (t:Int):∀ l:List Img,(∀ x∈l,x.a<x.b)→jl t (bN l)=bI t l
 | [],_=>rfl
 | x::r,h=>by
  have hx:=h x List.mem_cons_self
  simp only [bN,jl,bI]
  rw [qa t r fun y hy=>h y (List.mem_cons_of_mem _ hy)]
  split <;> split <;> split <;> omega
theorem lW {t:Int} {s s':List (Int×Int)} (h:s.Perm s'):jl t s=jl t s':=by
 induction h with
 | nil=>rfl
 | cons x _ ih=>simp only [jl,ih]
 | swap x y l=>simp only [jl]; omega
 | trans _ _ h1 h2=>exact h1.trans h2
theorem lV {t:Int}:∀ {s:List (Int×Int)},(∀ y∈s,t<y.1)→jl t s=0
 | [],_=>rfl
 | x::r,h=>by
  have hx:=h x List.mem_cons_self
  simp only [jl]
  rw [lV fun y hy=>h y (List.mem_cons_of_mem _ hy),if_neg (by omega)]; rfl
theorem iE:∀ (s:List (Int×Int)) (f:Int),s.Pairwise (fun x y=>x.1≤y.1)→∀ p:Int×Int,p∈bH f s↔(∃ x∈s,x.1=p.1)∧p.2=f+jl p.1 s
 | [],f,_,p=>by simp [bH]
 | x::[],f,_,p=>by
  simp only [bH,List.mem_singleton,exists_eq_left,jl]
  constructor
  ·rintro rfl; exact ⟨rfl,by simp⟩
  ·rintro ⟨h1,h2⟩
   rw [if_pos (by omega)] at h2
   exact Prod.ext h1.symm (by simp; omega)
 | x::y::r,f,hs,p=>by
  obtain ⟨s1,s2⟩:=List.pairwise_cons.1 hs
  have ih:=iE (y::r) (f+x.2) s2 p
  have hxy:=s1 y List.mem_cons_self
  have hsum:jl p.1 (x::y::r)=(if x.1≤p.1 then x.2 else 0)+jl p.1 (y::r):=rfl
  rw [hsum]
  by_cases he:y.1=x.1
  ·rw [show bH f (x::y::r)=bH (f+x.2) (y::r) from if_pos he,ih]
   constructor
   ·rintro ⟨⟨z,hz,h1⟩,h2⟩
    have:=s1 z hz
    refine ⟨⟨z,List.mem_cons_of_mem _ hz,h1⟩,?_⟩
    rw [if_pos (by omega)]; omega
   ·rintro ⟨⟨z,hz,h1⟩,h2⟩
    have hz':∃ z∈y::r,z.1=p.1:=by
     rcases List.mem_cons.1 hz with rfl | hz
     ·exact ⟨y,List.mem_cons_self,by omega⟩
     ·exact ⟨z,hz,h1⟩
    obtain ⟨q,hq,h3⟩:=hz'
    have:=s1 q hq
    rw [if_pos (by omega)] at h2
    exact ⟨⟨q,hq,h3⟩,by omega⟩
  ·rw [show bH f (x::y::r)=(x.1,f+x.2)::bH (f+x.2) (y::r) from if_neg he,List.mem_cons,ih]
   have hlt:∀ z∈y::r,x.1<z.1:=fun z hz=>by
    rcases List.mem_cons.1 hz with rfl | hz
    ·omega
    ·have:=(List.pairwise_cons.1 s2).1 z hz
     omega
   constructor
   ·rintro (rfl | ⟨⟨z,hz,h1⟩,h2⟩)
    ·refine ⟨⟨x,List.mem_cons_self,rfl⟩,?_⟩
     simp only [Int.le_refl,if_true]
     rw [lV fun z hz=>hlt z hz]; omega
    ·have:=hlt z hz
     refine ⟨⟨z,List.mem_cons_of_mem _ hz,h1⟩,?_⟩
     rw [if_pos (by omega)]; omega
   ·rintro ⟨⟨z,hz,h1⟩,h2⟩
    rcases List.mem_cons.1 hz with rfl | hz
    ·left
     rw [if_pos (by omega),lV fun z hz=>by have:=hlt z hz; omega] at h2
     exact Prod.ext h1.symm (by simp; omega)
    ·right
     have:=hlt z hz
     rw [if_pos (by omega)] at h2
     exact ⟨⟨z,hz,h1⟩,by omega⟩
theorem mw:∀ (s:List (Int×Int)) (f:Int),s.Pairwise (fun x y=>x.1≤y.1)→(bH f s).Pairwise fun x y=>x.1<y.1
 | [],f,_=>by simp [bH]
 | x::[],f,_=>by simp [bH]
 | x::y::r,f,hs=>by
  obtain ⟨s1,s2⟩:=List.pairwise_cons.1 hs
  have ih:=mw (y::r) (f+x.2) s2
  have hxy:=s1 y List.mem_cons_self
  by_cases he:y.1=x.1
  ·rw [show bH f (x::y::r)=bH (f+x.2) (y::r) from if_pos he]; exact ih
  ·rw [show bH f (x::y::r)=(x.1,f+x.2)::bH (f+x.2) (y::r) from if_neg he,List.pairwise_cons]
   refine ⟨fun p hp=>?_,ih⟩
   obtain ⟨⟨z,hz,h1⟩,_⟩:=(iE _ _ s2 p).1 hp
   show x.1<p.1
   rcases List.mem_cons.1 hz with rfl | hz
   ·omega
   ·have:=(List.pairwise_cons.1 s2).1 z hz
    omega
theorem sZ:∀ {l m:List (Int×Int)},l.Pairwise (fun x y=>x.1<y.1)→m.Pairwise (fun x y=>x.1<y.1)→(∀ p,p∈l↔p∈m)→l=m
 | [],[],_,_,_=>rfl
 | [],y::m,_,_,h=>by have:=(h y).2 List.mem_cons_self; cases this
 | x::l,[],_,_,h=>by have:=(h x).1 List.mem_cons_self; cases this
 | x::l,y::m,h1,h2,h=>by
  obtain ⟨p1,p2⟩:=List.pairwise_cons.1 h1
  obtain ⟨q1,q2⟩:=List.pairwise_cons.1 h2
  have hxy:x=y:=by
   rcases List.mem_cons.1 ((h x).1 List.mem_cons_self) with e | e
   ·exact e
   ·rcases List.mem_cons.1 ((h y).2 List.mem_cons_self) with e' | e'
    ·exact e'.symm
    ·have:=q1 x e; have:=p1 y e'; omega
  subst hxy
  rw [sZ p2 q2 fun p=>?_]
  constructor
  ·intro hp
   rcases List.mem_cons.1 ((h p).1 (List.mem_cons_of_mem _ hp)) with e | e
   ·have:=p1 p hp; rw [e] at this; omega
   ·exact e
  ·intro hp
   rcases List.mem_cons.1 ((h p).2 (List.mem_cons_of_mem _ hp)) with e | e
   ·have:=q1 p hp; rw [e] at this; omega
   ·exact e
def leT (x y:Int×Int):Bool:=decide (x.1≤y.1)
def cp (l:List Img):List (Int×Int):=bH 0 ((bN l).mergeSort leT)
theorem mN (s:List (Int×Int)):(s.mergeSort leT).Pairwise fun x y=>x.1≤y.1:=
 (List.pairwise_mergeSort (le:=leT) (fun a b c h1 h2=>by (try simp only [leT,decide_eq_true_eq] at *); omega) (fun a b=>by simp only [leT,Bool.or_eq_true,decide_eq_true_eq]; omega) s).imp fun h=>by simpa [leT] using h
theorem sO {l:List Img} {s:List (Int×Int)} (hp:s.Perm (bN l)) (hs:s.Pairwise fun x y=>x.1≤y.1):bH 0 s=cp l:=by
 have hq:=List.mergeSort_perm (bN l) leT
 refine sZ (mw _ _ hs) (mw _ _ (mN _)) fun p=>?_
 rw [iE _ _ hs,cp,iE _ _ (mN _),lW hp,lW hq]
 constructor
 ·rintro ⟨⟨x,hx,h1⟩,h2⟩; exact ⟨⟨x,hq.mem_iff.2 (hp.mem_iff.1 hx),h1⟩,h2⟩
 ·rintro ⟨⟨x,hx,h1⟩,h2⟩; exact ⟨⟨x,hp.mem_iff.2 (hq.mem_iff.1 hx),h1⟩,h2⟩
theorem pM {l:List Img} (h:∀ x∈l,x.a<x.b) (p:Int×Int):p∈cp l↔(∃ x∈bN l,x.1=p.1)∧p.2=bI p.1 l:=by
 have hq:=List.mergeSort_perm (bN l) leT
 unfold cp
 rw [iE _ _ (mN _),lW hq,qa _ _ h,Int.zero_add]
 exact ⟨fun ⟨⟨x,hx,h1⟩,h2⟩=>⟨⟨x,hq.mem_iff.1 hx,h1⟩,h2⟩,fun ⟨⟨x,hx,h1⟩,h2⟩=>⟨⟨x,hq.mem_iff.2 hx,h1⟩,h2⟩⟩
end Go.Proofs
namespace Go.Proofs
open Go Go.AI
def iL (l:List Opt):List au:=l.map fun o=>⟨1,o.a,o.b⟩
def yV (l:List Opt):List au:=l.flatMap fun o=>o.sl.map fun x=>⟨2,x.a,x.b⟩
def lA (l:List Opt):List au:=iL l++yV l
def nC (l:List Opt):Bool:=l.any fun o => !bt o.a o.b||decide (6<o.sl.length)
def DU (l:List Opt):Bool:=l.any fun o=>o.sl.any fun x => !bt x.a x.b
def vO (l:List Opt):Bool:=decide (8<l.length)||nC l||DU l
def aA (l:List Opt):List au:=if vO l then [] else kT (lA l)
theorem dK {a b:Int}:bt a b=true↔0≤a∧a<b∧b≤1000000:=by
 constructor
 ·exact mX
 ·rintro ⟨h1,h2,h3⟩
  unfold bt inS
  rw [show w64 (b - 1)=b - 1 from ai (by omega) (by omega)]
  simp; omega
structure dW (l:List Opt):Prop where
 n:l.length≤8
 shot:∀ o∈l,0≤o.a∧o.a<o.b∧o.b≤1000000∧o.sl.length≤6
 slot:∀ o∈l,∀ x∈o.sl,0≤x.a∧x.a<x.b∧x.b≤1000000
theorem sG {l:List Opt}:vO l=false↔dW l:=by
 constructor
 ·intro h
  simp only [vO,nC,DU,Bool.or_eq_false_iff,decide_eq_false_iff_not,List.any_eq_false,Bool.or_eq_true,Bool.not_eq_true',decide_eq_true_eq,not_or,Bool.not_eq_true,Bool.not_eq_false] at h
  obtain ⟨⟨h1,h2⟩,h3⟩:=h
  refine ⟨by omega,fun o ho=>?_,fun o ho x hx=>?_⟩
  ·obtain ⟨g1,g2⟩:=h2 o ho
   have:=mX g1
   omega
  ·have:=h3 o ho x hx
   exact mX (by simpa using this)
 ·rintro ⟨h1,h2,h3⟩
  simp only [vO,nC,DU,Bool.or_eq_false_iff,decide_eq_false_iff_not,List.any_eq_false,Bool.or_eq_true,Bool.not_eq_true',decide_eq_true_eq,not_or,Bool.not_eq_true,Bool.not_eq_false]
  refine ⟨⟨by omega,fun o ho=>?_⟩,fun o ho x hx=>?_⟩
  ·have:=h2 o ho
   exact ⟨dK.2 (by omega),by omega⟩
  ·have:=h3 o ho x hx
   simpa using dK.2 this
theorem C3 {l:List Opt} {x:au}:x∈lA l↔(∃ o∈l,x=⟨1,o.a,o.b⟩)∨∃ o∈l,∃ y∈o.sl,x=⟨2,y.a,y.b⟩:=by
 simp only [lA,iL,yV,List.mem_append,List.mem_map,List.mem_flatMap]
 constructor
 ·rintro (⟨o,ho,rfl⟩ | ⟨o,ho,y,hy,rfl⟩)
  ·exact .inl ⟨o,ho,rfl⟩
  ·exact .inr ⟨o,ho,y,hy,rfl⟩
 ·rintro (⟨o,ho,rfl⟩ | ⟨o,ho,y,hy,rfl⟩)
  ·exact .inl ⟨o,ho,rfl⟩
  ·exact .inr ⟨o,ho,y,hy,rfl⟩
theorem dW.raw {l:List Opt} (h:dW l):∀ x∈lA l,(x.k=1∨x.k=2)∧0≤x.a∧x.a<x.b∧x.b≤1000000:=fun x hx=>by
 rcases C3.1 hx with ⟨o,ho,rfl⟩ | ⟨o,ho,y,hy,rfl⟩
 ·have:=h.shot o ho; exact ⟨.inl rfl,this.1,this.2.1,this.2.2.1⟩
 ·exact ⟨.inr rfl,h.slot o ho y hy⟩
theorem Br (out:List au) (x:au):(fF out x).length≤out.length+1:=by
 rcases cG out with rfl | ⟨o,y,rfl⟩
 ·simp [fF]
 ·rw [jW]
  split <;> simp
theorem mn:∀ (l out:List au),(l.foldl fF out).length≤out.length+l.length
 | [],out=>by simp
 | x::l,out=>by
  have h1:=mn l (fF out x)
  have h2:=Br out x
  simp only [List.foldl_cons,List.length_cons]
  omega
theorem sV (l:List au):(kT l).length≤l.length:=by
 have:=mn (l.mergeSort tN) []
 have h2:=(List.mergeSort_perm l tN).length_eq
 simp only [List.length_nil,Nat.zero_add,h2] at this
 exact this
theorem sL (n:Nat):∀ l:List Opt,(∀ o∈l,o.sl.length≤n)→(yV l).length≤n*l.length
 | [],_=>by simp [yV]
 | o::r,h=>by
  have h1:=sL n r fun x hx=>h x (List.mem_cons_of_mem _ hx)
  have h2:=h o List.mem_cons_self
  simp only [yV,List.flatMap_cons,List.length_append,List.length_map,List.length_cons,Nat.mul_add,Nat.mul_one] at h1 ⊢
  omega
theorem dW.len {l:List Opt} (h:dW l):(lA l).length≤56:=by
 have h1:=sL 6 l fun o ho=>(h.shot o ho).2.2.2
 have h2:=h.n
 simp only [lA,iL,List.length_append,List.length_map]
 omega
theorem Aq:∀ (rest pre:List au),eZ (pre++rest)→(∀ x∈rest,(x.k=1∨x.k=2)∧0≤x.a∧x.b≤1000000)→okL pre rest=true
 | [],_,_,_=>rfl
 | x::r,pre,h,hb=>by
  have hx:=hb x List.mem_cons_self
  have hok:=h.ok x (by simp)
  have hsep:=(List.pairwise_append.1 h.sep).2.2
  have ih:=Aq r (pre++[x]) (by simpa using h) fun y hy=>hb y (List.mem_cons_of_mem _ hy)
  rw [okL,ih,Bool.and_true,dX,dK.2 (by omega),show inS x.k 1 2=true from by unfold inS; simp; omega]
  simp only [Bool.true_and,Bool.not_eq_true',List.any_eq_false,kf,Bool.and_eq_true,decide_eq_true_eq,not_and]
  intro y hy g1 g2
  have:=hsep y hy x List.mem_cons_self
  unfold mE at this
  omega
theorem zo {l m:List au} (h:eZ m) (hc:∀ k t,fW m k t↔fW l k t) (hl:∀ x∈l,(x.k=1∨x.k=2)∧0≤x.a∧x.a<x.b∧x.b≤1000000):∀ x∈m,(x.k=1∨x.k=2)∧0≤x.a∧x.b≤1000000:=fun x hx=>by
 have hok:=h.ok x hx
 obtain ⟨y,hy,h1,h2,h3⟩:=(hc x.k x.a).1 ⟨x,hx,rfl,Int.le_refl _,hok⟩
 obtain ⟨z,hz,g1,g2,g3⟩:=(hc x.k (x.b - 1)).1 ⟨x,hx,rfl,by omega,by omega⟩
 have b1:=hl y hy
 have b2:=hl z hz
 rw [h1] at b1
 exact ⟨b1.1,by omega,by omega⟩
theorem dW.loads {l:List Opt} (h:dW l):aA l=kT (lA l):=by unfold aA; rw [sG.2 h]; rfl
theorem dW.can {l:List Opt} (h:dW l):eZ (aA l)∧∀ k t,fW (aA l) k t↔fW (lA l) k t:=by
 rw [h.loads]; exact uI fun x hx=>(h.raw x hx).2.2.1
theorem dW.proper {l:List Opt} (h:dW l):cn (aA l)=true:=by
 obtain ⟨h1,h2⟩:=h.can
 have hlen:(aA l).length≤56:=by rw [h.loads]; exact Nat.le_trans (sV _) h.len
 unfold cn
 rw [decide_eq_true (by omega),Bool.true_and]
 exact Aq _ [] h1 (zo h1 h2 h.raw)
end Go.Proofs
namespace Go.Proofs
open Go Go.AI
def gD (r:List (Int×Int)×(Int×Int)) (o:Int×Int):List (Int×Int)×(Int×Int):=if o.2<r.2.1∨o.1>r.2.2 then (r.1++[o],r.2) else (r.1,(min r.2.1 o.1,max r.2.2 o.2))
def xl (next:List (Int×Int)) (s:Int×Int):List (Int×Int):=next.takeWhile (fun x=>decide (x.1<s.1))++s::next.dropWhile (fun x=>decide (x.1<s.1))
def fY (out:List (Int×Int)) (s:Int×Int):List (Int×Int):=xl (out.foldl gD ([],s)).1 (out.foldl gD ([],s)).2
def gI (l:List (Int×Int)):List (Int×Int):=l.foldl fY []
structure zR (l:List (Int×Int)):Prop where
 ok:∀ x∈l,x.1<x.2
 sep:l.Pairwise fun x y=>x.2<y.1
def kQ (l:List (Int×Int)) (t:Int):Prop:=∃ x∈l,x.1≤t∧t<x.2
theorem fG {l m:List (Int×Int)} {t:Int}:kQ (l++m) t↔kQ l t∨kQ m t:=by
 constructor
 ·rintro ⟨x,hx,h⟩
  rcases List.mem_append.1 hx with hx | hx
  ·exact .inl ⟨x,hx,h⟩
  ·exact .inr ⟨x,hx,h⟩
 ·rintro (⟨x,hx,h⟩ | ⟨x,hx,h⟩)
  ·exact ⟨x,List.mem_append_left _ hx,h⟩
  ·exact ⟨x,List.mem_append_right _ hx,h⟩
theorem nr {x:Int×Int} {t:Int}:kQ [x] t↔x.1≤t∧t<x.2:=
 ⟨fun ⟨y,hy,h⟩=>by rw [List.mem_singleton] at hy; subst hy; exact h,fun h=>⟨x,List.mem_singleton.2 rfl,h⟩⟩
structure Hk (s:Int×Int) (pre:List (Int×Int)) (r:List (Int×Int)×(Int×Int)):Prop where
 lt:r.2.1<r.2.2
 mem:∀ x∈r.1,x∈pre∧(x.2<r.2.1∨r.2.2<x.1)
 sep:r.1.Pairwise fun x y=>x.2<y.1
 cov:∀ t,(kQ r.1 t∨(r.2.1≤t∧t<r.2.2))↔(kQ pre t∨(s.1≤t∧t<s.2))
theorem wW {s:Int×Int}:∀ (rest pre:List (Int×Int)) (r:List (Int×Int)×(Int×Int)),zR (pre++rest)→Hk s pre r→Hk s (pre++rest) (rest.foldl gD r)
 | [],pre,r,_,h=>by simpa using h
 | q::rest,pre,r,hc,h=>by
  have hsep:=(List.pairwise_append.1 hc.sep).2.2
  have hq:∀ x∈pre,x.2<q.1:=fun x hx=>hsep x hx q List.mem_cons_self
  have hqq:=hc.ok q (by simp)
  have hpre:∀ x∈pre,x.1<x.2:=fun x hx=>hc.ok x (List.mem_append_left _ hx)
  have hc':zR ((pre++[q])++rest):=by simpa using hc
  have:=wW (s:=s) rest (pre++[q]) (gD r q) hc' ?_
  ·simpa using this
  ·have hs:=h.lt
   unfold gD
   split
   ·rename_i hn
    refine ⟨hs,fun x hx=>?_,List.pairwise_append.2 ⟨h.sep,by simp,fun x hx y hy=>?_⟩,fun t=>?_⟩
    ·rcases List.mem_append.1 hx with hx | hx
     ·exact ⟨List.mem_append_left _ (h.mem x hx).1,(h.mem x hx).2⟩
     ·rw [List.mem_singleton] at hx; subst hx
      exact ⟨by simp,by simp only; omega⟩
    ·rw [List.mem_singleton] at hy; subst hy
     exact hq x (h.mem x hx).1
    ·have:=h.cov t
     simp only [fG,nr]
     constructor
     ·rintro ((g | g) | g)
      ·rcases this.1 (.inl g) with g | g
       ·exact .inl (.inl g)
       ·exact .inr g
      ·exact .inl (.inr g)
      ·rcases this.1 (.inr g) with g | g
       ·exact .inl (.inl g)
       ·exact .inr g
     ·rintro ((g | g) | g)
      ·rcases this.2 (.inl g) with g | g
       ·exact .inl (.inl g)
       ·exact .inr g
      ·exact .inl (.inr g)
      ·rcases this.2 (.inr g) with g | g
       ·exact .inl (.inl g)
       ·exact .inr g
   ·rename_i hn
    have h1:¬ q.2<r.2.1:=fun g=>hn (.inl g)
    have h2:¬ q.1>r.2.2:=fun g=>hn (.inr g)
    refine ⟨by simp only; omega,fun x hx=>?_,h.sep,fun t=>?_⟩
    ·obtain ⟨m1,m2⟩:=h.mem x hx
     refine ⟨List.mem_append_left _ m1,?_⟩
     have g1:=hq x m1
     have g2:=hpre x m1
     simp only
     omega
    ·have:=h.cov t
     simp only [fG,nr]
     have e:(min r.2.1 q.1≤t∧t<max r.2.2 q.2)↔(r.2.1≤t∧t<r.2.2)∨(q.1≤t∧t<q.2):=by omega
     rw [e]
     constructor
     ·rintro (g | g | g)
      ·rcases this.1 (.inl g) with g | g
       ·exact .inl (.inl g)
       ·exact .inr g
      ·rcases this.1 (.inr g) with g | g
       ·exact .inl (.inl g)
       ·exact .inr g
      ·exact .inl (.inr g)
     ·rintro ((g | g) | g)
      ·rcases this.2 (.inl g) with g | g
       ·exact .inl g
       ·exact .inr (.inl g)
      ·exact .inr (.inr g)
      ·rcases this.2 (.inr g) with g | g
       ·exact .inl g
       ·exact .inr (.inl g)
theorem t8 {α:Type} {p:α→Bool}:∀ {l:List α} {x:α},x∈l.takeWhile p→p x=true
 | [],x,h=>by cases h
 | y::r,x,h=>by
  rw [List.takeWhile_cons] at h
  split at h
  ·rcases List.mem_cons.1 h with rfl | h
   ·assumption
   ·exact t8 h
  ·cases h
theorem xG {s:Int}:∀ {l:List (Int×Int)},l.Pairwise (fun x y=>x.2<y.1)→(∀ x∈l,x.1<x.2)→∀ x∈l.dropWhile (fun x=>decide (x.1<s)),s≤x.1
 | [],_,_,x,h=>by cases h
 | y::r,hs,hok,x,h=>by
  rw [List.dropWhile_cons] at h
  split at h
  ·exact xG (List.pairwise_cons.1 hs).2 (fun z hz=>hok z (List.mem_cons_of_mem _ hz)) x h
  ·rename_i hn
   have hn:¬ y.1<s:=by simpa using hn
   rcases List.mem_cons.1 h with rfl | h
   ·omega
   ·have:=(List.pairwise_cons.1 hs).1 x h
    have:=hok y List.mem_cons_self
    omega
theorem CJ {out:List (Int×Int)} {s:Int×Int} (h:zR out) (hs:s.1<s.2):zR (fY out s)∧∀ t,kQ (fY out s) t↔kQ out t∨(s.1≤t∧t<s.2):=by
 have hn:=wW (s:=s) out [] ([],s) (by simpa using h) ⟨hs,by simp,by simp,fun t=>by simp⟩
 simp only [List.nil_append] at hn
 unfold fY
 generalize out.foldl gD ([],s)=r at hn
 obtain ⟨next,s'⟩:=r
 have hs':s'.1<s'.2:=hn.lt
 have hmem:=hn.mem
 have hsep:=hn.sep
 have hcov:=hn.cov
 simp only at hmem hsep hcov ⊢
 have hok:∀ x∈next,x.1<x.2:=fun x hx=>h.ok x (hmem x hx).1
 have hta:∀ x∈next.takeWhile (fun x=>decide (x.1<s'.1)),x∈next∧x.2<s'.1:=fun x hx=>by
  have h1:=t8 hx
  have h2:=(List.takeWhile_sublist _).subset hx
  have h3:=(hmem x h2).2
  have h4:=hok x h2
  simp only [decide_eq_true_eq] at h1
  exact ⟨h2,by omega⟩
 have hdr:∀ x∈next.dropWhile (fun x=>decide (x.1<s'.1)),x∈next∧s'.2<x.1:=fun x hx=>by
  have h1:=xG hsep hok x hx
  have h2:=(List.dropWhile_sublist _).subset hx
  have h3:=(hmem x h2).2
  have h4:=hok x h2
  exact ⟨h2,by omega⟩
 refine ⟨⟨fun x hx=>?_,?_⟩,fun t=>?_⟩
 ·unfold xl at hx
  rcases List.mem_append.1 hx with hx | hx
  ·exact hok x (hta x hx).1
  ·rcases List.mem_cons.1 hx with rfl | hx
   ·exact hs'
   ·exact hok x (hdr x hx).1
 ·unfold xl
  refine List.pairwise_append.2 ⟨hsep.sublist (List.takeWhile_sublist _),List.pairwise_cons.2 ⟨fun x hx=>(hdr x hx).2,hsep.sublist (List.dropWhile_sublist _)⟩,fun x hx y hy=>?_⟩
  have h1:=(hta x hx).2
  rcases List.mem_cons.1 hy with rfl | hy
  ·exact h1
  ·have:=(hdr y hy).2; omega
 ·rw [← hcov t]
  have e:kQ next t↔kQ (next.takeWhile (fun x=>decide (x.1<s'.1))) t∨kQ (next.dropWhile (fun x=>decide (x.1<s'.1))) t:=by
   rw [← fG,List.takeWhile_append_dropWhile]
  rw [e]
  unfold xl
  rw [fG,show s'::next.dropWhile (fun x=>decide (x.1<s'.1))=[s']++next.dropWhile (fun x=>decide (x.1<s'.1)) from rfl,fG,nr]
  constructor
  ·rintro (g | g | g)
   ·exact .inl (.inl g)
   ·exact .inr g
   ·exact .inl (.inr g)
  ·rintro ((g | g) | g)
   ·exact .inl g
   ·exact .inr (.inr g)
   ·exact .inr (.inl g)
theorem sv:∀ (l out:List (Int×Int)),zR out→(∀ x∈l,x.1<x.2)→zR (l.foldl fY out)∧∀ t,kQ (l.foldl fY out) t↔kQ out t∨kQ l t
 | [],out,h,_=>⟨h,fun t=>⟨.inl,fun h=>h.elim id fun ⟨_,h,_⟩=>nomatch h⟩⟩
 | x::l,out,h,hx=>by
  obtain ⟨j1,j2⟩:=CJ h (hx x List.mem_cons_self)
  obtain ⟨r1,r2⟩:=sv l (fY out x) j1 fun y hy=>hx y (List.mem_cons_of_mem _ hy)
  refine ⟨r1,fun t=>?_⟩
  rw [List.foldl_cons,r2,j2,or_assoc,← nr,← fG]
  rfl
theorem sw {l:List (Int×Int)} (h:∀ x∈l,x.1<x.2):zR (gI l)∧∀ t,kQ (gI l) t↔kQ l t:=by
 obtain ⟨h1,h2⟩:=sv l [] ⟨by simp,by simp⟩ h
 exact ⟨h1,fun t=>(h2 t).trans ⟨fun h=>h.elim (fun ⟨_,h,_⟩=>nomatch h) id,.inr⟩⟩
def mkK (k:Int) (x:Int×Int):au:=⟨k,x.1,x.2⟩
theorem rq {k k' t:Int} {l:List (Int×Int)}:fW (l.map (mkK k)) k' t↔k=k'∧kQ l t:=by
 constructor
 ·rintro ⟨x,hx,h1,h2,h3⟩
  obtain ⟨y,hy,rfl⟩:=List.mem_map.1 hx
  exact ⟨h1,y,hy,h2,h3⟩
 ·rintro ⟨rfl,y,hy,h2,h3⟩
  exact ⟨mkK k y,List.mem_map.2 ⟨y,hy,rfl⟩,rfl,h2,h3⟩
def f7 (l:List Opt):List (Int×Int):=l.map fun o=>(o.a,o.b)
def bD (l:List Opt):List (Int×Int):=l.flatMap fun o=>o.sl.map fun x=>(x.a,x.b)
theorem Ft (l:List Opt):iL l=(f7 l).map (mkK 1):=by simp [iL,f7,mkK]
theorem ro (l:List Opt):yV l=(bD l).map (mkK 2):=by
 unfold yV bD
 rw [List.map_flatMap]
 congr 1
 funext o
 simp [mkK]
theorem dW.ref {l:List Opt} (h:dW l):(gI (f7 l)).map (mkK 1)++(gI (bD l)).map (mkK 2)=aA l:=by
 have hA:∀ x∈f7 l,x.1<x.2:=fun x hx=>by
  obtain ⟨o,ho,rfl⟩:=List.mem_map.1 hx
  exact (h.shot o ho).2.1
 have hB:∀ x∈bD l,x.1<x.2:=fun x hx=>by
  obtain ⟨o,ho,hx⟩:=List.mem_flatMap.1 hx
  obtain ⟨y,hy,rfl⟩:=List.mem_map.1 hx
  exact (h.slot o ho y hy).2.1
 obtain ⟨a1,a2⟩:=sw hA
 obtain ⟨b1,b2⟩:=sw hB
 obtain ⟨c1,c2⟩:=h.can
 refine eZ.unique ⟨fun x hx=>?_,List.pairwise_append.2 ⟨?_,?_,fun x hx y hy=>?_⟩⟩ c1 fun k t=>?_
 ·rcases List.mem_append.1 hx with hx | hx
  ·obtain ⟨y,hy,rfl⟩:=List.mem_map.1 hx; exact a1.ok y hy
  ·obtain ⟨y,hy,rfl⟩:=List.mem_map.1 hx; exact b1.ok y hy
 ·exact List.pairwise_map.2 (a1.sep.imp fun h => .inr ⟨rfl,h⟩)
 ·exact List.pairwise_map.2 (b1.sep.imp fun h => .inr ⟨rfl,h⟩)
 ·obtain ⟨p,hp,rfl⟩:=List.mem_map.1 hx
  obtain ⟨q,hq,rfl⟩:=List.mem_map.1 hy
  exact .inl (by show (1:Int)<2; omega)
 ·rw [c2,fH,lA,fH,Ft,ro,rq,rq,rq,rq,a2,b2]
end Go.Proofs
namespace Go.Proofs
open Go Go.AI
def ml:Opt:=⟨0,0,0,0,0,0,0,0,[]⟩
def rJ:aV:=⟨0,0,0⟩
def aG (l:List Opt) (i:Nat):Opt:=l.getD i ml
def er (o:Opt) (i:Nat):aV:=o.sl.getD i rJ
def fE (o:Opt):Int:=(er o (o.sl.length - 1)).b
def DZ (l:List Opt):List FZ:=l.map fun o=>⟨o.a,o.b,o.look⟩
def gA (l:List Opt):List Img:=l.map fun o=>⟨o.id,o.size,o.a,fE o⟩
def slP (o:Opt):List (Int×Int):=o.sl.map fun x=>(x.a,x.b)
theorem cK {l:List Opt} {i:Nat} (h:i<l.length):aG l i=l[i]:=by simp [aG,List.getD_eq_getElem?_getD,List.getElem?_eq_getElem h]
end Go.Proofs
namespace Go.Proofs
open Go Go.AI
theorem nk (t:Int):∀ l:List Img,(∀ x∈l,0≤x.u)→0≤bI t l
 | [],_=>Int.le_refl _
 | x::r,h=>by
  have h1:=nk t r fun y hy=>h y (List.mem_cons_of_mem _ hy)
  have h2:=h x List.mem_cons_self
  simp only [bI]
  split <;> omega
theorem m6 {l:List Opt} (h:dW l):(aA l).length≤56:=by rw [h.loads]; exact Nat.le_trans (sV _) h.len
end Go.Proofs
namespace Go.Proofs
open Go Go.AI
set_option maxRecDepth 10000
theorem tz (o:Opt) (k:Nat) (hl:o.sl.length≤1000000) (hc:jw o=true) (hk:k<o.sl.length):ae Tryz.prog 36 [.agg (aH o),.int .i64 k] (.tup [.agg (e9 ⟨o.id,o.size,o.a,(o.sl.getD k ⟨0,0,0⟩).b⟩),.int .i64 0]):=by
 have k100:=BW o hl
 rw [hc] at k100
 have hx:=dc hk
 have hw:IntKind.i64.wrap (((o.sl.map ay).length:Int) - 1)=(o.sl.length:Int) - 1:=by rw [List.length_map]; exact ai (by omega) (by omega)
 have k101:=uU (k:Int) 0 (IntKind.i64.wrap (((o.sl.map ay).length:Int) - 1))
 rw [fw (show 0≤(k:Int)∧(k:Int)≤IntKind.i64.wrap (((o.sl.map ay).length:Int) - 1) by rw [hw]; omega)] at k101
 refine ag aa Tryz.func36 rfl (by kernel_rfl) af (Nat.le_of_ble_eq_true rfl) ?_
 intro F n' w0 m0 hG hro h1
 repeat' first|refine Q1 ?_|refine Q2 ?_|refine Q3 hG aa qW ?_|refine Q4 hG aa qW ?_|refine Q5 hG aa ?_|refine Q6 hG aa ?_|refine Q7 hG aa ?_|refine Q8 hG aa ?_|refine Q9 rfl ?_|refine QF rfl ?_|refine QC rfl ⟨fun h=>?_,fun h=>?_⟩|((conv=>whnf); first|refine anF ?_|refine anT ?_|refine anK ?_|refine Exists.intro _ (And.intro (k100) ?_)|refine Exists.intro _ (And.intro (k101) ?_)|refine And.intro (Int.natCast_nonneg k) (Exists.intro _ (And.intro hx ?_))|refine And.intro (fun h=>?_) (fun h=>?_)|refine Or.inl ?_)
 all_goals exact Ends.mk (Or.inl rfl) (ac rfl)
theorem FQ {o:Opt} (h:jw o=true):1≤o.sl.length∧o.sl.length≤6:=by
 simp only [jw,inS,Bool.and_eq_true,decide_eq_true_eq] at h
 omega
theorem zu (o:Opt) (hl:o.sl.length≤1000000) (hc:jw o=true):ae Tryz.prog 35 [.agg (aH o)] (.tup [.agg (e9 ⟨o.id,o.size,o.a,fE o⟩),.int .i64 0]):=by
 have hn:=FQ hc
 have k48:=tz o (o.sl.length - 1) hl hc (by omega)
 rw [show ((o.sl.length - 1:Nat):Int)=IntKind.i64.wrap (((o.sl.map ay).length:Int) - 1) by rw [List.length_map]; exact ((ai (by omega) (by omega)).trans (by omega)).symm] at k48
 refine ag aa Tryz.func35 rfl (by kernel_rfl) af (Nat.le_of_ble_eq_true rfl) ?_
 intro F n' w0 m0 hG hro h1
 repeat' first|refine Q1 ?_|refine Q2 ?_|refine Q3 hG aa qX ?_|refine Q4 hG aa qX ?_|refine Q5 hG aa ?_|refine Q6 hG aa ?_|refine Q7 hG aa ?_|refine Q8 hG aa ?_|refine Q9 rfl ?_|refine QF rfl ?_|refine QC rfl ⟨fun h=>?_,fun h=>?_⟩|((conv=>whnf); first|refine anF ?_|refine anT ?_|refine anK ?_|refine Exists.intro _ (And.intro (k48) ?_)|refine And.intro (fun h=>?_) (fun h=>?_)|refine Or.inl ?_)
 all_goals exact Ends.mk (Or.inl rfl) (ac rfl)
structure am where
 sat:Int
 st:Int
 sa:Int
 sb:Int
 ca:Int
 cb:Int
deriving DecidableEq
def aL (p:am):List AV:=[.int .i64 p.sat,.int .i64 p.st,.int .i64 p.sa,.int .i64 p.sb,.int .i64 p.ca,.int .i64 p.cb]
def al (l:List am):AV := .sl .no 6 (l.map aL)
def kE:am:=⟨0,0,0,0,0,0⟩
def aB (l:List am) (i:Nat):am:=l.getD i kE
def co (p:am):Bool:=(inS p.sat 0 23&&(inS p.st 0 11&&true))&&((decide (0≤p.ca)&&decide (p.ca<p.cb)&&decide (p.cb≤1000001))&&((p.sa==0&&(p.sb==0&&true))||(decide (p.ca≤p.sa)&&decide (p.sa<p.sb)&&decide (p.sb≤p.cb))))
set_option maxHeartbeats 4000000 in
theorem yj (p:am):ae Tryz.prog 158 [.agg (aL p)] (.bool (co p)):=by
 have k114:=(pt [⟨p.sat,0,23⟩,⟨p.st,0,11⟩] (Nat.le_of_ble_eq_true rfl)).sl0 (o := .full)
 refine ag aa Tryz.func158 rfl (by kernel_rfl) af (Nat.le_of_ble_eq_true rfl) ?_
 intro F n' w0 m0 hG hro h1
 repeat' first|refine Q1 ?_|refine Q2 ?_|refine Q3 hG aa oR ?_|refine Q4 hG aa oR ?_|refine Q5 hG aa ?_|refine Q6 hG aa ?_|refine Q7 hG aa ?_|refine Q8 hG aa ?_|refine Q9 rfl ?_|refine QF rfl ?_|refine QC rfl ⟨fun h=>?_,fun h=>?_⟩|((conv=>whnf); first|refine anF ?_|refine anT ?_|refine anK ?_|refine Exists.intro _ (And.intro (k114) ?_)|refine And.intro (fun h=>?_) (fun h=>?_)|refine Or.inl ?_)
 all_goals refine Ends.mk (Or.inl rfl) (ac (congrArg AV.bool ?_))
 all_goals (unfold co; (try simp only [List.all_cons,List.all_nil,Bool.and_true] at *); simp only [*,Bool.true_and,Bool.and_true,Bool.false_and,Bool.and_false,Bool.true_or,Bool.false_or])
theorem vY (p:am):ae Tryz.prog 157 [.agg (aL p)] (.bool (!co p)):=by
 refine ag aa Tryz.func157 rfl (by kernel_rfl) af (Nat.le_of_ble_eq_true rfl) ?_
 intro F n' w0 m0 hG hro h1
 repeat' first|refine Q1 ?_|refine Q2 ?_|refine Q3 hG aa oS ?_|refine Q4 hG aa oS ?_|refine Q5 hG aa ?_|refine Q6 hG aa ?_|refine Q7 hG aa ?_|refine Q8 hG aa ?_|refine Q9 rfl ?_|refine QF rfl ?_|refine QC rfl ⟨fun h=>?_,fun h=>?_⟩|((conv=>whnf); first|refine anF ?_|refine anT ?_|refine anK ?_|refine Exists.intro _ (And.intro (yj p) ?_)|refine And.intro (fun h=>?_) (fun h=>?_)|refine Or.inl ?_)
 all_goals exact Ends.mk (Or.inl rfl) (ac rfl)
def rj (p q:am):Int:=orS [fb p.ca q.ca,fb p.sat q.sat,fb p.st q.st,fb p.sa q.sa,fb p.cb q.cb]
theorem pW (p q:am):ae Tryz.prog 160 [.agg (aL p),.agg (aL q)] (.int .i64 (rj p q)):=by
 refine ag aa Tryz.func160 rfl (by kernel_rfl) af (Nat.le_of_ble_eq_true rfl) ?_
 intro F n' w0 m0 hG hro h1
 repeat' first|refine Q1 ?_|refine Q2 ?_|refine Q3 hG aa oQ ?_|refine Q4 hG aa oQ ?_|refine Q5 hG aa ?_|refine Q6 hG aa ?_|refine Q7 hG aa ?_|refine Q8 hG aa ?_|refine Q9 rfl ?_|refine QF rfl ?_|refine QC rfl ⟨fun h=>?_,fun h=>?_⟩|((conv=>whnf); first|refine anF ?_|refine anT ?_|refine anK ?_|refine Exists.intro _ (And.intro (kZ _ _) ?_)|refine Exists.intro _ (And.intro (tB [fb p.ca q.ca,fb p.sat q.sat,fb p.st q.st,fb p.sa q.sa,fb p.cb q.cb] (Nat.le_of_ble_eq_true rfl)) ?_)|refine And.intro (fun h=>?_) (fun h=>?_)|refine Or.inl ?_)
 all_goals exact Ends.mk (Or.inl rfl) (ac rfl)
theorem kX (l:List am) (p:am→Bool) (g:FuncId) (fv:AV) (cap:List AV) (hf:fv = .clo g cap∨(fv = .fn g∧cap=[])) (hl:l.length≤1000000)
  (hp:∀ x∈l,ae Tryz.prog g ((.agg (aL x))::cap) (.bool (p x))):ae Tryz.prog 226 [.sl .no 6 (l.map aL),fv] (.int .i64 (bK p l 0)):=by
 rcases hf with rfl | ⟨rfl,rfl⟩
 ·refine ag aa Tryz.func226 rfl (by kernel_rfl) af (Nat.le_of_ble_eq_true rfl) ?_
  intro F n' w0 m0 hG hro h1
  repeat' first|refine Q1 ?_|refine Q2 ?_|refine Q3 hG aa dt ?_|refine Q4 hG aa dt ?_|refine Q5 hG aa ?_|refine Q6 hG aa ?_|refine Q7 hG aa ?_|refine Q8 hG aa ?_|refine Q9 rfl ?_|refine QF rfl ?_|refine QC rfl ⟨fun h=>?_,fun h=>?_⟩|((conv=>whnf); first|refine anF ?_|refine anT ?_|refine anK ?_|refine And.intro (fun h=>?_) (fun h=>?_)|refine Or.inl ?_)
  refine ap (X:=Nat) (fun j=>⟨[(8,.int .i64 j),(7,.int .i64 (l.map aL).length),(0,.sl .no 6 (l.map aL)),(1,.clo g cap)],[]⟩) (fun j=>j≤l.length∧bK p (l.drop j) j=bK p l 0) (fun j=>l.length - j) 0
   ⟨Nat.zero_le _,by simp⟩ (ah ?_ trivial) (fun j hj=>?_)
  ·repeat' (first | exact trivial | refine And.intro rfl ?_)
  ·obtain ⟨hj,hi⟩:=hj
   have hj2:decide ((j:Int)<((l.map aL).length:Int))=true→j<l.length:=fun h=>by have:=of_decide_eq_true h; simp at this; omega
   have hx:decide ((j:Int)<((l.map aL).length:Int))=true→(l.map aL)[(j:Int).toNat]?=some (aL (l.getD j kE)):=fun h=>by have:=hj2 h; simp [List.getElem?_eq_getElem this]
   have hc:decide ((j:Int)<((l.map aL).length:Int))=true→ae Tryz.prog g ((.agg (aL (l.getD j kE)))::cap) (.bool (p (l.getD j kE))):=fun h=>hp _ (by have:=hj2 h; rw [List.getD_eq_getElem?_getD,List.getElem?_eq_getElem this]; exact List.getElem_mem this)
   repeat' first|refine Q1 ?_|refine Q2 ?_|refine Q3 hG aa dt ?_|refine Q4 hG aa dt ?_|refine Q5 hG aa ?_|refine Q6 hG aa ?_|refine Q7 hG aa ?_|refine Q8 hG aa ?_|refine Q9 rfl ?_|refine QF rfl ?_|refine QC rfl ⟨fun h=>?_,fun h=>?_⟩|((conv=>whnf); first|refine anF ?_|refine anT ?_|refine anK ?_|refine And.intro (Int.natCast_nonneg j) (Exists.intro _ (And.intro (hx (by assumption)) ?_))|refine Exists.intro _ (And.intro (hc (by assumption)) ?_)|refine And.intro (fun h=>?_) (fun h=>?_)|refine Or.inl ?_)
   ·rw [aT (d:=kE) (hj2 (by assumption)),if_pos (by assumption)] at hi
    exact Ends.mk (Or.inl rfl) (ac (congrArg (AV.int .i64) hi))
   ·have hj2:=hj2 (by assumption)
    rw [aT (d:=kE) hj2,if_neg (fun h=>tf h (by assumption))] at hi
    refine Exists.intro (j+1) (And.intro ⟨hj2,hi⟩ (And.intro (by omega) (ah ?_ trivial)))
    refine And.intro (congrArg (fun z=>some (AV.int .i64 z)) ((ai (by omega) (by omega)).trans (by omega))) ?_
    repeat' (first | exact trivial | refine And.intro rfl ?_)
   ·have hj2:l.length≤j:=by have:=of_decide_eq_false (by assumption:decide ((j:Int)<((l.map aL).length:Int))=false); simp at this; omega
    rw [List.drop_of_length_le hj2] at hi
    exact Ends.mk (Or.inl rfl) (ac (congrArg (AV.int .i64) hi))
 ·refine ag aa Tryz.func226 rfl (by kernel_rfl) af (Nat.le_of_ble_eq_true rfl) ?_
  intro F n' w0 m0 hG hro h1
  repeat' first|refine Q1 ?_|refine Q2 ?_|refine Q3 hG aa dt ?_|refine Q4 hG aa dt ?_|refine Q5 hG aa ?_|refine Q6 hG aa ?_|refine Q7 hG aa ?_|refine Q8 hG aa ?_|refine Q9 rfl ?_|refine QF rfl ?_|refine QC rfl ⟨fun h=>?_,fun h=>?_⟩|((conv=>whnf); first|refine anF ?_|refine anT ?_|refine anK ?_|refine And.intro (fun h=>?_) (fun h=>?_)|refine Or.inl ?_)
  refine ap (X:=Nat) (fun j=>⟨[(8,.int .i64 j),(7,.int .i64 (l.map aL).length),(0,.sl .no 6 (l.map aL)),(1,.fn g)],[]⟩) (fun j=>j≤l.length∧bK p (l.drop j) j=bK p l 0) (fun j=>l.length - j) 0
   ⟨Nat.zero_le _,by simp⟩ (ah ?_ trivial) (fun j hj=>?_)
  ·repeat' (first | exact trivial | refine And.intro rfl ?_)
  ·obtain ⟨hj,hi⟩:=hj
   have hj2:decide ((j:Int)<((l.map aL).length:Int))=true→j<l.length:=fun h=>by have:=of_decide_eq_true h; simp at this; omega
   have hx:decide ((j:Int)<((l.map aL).length:Int))=true→(l.map aL)[(j:Int).toNat]?=some (aL (l.getD j kE)):=fun h=>by have:=hj2 h; simp [List.getElem?_eq_getElem this]
   have hc:decide ((j:Int)<((l.map aL).length:Int))=true→ae Tryz.prog g ((.agg (aL (l.getD j kE)))::[]) (.bool (p (l.getD j kE))):=fun h=>hp _ (by have:=hj2 h; rw [List.getD_eq_getElem?_getD,List.getElem?_eq_getElem this]; exact List.getElem_mem this)
   repeat' first|refine Q1 ?_|refine Q2 ?_|refine Q3 hG aa dt ?_|refine Q4 hG aa dt ?_|refine Q5 hG aa ?_|refine Q6 hG aa ?_|refine Q7 hG aa ?_|refine Q8 hG aa ?_|refine Q9 rfl ?_|refine QF rfl ?_|refine QC rfl ⟨fun h=>?_,fun h=>?_⟩|((conv=>whnf); first|refine anF ?_|refine anT ?_|refine anK ?_|refine And.intro (Int.natCast_nonneg j) (Exists.intro _ (And.intro (hx (by assumption)) ?_))|refine Exists.intro _ (And.intro (hc (by assumption)) ?_)|refine And.intro (fun h=>?_) (fun h=>?_)|refine Or.inl ?_)
   ·rw [aT (d:=kE) (hj2 (by assumption)),if_pos (by assumption)] at hi
    exact Ends.mk (Or.inl rfl) (ac (congrArg (AV.int .i64) hi))
   ·have hj2:=hj2 (by assumption)
    rw [aT (d:=kE) hj2,if_neg (fun h=>tf h (by assumption))] at hi
    refine Exists.intro (j+1) (And.intro ⟨hj2,hi⟩ (And.intro (by omega) (ah ?_ trivial)))
    refine And.intro (congrArg (fun z=>some (AV.int .i64 z)) ((ai (by omega) (by omega)).trans (by omega))) ?_
    repeat' (first | exact trivial | refine And.intro rfl ?_)
   ·have hj2:l.length≤j:=by have:=of_decide_eq_false (by assumption:decide ((j:Int)<((l.map aL).length:Int))=false); simp at this; omega
    rw [List.drop_of_length_le hj2] at hi
    exact Ends.mk (Or.inl rfl) (ac (congrArg (AV.int .i64) hi))
theorem pp (l:List am) (p:am→Bool) (g:FuncId) (fv:AV) (cap:List AV) (hf:fv = .clo g cap∨(fv = .fn g∧cap=[])) (hl:l.length≤1000000)
  (hp:∀ x∈l,ae Tryz.prog g ((.agg (aL x))::cap) (.bool (p x))):ae Tryz.prog 156 [.sl .no 6 (l.map aL),fv] (.bool (l.any p)):=by
 rcases hf with rfl | ⟨rfl,rfl⟩
 ·refine ag aa Tryz.func156 rfl (by kernel_rfl) af (Nat.le_of_ble_eq_true rfl) ?_
  intro F n' w0 m0 hG hro h1
  repeat' first|refine Q1 ?_|refine Q2 ?_|refine Q3 hG aa gZ ?_|refine Q4 hG aa gZ ?_|refine Q5 hG aa ?_|refine Q6 hG aa ?_|refine Q7 hG aa ?_|refine Q8 hG aa ?_|refine Q9 rfl ?_|refine QF rfl ?_|refine QC rfl ⟨fun h=>?_,fun h=>?_⟩|((conv=>whnf); first|refine anF ?_|refine anT ?_|refine anK ?_|refine Exists.intro _ (And.intro (kX l p g _ _ (Or.inl rfl) hl hp) ?_)|refine And.intro (fun h=>?_) (fun h=>?_)|refine Or.inl ?_)
  all_goals exact Ends.mk (Or.inl rfl) (ac (congrArg AV.bool (ea p l 0)))
 ·refine ag aa Tryz.func156 rfl (by kernel_rfl) af (Nat.le_of_ble_eq_true rfl) ?_
  intro F n' w0 m0 hG hro h1
  repeat' first|refine Q1 ?_|refine Q2 ?_|refine Q3 hG aa gZ ?_|refine Q4 hG aa gZ ?_|refine Q5 hG aa ?_|refine Q6 hG aa ?_|refine Q7 hG aa ?_|refine Q8 hG aa ?_|refine Q9 rfl ?_|refine QF rfl ?_|refine QC rfl ⟨fun h=>?_,fun h=>?_⟩|((conv=>whnf); first|refine anF ?_|refine anT ?_|refine anK ?_|refine Exists.intro _ (And.intro (kX l p g _ _ (Or.inr ⟨rfl,rfl⟩) hl hp) ?_)|refine And.intro (fun h=>?_) (fun h=>?_)|refine Or.inl ?_)
  all_goals exact Ends.mk (Or.inl rfl) (ac (congrArg AV.bool (ea p l 0)))
theorem lR (l:List Opt) (p:Opt→Bool) (g:FuncId) (fv:AV) (cap:List AV) (hf:fv = .clo g cap∨(fv = .fn g∧cap=[])) (hl:l.length≤1000000)
  (hp:∀ x∈l,ae Tryz.prog g ((.agg (aH x))::cap) (.bool (p x))):ae Tryz.prog 162 [.sl .no 9 (l.map aH),fv] (.int .i64 (bK p l 0)):=by
 rcases hf with rfl | ⟨rfl,rfl⟩
 ·refine ag aa Tryz.func162 rfl (by kernel_rfl) af (Nat.le_of_ble_eq_true rfl) ?_
  intro F n' w0 m0 hG hro h1
  repeat' first|refine Q1 ?_|refine Q2 ?_|refine Q3 hG aa dw ?_|refine Q4 hG aa dw ?_|refine Q5 hG aa ?_|refine Q6 hG aa ?_|refine Q7 hG aa ?_|refine Q8 hG aa ?_|refine Q9 rfl ?_|refine QF rfl ?_|refine QC rfl ⟨fun h=>?_,fun h=>?_⟩|((conv=>whnf); first|refine anF ?_|refine anT ?_|refine anK ?_|refine And.intro (fun h=>?_) (fun h=>?_)|refine Or.inl ?_)
  refine ap (X:=Nat) (fun j=>⟨[(8,.int .i64 j),(7,.int .i64 (l.map aH).length),(0,.sl .no 9 (l.map aH)),(1,.clo g cap)],[]⟩) (fun j=>j≤l.length∧bK p (l.drop j) j=bK p l 0) (fun j=>l.length - j) 0
   ⟨Nat.zero_le _,by simp⟩ (ah ?_ trivial) (fun j hj=>?_)
  ·repeat' (first | exact trivial | refine And.intro rfl ?_)
  ·obtain ⟨hj,hi⟩:=hj
   have hj2:decide ((j:Int)<((l.map aH).length:Int))=true→j<l.length:=fun h=>by have:=of_decide_eq_true h; simp at this; omega
   have hx:decide ((j:Int)<((l.map aH).length:Int))=true→(l.map aH)[(j:Int).toNat]?=some (aH (l.getD j ml)):=fun h=>by have:=hj2 h; simp [List.getElem?_eq_getElem this]
   have hc:decide ((j:Int)<((l.map aH).length:Int))=true→ae Tryz.prog g ((.agg (aH (l.getD j ml)))::cap) (.bool (p (l.getD j ml))):=fun h=>hp _ (by have:=hj2 h; rw [List.getD_eq_getElem?_getD,List.getElem?_eq_getElem this]; exact List.getElem_mem this)
   repeat' first|refine Q1 ?_|refine Q2 ?_|refine Q3 hG aa dw ?_|refine Q4 hG aa dw ?_|refine Q5 hG aa ?_|refine Q6 hG aa ?_|refine Q7 hG aa ?_|refine Q8 hG aa ?_|refine Q9 rfl ?_|refine QF rfl ?_|refine QC rfl ⟨fun h=>?_,fun h=>?_⟩|((conv=>whnf); first|refine anF ?_|refine anT ?_|refine anK ?_|refine And.intro (Int.natCast_nonneg j) (Exists.intro _ (And.intro (hx (by assumption)) ?_))|refine Exists.intro _ (And.intro (hc (by assumption)) ?_)|refine And.intro (fun h=>?_) (fun h=>?_)|refine Or.inl ?_)
   ·rw [aT (d:=ml) (hj2 (by assumption)),if_pos (by assumption)] at hi
    exact Ends.mk (Or.inl rfl) (ac (congrArg (AV.int .i64) hi))
   ·have hj2:=hj2 (by assumption)
    rw [aT (d:=ml) hj2,if_neg (fun h=>tf h (by assumption))] at hi
    refine Exists.intro (j+1) (And.intro ⟨hj2,hi⟩ (And.intro (by omega) (ah ?_ trivial)))
    refine And.intro (congrArg (fun z=>some (AV.int .i64 z)) ((ai (by omega) (by omega)).trans (by omega))) ?_
    repeat' (first | exact trivial | refine And.intro rfl ?_)
   ·have hj2:l.length≤j:=by have:=of_decide_eq_false (by assumption:decide ((j:Int)<((l.map aH).length:Int))=false); simp at this; omega
    rw [List.drop_of_length_le hj2] at hi
    exact Ends.mk (Or.inl rfl) (ac (congrArg (AV.int .i64) hi))
 ·refine ag aa Tryz.func162 rfl (by kernel_rfl) af (Nat.le_of_ble_eq_true rfl) ?_
  intro F n' w0 m0 hG hro h1
  repeat' first|refine Q1 ?_|refine Q2 ?_|refine Q3 hG aa dw ?_|refine Q4 hG aa dw ?_|refine Q5 hG aa ?_|refine Q6 hG aa ?_|refine Q7 hG aa ?_|refine Q8 hG aa ?_|refine Q9 rfl ?_|refine QF rfl ?_|refine QC rfl ⟨fun h=>?_,fun h=>?_⟩|((conv=>whnf); first|refine anF ?_|refine anT ?_|refine anK ?_|refine And.intro (fun h=>?_) (fun h=>?_)|refine Or.inl ?_)
  refine ap (X:=Nat) (fun j=>⟨[(8,.int .i64 j),(7,.int .i64 (l.map aH).length),(0,.sl .no 9 (l.map aH)),(1,.fn g)],[]⟩) (fun j=>j≤l.length∧bK p (l.drop j) j=bK p l 0) (fun j=>l.length - j) 0
   ⟨Nat.zero_le _,by simp⟩ (ah ?_ trivial) (fun j hj=>?_)
  ·repeat' (first | exact trivial | refine And.intro rfl ?_)
  ·obtain ⟨hj,hi⟩:=hj
   have hj2:decide ((j:Int)<((l.map aH).length:Int))=true→j<l.length:=fun h=>by have:=of_decide_eq_true h; simp at this; omega
   have hx:decide ((j:Int)<((l.map aH).length:Int))=true→(l.map aH)[(j:Int).toNat]?=some (aH (l.getD j ml)):=fun h=>by have:=hj2 h; simp [List.getElem?_eq_getElem this]
   have hc:decide ((j:Int)<((l.map aH).length:Int))=true→ae Tryz.prog g ((.agg (aH (l.getD j ml)))::[]) (.bool (p (l.getD j ml))):=fun h=>hp _ (by have:=hj2 h; rw [List.getD_eq_getElem?_getD,List.getElem?_eq_getElem this]; exact List.getElem_mem this)
   repeat' first|refine Q1 ?_|refine Q2 ?_|refine Q3 hG aa dw ?_|refine Q4 hG aa dw ?_|refine Q5 hG aa ?_|refine Q6 hG aa ?_|refine Q7 hG aa ?_|refine Q8 hG aa ?_|refine Q9 rfl ?_|refine QF rfl ?_|refine QC rfl ⟨fun h=>?_,fun h=>?_⟩|((conv=>whnf); first|refine anF ?_|refine anT ?_|refine anK ?_|refine And.intro (Int.natCast_nonneg j) (Exists.intro _ (And.intro (hx (by assumption)) ?_))|refine Exists.intro _ (And.intro (hc (by assumption)) ?_)|refine And.intro (fun h=>?_) (fun h=>?_)|refine Or.inl ?_)
   ·rw [aT (d:=ml) (hj2 (by assumption)),if_pos (by assumption)] at hi
    exact Ends.mk (Or.inl rfl) (ac (congrArg (AV.int .i64) hi))
   ·have hj2:=hj2 (by assumption)
    rw [aT (d:=ml) hj2,if_neg (fun h=>tf h (by assumption))] at hi
    refine Exists.intro (j+1) (And.intro ⟨hj2,hi⟩ (And.intro (by omega) (ah ?_ trivial)))
    refine And.intro (congrArg (fun z=>some (AV.int .i64 z)) ((ai (by omega) (by omega)).trans (by omega))) ?_
    repeat' (first | exact trivial | refine And.intro rfl ?_)
   ·have hj2:l.length≤j:=by have:=of_decide_eq_false (by assumption:decide ((j:Int)<((l.map aH).length:Int))=false); simp at this; omega
    rw [List.drop_of_length_le hj2] at hi
    exact Ends.mk (Or.inl rfl) (ac (congrArg (AV.int .i64) hi))
theorem jA (l:List Opt) (p:Opt→Bool) (g:FuncId) (fv:AV) (cap:List AV) (hf:fv = .clo g cap∨(fv = .fn g∧cap=[])) (hl:l.length≤1000000)
  (hp:∀ x∈l,ae Tryz.prog g ((.agg (aH x))::cap) (.bool (p x))):ae Tryz.prog 88 [.sl .no 9 (l.map aH),fv] (.bool (l.any p)):=by
 rcases hf with rfl | ⟨rfl,rfl⟩
 ·refine ag aa Tryz.func88 rfl (by kernel_rfl) af (Nat.le_of_ble_eq_true rfl) ?_
  intro F n' w0 m0 hG hro h1
  repeat' first|refine Q1 ?_|refine Q2 ?_|refine Q3 hG aa iW ?_|refine Q4 hG aa iW ?_|refine Q5 hG aa ?_|refine Q6 hG aa ?_|refine Q7 hG aa ?_|refine Q8 hG aa ?_|refine Q9 rfl ?_|refine QF rfl ?_|refine QC rfl ⟨fun h=>?_,fun h=>?_⟩|((conv=>whnf); first|refine anF ?_|refine anT ?_|refine anK ?_|refine Exists.intro _ (And.intro (lR l p g _ _ (Or.inl rfl) hl hp) ?_)|refine And.intro (fun h=>?_) (fun h=>?_)|refine Or.inl ?_)
  all_goals exact Ends.mk (Or.inl rfl) (ac (congrArg AV.bool (ea p l 0)))
 ·refine ag aa Tryz.func88 rfl (by kernel_rfl) af (Nat.le_of_ble_eq_true rfl) ?_
  intro F n' w0 m0 hG hro h1
  repeat' first|refine Q1 ?_|refine Q2 ?_|refine Q3 hG aa iW ?_|refine Q4 hG aa iW ?_|refine Q5 hG aa ?_|refine Q6 hG aa ?_|refine Q7 hG aa ?_|refine Q8 hG aa ?_|refine Q9 rfl ?_|refine QF rfl ?_|refine QC rfl ⟨fun h=>?_,fun h=>?_⟩|((conv=>whnf); first|refine anF ?_|refine anT ?_|refine anK ?_|refine Exists.intro _ (And.intro (lR l p g _ _ (Or.inr ⟨rfl,rfl⟩) hl hp) ?_)|refine And.intro (fun h=>?_) (fun h=>?_)|refine Or.inl ?_)
  all_goals exact Ends.mk (Or.inl rfl) (ac (congrArg AV.bool (ea p l 0)))
def CK (l:List am):Bool:=(List.range (l.length - 1)).all fun i => !decide (rj (aB l (i+1)) (aB l i)<0)
theorem dD {l:List am} {i:Nat} (h:i<l.length):(l.map aL)[i]?=some (aL (aB l i)):=by simp [aB,List.getElem?_eq_getElem h]
set_option maxHeartbeats 4000000 in
theorem tU (l:List am) (hl:l.length≤1000000):ae Tryz.prog 159 [al l,.fn 160] (.bool (CK l)):=by
 refine ag aa Tryz.func159 rfl (by kernel_rfl) af (Nat.le_of_ble_eq_true rfl) ?_
 intro F n' w0 m0 hG hro h1
 repeat' first|refine Q1 ?_|refine Q2 ?_|refine Q3 hG aa eR ?_|refine Q4 hG aa eR ?_|refine Q5 hG aa ?_|refine Q6 hG aa ?_|refine Q7 hG aa ?_|refine Q8 hG aa ?_|refine Q9 rfl ?_|refine QF rfl ?_|refine QC rfl ⟨fun h=>?_,fun h=>?_⟩|((conv=>whnf); first|refine anF ?_|refine anT ?_|refine anK ?_|refine And.intro (fun h=>?_) (fun h=>?_)|refine Or.inl ?_)
 refine ap (X:=Int) (fun i=>⟨[(5,.int .i64 i),(0,al l),(1,.fn 160)],[]⟩)
  (fun i => -1≤i∧i≤(l.length:Int) - 1∧∀ j:Nat,i≤(j:Int)→(j:Int)<(l.length:Int) - 1→decide (rj (aB l (j+1)) (aB l j)<0)=false) (fun i=>(i+1).toNat) (IntKind.i64.wrap (((l.map aL).length:Int) - 1)) ?_ (ah ?_ ?_) (fun i hi=>?_)
 ·rw [show IntKind.i64.wrap (((l.map aL).length:Int) - 1)=(l.length:Int) - 1 by rw [List.length_map]; exact ai (by omega) (by omega)]
  exact ⟨by omega,by omega,fun j h1 h2=>by omega⟩
 ·repeat' (first | exact trivial | refine And.intro rfl ?_)
 ·repeat' (first | exact trivial | refine And.intro rfl ?_)
 ·obtain ⟨h1,h2,h3⟩:=hi
  by_cases hp:i>0
  ·obtain ⟨j,rfl⟩:∃ j:Nat,i=((j+1:Nat):Int):=⟨(i - 1).toNat,by omega⟩
   have hw:IntKind.i64.wrap (((j+1:Nat):Int) - 1)=(j:Int):=(ai (by omega) (by omega)).trans (by omega)
   have hx:=dD (l:=l) (i:=j+1) (by omega)
   have hy:=dD (l:=l) (i:=j) (by omega)
   have hy':(l.map aL)[(IntKind.i64.wrap (((j+1:Nat):Int) - 1)).toNat]?=some (aL (aB l j)):=by rw [hw]; exact hy
   have h0:0≤IntKind.i64.wrap (((j+1:Nat):Int) - 1):=by rw [hw]; exact Int.natCast_nonneg j
   have bb:decide (((j+1:Nat):Int)>0)=false→False:=fun h=>by have:=of_decide_eq_false h; omega
   repeat' first|exact (bb (by assumption)).elim|refine Q1 ?_|refine Q2 ?_|refine Q3 hG aa eR ?_|refine Q4 hG aa eR ?_|refine Q5 hG aa ?_|refine Q6 hG aa ?_|refine Q7 hG aa ?_|refine Q8 hG aa ?_|refine Q9 rfl ?_|refine QF rfl ?_|refine QC rfl ⟨fun h=>?_,fun h=>?_⟩|((conv=>whnf); first|refine anF ?_|refine anT ?_|refine anK ?_|refine And.intro (Int.natCast_nonneg (j+1)) (Exists.intro _ (And.intro hx ?_))|refine And.intro h0 (Exists.intro _ (And.intro hy' ?_))|refine Exists.intro _ (And.intro (pW _ _) ?_)|refine And.intro (fun h=>?_) (fun h=>?_)|refine Or.inl ?_)
   ·refine Ends.mk (Or.inl rfl) (ac (congrArg AV.bool ?_))
    symm
    unfold CK
    rw [List.all_eq_false]
    exact ⟨j,List.mem_range.2 (by omega),by
     have hb:=(by assumption:decide (rj (aB l (j+1)) (aB l j)<0)=true)
     rw [hb]; simp⟩
   ·refine Exists.intro (IntKind.i64.wrap (((j+1:Nat):Int) - 1)) (And.intro ?_ (And.intro ?_ (ah ?_ ?_)))
    ·rw [hw]
     refine ⟨by omega,by omega,fun k g1 g2=>?_⟩
     by_cases hk:k=j
     ·rw [hk]; assumption
     ·exact h3 k (by omega) g2
    ·rw [hw]; omega
    ·repeat' (first | exact trivial | refine And.intro rfl ?_)
    ·repeat' (first | exact trivial | refine And.intro rfl ?_)
  ·have bb:decide (i>0)=true→False:=fun h=>hp (of_decide_eq_true h)
   repeat' first|exact (bb (by assumption)).elim|refine Q1 ?_|refine Q2 ?_|refine Q3 hG aa eR ?_|refine Q4 hG aa eR ?_|refine Q5 hG aa ?_|refine Q6 hG aa ?_|refine Q7 hG aa ?_|refine Q8 hG aa ?_|refine Q9 rfl ?_|refine QF rfl ?_|refine QC rfl ⟨fun h=>?_,fun h=>?_⟩|((conv=>whnf); first|refine anF ?_|refine anT ?_|refine anK ?_|refine And.intro (fun h=>?_) (fun h=>?_)|refine Or.inl ?_)
   refine Ends.mk (Or.inl rfl) (ac (congrArg AV.bool ?_))
   symm
   unfold CK
   rw [List.all_eq_true]
   intro j hj
   have:=List.mem_range.1 hj
   rw [h3 j (by omega) (by omega)]; rfl
def bz (l:List am):Bool:=decide (l.length≤64) && !(l.any fun p => !co p)&&CK l
theorem fi (l:List am) (hl:l.length≤1000000):ae Tryz.prog 85 [al l] (.bool (bz l)):=by
 have hlm:decide (((l.map aL).length:Int)≤64)=decide (l.length≤64):=by rw [List.length_map]; exact decide_eq_decide.2 (by omega)
 refine ag aa Tryz.func85 rfl (by kernel_rfl) af (Nat.le_of_ble_eq_true rfl) ?_
 intro F n' w0 m0 hG hro h1
 repeat' first|refine Q1 ?_|refine Q2 ?_|refine Q3 hG aa qL ?_|refine Q4 hG aa qL ?_|refine Q5 hG aa ?_|refine Q6 hG aa ?_|refine Q7 hG aa ?_|refine Q8 hG aa ?_|refine Q9 rfl ?_|refine QF rfl ?_|refine QC rfl ⟨fun h=>?_,fun h=>?_⟩|((conv=>whnf); first|refine anF ?_|refine anT ?_|refine anK ?_|refine Exists.intro _ (And.intro (pp l (fun p => !co p) 157 _ [] (Or.inr ⟨rfl,rfl⟩) hl (fun p _=>vY p)) ?_)|refine Exists.intro _ (And.intro (tU l hl) ?_)|refine And.intro (fun h=>?_) (fun h=>?_)|refine Or.inl ?_)
 all_goals refine Ends.mk (Or.inl rfl) (ac (congrArg AV.bool ?_))
 all_goals (unfold bz; rw [← hlm]; clear hlm; simp only [*,Bool.true_and,Bool.and_true,Bool.false_and,Bool.and_false])
end Go.Proofs
namespace Go.Proofs
open Go Go.AI
set_option maxRecDepth 10000
def gc (s:Nat→Int) (ps:List am) (size t:Int) (x:aV):Bool:=
 inS x.p 0 (w64 ((ps.length:Int) - 1))&&((((aB ps x.p.toNat).sat==s 0)&&decide (x.a≥max t (aB ps x.p.toNat).sa)&&decide (x.b≤(aB ps x.p.toNat).sb)&&decide (x.a<x.b)) &&
  !decide (w64 (w64 (x.b - x.a)*s 20)<size))
def bE (s:Nat→Int) (ps:List am) (size:Int):Int→List aV→Bool
 | _,[]=>true
 | t,x::r=>gc s ps size t x&&bE s ps size x.b r
def ng (s:Nat→Int) (o:Opt):Bool:=inS o.id 0 63&&inS o.ord 0 63&&inS o.cl 0 11&&(o.sat==s 0)&&inS o.size 1 (s 10)
def qd (s:Nat→Int) (o:Opt):Bool:=px (ew s) o.a o.b o.look&&inS o.look (w64 (0 - s 9)) (s 9)&&decide (o.b≤1000000)
def dG (s:Nat→Int) (o:Opt) (ps:List am):Bool:=ng s o&&qd s o&&inS (o.sl.length:Int) 1 6&&bE s ps o.size o.b o.sl
theorem mP {s:Nat→Int} {ps:List am} {z t:Int} {l:List aV} {i:Nat} (h:i<l.length):bE s ps z t (l.drop i)=(gc s ps z t (l.getD i ⟨0,0,0⟩)&&bE s ps z (l.getD i ⟨0,0,0⟩).b (l.drop (i+1))):=by
 rw [List.drop_eq_getElem_cons h,List.getD_eq_getElem?_getD,List.getElem?_eq_getElem h]; rfl
set_option maxHeartbeats 16000000 in
theorem Cs (s:Nat→Int) (o:Opt) (ps:List am) (hl:o.sl.length≤1000000) (hps:ps.length≤1000000):ae Tryz.prog 87 [.agg (aU s),.agg (aH o),al ps] (.bool (dG s o ps)):=by
 have hlm:((o.sl.map ay).length:Int)=(o.sl.length:Int):=by rw [List.length_map]
 have hpm:((ps.map aL).length:Int)=(ps.length:Int):=by rw [List.length_map]
 refine ag aa Tryz.func87 rfl (by kernel_rfl) af (Nat.le_of_ble_eq_true rfl) ?_
 intro F n' w0 m0 hG hro h1
 refine Q1 ?_
 refine Q4 hG aa bA ?_
 conv=>whnf
 refine Q1 ?_
 refine SPB.cut (X:=Unit) (fun _=>⟨[(7,.bool (ng s o)),(6,.bool false),(4,.loc 4 0),(3,.loc 3 0),(2,al ps)],[(4,aH o),(3,aU s)]⟩) (fun _=>True) ?_ (fun _ _=>?_)
 ·refine Q4 hG aa bA ?_
  repeat' first|refine Q1 ?_|refine Q2 ?_|refine Q3 hG aa bA ?_|refine Q4 hG aa bA ?_|refine Q5 hG aa ?_|refine Q6 hG aa ?_|refine Q7 hG aa ?_|refine Q8 hG aa ?_|refine Q9 rfl ?_|refine QF rfl ?_|refine QC rfl ⟨fun h=>?_,fun h=>?_⟩|((conv=>whnf); first|refine anF ?_|refine anT ?_|refine anK ?_|refine Exists.intro _ (And.intro (jz _ _ _) ?_)|refine And.intro (fun h=>?_) (fun h=>?_)|refine Or.inl ?_)
  all_goals refine Exists.intro () (And.intro trivial (ah (And.intro (congrArg (fun z=>some (AV.bool z)) ?_) ?_) ?_))
  all_goals first
   |(simp only [ng, *,Bool.true_and,Bool.and_true,Bool.false_and,Bool.and_false,Bool.true_or,Bool.or_true,Bool.false_or,Bool.or_false,Bool.not_true,Bool.not_false]; done)
   |(repeat' (first | exact trivial | refine And.intro rfl ?_))
 conv=>whnf
 refine Q1 ?_
 refine SPB.cut (X:=Unit) (fun _=>⟨[(8,.bool (qd s o)),(7,.bool (ng s o)),(6,.bool false),(4,.loc 4 0),(3,.loc 3 0),(2,al ps)],[(4,aH o),(3,aU s)]⟩) (fun _=>True) ?_ (fun _ _=>?_)
 ·refine Q4 hG aa bA ?_
  repeat' first|refine Q1 ?_|refine Q2 ?_|refine Q3 hG aa bA ?_|refine Q4 hG aa bA ?_|refine Q5 hG aa ?_|refine Q6 hG aa ?_|refine Q7 hG aa ?_|refine Q8 hG aa ?_|refine Q9 rfl ?_|refine QF rfl ?_|refine QC rfl ⟨fun h=>?_,fun h=>?_⟩|((conv=>whnf); first|refine anF ?_|refine anT ?_|refine anK ?_|refine Exists.intro _ (And.intro (jz _ _ _) ?_)|refine Exists.intro _ (And.intro (BU (ew s) _ _ _) ?_)|refine And.intro (fun h=>?_) (fun h=>?_)|refine Or.inl ?_)
  all_goals refine Exists.intro () (And.intro trivial (ah (And.intro (congrArg (fun z=>some (AV.bool z)) ?_) ?_) ?_))
  all_goals first
   |(simp only [qd,w64, *,Bool.true_and,Bool.and_true,Bool.false_and,Bool.and_false,Bool.true_or,Bool.or_true,Bool.false_or,Bool.or_false,Bool.not_true,Bool.not_false]; done)
   |(repeat' (first | exact trivial | refine And.intro rfl ?_))
 conv=>whnf
 repeat' first|refine Q1 ?_|refine Q2 ?_|refine Q3 hG aa bA ?_|refine Q4 hG aa bA ?_|refine Q5 hG aa ?_|refine Q6 hG aa ?_|refine Q7 hG aa ?_|refine Q8 hG aa ?_|refine Q9 rfl ?_|refine QF rfl ?_|refine QC rfl ⟨fun h=>?_,fun h=>?_⟩|((conv=>whnf); first|refine anF ?_|refine anT ?_|refine anK ?_|refine Exists.intro _ (And.intro (jz _ _ _) ?_)|refine And.intro (fun h=>?_) (fun h=>?_)|refine Or.inl ?_)
 ·refine Ends.mk (Or.inl rfl) (ac (congrArg AV.bool ?_))
  simp only [dG,Be (by assumption:(!ng s o)=true),Bool.false_and]
 ·refine Ends.mk (Or.inl rfl) (ac (congrArg AV.bool ?_))
  simp only [dG,Be (by assumption:(!qd s o)=true),Bool.false_and,Bool.and_false]
 ·refine Ends.mk (Or.inl rfl) (ac (congrArg AV.bool ?_))
  have h:=Be (by assumption:(!inS (((o.sl.map ay).length:Nat):Int) 1 6)=true)
  rw [hlm] at h
  simp only [dG,h,Bool.false_and,Bool.and_false]
 ·have q1:=mm (by assumption:(!ng s o)=false)
  have q2:=mm (by assumption:(!qd s o)=false)
  have q3:=mm (by assumption:(!inS (((o.sl.map ay).length:Nat):Int) 1 6)=false)
  rw [hlm] at q3
  have hfit:dG s o ps=bE s ps o.size o.b o.sl:=by simp only [dG,q1,q2,q3,Bool.true_and]
  rw [hfit]
  refine ap (X:=Nat×Int) (fun q=>⟨[(83,.int .i64 q.1),(82,.int .i64 (o.sl.map ay).length),(81,.sl .no 3 (o.sl.map ay)),(9,.int .i64 q.2),(6,.bool false),(4,.loc 4 0),(3,.loc 3 0),(2,al ps)],[(4,aH o),(3,aU s)]⟩)
   (fun q=>q.1≤o.sl.length∧bE s ps o.size q.2 (o.sl.drop q.1)=bE s ps o.size o.b o.sl) (fun q=>o.sl.length - q.1) (0,o.b) ⟨Nat.zero_le _,rfl⟩ (ah ?_ ?_) (fun q hq=>?_)
  ·repeat' (first | exact trivial | refine And.intro rfl ?_)
  ·repeat' (first | exact trivial | refine And.intro rfl ?_)
  ·obtain ⟨i,t⟩:=q
   obtain ⟨hi,hf⟩:=hq
   have hi:i≤o.sl.length:=hi
   have hf:bE s ps o.size t (o.sl.drop i)=bE s ps o.size o.b o.sl:=hf
   by_cases hlt:i<o.sl.length
   ·have bbk:decide ((i:Int)<((o.sl.map ay).length:Int))=false→False:=fun h=>by have:=of_decide_eq_false h; omega
    have hx:=dc hlt
    rw [mP hlt] at hf
    generalize o.sl.getD i ⟨0,0,0⟩=x at hx hf
    have bad:gc s ps o.size t x=false→false=bE s ps o.size o.b o.sl:=fun h=>by rw [← hf,h,Bool.false_and]
    have hin:(!inS x.p 0 (IntKind.i64.wrap (((ps.map aL).length:Int) - 1)))=false→0≤x.p∧(ps.map aL)[x.p.toNat]?=some (aL (aB ps x.p.toNat)):=fun h=>by
     have h:=mm h
     rw [hpm,show IntKind.i64.wrap ((ps.length:Int) - 1)=(ps.length:Int) - 1 from ai (by omega) (by omega)] at h
     simp only [inS,Bool.and_eq_true,decide_eq_true_eq] at h
     exact ⟨h.1,dD (by omega)⟩
    have hpm':w64 ((ps.length:Int) - 1)=IntKind.i64.wrap (((ps.map aL).length:Int) - 1):=by rw [hpm]; rfl
    repeat' first|exact (bbk (by assumption)).elim|refine Q1 ?_|refine Q2 ?_|refine Q3 hG aa bA ?_|refine Q4 hG aa bA ?_|refine Q5 hG aa ?_|refine Q6 hG aa ?_|refine Q7 hG aa ?_|refine Q8 hG aa ?_|refine Q9 rfl ?_|refine QF rfl ?_|refine QC rfl ⟨fun h=>?_,fun h=>?_⟩|((conv=>whnf); first|refine anF ?_|refine anT ?_|refine anK ?_|refine And.intro (Int.natCast_nonneg i) (Exists.intro _ (And.intro hx ?_))|refine Exists.intro _ (And.intro (jz _ _ _) ?_)|refine And.intro (hin (by assumption)).1 (Exists.intro _ (And.intro (hin (by assumption)).2 ?_))|refine And.intro (fun h=>?_) (fun h=>?_)|refine Or.inl ?_)
    rotate_left 3
    ·have hok:gc s ps o.size t x=true:=by
      (try simp only [Bool.not_eq_true',Bool.not_eq_false',cond_true] at *)
      unfold gc w64
      unfold w64 at hpm'
      rw [hpm']
      simp only [*,Bool.true_and,Bool.and_true,Bool.false_and,Bool.and_false,Bool.true_or,Bool.or_true,Bool.false_or,Bool.or_false,Bool.not_true,Bool.not_false]
     refine Exists.intro (i+1,x.b) (And.intro ⟨hlt,?_⟩ (And.intro (by show o.sl.length - (i+1)<o.sl.length - i; omega) (ah ?_ ?_)))
     ·show bE s ps o.size x.b (o.sl.drop (i+1))=_
      rw [← hf,hok,Bool.true_and]
     ·refine And.intro (congrArg some (ao (by omega))) ?_
      repeat' (first | exact trivial | refine And.intro rfl ?_)
     ·repeat' (first | exact trivial | refine And.intro rfl ?_)
    all_goals refine Ends.mk (Or.inl rfl) (ac (congrArg AV.bool (bad ?_)))
    all_goals (try simp only [Bool.not_eq_true',Bool.not_eq_false',cond_true] at *)
    all_goals (unfold gc w64; unfold w64 at hpm'; rw [hpm']; simp only [*,Bool.true_and,Bool.and_true,Bool.false_and,Bool.and_false,Bool.true_or,Bool.or_true,Bool.false_or,Bool.or_false,Bool.not_true,Bool.not_false])
   ·have hge:i=o.sl.length:=by omega
    have bbk:decide ((i:Int)<((o.sl.map ay).length:Int))=true→False:=fun h=>by have:=of_decide_eq_true h; omega
    rw [List.drop_of_length_le (by omega)] at hf
    repeat' first|exact (bbk (by assumption)).elim|refine Q1 ?_|refine Q2 ?_|refine Q3 hG aa bA ?_|refine Q4 hG aa bA ?_|refine Q5 hG aa ?_|refine Q6 hG aa ?_|refine Q7 hG aa ?_|refine Q8 hG aa ?_|refine Q9 rfl ?_|refine QF rfl ?_|refine QC rfl ⟨fun h=>?_,fun h=>?_⟩|((conv=>whnf); first|refine anF ?_|refine anT ?_|refine anK ?_|refine And.intro (fun h=>?_) (fun h=>?_)|refine Or.inl ?_)
    exact Ends.mk (Or.inl rfl) (ac (congrArg AV.bool hf))
def jr (s:Nat→Int) (ps:List am) (a b:Int) (pre:List Opt) (o:Opt):Bool:=dG s o ps && !decide (o.a<a) && !decide (fE o>b) && !(pre.any fun p=>p.id==o.id)
def dM (s:Nat→Int) (ps:List am) (a b:Int):List Opt→List Opt→Bool
 | _,[]=>true
 | pre,o::r=>jr s ps a b pre o&&dM s ps a b (pre++[o]) r
theorem qj {s:Nat→Int} {ps:List am} {a b:Int} {l:List Opt} {i:Nat} (h:i<l.length):dM s ps a b (l.take i) (l.drop i)=(jr s ps a b (l.take i) (aG l i)&&dM s ps a b (l.take (i+1)) (l.drop (i+1))):=by
 rw [List.drop_eq_getElem_cons h,dM,cK h,List.take_add_one,List.getElem?_eq_getElem h]; rfl
def aY (s:Nat→Int) (l:List Opt) (ps:List am) (a b:Int):Bool:=decide (l.length≤8)&&bt a b && !decide (w64 (b - a)>3000)&&gq s&&bz ps&&dM s ps a b [] l
theorem BX (o p:Opt):ae Tryz.prog 86 [.agg (aH p),.ref (aH o)] (.bool (p.id==o.id)):=by
 refine ag aa Tryz.func86 rfl (by kernel_rfl) af (Nat.le_of_ble_eq_true rfl) ?_
 intro F n' w0 m0 hG hro h1
 repeat' first|refine Q1 ?_|refine Q2 ?_|refine Q3 hG aa qK ?_|refine Q4 hG aa qK ?_|refine Q5 hG aa ?_|refine Q6 hG aa ?_|refine Q7 hG aa ?_|refine Q8 hG aa ?_|refine Q9 rfl ?_|refine QF rfl ?_|refine QC rfl ⟨fun h=>?_,fun h=>?_⟩|((conv=>whnf); first|refine anF ?_|refine anT ?_|refine anK ?_|refine And.intro (fun h=>?_) (fun h=>?_)|refine Or.inl ?_)
 all_goals exact Ends.mk (Or.inl rfl) (ac rfl)
theorem gB {l:List Opt} {i:Nat} (h:i<l.length):(l.map aH)[(i:Int).toNat]?=some (aH (aG l i)):=by simp [aG,List.getElem?_eq_getElem h]
theorem sM {s:Nat→Int} {o:Opt} {ps:List am} (h:dG s o ps=true):1≤o.sl.length∧o.sl.length≤6:=by
 simp only [dG,inS,Bool.and_eq_true,decide_eq_true_eq] at h
 omega
end Go.Proofs
namespace Go.Proofs
open Go Go.AI
set_option maxRecDepth 10000
def dQ (l:List Opt):Prop:=∀ o∈l,o.sl.length≤1000000
set_option maxHeartbeats 16000000 in
theorem zw (s:Nat→Int) (l:List Opt) (ps:List am) (a b:Int) (hl:l.length≤1000000) (hs:dQ l) (hps:ps.length≤1000000):ae Tryz.prog 23 [.agg (aU s),aK l,al ps,.agg (aD a b)] (.bool (aY s l ps a b)):=by
 have hlm:((l.map aH).length:Int)=(l.length:Int):=by rw [List.length_map]
 have hn8:decide (l.length≤8) = !decide (((l.map aH).length:Int)>8):=by rw [hlm]; by_cases h:l.length≤8 <;> simp [h] <;> omega
 refine ag aa Tryz.func23 rfl (by kernel_rfl) af (Nat.le_of_ble_eq_true rfl) ?_
 intro F n' w0 m0 hG hro h1
 repeat' first|refine Q1 ?_|refine Q2 ?_|refine Q3 hG aa fM ?_|refine Q4 hG aa fM ?_|refine Q5 hG aa ?_|refine Q6 hG aa ?_|refine Q7 hG aa ?_|refine Q8 hG aa ?_|refine Q9 rfl ?_|refine QF rfl ?_|refine QC rfl ⟨fun h=>?_,fun h=>?_⟩|((conv=>whnf); first|refine anF ?_|refine anT ?_|refine anK ?_|refine Exists.intro _ (And.intro (s6 _ _) ?_)|refine Exists.intro _ (And.intro (yt s) ?_)|refine Exists.intro _ (And.intro (fi ps hps) ?_)|refine And.intro (fun h=>?_) (fun h=>?_)|refine Or.inl ?_)
 rotate_left 5
 ·have c1:l.length≤8:=by
   have h:=(by assumption:decide (((l.map aH).length:Int)>8)=false)
   have h2:=hn8; rw [h] at h2; simpa using h2
  have hv:aY s l ps a b=dM s ps a b [] l:=by
   have c2:=mm (by assumption:(!bt a b)=false)
   have c3:=mm (by assumption:(!gq s)=false)
   have c4:=mm (by assumption:(!bz ps)=false)
   have c5:decide (w64 (b - a)>3000)=false:=(by assumption:decide (IntKind.i64.wrap (b - a)>3000)=false)
   simp only [aY,decide_eq_true c1,c2,c3,c4,c5,Bool.true_and,Bool.not_false,Bool.and_true]
  rw [hv]
  refine ap (X:=Nat) (fun i=>⟨[(40,.int .i64 i),(39,.int .i64 (l.map aH).length),(38,aK l),(8,.bool false),(7,.loc 7 0),(4,.loc 4 0),(2,al ps),(1,aK l)],[(7,aD a b),(4,aU s)]⟩)
   (fun i=>i≤l.length∧dM s ps a b (l.take i) (l.drop i)=dM s ps a b [] l) (fun i=>l.length - i) 0 ⟨Nat.zero_le _,rfl⟩ (ah ?_ ?_) (fun i hi=>?_)
  ·repeat' (first | exact trivial | refine And.intro rfl ?_)
  ·repeat' (first | exact trivial | refine And.intro rfl ?_)
  ·obtain ⟨hi,hok⟩:=hi
   by_cases hlt:i<l.length
   ·have bbk:decide ((i:Int)<((l.map aH).length:Int))=false→False:=fun h=>by have:=of_decide_eq_false h; omega
    have hx:=gB hlt
    rw [qj hlt] at hok
    have hsx:(aG l i).sl.length≤1000000:=hs _ (by rw [cK hlt]; exact List.getElem_mem hlt)
    generalize aG l i=x at hx hok hsx
    have hle:(i:Int).toNat≤(l.map aH).length:=by simp; exact hi
    have he:((l.map aH).take (i:Int).toNat).drop 0=(l.take i).map aH:=by simp [List.map_take]
    have h88:=jA (l.take i) (fun p=>p.id==x.id) 86 _ [.ref (aH x)] (Or.inl rfl) (by simp; omega) (fun y _=>BX x y)
    rw [← he] at h88
    have hlast:(!dG s x ps)=false→0≤IntKind.i64.wrap (((x.sl.map ay).length:Int) - 1)∧(x.sl.map ay)[(IntKind.i64.wrap (((x.sl.map ay).length:Int) - 1)).toNat]?=some [.int .i64 (er x (x.sl.length - 1)).p,.int .i64 (er x (x.sl.length - 1)).a,.int .i64 (fE x)]:=fun h=>by
     have hn:=sM (mm h)
     rw [List.length_map,show IntKind.i64.wrap ((x.sl.length:Int) - 1)=((x.sl.length - 1:Nat):Int) from (ai (by omega) (by omega)).trans (by omega)]
     exact ⟨Int.natCast_nonneg _,dc (by omega)⟩
    repeat' first|exact (bbk (by assumption)).elim|refine Q1 ?_|refine Q2 ?_|refine Q3 hG aa fM ?_|refine Q4 hG aa fM ?_|refine Q5 hG aa ?_|refine Q6 hG aa ?_|refine Q7 hG aa ?_|refine Q8 hG aa ?_|refine Q9 rfl ?_|refine QF rfl ?_|refine QC rfl ⟨fun h=>?_,fun h=>?_⟩|((conv=>whnf); first|refine anF ?_|refine anT ?_|refine anK ?_|refine And.intro (Int.natCast_nonneg i) (Exists.intro _ (And.intro hx ?_))|refine Exists.intro _ (And.intro (Cs s _ ps hsx hps) ?_)|refine Exists.intro _ (And.intro (h88) ?_)|refine And.intro (hlast (by assumption)).1 (Exists.intro _ (And.intro (hlast (by assumption)).2 ?_))|refine And.intro (Int.natCast_nonneg i) (And.intro (Nat.zero_le _) (And.intro hle ?_))|refine And.intro (fun h=>?_) (fun h=>?_)|refine Or.inl ?_)
    all_goals first
     |(refine Ends.mk (Or.inl rfl) (ac (congrArg AV.bool ?_))
       have hb:jr s ps a b (l.take i) x=false:=by
        (try simp only [Bool.not_eq_true',Bool.not_eq_false'] at *)
        unfold jr
        simp only [*,Bool.true_and,Bool.and_true,Bool.false_and,Bool.and_false,Bool.true_or,Bool.or_true,Bool.false_or,Bool.or_false,Bool.not_true,Bool.not_false]
       rw [← hok,hb,Bool.false_and])
     | skip
    have hb:jr s ps a b (l.take i) x=true:=by
     (try simp only [Bool.not_eq_true',Bool.not_eq_false'] at *)
     unfold jr
     simp only [*,Bool.true_and,Bool.and_true,Bool.false_and,Bool.and_false,Bool.true_or,Bool.or_true,Bool.false_or,Bool.or_false,Bool.not_true,Bool.not_false]
    rw [hb,Bool.true_and] at hok
    refine Exists.intro (i+1) (And.intro ⟨hlt,hok⟩ (And.intro (by omega) (ah ?_ ?_)))
    ·refine And.intro (congrArg some (ao (by omega))) ?_
     repeat' (first | exact trivial | refine And.intro rfl ?_)
    ·repeat' (first | exact trivial | refine And.intro rfl ?_)
   ·have bbk:decide ((i:Int)<((l.map aH).length:Int))=true→False:=fun h=>by have:=of_decide_eq_true h; omega
    rw [List.drop_of_length_le (by omega)] at hok
    repeat' first|exact (bbk (by assumption)).elim|refine Q1 ?_|refine Q2 ?_|refine Q3 hG aa fM ?_|refine Q4 hG aa fM ?_|refine Q5 hG aa ?_|refine Q6 hG aa ?_|refine Q7 hG aa ?_|refine Q8 hG aa ?_|refine Q9 rfl ?_|refine QF rfl ?_|refine QC rfl ⟨fun h=>?_,fun h=>?_⟩|((conv=>whnf); first|refine anF ?_|refine anT ?_|refine anK ?_|refine And.intro (fun h=>?_) (fun h=>?_)|refine Or.inl ?_)
    exact Ends.mk (Or.inl rfl) (ac (congrArg AV.bool hok))
 all_goals refine Ends.mk (Or.inl rfl) (ac (congrArg AV.bool ?_))
 all_goals ((try simp only [Bool.not_eq_true',Bool.not_eq_false'] at *); unfold aY w64; rw [hn8]; clear hlm; simp only [*,Bool.true_and,Bool.and_true,Bool.false_and,Bool.and_false,Bool.true_or,Bool.or_true,Bool.false_or,Bool.or_false,Bool.not_true,Bool.not_false])
end Go.Proofs
namespace Go.Proofs
open Go Go.AI
set_option maxRecDepth 10000
theorem BY (l:List Opt):ae Tryz.prog 92 [aK l] (.clo 166 [.ref [aK l]]):=by
 refine ag aa Tryz.func92 rfl (by kernel_rfl) af (Nat.le_of_ble_eq_true rfl) ?_
 intro F n' w0 m0 hG hro h1
 repeat' first|refine Q1 ?_|refine Q2 ?_|refine Q3 hG aa qH ?_|refine Q4 hG aa qH ?_|refine Q5 hG aa ?_|refine Q6 hG aa ?_|refine Q7 hG aa ?_|refine Q8 hG aa ?_|refine Q9 rfl ?_|refine QF rfl ?_|refine QC rfl ⟨fun h=>?_,fun h=>?_⟩|((conv=>whnf); first|refine anF ?_|refine anT ?_|refine anK ?_|refine And.intro (fun h=>?_) (fun h=>?_)|refine Or.inl ?_)
 all_goals exact Ends.mk (Or.inl rfl) (ac rfl)
def spA (x:Int×Int):List AV:=[.agg (aD x.1 x.2)]
theorem ud {l:List Opt} {i:Nat} (h:i<l.length):bD (l.take (i+1))=bD (l.take i)++slP (aG l i):=by
 rw [List.take_add_one,List.getElem?_eq_getElem h,cK h]
 simp only [bD,List.flatMap_append,Option.toList_some,List.flatMap_cons,List.flatMap_nil,List.append_nil,slP]
theorem CT {l:List Opt} {i j:Nat} (h:i<l.length) (hj:j<(aG l i).sl.length):(bD l)[(bD (l.take i)).length+j]?=some ((er (aG l i) j).a,(er (aG l i) j).b):=by
 have e:bD l=bD (l.take (i+1))++bD (l.drop (i+1)):=by
  conv=>lhs; rw [← List.take_append_drop (i+1) l]
  simp only [bD,List.flatMap_append]
 have h1:j<(slP (aG l i)).length:=by simpa [slP] using hj
 rw [e,ud h,List.append_assoc,List.getElem?_append_right (by omega),Nat.add_sub_cancel_left,List.getElem?_append_left h1]
 simp [slP,er,List.getElem?_eq_getElem hj]
set_option maxHeartbeats 8000000 in
theorem vT (l:List Opt) (hl:l.length≤1000000) (hs:dQ l):lS Tryz.prog spA 166 [.ref [aK l]] (bD l):=by
 refine lS.of Tryz.func166 rfl (by kernel_rfl) af (Nat.le_of_ble_eq_true rfl) rfl ?_
 intro F n m y J Jx hY
 repeat' first|refine MPB.seq ?_|refine MPB.block ?_|refine MPB.reg hY aa d6 (by kernel_rfl) ?_|refine MPB.skip ?_|refine MPB.label ?_|refine MPB.ret ?_|refine MPB.exit ?_|refine MPB.condT rfl ?_|refine MPB.condF rfl ?_|refine MPB.cond rfl (And.intro (fun h=>?_) (fun h=>?_))|((conv=>whnf); first|refine anF ?_|refine anT ?_|refine anK ?_|refine And.intro (fun h=>?_) (fun h=>?_)|refine Or.inl ?_)
 refine MPB.loop (X:=Nat) (fun i=>((false,(bD (l.take i)).length),⟨[(9,.int .i64 i),(8,.int .i64 (l.map aH).length),(7,aK l),(0,.lit (.func (.yield y) #[] #[]))],[]⟩)) (fun i=>i≤l.length) (fun i=>l.length - i) 0 (Nat.zero_le _) rfl (ah ?_ ?_) (fun i hi=>?_)
 ·repeat' (first | exact trivial | refine And.intro rfl ?_)
 ·repeat' (first | exact trivial | refine And.intro rfl ?_)
 ·by_cases hlt:i<l.length
  ·have bbk:decide ((i:Int)<((l.map aH).length:Int))=false→False:=fun h=>by have:=of_decide_eq_false h; simp at this; omega
   have hx:=gB hlt
   have hsx:(aG l i).sl.length≤1000000:=hs _ (by rw [cK hlt]; exact List.getElem_mem hlt)
   have hget:=fun (j:Nat) (hj:j<(aG l i).sl.length)=>CT hlt hj
   have htk:(bD (l.take (i+1))).length=(bD (l.take i)).length+(aG l i).sl.length:=by rw [ud hlt]; simp [slP]
   generalize aG l i=x at hx hsx hget htk
   have hlm:((x.sl.map ay).length:Int)=(x.sl.length:Int):=by rw [List.length_map]
   repeat' first|exact (bbk (by assumption)).elim|refine MPB.seq ?_|refine MPB.block ?_|refine MPB.reg hY aa d6 (by kernel_rfl) ?_|refine MPB.skip ?_|refine MPB.label ?_|refine MPB.ret ?_|refine MPB.exit ?_|refine MPB.condT rfl ?_|refine MPB.condF rfl ?_|refine MPB.cond rfl (And.intro (fun h=>?_) (fun h=>?_))|((conv=>whnf); first|refine anF ?_|refine anT ?_|refine anK ?_|refine And.intro (Int.natCast_nonneg i) (Exists.intro _ (And.intro hx ?_))|refine And.intro (fun h=>?_) (fun h=>?_)|refine Or.inl ?_)
   refine MPB.loop (X:=Nat) (fun j=>((false,(bD (l.take i)).length+j),⟨[(16,.int .i64 j),(15,.int .i64 (x.sl.map ay).length),(14,.sl .no 3 (x.sl.map ay)),(9,.int .i64 i),(8,.int .i64 (l.map aH).length),(7,aK l),(0,.lit (.func (.yield y) #[] #[]))],[]⟩)) (fun j=>j≤x.sl.length) (fun j=>x.sl.length - j) 0 (Nat.zero_le _) rfl (ah ?_ ?_) (fun j hj=>?_)
   ·repeat' (first | exact trivial | refine And.intro rfl ?_)
   ·repeat' (first | exact trivial | refine And.intro rfl ?_)
   ·by_cases hjl:j<x.sl.length
    ·have bbj:decide ((j:Int)<((x.sl.map ay).length:Int))=false→False:=fun h=>by have:=of_decide_eq_false h; omega
     have hy:=dc hjl
     have hg:=hget j hjl
     have hsl:x.sl.getD j ⟨0,0,0⟩=er x j:=rfl
     rw [hsl] at hy
     generalize er x j=z at hy hg
     repeat' first|exact (bbj (by assumption)).elim|refine MPB.seq ?_|refine MPB.block ?_|refine MPB.reg hY aa d6 (by kernel_rfl) ?_|refine MPB.skip ?_|refine MPB.label ?_|refine MPB.ret ?_|refine MPB.exit ?_|refine MPB.condT rfl ?_|refine MPB.condF rfl ?_|refine MPB.cond rfl (And.intro (fun h=>?_) (fun h=>?_))|((conv=>whnf); first|refine anF ?_|refine anT ?_|refine anK ?_|refine And.intro (Int.natCast_nonneg j) (Exists.intro _ (And.intro hy ?_))|refine And.intro (fun h=>?_) (fun h=>?_)|refine Or.inl ?_)
     refine Exists.intro (z.a,z.b) (And.intro hg (And.intro rfl (fun t ht=>?_)))
     subst ht
     refine And.intro ?_ ?_
     ·repeat' first|refine MPB.seq ?_|refine MPB.block ?_|refine MPB.reg hY aa d6 (by kernel_rfl) ?_|refine MPB.skip ?_|refine MPB.label ?_|refine MPB.ret ?_|refine MPB.exit ?_|refine MPB.condT rfl ?_|refine MPB.condF rfl ?_|refine MPB.cond rfl (And.intro (fun h=>?_) (fun h=>?_))|((conv=>whnf); first|refine anF ?_|refine anT ?_|refine anK ?_|refine And.intro (fun h=>?_) (fun h=>?_)|refine Or.inl ?_)
      refine Exists.intro (j+1) (And.intro hjl (And.intro (by omega) (And.intro rfl (ah ?_ ?_))))
      ·refine And.intro (congrArg some (ao (by omega))) ?_
       repeat' (first | exact trivial | refine And.intro rfl ?_)
      ·repeat' (first | exact trivial | refine And.intro rfl ?_)
     ·repeat' first|refine MPB.seq ?_|refine MPB.block ?_|refine MPB.reg hY aa d6 (by kernel_rfl) ?_|refine MPB.skip ?_|refine MPB.label ?_|refine MPB.ret ?_|refine MPB.exit ?_|refine MPB.condT rfl ?_|refine MPB.condF rfl ?_|refine MPB.cond rfl (And.intro (fun h=>?_) (fun h=>?_))|((conv=>whnf); first|refine anF ?_|refine anT ?_|refine anK ?_|refine And.intro (fun h=>?_) (fun h=>?_)|refine Or.inl ?_)
      exact iJ.mk (Or.inl rfl) (Or.inr rfl)
    ·have hge:j=x.sl.length:=by omega
     have bbj:decide ((j:Int)<((x.sl.map ay).length:Int))=true→False:=fun h=>by have:=of_decide_eq_true h; omega
     repeat' first|exact (bbj (by assumption)).elim|refine MPB.seq ?_|refine MPB.block ?_|refine MPB.reg hY aa d6 (by kernel_rfl) ?_|refine MPB.skip ?_|refine MPB.label ?_|refine MPB.ret ?_|refine MPB.exit ?_|refine MPB.condT rfl ?_|refine MPB.condF rfl ?_|refine MPB.cond rfl (And.intro (fun h=>?_) (fun h=>?_))|((conv=>whnf); first|refine anF ?_|refine anT ?_|refine anK ?_|refine And.intro (fun h=>?_) (fun h=>?_)|refine Or.inl ?_)
     refine Exists.intro (i+1) (And.intro hlt (And.intro (by omega) (And.intro (congrArg (Prod.mk false) (by rw [htk,hge])) (ah ?_ ?_))))
     ·refine And.intro (congrArg some (ao (by omega))) ?_
      repeat' (first | exact trivial | refine And.intro rfl ?_)
     ·repeat' (first | exact trivial | refine And.intro rfl ?_)
  ·have bbk:decide ((i:Int)<((l.map aH).length:Int))=true→False:=fun h=>by have:=of_decide_eq_true h; simp at this; omega
   have he:l.take i=l:=List.take_of_length_le (by omega)
   repeat' first|exact (bbk (by assumption)).elim|refine MPB.seq ?_|refine MPB.block ?_|refine MPB.reg hY aa d6 (by kernel_rfl) ?_|refine MPB.skip ?_|refine MPB.label ?_|refine MPB.ret ?_|refine MPB.exit ?_|refine MPB.condT rfl ?_|refine MPB.condF rfl ?_|refine MPB.cond rfl (And.intro (fun h=>?_) (fun h=>?_))|((conv=>whnf); first|refine anF ?_|refine anT ?_|refine anK ?_|refine And.intro (fun h=>?_) (fun h=>?_)|refine Or.inl ?_)
   exact iJ.mk (Or.inr rfl) (Or.inl (congrArg (Prod.mk false) (by rw [he])))
end Go.Proofs
namespace Go.Proofs
open Go Go.Shelf
def td:Go.Shelf.Ren:=⟨fun | 6=>168 | 15=>190 | 14=>230 | 28=>250 | 29=>251 | 20=>272 | 21=>273 | 22=>274 | 23=>275 | 24=>276 | 25=>277 | 26=>278 | 27=>279 | 46=>306 | 47=>292 | 48=>293 | 49=>307 | 50=>308 | 57=>322 | n=>n,fun | 22=>57 | 24=>74 | 25=>155 | 3=>3 | 39=>254 | 0=>0 | 53=>299 | 55=>301 | 4=>4 | 46=>293 | 45=>292 | 50=>118 | 5=>5 | 9=>9 | 66=>325 | 70=>329 | 76=>346 | 77=>347 | n=>n,fun | n=>n⟩
theorem te:Go.Proofs.SlLaysF0.n6 Tryz.prog td where
 mixed:=by kernel_rfl
 f6:=⟨Tryz.f168.name,by kernel_rfl,Tryz.func168.trans (congrArg some (by kernel_rfl))⟩
 f14:=⟨Tryz.f230.name,by kernel_rfl,Tryz.func230.trans (congrArg some (by kernel_rfl))⟩
 f15:=Tryz.func190.trans (congrArg some (by kernel_rfl))
 f20:=⟨Tryz.f272.name,by kernel_rfl,Tryz.func272.trans (congrArg some (by kernel_rfl))⟩
 f21:=⟨Tryz.f273.name,by kernel_rfl,Tryz.func273.trans (congrArg some (by kernel_rfl))⟩
 f22:=⟨Tryz.f274.name,by kernel_rfl,Tryz.func274.trans (congrArg some (by kernel_rfl))⟩
 f23:=⟨Tryz.f275.name,by kernel_rfl,Tryz.func275.trans (congrArg some (by kernel_rfl))⟩
 f24:=⟨Tryz.f276.name,by kernel_rfl,Tryz.func276.trans (congrArg some (by kernel_rfl))⟩
 f25:=⟨Tryz.f277.name,by kernel_rfl,Tryz.func277.trans (congrArg some (by kernel_rfl))⟩
 f26:=⟨Tryz.f278.name,by kernel_rfl,Tryz.func278.trans (congrArg some (by kernel_rfl))⟩
 f27:=⟨Tryz.f279.name,by kernel_rfl,Tryz.func279.trans (congrArg some (by kernel_rfl))⟩
 f28:=Tryz.func250.trans (congrArg some (by kernel_rfl))
 f29:=Tryz.func251.trans (congrArg some (by kernel_rfl))
 f46:=⟨Tryz.f306.name,by kernel_rfl,Tryz.func306.trans (congrArg some (by kernel_rfl))⟩
 f47:=Tryz.func292.trans (congrArg some (by kernel_rfl))
 f48:=Tryz.func293.trans (congrArg some (by kernel_rfl))
 f49:=⟨Tryz.f307.name,by kernel_rfl,Tryz.func307.trans (congrArg some (by kernel_rfl))⟩
 f50:=⟨Tryz.f308.name,by kernel_rfl,Tryz.func308.trans (congrArg some (by kernel_rfl))⟩
 f57:=⟨Tryz.f322.name,by kernel_rfl,Tryz.func322.trans (congrArg some (by kernel_rfl))⟩
 t0:=Tryz.underlying0
 a0:=Tryz.isAgg0
 z0:=Tryz.sizeOf0
 v0:=Tryz.zeroValue0
 t3:=Tryz.underlying3
 a3:=Tryz.isAgg3
 z3:=Tryz.sizeOf3
 v3:=Tryz.zeroValue3
 t4:=Tryz.underlying4
 a4:=Tryz.isAgg4
 z4:=Tryz.sizeOf4
 v4:=Tryz.zeroValue4
 t5:=Tryz.underlying5
 a5:=Tryz.isAgg5
 z5:=Tryz.sizeOf5
 v5:=Tryz.zeroValue5
 t9:=Tryz.underlying9
 a9:=Tryz.isAgg9
 z9:=Tryz.sizeOf9
 v9:=Tryz.zeroValue9
 t22:=Tryz.underlying57
 a22:=Tryz.isAgg57
 z22:=Tryz.sizeOf57
 v22:=Tryz.zeroValue57
 t25:=Tryz.underlying155
 a25:=Tryz.isAgg155
 z25:=Tryz.sizeOf155
 v25:=Tryz.zeroValue155
 t39:=Tryz.underlying254
 a39:=Tryz.isAgg254
 z39:=Tryz.sizeOf254
 v39:=Tryz.zeroValue254
 t45:=Tryz.underlying292
 a45:=Tryz.isAgg292
 z45:=Tryz.sizeOf292
 v45:=Tryz.zeroValue292
 t46:=Tryz.underlying293
 a46:=Tryz.isAgg293
 z46:=Tryz.sizeOf293
 v46:=Tryz.zeroValue293
 t50:=Tryz.underlying118
 a50:=Tryz.isAgg118
 z50:=Tryz.sizeOf118
 v50:=Tryz.zeroValue118
 t53:=Tryz.underlying299
 a53:=Tryz.isAgg299
 z53:=Tryz.sizeOf299
 v53:=Tryz.zeroValue299
 t55:=Tryz.underlying301
 a55:=Tryz.isAgg301
 z55:=Tryz.sizeOf301
 v55:=Tryz.zeroValue301
 t66:=Tryz.underlying325
 a66:=Tryz.isAgg325
 z66:=Tryz.sizeOf325
 v66:=Tryz.zeroValue325
 t70:=Tryz.underlying329
 a70:=Tryz.isAgg329
 z70:=Tryz.sizeOf329
 v70:=Tryz.zeroValue329
 t76:=Tryz.underlying346
 a76:=Tryz.isAgg346
 z76:=Tryz.sizeOf346
 v76:=Tryz.zeroValue346
 t77:=Tryz.underlying347
 a77:=Tryz.isAgg347
 z77:=Tryz.sizeOf347
 v77:=Tryz.zeroValue347
end Go.Proofs
namespace Go.Proofs
open Go Go.Shelf
def s9:Go.Shelf.Ren:=⟨fun | 6=>172 | 15=>190 | 14=>235 | 28=>250 | 29=>251 | 20=>280 | 21=>281 | 22=>282 | 23=>283 | 24=>284 | 25=>285 | 26=>286 | 27=>287 | 46=>309 | 47=>292 | 48=>293 | 49=>310 | 50=>311 | 57=>323 | n=>n,fun | 22=>239 | 24=>241 | 25=>243 | 3=>3 | 39=>254 | 0=>0 | 53=>299 | 55=>301 | 4=>4 | 46=>293 | 45=>292 | 50=>118 | 5=>5 | 9=>9 | 66=>325 | 70=>329 | 76=>346 | 77=>347 | n=>n,fun | n=>n⟩
theorem ta:Go.Proofs.SlLaysF0.n6 Tryz.prog s9 where
 mixed:=by kernel_rfl
 f6:=⟨Tryz.f172.name,by kernel_rfl,Tryz.func172.trans (congrArg some (by kernel_rfl))⟩
 f14:=⟨Tryz.f235.name,by kernel_rfl,Tryz.func235.trans (congrArg some (by kernel_rfl))⟩
 f15:=Tryz.func190.trans (congrArg some (by kernel_rfl))
 f20:=⟨Tryz.f280.name,by kernel_rfl,Tryz.func280.trans (congrArg some (by kernel_rfl))⟩
 f21:=⟨Tryz.f281.name,by kernel_rfl,Tryz.func281.trans (congrArg some (by kernel_rfl))⟩
 f22:=⟨Tryz.f282.name,by kernel_rfl,Tryz.func282.trans (congrArg some (by kernel_rfl))⟩
 f23:=⟨Tryz.f283.name,by kernel_rfl,Tryz.func283.trans (congrArg some (by kernel_rfl))⟩
 f24:=⟨Tryz.f284.name,by kernel_rfl,Tryz.func284.trans (congrArg some (by kernel_rfl))⟩
 f25:=⟨Tryz.f285.name,by kernel_rfl,Tryz.func285.trans (congrArg some (by kernel_rfl))⟩
 f26:=⟨Tryz.f286.name,by kernel_rfl,Tryz.func286.trans (congrArg some (by kernel_rfl))⟩
 f27:=⟨Tryz.f287.name,by kernel_rfl,Tryz.func287.trans (congrArg some (by kernel_rfl))⟩
 f28:=Tryz.func250.trans (congrArg some (by kernel_rfl))
 f29:=Tryz.func251.trans (congrArg some (by kernel_rfl))
 f46:=⟨Tryz.f309.name,by kernel_rfl,Tryz.func309.trans (congrArg some (by kernel_rfl))⟩
 f47:=Tryz.func292.trans (congrArg some (by kernel_rfl))
 f48:=Tryz.func293.trans (congrArg some (by kernel_rfl))
 f49:=⟨Tryz.f310.name,by kernel_rfl,Tryz.func310.trans (congrArg some (by kernel_rfl))⟩
 f50:=⟨Tryz.f311.name,by kernel_rfl,Tryz.func311.trans (congrArg some (by kernel_rfl))⟩
 f57:=⟨Tryz.f323.name,by kernel_rfl,Tryz.func323.trans (congrArg some (by kernel_rfl))⟩
 t0:=Tryz.underlying0
 a0:=Tryz.isAgg0
 z0:=Tryz.sizeOf0
 v0:=Tryz.zeroValue0
 t3:=Tryz.underlying3
 a3:=Tryz.isAgg3
 z3:=Tryz.sizeOf3
 v3:=Tryz.zeroValue3
 t4:=Tryz.underlying4
 a4:=Tryz.isAgg4
 z4:=Tryz.sizeOf4
 v4:=Tryz.zeroValue4
 t5:=Tryz.underlying5
 a5:=Tryz.isAgg5
 z5:=Tryz.sizeOf5
 v5:=Tryz.zeroValue5
 t9:=Tryz.underlying9
 a9:=Tryz.isAgg9
 z9:=Tryz.sizeOf9
 v9:=Tryz.zeroValue9
 t22:=Tryz.underlying239
 a22:=Tryz.isAgg239
 z22:=Tryz.sizeOf239
 v22:=Tryz.zeroValue239
 t25:=Tryz.underlying243
 a25:=Tryz.isAgg243
 z25:=Tryz.sizeOf243
 v25:=Tryz.zeroValue243
 t39:=Tryz.underlying254
 a39:=Tryz.isAgg254
 z39:=Tryz.sizeOf254
 v39:=Tryz.zeroValue254
 t45:=Tryz.underlying292
 a45:=Tryz.isAgg292
 z45:=Tryz.sizeOf292
 v45:=Tryz.zeroValue292
 t46:=Tryz.underlying293
 a46:=Tryz.isAgg293
 z46:=Tryz.sizeOf293
 v46:=Tryz.zeroValue293
 t50:=Tryz.underlying118
 a50:=Tryz.isAgg118
 z50:=Tryz.sizeOf118
 v50:=Tryz.zeroValue118
 t53:=Tryz.underlying299
 a53:=Tryz.isAgg299
 z53:=Tryz.sizeOf299
 v53:=Tryz.zeroValue299
 t55:=Tryz.underlying301
 a55:=Tryz.isAgg301
 z55:=Tryz.sizeOf301
 v55:=Tryz.zeroValue301
 t66:=Tryz.underlying325
 a66:=Tryz.isAgg325
 z66:=Tryz.sizeOf325
 v66:=Tryz.zeroValue325
 t70:=Tryz.underlying329
 a70:=Tryz.isAgg329
 z70:=Tryz.sizeOf329
 v70:=Tryz.zeroValue329
 t76:=Tryz.underlying346
 a76:=Tryz.isAgg346
 z76:=Tryz.sizeOf346
 v76:=Tryz.zeroValue346
 t77:=Tryz.underlying347
 a77:=Tryz.isAgg347
 z77:=Tryz.sizeOf347
 v77:=Tryz.zeroValue347
end Go.Proofs
namespace Go.Proofs
open Go Go.AI
set_option maxRecDepth 10000
def l3 (x:au):List Int:=[x.k,x.a,x.b]
instance:Inhabited au:=⟨⟨0,0,0⟩⟩
def xM (x y:au):Int:=orS [fb x.k y.k,fb x.a y.a]
theorem qB (x y:au):ae Tryz.prog 93 [.agg (aF x),.agg (aF y)] (.int .i64 (xM x y)):=by
 refine ag aa Tryz.func93 rfl (by kernel_rfl) af (Nat.le_of_ble_eq_true rfl) ?_
 intro F n' w0 m0 hG hro h1
 repeat' first|refine Q1 ?_|refine Q2 ?_|refine Q3 hG aa qG ?_|refine Q4 hG aa qG ?_|refine Q5 hG aa ?_|refine Q6 hG aa ?_|refine Q7 hG aa ?_|refine Q8 hG aa ?_|refine Q9 rfl ?_|refine QF rfl ?_|refine QC rfl ⟨fun h=>?_,fun h=>?_⟩|((conv=>whnf); first|refine anF ?_|refine anT ?_|refine anK ?_|refine Exists.intro _ (And.intro (kZ _ _) ?_)|refine Exists.intro _ (And.intro (tB [fb x.k y.k,fb x.a y.a] (Nat.le_of_ble_eq_true rfl)) ?_)|refine And.intro (fun h=>?_) (fun h=>?_)|refine Or.inl ?_)
 all_goals exact Ends.mk (Or.inl rfl) (ac rfl)
def lT (x y:au):Bool:=(x.k==y.k)&&decide (y.a≤x.b)
theorem zI (x y:au):ae Tryz.prog 97 [.agg (aF x),.agg (aF y)] (.tup [.agg (aF ⟨x.k,x.a,max x.b y.b⟩),.bool (lT x y)]):=by
 refine ag aa Tryz.func97 rfl (by kernel_rfl) af (Nat.le_of_ble_eq_true rfl) ?_
 intro F n' w0 m0 hG hro h1
 repeat' first|refine Q1 ?_|refine Q2 ?_|refine Q3 hG aa qE ?_|refine Q4 hG aa qE ?_|refine Q5 hG aa ?_|refine Q6 hG aa ?_|refine Q7 hG aa ?_|refine Q8 hG aa ?_|refine Q9 rfl ?_|refine QF rfl ?_|refine QC rfl ⟨fun h=>?_,fun h=>?_⟩|((conv=>whnf); first|refine anF ?_|refine anT ?_|refine anK ?_|refine And.intro (fun h=>?_) (fun h=>?_)|refine Or.inl ?_)
 all_goals refine Ends.mk (Or.inl rfl) (ac (congrArg (fun z=>AV.tup [.agg (aF ⟨x.k,x.a,max x.b y.b⟩),.bool z]) ?_))
 all_goals simp only [lT, *,Bool.true_and,Bool.and_true,Bool.false_and,Bool.and_false,Bool.true_or,Bool.or_true,Bool.false_or,Bool.or_false,Bool.not_true,Bool.not_false]
theorem AF (x y:au):ltOf xM x y=true↔x.k<y.k∨(x.k=y.k∧x.a<y.a):=by
 unfold ltOf xM
 simp only [orS,fb,decide_eq_true_eq]
 by_cases h1:x.k<y.k <;> by_cases h2:y.k<x.k <;> by_cases h3:x.a<y.a <;> by_cases h4:y.a<x.a <;> simp [h1,h2,h3,h4] <;> omega
theorem vF (x y:au):ltOf xM x y=false↔leL y x:=by
 have h:=AF x y
 unfold leL
 cases hb:ltOf xM x y with
 | true=>have:=h.1 hb; simp; omega
 | false=>
  have:¬ (x.k<y.k∨(x.k=y.k∧x.a<y.a)):=fun g=>by rw [h.2 g] at hb; cases hb
  simp; omega
theorem DK:Sort.SWO (ltOf xM) where
 irrefl x:=by rw [vF]; unfold leL; omega
 trans x y z h1 h2:=by rw [AF] at *; omega
 ntrans x y z h1 h2:=by rw [vF] at *; unfold leL at *; omega
theorem tc (l:List au) (hl:l.length≤1000000):d7 Tryz.prog 168 3 (l.map l3) [.fn 93] (fun r rows=>r = .tup []∧∃ l':List au,l'.Perm l∧l'.Pairwise (fun x y=>ltOf xM y x=false)∧rows=l'.map l3):=
 d7.sort l3 3 xM te (fun _=>rfl) Tryz.isAgg74 Tryz.sizeOf74 DK (fun x y=>qB x y) (qB ⟨0,0,0⟩ ⟨0,0,0⟩).enters (enters_of Tryz.func168 (by kernel_rfl) rfl) l (by omega)
theorem Ax (l:List au):bG (l.map l3)=l.map aF:=by simp [bG,l3,aF]
def Af:List au→List (Nat×AV)
 | []=>[(7,.sl .full 0 [])]
 | x::r=>[(7,.me .sl 46 (x::r).length []),(xk 46,.me .arr 46 3 ((x::r).map aF))]
theorem jO (o:List au) (z:au):Af (o++[z])=[(7,.me .sl 46 (o.length+1) []),(xk 46,.me .arr 46 3 ((o++[z]).map aF))]:=by
 cases o with
 | nil=>rfl
 | cons x r=>simp [Af]
theorem wG (o:List au) (z x:au):Af (o++[z]++[x])=[(7,.me .sl 46 (o.length+1+1) []),(xk 46,.me .arr 46 3 ((o++[z]).map aF++[aF x]))]:=by
 rw [jO,List.map_append,List.length_append]; rfl
theorem rL {α:Type} (a b:α):∀ l:List α,bZ (l++[a]) l.length b=l++[b]
 | []=>rfl
 | x::l=>by simp only [List.cons_append,List.length_cons,bZ,rL a b l]
theorem Bj {l:List au} (h:l≠[]):∃ o z,eh l=o++[z]:=by
 rcases cG l with rfl | ⟨m,x,rfl⟩
 ·exact absurd rfl h
 ·rw [eh,List.foldl_append]
  show ∃ o z,fF (eh m) x=o++[z]
  rcases cG (eh m) with e | ⟨o,y,e⟩
  ·rw [e]; exact ⟨[],x,rfl⟩
  ·rw [e,jW]
   split
   ·exact ⟨o,_,rfl⟩
   ·exact ⟨o++[y],x,rfl⟩
set_option maxHeartbeats 8000000 in
theorem zF (l:List au) (hl:l.length≤1000000) (hne:l≠[]):d7 Tryz.prog 96 3 (l.map l3) [.fn 93,.fn 97] (fun r _=>∃ l':List au,l'.Perm l∧l'.Pairwise leL∧r=bM (eh l')):=by
 refine d7.ofRebase aa Tryz.func96 rfl (by kernel_rfl) af (Nat.le_of_ble_eq_true rfl) (by kernel_rfl) (by kernel_rfl) (by kernel_rfl) 2 (by kernel_rfl) ?_
 intro F n' b cap hro h1 w0 m0 hG
 refine SPB.out ?_
 refine Q4 hG aa bn ?_
 conv=>whnf
 refine And.intro rfl ?_
 conv=>whnf
 refine And.intro rfl (And.intro rfl (And.intro rfl (Exists.intro _ (And.intro (tc l hl) ?_))))
 rintro r rows ⟨rfl,l',hp,hs,rfl⟩ _ _
 conv=>whnf
 intro _ _ w2 m2 hG2
 rw [Ax l']
 have hle:l'.Pairwise leL:=hs.imp fun h=>(vF _ _).1 h
 have hn':l'.length=l.length:=hp.length_eq
 have hpos:0<l'.length:=by rw [hn']; exact List.length_pos_iff.2 hne
 clear hG
 have hG:=hG2
 refine SPB.out ?_
 refine Q1 ?_
 refine SPB.regN hG aa bn [7] (by kernel_rfl) ?_
 conv=>whnf
 repeat' first|refine Q1 ?_|refine Q2 ?_|refine Q3 hG aa bn ?_|refine Q4 hG aa bn ?_|refine Q5 hG aa ?_|refine Q6 hG aa ?_|refine Q7 hG aa ?_|refine Q8 hG aa ?_|refine Q9 rfl ?_|refine QF rfl ?_|refine QC rfl ⟨fun h=>?_,fun h=>?_⟩|((conv=>whnf); first|refine anF ?_|refine anT ?_|refine anK ?_|refine And.intro (fun h=>?_) (fun h=>?_)|refine Or.inl ?_)
 refine ap (X:=Nat) (fun i=>⟨(18,.int .i64 i)::(17,.int .i64 (l'.map aF).length)::(16,bM l')::(2,.fn 97)::Af (eh (l'.take i)),[]⟩) (fun i=>i≤l'.length) (fun i=>l'.length - i) 0 (Nat.zero_le _) (ah ?_ ?_) (fun i hi=>?_)
 ·repeat' (first | exact trivial | refine And.intro rfl ?_)
 ·repeat' (first | exact trivial | refine And.intro rfl ?_)
 ·by_cases hlt:i<l'.length
  ·have bbk:decide ((i:Int)<((l'.map aF).length:Int))=false→False:=fun h=>by have:=of_decide_eq_false h; simp at this; omega
   have hx:(l'.map aF)[(i:Int).toNat]?=some (aF l'[i]):=by simp [List.getElem?_eq_getElem hlt]
   have hsn:eh (l'.take (i+1))=fF (eh (l'.take i)) l'[i]:=by
    rw [eh,List.take_add_one,List.getElem?_eq_getElem hlt,List.foldl_append]; rfl
   have hbd:(eh (l'.take i)).length≤i:=by
    have:=mn (l'.take i) []
    simp only [List.length_nil,Nat.zero_add,List.length_take] at this
    unfold eh; omega
   generalize l'[i]=x at hx hsn
   generalize eh (l'.take i)=out at hsn hbd
   rcases cG out with rfl | ⟨o,z,rfl⟩
   ·have bb0:decide ((([]:List (List AV)).length:Int)>0)=true→False:=fun h=>by simp at h
    have bb1:decide ((0:Int)>0)=true→False:=fun h=>by simp at h
    repeat' first|exact (bbk (by assumption)).elim|exact (bb0 (by assumption)).elim|exact (bb1 (by assumption)).elim|refine Q1 ?_|refine Q2 ?_|refine Q3 hG aa bn ?_|refine Q4 hG aa bn ?_|refine Q5 hG aa ?_|refine Q6 hG aa ?_|refine Q7 hG aa ?_|refine Q8 hG aa ?_|refine Q9 rfl ?_|refine QF rfl ?_|refine QC rfl ⟨fun h=>?_,fun h=>?_⟩|((conv=>whnf); first|refine anF ?_|refine anT ?_|refine anK ?_|refine And.intro (Int.natCast_nonneg i) (Exists.intro _ (And.intro hx ?_))|refine Or.inr (And.intro rfl (And.intro (Nat.le_of_ble_eq_true rfl) (And.intro (Nat.le_of_ble_eq_true rfl) (And.intro (Nat.le_of_ble_eq_true rfl) ?_))))|refine And.intro (fun h=>?_) (fun h=>?_)|refine Or.inl ?_)
    refine Exists.intro (i+1) (And.intro hlt (And.intro (by omega) ?_))
    dsimp only
    rw [hsn,show fF [] x=[x] from rfl]
    refine ah (And.intro (congrArg some (ao (by omega))) ?_) ?_
    ·repeat' (first | exact trivial | refine And.intro rfl ?_)
    ·repeat' (first | exact trivial | refine And.intro rfl ?_)
   ·rw [jO]
    have hgt:decide (((o.length+1:Nat):Int)>0)=false→False:=fun h=>by have:=of_decide_eq_false h; omega
    have hbo:o.length+1≤i:=by simpa using hbd
    have hln:((o++[z]).map aF).length=o.length+1:=by simp
    have hw:IntKind.i64.wrap (((o.length+1:Nat):Int) - 1)=(o.length:Int):=(ai (by omega) (by omega)).trans (by omega)
    have h0:0≤IntKind.i64.wrap (((o.length+1:Nat):Int) - 1):=by rw [hw]; exact Int.natCast_nonneg _
    have hl1:IntKind.i64.wrap (((o.length+1:Nat):Int) - 1)<((o.length+1:Nat):Int):=by rw [hw]; omega
    have hz:((o++[z]).map aF)[(IntKind.i64.wrap (((o.length+1:Nat):Int) - 1)).toNat]?=some (aF z):=by rw [hw]; simp
    rw [jW] at hsn
    repeat' first|exact (bbk (by assumption)).elim|exact (hgt (by assumption)).elim|refine Q1 ?_|refine Q2 ?_|refine Q3 hG aa bn ?_|refine Q4 hG aa bn ?_|refine Q5 hG aa ?_|refine Q6 hG aa ?_|refine Q7 hG aa ?_|refine Q8 hG aa ?_|refine Q9 rfl ?_|refine QF rfl ?_|refine QC rfl ⟨fun h=>?_,fun h=>?_⟩|((conv=>whnf); first|refine anF ?_|refine anT ?_|refine anK ?_|refine And.intro (Int.natCast_nonneg i) (Exists.intro _ (And.intro hx ?_))|refine And.intro h0 (And.intro hl1 ?_)|refine Exists.intro _ (And.intro hz ?_)|refine Exists.intro _ (And.intro (zI _ _) ?_)|refine And.intro (Nat.le_of_ble_eq_true rfl) (And.intro (show (((o++[z]).map aF).length+1)*24≤70368744177664 by rw [hln]; omega) (And.intro (show ((o++[z]).map aF).length+1≤4611686018427387904 by rw [hln]; omega) ?_))|refine And.intro (fun h=>?_) (fun h=>?_)|refine Or.inl ?_)
    ·have ht:=(by assumption:lT z x=true)
     simp only [lT,Bool.and_eq_true,beq_iff_eq,decide_eq_true_eq] at ht
     rw [if_pos ht] at hsn
     refine Exists.intro (i+1) (And.intro hlt (And.intro (by omega) ?_))
     dsimp only
     rw [hsn,jO]
     refine ah (And.intro (congrArg some (ao (by omega))) (And.intro rfl (And.intro rfl (And.intro rfl (And.intro rfl (And.intro (congrArg (fun q=>some (AV.me .arr 46 3 q)) ?_) trivial)))))) ?_
     ·rw [hw,Int.toNat_natCast]
      have e:=rL (aF z) (aF ⟨z.k,z.a,max z.b x.b⟩) (o.map aF)
      rw [List.length_map] at e
      rw [List.map_append,List.map_append]
      exact e
     ·repeat' (first | exact trivial | refine And.intro rfl ?_)
    ·have ht:=(by assumption:lT z x=false)
     have ht:¬ (z.k=x.k∧x.a≤z.b):=fun h=>by
      have:lT z x=true:=by simp only [lT,Bool.and_eq_true,beq_iff_eq,decide_eq_true_eq]; exact h
      rw [this] at ht; cases ht
     rw [if_neg ht] at hsn
     refine Exists.intro (i+1) (And.intro hlt (And.intro (by omega) ?_))
     dsimp only
     rw [hsn,wG]
     refine ah (And.intro (congrArg some (ao (by omega))) ?_) ?_
     ·repeat' (first | exact trivial | refine And.intro rfl ?_)
     ·repeat' (first | exact trivial | refine And.intro rfl ?_)
  ·have he:l'.take i=l':=List.take_of_length_le (by omega)
   have bbk:decide ((i:Int)<((l'.map aF).length:Int))=true→False:=fun h=>by have:=of_decide_eq_true h; simp at this; omega
   rw [he]
   obtain ⟨o,z,hoz⟩:=Bj (l:=l') (by intro h; rw [h] at hpos; simp at hpos)
   rw [hoz,jO]
   refine SPB.frz [.tmp 7] ?_
   conv=>whnf
   repeat' first|exact (bbk (by assumption)).elim|refine Q1 ?_|refine Q2 ?_|refine Q3 hG aa bn ?_|refine Q4 hG aa bn ?_|refine Q5 hG aa ?_|refine Q6 hG aa ?_|refine Q7 hG aa ?_|refine Q8 hG aa ?_|refine Q9 rfl ?_|refine QF rfl ?_|refine QC rfl ⟨fun h=>?_,fun h=>?_⟩|((conv=>whnf); first|refine anF ?_|refine anT ?_|refine anK ?_|refine And.intro (fun h=>?_) (fun h=>?_)|refine Or.inl ?_)
   refine Exists.intro (bM (eh l')) (And.intro ⟨l',hp,hle,rfl⟩ (Ends.mk (Or.inl rfl) (ac ?_)))
   rw [hoz]; rfl
end Go.Proofs
namespace Go.Proofs
open Go Go.AI
set_option maxRecDepth 10000
theorem tR:ae Tryz.prog 96 [.sl .no 3 [],.fn 93,.fn 97] (bM []):=by
 have ks:=ae.sortNil te (enters_of Tryz.func168 (by kernel_rfl) rfl) 3 93 (o := .no)
 refine ag aa Tryz.func96 rfl (by kernel_rfl) af (Nat.le_of_ble_eq_true rfl) ?_
 intro F n' w0 m0 hG hro h1
 repeat' first|refine Q1 ?_|refine Q2 ?_|refine Q3 hG aa bn ?_|refine Q4 hG aa bn ?_|refine Q5 hG aa ?_|refine Q6 hG aa ?_|refine Q7 hG aa ?_|refine Q8 hG aa ?_|refine Q9 rfl ?_|refine QF rfl ?_|refine QC rfl ⟨fun h=>?_,fun h=>?_⟩|((conv=>whnf); first|refine anF ?_|refine anT ?_|refine anK ?_|refine Exists.intro _ (And.intro (ks) ?_)|refine And.intro (fun h=>?_) (fun h=>?_)|refine Or.inl ?_)
 refine ap (X:=Unit) (fun _=>⟨[(18,.int .i64 0),(17,.int .i64 0),(7,.sl (.id 7) 3 [])],[]⟩) (fun _=>True) (fun _=>0) () trivial (ah ?_ ?_) (fun i hi=>?_)
 ·repeat' (first | exact trivial | refine And.intro rfl ?_)
 ·repeat' (first | exact trivial | refine And.intro rfl ?_)
 ·have bb:decide ((0:Int)<0)=true→False:=fun h=>by simp at h
  repeat' first|exact (bb (by assumption)).elim|refine Q1 ?_|refine Q2 ?_|refine Q3 hG aa bn ?_|refine Q4 hG aa bn ?_|refine Q5 hG aa ?_|refine Q6 hG aa ?_|refine Q7 hG aa ?_|refine Q8 hG aa ?_|refine Q9 rfl ?_|refine QF rfl ?_|refine QC rfl ⟨fun h=>?_,fun h=>?_⟩|((conv=>whnf); first|refine anF ?_|refine anT ?_|refine anK ?_|refine And.intro (fun h=>?_) (fun h=>?_)|refine Or.inl ?_)
  exact Ends.mk (Or.inl rfl) (ac rfl)
def wQ (l:List Opt):Bool:=decide (8<l.length)
theorem BJ (l:List Opt):DU l=(bD l).any fun x => !bt x.1 x.2:=by
 unfold DU bD
 rw [List.any_flatMap]
 congr 1
 funext o
 rw [List.any_map]; rfl
theorem sY (l:List Opt):vO l=(wQ l||nC l||(bD l).any fun x => !bt x.1 x.2):=by
 unfold vO; rw [BJ]; rfl
theorem zn:kT []=[]:=by simp [kT,eh]
theorem wI (l:List Opt):(lA l).length=l.length+(bD l).length:=by rw [lA,ro]; simp [iL]
set_option maxHeartbeats 16000000 in
theorem zH (l:List Opt) (hl:l.length≤1000000) (hs:dQ l) (hsp:(bD l).length≤900000):ae Tryz.prog 27 [aK l] (bM (aA l)):=by
 refine ae.ofBm aa Tryz.func27 rfl (by kernel_rfl) af (Nat.le_of_ble_eq_true rfl) ?_
 intro F n' w0 m0 hG hro h9 hm0
 repeat' first|refine Q1 ?_|refine Q2 ?_|refine Q3 hG aa bg ?_|refine Q4 hG aa bg ?_|refine Q5 hG aa ?_|refine Q6 hG aa ?_|refine Q7 hG aa ?_|refine Q8 hG aa ?_|refine Q9 rfl ?_|refine QF rfl ?_|refine QC rfl ⟨fun h=>?_,fun h=>?_⟩|((conv=>whnf); first|refine anF ?_|refine anT ?_|refine anK ?_|refine And.intro (fun h=>?_) (fun h=>?_)|refine Or.inl ?_)
 have hn8:decide (((l.map aH).length:Int)>8)=wQ l:=by rw [List.length_map]; exact decide_eq_decide.2 (by omega)
 rw [hn8]
 refine SPB.resize 3 0 1003000 3 rfl rfl ?_
 refine ap (X:=Nat) (fun i=>⟨[(14,.int .i64 i),(13,.int .i64 (l.map aH).length),(12,aK l),(4,.loc 4 0),(3,.loc 3 0),(0,aK l)],[(4,[.bool (wQ l||nC (l.take i))]),(3,[.sl (.id 1003000) 3 ((iL (l.take i)).map aF)])]⟩) (fun i=>i≤l.length) (fun i=>l.length - i) 0 (Nat.zero_le _) (ah ?_ ?_) (fun i hi=>?_)
 ·repeat' (first | exact trivial | refine And.intro rfl ?_)
 ·refine And.intro (congrArg (fun z=>some [AV.bool z]) (by simp [nC])) ?_
  repeat' (first | exact trivial | refine And.intro rfl ?_)
 ·by_cases hlt:i<l.length
  ·have bbk:decide ((i:Int)<((l.map aH).length:Int))=false→False:=fun h=>by have:=of_decide_eq_false h; simp at this; omega
   have hx:=gB hlt
   have hsA:iL (l.take (i+1))=iL (l.take i)++[⟨1,(aG l i).a,(aG l i).b⟩]:=by
    rw [List.take_add_one,List.getElem?_eq_getElem hlt,cK hlt]; exact List.map_append
   have hbA:nC (l.take (i+1))=(nC (l.take i)||(!bt (aG l i).a (aG l i).b||decide (6<(aG l i).sl.length))):=by
    rw [List.take_add_one,List.getElem?_eq_getElem hlt,cK hlt]
    unfold nC
    rw [List.any_append]; simp
   have hln:((iL (l.take i)).map aF).length=i:=by simp [iL]; omega
   generalize aG l i=x at hx hsA hbA
   have h6:decide (((x.sl.map ay).length:Int)>6)=decide (6<x.sl.length):=by rw [List.length_map]; exact decide_eq_decide.2 (by omega)
   have hrow:(iL (l.take (i+1))).map aF=(iL (l.take i)).map aF++[[.int .i64 1,.int .i64 x.a,.int .i64 x.b]]:=by rw [hsA,List.map_append]; rfl
   generalize (iL (l.take i)).map aF=row at hln hrow
   obtain ⟨wb,hwb⟩:∃ wb,wb=(wQ l||nC (l.take i)):=⟨_,rfl⟩
   rw [← hwb]
   have hw2:(wQ l||nC (l.take (i+1)))=(wb||(!bt x.a x.b||decide (6<x.sl.length))):=by rw [hbA,hwb,Bool.or_assoc]
   repeat' first|exact (bbk (by assumption)).elim|refine Q1 ?_|refine Q2 ?_|refine Q3 hG aa bg ?_|refine Q4 hG aa bg ?_|refine Q5 hG aa ?_|refine Q6 hG aa ?_|refine Q7 hG aa ?_|refine Q8 hG aa ?_|refine Q9 rfl ?_|refine QF rfl ?_|refine QC rfl ⟨fun h=>?_,fun h=>?_⟩|((conv=>whnf); first|refine anF ?_|refine anT ?_|refine anK ?_|refine And.intro (Int.natCast_nonneg i) (Exists.intro _ (And.intro hx ?_))|refine Exists.intro _ (And.intro (s6 _ _) ?_)|refine And.intro (show (row.length+1)*24≤70368744177664 by omega) (And.intro (show row.length+1≤4611686018427387904 by omega) ?_)|refine And.intro (fun h=>?_) (fun h=>?_)|refine Or.inl ?_)
   all_goals refine Exists.intro (i+1) (And.intro hlt (And.intro (by omega) ?_))
   all_goals dsimp only
   all_goals rw [hw2,hrow]
   all_goals refine ah (And.intro (congrArg some (ao (by omega))) ?_) (And.intro (congrArg (fun z=>some [AV.bool z]) ?_) ?_)
   all_goals first
    |(clear hwb hw2; simp only [h6, *,Bool.true_and,Bool.and_true,Bool.false_and,Bool.and_false,Bool.true_or,Bool.or_true,Bool.false_or,Bool.or_false,Bool.not_true,Bool.not_false]; done)
    |(repeat' (first | exact trivial | refine And.intro rfl ?_))
  ·have bbk:decide ((i:Int)<((l.map aH).length:Int))=true→False:=fun h=>by have:=of_decide_eq_true h; simp at this; omega
   have he:l.take i=l:=List.take_of_length_le (by omega)
   rw [he]
   repeat' first|exact (bbk (by assumption)).elim|refine Q1 ?_|refine Q2 ?_|refine Q3 hG aa bg ?_|refine Q4 hG aa bg ?_|refine Q5 hG aa ?_|refine Q6 hG aa ?_|refine Q7 hG aa ?_|refine Q8 hG aa ?_|refine Q9 rfl ?_|refine QF rfl ?_|refine QC rfl ⟨fun h=>?_,fun h=>?_⟩|((conv=>whnf); first|refine anF ?_|refine anT ?_|refine anK ?_|refine Exists.intro _ (And.intro (BY l) ?_)|refine And.intro (fun h=>?_) (fun h=>?_)|refine Or.inl ?_)
   have hAB:lA l=iL l++(bD l).map (mkK 2):=by rw [lA,ro]
   refine ⟨SP.rangeM hG hro (Nat.le_trans (by decide) h9) (α:=Int×Int) spA (f:=166) (cap:=[.ref [aK l]]) (items:=bD l) rfl (vT l hl hs) (fun _=>rfl) (fun _=>[(4,.loc 4 0),(3,.loc 3 0)]) [4,3] (fun _=>rfl)
    (fun pre=>[(4,[.bool (wQ l||nC l||pre.any fun x => !bt x.1 x.2)]),(3,[.sl (.id 1003000) 3 ((iL l++pre.map (mkK 2)).map aF)])]) (ah ?_ ?_) (by kernel_rfl) (by decide) ?_ ?_⟩
   ·repeat' (first | exact trivial | refine And.intro rfl ?_)
   ·refine And.intro (congrArg (fun z=>some [AV.bool z]) (by simp)) (And.intro (congrArg (fun z=>some [AV.sl (.id 1003000) 3 z]) (by simp)) trivial)
   ·intro F' n'' m' hG' pre x rest hx
    clear hG
    have hG:=hG'
    have hpl:pre.length<1000000:=by
     have:=congrArg List.length hx
     simp at this; omega
    have hrl:(iL l).length≤1000000:=by simp [iL]; omega
    have hrow:(iL l++(pre++[x]).map (mkK 2)).map aF=(iL l++pre.map (mkK 2)).map aF++[[.int .i64 2,.int .i64 x.1,.int .i64 x.2]]:=by simp [aF,mkK]
    have hln:((iL l++pre.map (mkK 2)).map aF).length≤3000000:=by simp; omega
    generalize (iL l++pre.map (mkK 2)).map aF=row at hln hrow
    obtain ⟨wb,hwb⟩:∃ wb,wb=(wQ l||nC l||pre.any fun x => !bt x.1 x.2):=⟨_,rfl⟩
    rw [← hwb]
    have hw2:(wQ l||nC l||(pre++[x]).any fun x => !bt x.1 x.2)=(wb || !bt x.1 x.2):=by rw [List.any_append,hwb]; simp [Bool.or_assoc]
    refine SPB.out (Q4 hG aa bg ?_)
    conv=>whnf
    refine And.intro rfl (And.intro (ah ?_ ?_) ?_)
    ·repeat' (first | exact trivial | refine And.intro rfl ?_)
    ·repeat' (first | exact trivial | refine And.intro rfl ?_)
    refine SPB.out ?_
    repeat' first|refine Q1 ?_|refine Q2 ?_|refine Q3 hG aa bg ?_|refine Q4 hG aa bg ?_|refine Q5 hG aa ?_|refine Q6 hG aa ?_|refine Q7 hG aa ?_|refine Q8 hG aa ?_|refine Q9 rfl ?_|refine QF rfl ?_|refine QC rfl ⟨fun h=>?_,fun h=>?_⟩|((conv=>whnf); first|refine anF ?_|refine anT ?_|refine anK ?_|refine Exists.intro _ (And.intro (s6 _ _) ?_)|refine And.intro (show (row.length+1)*24≤70368744177664 by omega) (And.intro (show row.length+1≤4611686018427387904 by omega) ?_)|refine And.intro (fun h=>?_) (fun h=>?_)|refine Or.inl ?_)
    all_goals (refine ah ?_ ?_)
    all_goals first
     |(dsimp only; rw [hw2,hrow]; clear hwb hw2; refine And.intro (congrArg (fun z=>some [AV.bool z]) ?_) (And.intro rfl trivial); simp only [*,Bool.true_and,Bool.and_true,Bool.false_and,Bool.and_false,Bool.true_or,Bool.or_true,Bool.false_or,Bool.or_false,Bool.not_true,Bool.not_false]; done)
     |(repeat' (first | exact trivial | refine And.intro rfl ?_))
   ·conv=>whnf
    by_cases hne:lA l=[]
    ·rw [← hAB,hne]
     repeat' first|refine Q1 ?_|refine Q2 ?_|refine Q3 hG aa bg ?_|refine Q4 hG aa bg ?_|refine Q5 hG aa ?_|refine Q6 hG aa ?_|refine Q7 hG aa ?_|refine Q8 hG aa ?_|refine Q9 rfl ?_|refine QF rfl ?_|refine QC rfl ⟨fun h=>?_,fun h=>?_⟩|((conv=>whnf); first|refine anF ?_|refine anT ?_|refine anK ?_|refine Exists.intro _ (And.intro (tR) ?_)|refine And.intro (fun h=>?_) (fun h=>?_)|refine Or.inl ?_)
     ·refine Ends.mk (Or.inl rfl) (ac ?_)
      rw [aA,sY,if_pos ‹_›]; rfl
     ·refine Ends.mk (Or.inl rfl) (ac ?_)
      rw [aA,hne,zn]; split <;> rfl
    ·rw [← hAB]
     repeat' first|refine SPB.oreg (id:=16) hG aa hm0 bg 2 (by kernel_rfl) ?_|refine Q1 ?_|refine Q2 ?_|refine Q3 hG aa bg ?_|refine Q4 hG aa bg ?_|refine Q5 hG aa ?_|refine Q6 hG aa ?_|refine Q7 hG aa ?_|refine Q8 hG aa ?_|refine Q9 rfl ?_|refine QF rfl ?_|refine QC rfl ⟨fun h=>?_,fun h=>?_⟩|((conv=>whnf); first|refine anF ?_|refine anT ?_|refine anK ?_|refine And.intro (fun h=>?_) (fun h=>?_)|refine Or.inl ?_)
     ·refine Ends.mk (Or.inl rfl) (ac ?_)
      rw [aA,sY,if_pos ‹_›]; rfl
     ·have hb:vO l=false:=by rw [sY]; assumption
      have h8:l.length≤8:=by
       have:=hb; unfold vO at this; simp at this; omega
      conv=>whnf
      refine Exists.intro ((lA l).map l3) (Exists.intro _ (And.intro (zF (lA l) ?_ hne) (And.intro (Ax _).symm (And.intro ?_ (And.intro (by decide) (And.intro ?_ (And.intro rfl ?_)))))))
      ·rw [wI]; omega
      ·simpa using hne
      ·intro x hx; obtain ⟨y,_,rfl⟩:=List.mem_map.1 hx; rfl
      ·rintro r rows ⟨l',hp,hle,rfl⟩ _ _
       repeat' first|refine Q1 ?_|refine Q2 ?_|refine Q3 hG aa bg ?_|refine Q4 hG aa bg ?_|refine Q5 hG aa ?_|refine Q6 hG aa ?_|refine Q7 hG aa ?_|refine Q8 hG aa ?_|refine Q9 rfl ?_|refine QF rfl ?_|refine QC rfl ⟨fun h=>?_,fun h=>?_⟩|((conv=>whnf); first|refine anF ?_|refine anT ?_|refine anK ?_|refine And.intro (fun h=>?_) (fun h=>?_)|refine Or.inl ?_)
       have hg:=sG.1 hb
       refine Ends.mk (Or.inl rfl) (ac ?_)
       rw [w9 (fun x h=>(hg.raw x h).2.2.1) hp hle,← hg.loads]; rfl
end Go.Proofs
namespace Go.Proofs
open Go Go.AI
set_option maxRecDepth 10000
def p2 (x:Int×Int):List Int:=[x.1,x.2]
def pA (x:Int×Int):List AV:=[.int .i64 x.1,.int .i64 x.2]
def xL (x y:Int×Int):Int:=fb x.1 y.1
theorem rx (x y:Int×Int):ltOf xL y x=false↔x.1≤y.1:=by
 unfold ltOf xL
 simp only [fb]
 by_cases h1:y.1<x.1 <;> by_cases h2:x.1<y.1 <;> simp [h1,h2] <;> omega
theorem FO (x y:Int×Int):ltOf xL x y=true↔x.1<y.1:=by
 have:=rx y x
 cases h:ltOf xL x y
 ·simp; exact this.1 h
 ·simp
  rw [h] at this
  simp at this; exact this
theorem DJ:Sort.SWO (ltOf xL) where
 irrefl x:=by rw [rx]; omega
 trans x y z h1 h2:=by rw [FO] at *; omega
 ntrans x y z h1 h2:=by rw [rx] at *; omega
theorem pq (x y:Int×Int):ae Tryz.prog 173 [.agg (pA x),.agg (pA y)] (.int .i64 (xL x y)):=by
 refine ag aa Tryz.func173 rfl (by kernel_rfl) af (Nat.le_of_ble_eq_true rfl) ?_
 intro F n' w0 m0 hG hro h1
 repeat' first|refine Q1 ?_|refine Q2 ?_|refine Q3 hG aa oK ?_|refine Q4 hG aa oK ?_|refine Q5 hG aa ?_|refine Q6 hG aa ?_|refine Q7 hG aa ?_|refine Q8 hG aa ?_|refine Q9 rfl ?_|refine QF rfl ?_|refine QC rfl ⟨fun h=>?_,fun h=>?_⟩|((conv=>whnf); first|refine anF ?_|refine anT ?_|refine anK ?_|refine Exists.intro _ (And.intro (kZ _ _) ?_)|refine And.intro (fun h=>?_) (fun h=>?_)|refine Or.inl ?_)
 all_goals exact Ends.mk (Or.inl rfl) (ac rfl)
theorem s8 (l:List (Int×Int)) (hl:l.length≤4000000):d7 Tryz.prog 172 2 (l.map p2) [.fn 173] (fun r rows=>r = .tup []∧∃ l':List (Int×Int),l'.Perm l∧l'.Pairwise (fun x y=>ltOf xL y x=false)∧rows=l'.map p2):=
 d7.sort p2 2 xL ta (fun _=>rfl) Tryz.isAgg241 Tryz.sizeOf241 DJ (fun x y=>pq x y) (pq (0,0) (0,0)).enters (enters_of Tryz.func172 (by kernel_rfl) rfl) l (by omega)
theorem Aw (l:List (Int×Int)):bG (l.map p2)=l.map pA:=by simp [bG,p2,pA]
def CZ:List (Int×Int)→List (Nat×AV)
 | []=>[(3,.sl .full 0 [])]
 | x::r=>[(3,.me .sl 30 (x::r).length []),(xk 30,.me .arr 30 2 ((x::r).map pA))]
theorem yU (z:Int×Int) (o:List (Int×Int)) (a b:Int×Int):CZ (z::o++[a,b])=[(3,.me .sl 30 ((z::o).length+2) []),(xk 30,.me .arr 30 2 ((z::o).map pA++[pA a,pA b]))]:=by
 simp [CZ]
def jd:Img:=⟨0,0,0,0⟩
theorem yM {l:List Img} {i:Nat} (h:i<l.length):bN (l.take (i+1))=bN (l.take i)++[((l.getD i jd).a,(l.getD i jd).u),((l.getD i jd).b,0 - (l.getD i jd).u)]:=by
 induction l generalizing i with
 | nil=>simp at h
 | cons x r ih=>
  cases i with
  | zero=>rfl
  | succ i => 
   have:=ih (i:=i) (by simpa using h)
   simp only [List.take_succ_cons,bN,this,List.getD_cons_succ,List.cons_append]
theorem sE {l:List Img} {i:Nat} (h:i<l.length):(l.map e9)[(i:Int).toNat]?=some (e9 (l.getD i jd)):=by simp [List.getElem?_eq_getElem h]
theorem py:∀ l:List Img,(bN l).length=2*l.length
 | []=>rfl
 | x::r=>by simp only [bN,List.length_cons,py r]; omega
theorem xx (f:Int) (x y:Int×Int) (r:List (Int×Int)):bH f (x::y::r)=if y.1=x.1 then bH (f+x.2) (y::r) else (x.1,f+x.2)::bH (f+x.2) (y::r):=rfl
theorem wu:∀ (l:List Img),(∀ x∈l,0≤x.u∧x.u≤1000000)→∀ p∈bN l,-1000000≤p.2∧p.2≤1000000
 | [],_,p,hp=>nomatch hp
 | x::r,h,p,hp=>by
  have h1:=h x (.head _)
  simp only [bN,List.mem_cons] at hp
  rcases hp with rfl | rfl | hp
  ·dsimp only; omega
  ·dsimp only; omega
  ·exact wu r (fun y hy=>h y (.tail _ hy)) p hp
theorem xF {α:Type} {l:List α} {k:Nat} {a:α} {t:List α} (h:a::t=l.drop k):l[k]?=some a∧t=l.drop (k+1)∧k<l.length:=by
 have h1:(l.drop k)[0]?=some a:=by rw [← h]; rfl
 rw [List.getElem?_drop] at h1
 refine ⟨by simpa using h1,?_,(List.getElem?_eq_some_iff.1 (by simpa using h1)).1⟩
 have:=congrArg List.tail h
 rw [List.tail_drop] at this
 exact this
theorem zL (l:List Img):ae Tryz.prog 106 [fe l] (.clo 171 [.ref [fe l]]):=by
 refine ag aa Tryz.func106 rfl (by kernel_rfl) af (Nat.le_of_ble_eq_true rfl) ?_
 intro F n' w0 m0 hG hro h1
 repeat' first|refine Q1 ?_|refine Q2 ?_|refine Q3 hG aa pk ?_|refine Q4 hG aa pk ?_|refine Q5 hG aa ?_|refine Q6 hG aa ?_|refine Q7 hG aa ?_|refine Q8 hG aa ?_|refine Q9 rfl ?_|refine QF rfl ?_|refine QC rfl ⟨fun h=>?_,fun h=>?_⟩|((conv=>whnf); first|refine anF ?_|refine anT ?_|refine anK ?_|refine And.intro (fun h=>?_) (fun h=>?_)|refine Or.inl ?_)
 all_goals exact Ends.mk (Or.inl rfl) (ac rfl)
set_option maxHeartbeats 8000000 in
theorem tW (l:List Img) (hl:l.length≤1000000) (hu:∀ x∈l,0≤x.u∧x.u≤1000000):lS Tryz.prog pA 171 [.ref [fe l]] (cp l):=by
 refine lS.of Tryz.func171 rfl (by kernel_rfl) af (Nat.le_of_ble_eq_true rfl) rfl ?_
 intro F n m y J Jx hY
 have ks:=ae.sortNil ta (enters_of Tryz.func172 (by kernel_rfl) rfl) 0 173 (o := .full)
 have hbd:=wu l hu
 refine MPB.seq ?_
 refine MPB.sp (by kernel_rfl) (fun W0 m0 hG hms=>?_) hY
 refine SPB.regN hG aa aI [3] (by kernel_rfl) ?_
 conv=>whnf
 refine MPB.seq ?_
 refine MPB.sp (by kernel_rfl) (fun W0 m0 hG hms=>?_) hY
 repeat' first|refine Q1 ?_|refine Q2 ?_|refine Q3 hG aa aI ?_|refine Q4 hG aa aI ?_|refine Q5 hG aa ?_|refine Q6 hG aa ?_|refine Q7 hG aa ?_|refine Q8 hG aa ?_|refine Q9 rfl ?_|refine QF rfl ?_|refine QC rfl ⟨fun h=>?_,fun h=>?_⟩|((conv=>whnf); first|refine anF ?_|refine anT ?_|refine anK ?_|refine And.intro (fun h=>?_) (fun h=>?_)|refine Or.inl ?_)
 refine ap (X:=Nat) (fun i=>⟨(11,.int .i64 i)::(10,.int .i64 (l.map e9).length)::(9,fe l)::(0,.lit (.func (.yield y) #[] #[]))::CZ (bN (l.take i)),[]⟩) (fun i=>i≤l.length) (fun i=>l.length - i) 0 (Nat.zero_le _) (ah ?_ ?_) (fun i hi=>?_)
 ·repeat' (first | exact trivial | refine And.intro rfl ?_)
 ·repeat' (first | exact trivial | refine And.intro rfl ?_)
 ·by_cases hlt:i<l.length
  ·have bbk:decide ((i:Int)<((l.map e9).length:Int))=false→False:=fun h=>by have:=of_decide_eq_false h; simp at this; omega
   have hx:=sE hlt
   have hux:0≤(l.getD i jd).u∧(l.getD i jd).u≤1000000:=hu _ (by rw [List.getD_eq_getElem?_getD,List.getElem?_eq_getElem hlt]; exact List.getElem_mem hlt)
   have hst:=yM hlt
   have hln:(bN (l.take i)).length=2*i:=by rw [py,List.length_take]; omega
   generalize l.getD i jd=x at hx hux hst
   have hng:IntKind.i64.wrap (0 - x.u)=0 - x.u:=(ai (by omega) (by omega)).trans (by omega)
   generalize bN (l.take i)=st at hst hln
   rcases st with _ | ⟨z,o⟩
   ·skip
    repeat' first|exact (bbk (by assumption)).elim|refine Q1 ?_|refine Q2 ?_|refine Q3 hG aa aI ?_|refine Q4 hG aa aI ?_|refine Q5 hG aa ?_|refine Q6 hG aa ?_|refine Q7 hG aa ?_|refine Q8 hG aa ?_|refine Q9 rfl ?_|refine QF rfl ?_|refine QC rfl ⟨fun h=>?_,fun h=>?_⟩|((conv=>whnf); first|refine anF ?_|refine anT ?_|refine anK ?_|refine And.intro (Int.natCast_nonneg i) (Exists.intro _ (And.intro hx ?_))|refine Or.inr (And.intro rfl (And.intro (Nat.le_of_ble_eq_true rfl) (And.intro (Nat.le_of_ble_eq_true rfl) (And.intro (Nat.le_of_ble_eq_true rfl) ?_))))|refine And.intro (fun h=>?_) (fun h=>?_)|refine Or.inl ?_)
    conv=>whnf
    refine Exists.intro (i+1) (And.intro hlt (And.intro (by omega) ?_))
    rw [hst,hng]
    refine ah (And.intro (congrArg some (ao (by omega))) ?_) ?_
    ·repeat' (first | exact trivial | refine And.intro rfl ?_)
    ·repeat' (first | exact trivial | refine And.intro rfl ?_)
   ·have hml:((z::o).map pA).length=2*i:=by rw [List.length_map]; exact hln
    repeat' first|exact (bbk (by assumption)).elim|refine Q1 ?_|refine Q2 ?_|refine Q3 hG aa aI ?_|refine Q4 hG aa aI ?_|refine Q5 hG aa ?_|refine Q6 hG aa ?_|refine Q7 hG aa ?_|refine Q8 hG aa ?_|refine Q9 rfl ?_|refine QF rfl ?_|refine QC rfl ⟨fun h=>?_,fun h=>?_⟩|((conv=>whnf); first|refine anF ?_|refine anT ?_|refine anK ?_|refine And.intro (Int.natCast_nonneg i) (Exists.intro _ (And.intro hx ?_))|refine And.intro (Nat.le_of_ble_eq_true rfl) (And.intro (show (((z::o).map pA).length+2)*16≤70368744177664 by rw [hml]; omega) (And.intro (show ((z::o).map pA).length+2≤4611686018427387904 by rw [hml]; omega) ?_))|refine And.intro (fun h=>?_) (fun h=>?_)|refine Or.inl ?_)
    conv=>whnf
    refine Exists.intro (i+1) (And.intro hlt (And.intro (by omega) ?_))
    rw [hst,yU,hng]
    refine ah (And.intro (congrArg some (ao (by omega))) ?_) ?_
    ·repeat' (first | exact trivial | refine And.intro rfl ?_)
    ·repeat' (first | exact trivial | refine And.intro rfl ?_)
  ·have he:l.take i=l:=List.take_of_length_le (by omega)
   have bbk:decide ((i:Int)<((l.map e9).length:Int))=true→False:=fun h=>by have:=of_decide_eq_true h; simp at this; omega
   rw [he]
   have hln:=py l
   have hbd:=hbd
   have hfl:=fun (s:List (Int×Int)) (hp:s.Perm (bN l)) (hs:s.Pairwise fun x y=>x.1≤y.1)=>sO hp hs
   generalize bN l=st at hln hfl hbd
   rcases st with _ | ⟨z,o⟩
   ·have hf0:=hfl [] (.refl _) .nil
    repeat' first|exact (bbk (by assumption)).elim|refine Q1 ?_|refine Q2 ?_|refine Q3 hG aa aI ?_|refine Q4 hG aa aI ?_|refine Q5 hG aa ?_|refine Q6 hG aa ?_|refine Q7 hG aa ?_|refine Q8 hG aa ?_|refine Q9 rfl ?_|refine QF rfl ?_|refine QC rfl ⟨fun h=>?_,fun h=>?_⟩|((conv=>whnf); first|refine anF ?_|refine anT ?_|refine anK ?_|refine And.intro (fun h=>?_) (fun h=>?_)|refine Or.inl ?_)
    refine MPB.seq ?_
    refine MPB.sp (by kernel_rfl) (fun W0 m0 hG hms=>?_) hY
    refine Q4 hG aa aI ?_
    repeat' first|refine MPB.sp (c := .region _ _ true) (by kernel_rfl) (fun W0 m0 hG hms=>?_) hY|refine Q3 hG aa aI ?_|refine MPB.seq ?_|refine MPB.block ?_|refine MPB.reg hY aa aI (by kernel_rfl) ?_|refine MPB.skip ?_|refine MPB.label ?_|refine MPB.ret ?_|refine MPB.exit ?_|refine MPB.condT rfl ?_|refine MPB.condF rfl ?_|refine MPB.cond rfl (And.intro (fun h=>?_) (fun h=>?_))|((conv=>whnf); first|refine anF ?_|refine anT ?_|refine anK ?_|refine Exists.intro _ (And.intro (ks) ?_)|refine And.intro (fun h=>?_) (fun h=>?_)|refine Or.inl ?_)
    refine MPB.loop (X:=Unit) (fun _=>((false,0),⟨[(36,.int .i64 0),(35,.int .i64 0),(0,.lit (.func (.yield y) #[] #[]))],[]⟩)) (fun _=>True) (fun _=>0) () trivial rfl (ah ?_ ?_) (fun _ _=>?_)
    ·repeat' (first | exact trivial | refine And.intro rfl ?_)
    ·repeat' (first | exact trivial | refine And.intro rfl ?_)
    ·have bb0:decide ((0:Int)<0)=true→False:=fun h=>by simp at h
     repeat' first|exact (bb0 (by assumption)).elim|refine MPB.seq ?_|refine MPB.block ?_|refine MPB.reg hY aa aI (by kernel_rfl) ?_|refine MPB.skip ?_|refine MPB.label ?_|refine MPB.ret ?_|refine MPB.exit ?_|refine MPB.condT rfl ?_|refine MPB.condF rfl ?_|refine MPB.cond rfl (And.intro (fun h=>?_) (fun h=>?_))|((conv=>whnf); first|refine anF ?_|refine anT ?_|refine anK ?_|refine And.intro (fun h=>?_) (fun h=>?_)|refine Or.inl ?_)
     exact iJ.mk (Or.inr rfl) (Or.inl (congrArg (Prod.mk false) (by rw [← hf0]; rfl)))
   ·skip
    repeat' first|exact (bbk (by assumption)).elim|refine Q1 ?_|refine Q2 ?_|refine Q3 hG aa aI ?_|refine Q4 hG aa aI ?_|refine Q5 hG aa ?_|refine Q6 hG aa ?_|refine Q7 hG aa ?_|refine Q8 hG aa ?_|refine Q9 rfl ?_|refine QF rfl ?_|refine QC rfl ⟨fun h=>?_,fun h=>?_⟩|((conv=>whnf); first|refine anF ?_|refine anT ?_|refine anK ?_|refine And.intro (fun h=>?_) (fun h=>?_)|refine Or.inl ?_)
    refine MPB.seq ?_
    refine MPB.sp (by kernel_rfl) (fun W0 m0 hG hms=>?_) hY
    refine SPB.oregX hG aa aI 1 (by kernel_rfl) ?_
    conv=>whnf
    refine Exists.intro ((z::o).map p2) (Exists.intro _ (And.intro (s8 (z::o) ?_) (And.intro (Aw _).symm (And.intro ?_ ?_))))
    ·omega
    ·intro x hx; obtain ⟨y,_,rfl⟩:=List.mem_map.1 hx; rfl
    ·rintro r rows ⟨rfl,s,hp,hs,rfl⟩ _ _
     conv=>whnf
     rw [Aw]
     have hs':s.Pairwise fun x y=>x.1≤y.1:=hs.imp fun h=>(rx _ _).1 h
     have hf:=hfl s hp hs'
     have hbs:∀ p∈s,-1000000≤p.2∧p.2≤1000000:=fun p h=>hbd p (hp.mem_iff.1 h)
     have hsl:s.length≤2000000:=by have:=hp.length_eq; omega
     repeat' first|refine MPB.seq ?_|refine MPB.block ?_|refine MPB.reg hY aa aI (by kernel_rfl) ?_|refine MPB.skip ?_|refine MPB.label ?_|refine MPB.ret ?_|refine MPB.exit ?_|refine MPB.condT rfl ?_|refine MPB.condF rfl ?_|refine MPB.cond rfl (And.intro (fun h=>?_) (fun h=>?_))|((conv=>whnf); first|refine anF ?_|refine anT ?_|refine anK ?_|refine And.intro (fun h=>?_) (fun h=>?_)|refine Or.inl ?_)
     refine MPB.loop (X:=Nat×Int×Nat) (fun x=>((false,x.2.2),⟨[(36,.int .i64 x.1),(35,.int .i64 (s.map pA).length),(34,.sl .no 2 (s.map pA)),(3,.sl .no 2 (s.map pA)),(6,.int .i64 x.2.1),(0,.lit (.func (.yield y) #[] #[]))],[]⟩)) (fun x=>x.1≤s.length∧bH x.2.1 (s.drop x.1)=(cp l).drop x.2.2∧x.2.2≤(cp l).length∧-1000000*(x.1:Int)≤x.2.1∧x.2.1≤1000000*(x.1:Int)) (fun x=>s.length - x.1) (0,0,0) ⟨Nat.zero_le _,hf,Nat.zero_le _,by decide,by decide⟩ rfl (ah ?_ ?_) (fun x hI=>?_)
     ·repeat' (first | exact trivial | refine And.intro rfl ?_)
     ·repeat' (first | exact trivial | refine And.intro rfl ?_)
     ·obtain ⟨j,f,k⟩:=x
      obtain ⟨hj,hfr,hk,hf1,hf2⟩:=hI
      simp only at hj hfr hk hf1 hf2 ⊢
      by_cases hjl:j<s.length
      ·have bbj:decide ((j:Int)<((s.map pA).length:Int))=false→False:=fun h=>by have:=of_decide_eq_false h; simp at this; omega
       have hx:(s.map pA)[(j:Int).toNat]?=some (pA s[j]):=by simp [List.getElem?_eq_getElem hjl]
       have hxb:=hbs s[j] (List.getElem_mem hjl)
       rw [List.drop_eq_getElem_cons hjl] at hfr
       have hw1:IntKind.i64.wrap ((j:Int)+1)=((j+1:Nat):Int):=(ai (by omega) (by omega)).trans (by omega)
       generalize s[j]=x at hx hxb hfr
       have hwf:IntKind.i64.wrap (f+x.2)=f+x.2:=ai (by omega) (by omega)
       by_cases hj1:j+1<s.length
       ·have bb1:decide (IntKind.i64.wrap ((j:Int)+1)<((s.map pA).length:Int))=false→False:=fun h=>by rw [hw1] at h; have:=of_decide_eq_false h; simp at this; omega
        have hy:(s.map pA)[(IntKind.i64.wrap ((j:Int)+1)).toNat]?=some (pA s[j+1]):=by rw [hw1,Int.toNat_natCast]; simp [List.getElem?_eq_getElem hj1]
        have h0:0≤IntKind.i64.wrap ((j:Int)+1):=by rw [hw1]; exact Int.natCast_nonneg _
        rw [List.drop_eq_getElem_cons hj1,xx,← List.drop_eq_getElem_cons hj1] at hfr
        generalize s[j+1]=z at hy hfr
        repeat' first|exact (bbj (by assumption)).elim|exact (bb1 (by assumption)).elim|refine MPB.sp (c := .region _ _ true) (by kernel_rfl) (fun W0 m0 hG hms=>?_) hY|refine Q3 hG aa aI ?_|refine MPB.seq ?_|refine MPB.block ?_|refine MPB.reg hY aa aI (by kernel_rfl) ?_|refine MPB.skip ?_|refine MPB.label ?_|refine MPB.ret ?_|refine MPB.exit ?_|refine MPB.condT rfl ?_|refine MPB.condF rfl ?_|refine MPB.cond rfl (And.intro (fun h=>?_) (fun h=>?_))|((conv=>whnf); first|refine anF ?_|refine anT ?_|refine anK ?_|refine And.intro (Int.natCast_nonneg j) (Exists.intro _ (And.intro hx ?_))|refine And.intro h0 (Exists.intro _ (And.intro hy ?_))|refine And.intro (fun h=>?_) (fun h=>?_)|refine Or.inl ?_)
        ·have hzx:=beq_iff_eq.1 (by assumption:(z.1==x.1)=true)
         rw [if_pos hzx] at hfr
         refine Exists.intro (j+1,f+x.2,k) (And.intro ⟨hjl,hfr,hk,show -1000000*((j+1:Nat):Int)≤f+x.2 by omega,show f+x.2≤1000000*((j+1:Nat):Int) by omega⟩ (And.intro (show s.length - (j+1)<s.length - j by omega) (And.intro rfl (ah ?_ ?_))))
         ·exact And.intro (congrArg some (ao (by omega))) (And.intro rfl (And.intro rfl (And.intro rfl (And.intro (congrArg (fun z=>some (AV.int .i64 z)) hwf) (And.intro rfl trivial)))))
         ·repeat' (first | exact trivial | refine And.intro rfl ?_)
        ·have hzx:¬ z.1=x.1:=fun h=>by have:=(by assumption:(z.1==x.1)=false); rw [h] at this; simp at this
         rw [if_neg hzx] at hfr
         obtain ⟨hg1,hg2,hg3⟩:=xF hfr
         refine Exists.intro (x.1,f+x.2) (And.intro hg1 (And.intro (congrArg (fun z=>[AV.int .i64 x.1,AV.int .i64 z]) hwf) (fun t ht=>?_)))
         subst ht
         refine And.intro ?_ ?_
         ·skip
          repeat' first|refine MPB.seq ?_|refine MPB.block ?_|refine MPB.reg hY aa aI (by kernel_rfl) ?_|refine MPB.skip ?_|refine MPB.label ?_|refine MPB.ret ?_|refine MPB.exit ?_|refine MPB.condT rfl ?_|refine MPB.condF rfl ?_|refine MPB.cond rfl (And.intro (fun h=>?_) (fun h=>?_))|((conv=>whnf); first|refine anF ?_|refine anT ?_|refine anK ?_|refine And.intro (fun h=>?_) (fun h=>?_)|refine Or.inl ?_)
          refine Exists.intro (j+1,f+x.2,k+1) (And.intro ⟨hjl,hg2,hg3,show -1000000*((j+1:Nat):Int)≤f+x.2 by omega,show f+x.2≤1000000*((j+1:Nat):Int) by omega⟩ (And.intro (show s.length - (j+1)<s.length - j by omega) (And.intro rfl (ah ?_ ?_))))
          ·exact And.intro (congrArg some (ao (by omega))) (And.intro rfl (And.intro rfl (And.intro rfl (And.intro (congrArg (fun z=>some (AV.int .i64 z)) hwf) (And.intro rfl trivial)))))
          ·repeat' (first | exact trivial | refine And.intro rfl ?_)
         ·skip
          repeat' first|refine MPB.seq ?_|refine MPB.block ?_|refine MPB.reg hY aa aI (by kernel_rfl) ?_|refine MPB.skip ?_|refine MPB.label ?_|refine MPB.ret ?_|refine MPB.exit ?_|refine MPB.condT rfl ?_|refine MPB.condF rfl ?_|refine MPB.cond rfl (And.intro (fun h=>?_) (fun h=>?_))|((conv=>whnf); first|refine anF ?_|refine anT ?_|refine anK ?_|refine And.intro (fun h=>?_) (fun h=>?_)|refine Or.inl ?_)
          exact iJ.mk (Or.inl rfl) (Or.inr rfl)
       ·have bb1:decide (IntKind.i64.wrap ((j:Int)+1)<((s.map pA).length:Int))=true→False:=fun h=>by rw [hw1] at h; have:=of_decide_eq_true h; simp at this; omega
        repeat' first|exact (bbj (by assumption)).elim|exact (bb1 (by assumption)).elim|refine MPB.sp (c := .region _ _ true) (by kernel_rfl) (fun W0 m0 hG hms=>?_) hY|refine Q3 hG aa aI ?_|refine MPB.seq ?_|refine MPB.block ?_|refine MPB.reg hY aa aI (by kernel_rfl) ?_|refine MPB.skip ?_|refine MPB.label ?_|refine MPB.ret ?_|refine MPB.exit ?_|refine MPB.condT rfl ?_|refine MPB.condF rfl ?_|refine MPB.cond rfl (And.intro (fun h=>?_) (fun h=>?_))|((conv=>whnf); first|refine anF ?_|refine anT ?_|refine anK ?_|refine And.intro (Int.natCast_nonneg j) (Exists.intro _ (And.intro hx ?_))|refine And.intro (fun h=>?_) (fun h=>?_)|refine Or.inl ?_)
        have hde:s.drop (j+1)=[]:=List.drop_of_length_le (by omega)
        rw [hde] at hfr
        obtain ⟨hg1,hg2,hg3⟩:=xF (show (x.1,f+x.2)::[]=(cp l).drop k from hfr)
        rw [← show bH (f+x.2) (s.drop (j+1))=[] by rw [hde]; rfl] at hg2
        refine Exists.intro (x.1,f+x.2) (And.intro hg1 (And.intro (congrArg (fun z=>[AV.int .i64 x.1,AV.int .i64 z]) hwf) (fun t ht=>?_)))
        subst ht
        refine And.intro ?_ ?_
        ·skip
         repeat' first|refine MPB.seq ?_|refine MPB.block ?_|refine MPB.reg hY aa aI (by kernel_rfl) ?_|refine MPB.skip ?_|refine MPB.label ?_|refine MPB.ret ?_|refine MPB.exit ?_|refine MPB.condT rfl ?_|refine MPB.condF rfl ?_|refine MPB.cond rfl (And.intro (fun h=>?_) (fun h=>?_))|((conv=>whnf); first|refine anF ?_|refine anT ?_|refine anK ?_|refine And.intro (fun h=>?_) (fun h=>?_)|refine Or.inl ?_)
         refine Exists.intro (j+1,f+x.2,k+1) (And.intro ⟨hjl,hg2,hg3,show -1000000*((j+1:Nat):Int)≤f+x.2 by omega,show f+x.2≤1000000*((j+1:Nat):Int) by omega⟩ (And.intro (show s.length - (j+1)<s.length - j by omega) (And.intro rfl (ah ?_ ?_))))
         ·exact And.intro (congrArg some (ao (by omega))) (And.intro rfl (And.intro rfl (And.intro rfl (And.intro (congrArg (fun z=>some (AV.int .i64 z)) hwf) (And.intro rfl trivial)))))
         ·repeat' (first | exact trivial | refine And.intro rfl ?_)
        ·skip
         repeat' first|refine MPB.seq ?_|refine MPB.block ?_|refine MPB.reg hY aa aI (by kernel_rfl) ?_|refine MPB.skip ?_|refine MPB.label ?_|refine MPB.ret ?_|refine MPB.exit ?_|refine MPB.condT rfl ?_|refine MPB.condF rfl ?_|refine MPB.cond rfl (And.intro (fun h=>?_) (fun h=>?_))|((conv=>whnf); first|refine anF ?_|refine anT ?_|refine anK ?_|refine And.intro (fun h=>?_) (fun h=>?_)|refine Or.inl ?_)
         exact iJ.mk (Or.inl rfl) (Or.inr rfl)
      ·have bbj:decide ((j:Int)<((s.map pA).length:Int))=true→False:=fun h=>by have:=of_decide_eq_true h; simp at this; omega
       repeat' first|exact (bbj (by assumption)).elim|refine MPB.sp (c := .region _ _ true) (by kernel_rfl) (fun W0 m0 hG hms=>?_) hY|refine Q3 hG aa aI ?_|refine MPB.seq ?_|refine MPB.block ?_|refine MPB.reg hY aa aI (by kernel_rfl) ?_|refine MPB.skip ?_|refine MPB.label ?_|refine MPB.ret ?_|refine MPB.exit ?_|refine MPB.condT rfl ?_|refine MPB.condF rfl ?_|refine MPB.cond rfl (And.intro (fun h=>?_) (fun h=>?_))|((conv=>whnf); first|refine anF ?_|refine anT ?_|refine anK ?_|refine And.intro (fun h=>?_) (fun h=>?_)|refine Or.inl ?_)
       have hke:k=(cp l).length:=by
        rw [List.drop_of_length_le (by omega)] at hfr
        have:=congrArg List.length hfr
        simp [bH] at this; omega
       exact iJ.mk (Or.inr rfl) (Or.inl (congrArg (Prod.mk false) hke))
end Go.Proofs
