/- Contracts of the functions and plain facts about what they reckon, part 2: called with arguments that read so, each hands back what is typed. The conditions are those typed. -/
import Derived.Test.YtnbgjinkghhdoaaGreatTConA
import Derived.Shelf.SlLaysF0
set_option linter.unusedSectionVars false
set_option linter.unusedVariables false
set_option linter.unusedSimpArgs false
namespace Go.Proofs
open Go Go.AI
set_option maxRecDepth 10000
def HT (a b:Int):Bool:=decide (0≤a)&&decide (a<b)&&decide (b≤1000000)&&decide (w64 (b - a)≤3000)
structure HO where
 a:Int
 b:Int
 k:Int
end Go.Proofs
namespace Go.Proofs
open Go Go.AI
set_option maxRecDepth 10000
def Jc (s:Nat→Int) (x:HO):Bool:=decide (0≤x.a)&&decide (x.a<x.b)&&decide (x.b≤1000000)&&decide (w64 (x.b - x.a)≤60)&&inS x.k (w64 (0 - s 9)) (s 9)
def Jb (s:Nat→Int) (l:List HO):Bool:=l.all (Jc s)&&decide (l.length≤64)
def IR (s:Nat→Int) (l:List HO):Bool:=Jb s l&&gI s
end Go.Proofs
namespace Go.Proofs
open Go Go.AI
set_option maxRecDepth 10000
def hv (g:Int→Int) (a:Int):Nat→Int
 | 0=>0
 | n+1=>max 0 (hv g a n+g (a+n))
end Go.Proofs
namespace Go.Proofs
open Go Go.AI
set_option maxRecDepth 10000
structure aS where
 p:Int
 a:Int
 b:Int
deriving DecidableEq
def ax (x:aS):List AV:=[.int .i64 x.p,.int .i64 x.a,.int .i64 x.b]
structure Opt where
 id:Int
 ord:Int
 cl:Int
 sat:Int
 a:Int
 b:Int
 look:Int
 size:Int
 sl:List aS
def mD (l:List aS):AV := .sl .no 3 (l.map ax)
def aA (o:Opt):List AV:=[.int .i64 o.id,.int .i64 o.ord,.int .i64 o.cl,.int .i64 o.sat,.int .i64 o.a,.int .i64 o.b,.int .i64 o.look,.int .i64 o.size,mD o.sl]
def aZ (l:List Opt):AV := .sl .no 9 (l.map aA)
theorem jo (n a b:Int):ae Tryz.prog 119 [.int .i64 n,.int .i64 a,.int .i64 b] (.bool (inS n a b)):=by
 refine ah aa Tryz.func119 rfl (by kernel_rfl) af (Nat.le_of_ble_eq_true rfl) ?_
 intro F n' w0 m0 hG hro h1
 repeat' first|refine QS rfl hG aa wo ?_|((conv=>whnf); first|refine anF ?_|refine anT ?_|refine anK ?_|refine And.intro (fun h=>?_) (fun h=>?_)|refine Or.inl ?_)
 all_goals refine Ends.mk (Or.inl rfl) (ac (congrArg AV.bool ?_))
 all_goals (simp_all [inS] <;> omega)
theorem Du (n a b:Int):ae Tryz.prog 148 [.int .i64 n,.int .i64 a,.int .i64 b] (.bool (inS n a b)):=by
 refine ah aa Tryz.func148 rfl (by kernel_rfl) af (Nat.le_of_ble_eq_true rfl) ?_
 intro F n' w0 m0 hG hro h1
 repeat' first|refine QS rfl hG aa vX ?_|((conv=>whnf); first|refine anF ?_|refine anT ?_|refine anK ?_|refine And.intro (fun h=>?_) (fun h=>?_)|refine Or.inl ?_)
 all_goals refine Ends.mk (Or.inl rfl) (ac (congrArg AV.bool ?_))
 all_goals (simp_all [inS] <;> omega)
theorem ut (n a b:Int):ae Tryz.prog 99 [.int .i64 n,.int .i64 a,.int .i64 b] (.bool (inS n a b)):=by
 refine ah aa Tryz.func99 rfl (by kernel_rfl) af (Nat.le_of_ble_eq_true rfl) ?_
 intro F n' w0 m0 hG hro h1
 repeat' first|refine QS rfl hG aa pW ?_|((conv=>whnf); first|refine anF ?_|refine anT ?_|refine anK ?_|refine And.intro (fun h=>?_) (fun h=>?_)|refine Or.inl ?_)
 all_goals refine Ends.mk (Or.inl rfl) (ac (congrArg AV.bool ?_))
 all_goals (simp_all [inS] <;> omega)
theorem sq (a b:Int):ae Tryz.prog 75 [.agg (bp a b)] (.bool (cK a b)):=by
 refine ah aa Tryz.func75 rfl (by kernel_rfl) af (Nat.le_of_ble_eq_true rfl) ?_
 intro F n' w0 m0 hG hro h1
 repeat' first|refine QS rfl hG aa yX ?_|((conv=>whnf); first|refine anF ?_|refine anT ?_|refine anK ?_|refine Exists.intro _ (And.intro (jo _ _ _) ?_)|refine And.intro (fun h=>?_) (fun h=>?_)|refine Or.inl ?_)
 all_goals refine Ends.mk (Or.inl rfl) (ac (congrArg AV.bool ?_))
 all_goals (simp only [cK, *,Bool.true_and,Bool.and_true,Bool.false_and,Bool.and_false]; try rfl)
def lS (a b:Int):Bool:=decide (0≤a)&&decide (a<b)&&decide (b≤1000001)
theorem uq (a b:Int):ae Tryz.prog 131 [.agg (bp a b)] (.bool (lS a b)):=by
 refine ah aa Tryz.func131 rfl (by kernel_rfl) af (Nat.le_of_ble_eq_true rfl) ?_
 intro F n' w0 m0 hG hro h1
 repeat' first|refine QS rfl hG aa ou ?_|((conv=>whnf); first|refine anF ?_|refine anT ?_|refine anK ?_|refine And.intro (fun h=>?_) (fun h=>?_)|refine Or.inl ?_)
 all_goals refine Ends.mk (Or.inl rfl) (ac (congrArg AV.bool ?_))
 all_goals (simp_all [lS] <;> (intros; omega))
def xV (a b m:Int):Bool:=lS a b&&decide (w64 (b - a)≤m)
theorem Dv (a b m:Int):ae Tryz.prog 147 [.agg (bp a b),.int .i64 m] (.bool (xV a b m)):=by
 refine ah aa Tryz.func147 rfl (by kernel_rfl) af (Nat.le_of_ble_eq_true rfl) ?_
 intro F n' w0 m0 hG hro h1
 repeat' first|refine QS rfl hG aa vY ?_|((conv=>whnf); first|refine anF ?_|refine anT ?_|refine anK ?_|refine And.intro (fun h=>?_) (fun h=>?_)|refine Or.inl ?_)
 all_goals refine Ends.mk (Or.inl rfl) (ac (congrArg AV.bool ?_))
 all_goals (simp only [xV,lS,w64, *,Bool.true_and,Bool.and_true,Bool.false_and,Bool.and_false]; try rfl)
def oG (o:Nat→Int) (a b k:Int):Bool:=mO o&&xV a b 60&&inS k (-4) 4
theorem Dw (o:Nat→Int) (a b k:Int):ae Tryz.prog 121 [.agg (lR o),.agg (bp a b),.int .i64 k] (.bool (oG o a b k)):=by
 refine ah aa Tryz.func121 rfl (by kernel_rfl) af (Nat.le_of_ble_eq_true rfl) ?_
 intro F n' w0 m0 hG hro h1
 repeat' first|refine QS rfl hG aa wm ?_|((conv=>whnf); first|refine anF ?_|refine anT ?_|refine anK ?_|refine Exists.intro _ (And.intro (sN o) ?_)|refine Exists.intro _ (And.intro (Dv _ _ _) ?_)|refine Exists.intro _ (And.intro (Du _ _ _) ?_)|refine And.intro (fun h=>?_) (fun h=>?_)|refine Or.inl ?_)
 all_goals refine Ends.mk (Or.inl rfl) (ac (congrArg AV.bool ?_))
 all_goals simp only [oG, *,Bool.true_and,Bool.and_true,Bool.false_and,Bool.and_false]
def eH:Int→List aS→Bool
 | _,[]=>true
 | t,x::r=>decide (t≤x.a)&&lS x.a x.b&&eH x.b r
def na (o:Opt):Bool:=eH o.b o.sl&&(inS o.id 0 63&&inS o.size 1 1000000&&lS o.a o.b&&inS (o.sl.length:Int) 1 6)
theorem eR {l:List aS} {i:Nat} (h:i<l.length):(l.map ax)[(i:Int).toNat]?=some [.int .i64 (l.getD i ⟨0,0,0⟩).p,.int .i64 (l.getD i ⟨0,0,0⟩).a,.int .i64 (l.getD i ⟨0,0,0⟩).b]:=by simp [List.getElem?_eq_getElem h]; rfl
theorem yc {t:Int} {l:List aS} {i:Nat} (h:i<l.length):eH t (l.drop i)=(decide (t≤(l.getD i ⟨0,0,0⟩).a)&&lS (l.getD i ⟨0,0,0⟩).a (l.getD i ⟨0,0,0⟩).b&&eH (l.getD i ⟨0,0,0⟩).b (l.drop (i+1))):=by
 rw [List.drop_eq_getElem_cons h,List.getD_eq_getElem?_getD,List.getElem?_eq_getElem h]; rfl
set_option maxHeartbeats 4000000 in
theorem Dx (o:Opt) (hl:o.sl.length≤1000000):ae Tryz.prog 98 [.agg (aA o)] (.bool (na o)):=by
 have hlm:((o.sl.map ax).length:Int)=(o.sl.length:Int):=by rw [List.length_map]
 refine ah aa Tryz.func98 rfl (by kernel_rfl) af (Nat.le_of_ble_eq_true rfl) ?_
 intro F n' w0 m0 hG hro h1
 repeat' first|refine QS rfl hG aa k9 ?_|((conv=>whnf); first|refine anF ?_|refine anT ?_|refine anK ?_|refine And.intro (fun h=>?_) (fun h=>?_)|refine Or.inl ?_)
 refine ar (X:=Nat×Int×Int) (fun q=>⟨[(11,.int .i64 q.1),(10,.int .i64 (o.sl.map ax).length),(9,mD o.sl),(3,.loc 3 0),(1,.loc 1 0)],[(3,bp q.2.1 q.2.2),(1,aA o)]⟩)
  (fun q=>q.1≤o.sl.length∧eH q.2.2 (o.sl.drop q.1)=eH o.b o.sl) (fun q=>o.sl.length - q.1) (0,o.a,o.b) ⟨Nat.zero_le _,rfl⟩ (ai ?_ ?_) (fun q hq=>?_)
 ·repeat' (first | exact trivial | refine And.intro rfl ?_)
 ·repeat' (first | exact trivial | refine And.intro rfl ?_)
 ·obtain ⟨i,la,lb⟩:=q
  obtain ⟨hi,hf⟩:=hq
  have hi:i≤o.sl.length:=hi
  have hf:eH lb (o.sl.drop i)=eH o.b o.sl:=hf
  by_cases hlt:i<o.sl.length
  ·have bbk:decide ((i:Int)<((o.sl.map ax).length:Int))=false→False:=fun h=>by have:=of_decide_eq_false h; omega
   have hx:=eR hlt
   rw [yc hlt] at hf
   generalize o.sl.getD i ⟨0,0,0⟩=x at hx hf
   have bad:(decide (lb≤x.a)&&lS x.a x.b)=false→false=na o:=fun h=>by rw [h,Bool.false_and] at hf; rw [na,← hf,Bool.false_and]
   repeat' first|exact (bbk (by assumption)).elim|refine QS rfl hG aa k9 ?_|((conv=>whnf); first|refine anF ?_|refine anT ?_|refine anK ?_|refine And.intro (Int.natCast_nonneg i) (Exists.intro _ (And.intro hx ?_))|refine Exists.intro _ (And.intro (uq _ _) ?_)|refine And.intro (fun h=>?_) (fun h=>?_)|refine Or.inl ?_)
   ·have h:=of_decide_eq_true (by assumption:decide (x.a<lb)=true)
    exact Ends.mk (Or.inl rfl) (ac (congrArg AV.bool (bad (by rw [decide_eq_false (by omega),Bool.false_and]))))
   ·have h:=Ho (by assumption:(!lS x.a x.b)=true)
    exact Ends.mk (Or.inl rfl) (ac (congrArg AV.bool (bad (by rw [h,Bool.and_false]))))
   ·have h1:=of_decide_eq_false (by assumption:decide (x.a<lb)=false)
    have h2:=sZ (by assumption:(!lS x.a x.b)=false)
    rw [decide_eq_true (show lb≤x.a by omega),h2,Bool.true_and,Bool.true_and] at hf
    refine Exists.intro (i+1,x.a,x.b) (And.intro ⟨hlt,hf⟩ (And.intro (by show o.sl.length - (i+1)<o.sl.length - i; omega) (ai ?_ ?_)))
    ·refine And.intro (congrArg some (aq (by omega))) ?_
     repeat' (first | exact trivial | refine And.intro rfl ?_)
    ·repeat' (first | exact trivial | refine And.intro rfl ?_)
  ·have hge:i=o.sl.length:=by omega
   have bbk:decide ((i:Int)<((o.sl.map ax).length:Int))=true→False:=fun h=>by have:=of_decide_eq_true h; omega
   rw [List.drop_of_length_le (by omega)] at hf
   have hft:eH o.b o.sl=true:=hf.symm
   clear hf
   repeat' first|exact (bbk (by assumption)).elim|refine QS rfl hG aa k9 ?_|((conv=>whnf); first|refine anF ?_|refine anT ?_|refine anK ?_|refine Exists.intro _ (And.intro (ut _ _ _) ?_)|refine Exists.intro _ (And.intro (uq _ _) ?_)|refine And.intro (fun h=>?_) (fun h=>?_)|refine Or.inl ?_)
   all_goals refine Ends.mk (Or.inl rfl) (ac (congrArg AV.bool ?_))
   all_goals (rw [na,hft]; simp only [hlm, *,Bool.true_and,Bool.and_true,Bool.false_and,Bool.and_false])
end Go.Proofs
namespace Go.Proofs
open Go Go.AI
def eO (out:List au) (x:au):List au:=match out.getLast? with
 | some y=>if y.k=x.k∧x.a≤y.b then out.dropLast++[⟨y.k,y.a,max y.b x.b⟩] else out++[x]
 | none=>[x]
def dR (l:List au):List au:=l.foldl eO []
def fA (l:List au) (k t:Int):Prop:=∃ x∈l,x.k=k∧x.a≤t∧t<x.b
def nc (x y:au):Prop:=x.k<y.k∨(x.k=y.k∧x.b<y.a)
structure er (l:List au):Prop where
 ok:∀ x∈l,x.a<x.b
 sep:l.Pairwise nc
theorem er.tail {x:au} {l:List au} (h:er (x::l)):er l:=⟨fun y hy=>h.ok y (List.mem_cons_of_mem _ hy),(List.pairwise_cons.1 h.sep).2⟩
theorem er.head {x:au} {l:List au} (h:er (x::l)):x.a<x.b∧∀ y∈l,nc x y:=⟨h.ok x List.mem_cons_self,(List.pairwise_cons.1 h.sep).1⟩
theorem er.cov_tail {x:au} {l:List au} (h:er (x::l)) (k t:Int):fA l k t↔fA (x::l) k t∧¬ (k=x.k∧x.a≤t∧t<x.b):=by
 constructor
 ·rintro ⟨y,hy,h1,h2,h3⟩
  refine ⟨⟨y,List.mem_cons_of_mem _ hy,h1,h2,h3⟩,fun ⟨g1,g2,g3⟩=>?_⟩
  rcases h.head.2 y hy with g | g <;> omega
 ·rintro ⟨⟨y,hy,h1,h2,h3⟩,hn⟩
  rcases List.mem_cons.1 hy with rfl | hy
  ·exact absurd ⟨h1.symm,h2,h3⟩ hn
  ·exact ⟨y,hy,h1,h2,h3⟩
theorem er.cov_ge {x:au} {l:List au} (h:er (x::l)) {k t:Int} (hc:fA (x::l) k t):x.k<k∨(x.k=k∧x.a≤t):=by
 obtain ⟨y,hy,h1,h2,h3⟩:=hc
 rcases List.mem_cons.1 hy with rfl | hy
 ·right; omega
 ·have:=h.head.1
  rcases h.head.2 y hy with g | g <;> omega
theorem er.cov_end {x:au} {l:List au} (h:er (x::l)):¬ fA (x::l) x.k x.b:=by
 rintro ⟨y,hy,h1,h2,h3⟩
 rcases List.mem_cons.1 hy with rfl | hy
 ·omega
 ·rcases h.head.2 y hy with g | g <;> omega
theorem er.cov_head {x:au} {l:List au} {t:Int} (h1:x.a≤t) (h2:t<x.b):fA (x::l) x.k t:=⟨x,List.mem_cons_self,rfl,h1,h2⟩
theorem er.unique:∀ {l m:List au},er l→er m→(∀ k t,fA l k t↔fA m k t)→l=m
 | [],[],_,_,_=>rfl
 | [],y::m,_,hm,h=>by
  obtain ⟨z,hz,_⟩:=(h y.k y.a).2 (er.cov_head (Int.le_refl _) hm.head.1)
  cases hz
 | x::l,[],hl,_,h=>by
  obtain ⟨z,hz,_⟩:=(h x.k x.a).1 (er.cov_head (Int.le_refl _) hl.head.1)
  cases hz
 | x::l,y::m,hl,hm,h=>by
  have a1:=hm.cov_ge ((h x.k x.a).1 (er.cov_head (Int.le_refl _) hl.head.1))
  have a2:=hl.cov_ge ((h y.k y.a).2 (er.cov_head (Int.le_refl _) hm.head.1))
  have hk:x.k=y.k:=by omega
  have ha:x.a=y.a:=by omega
  have b1:¬ x.b<y.b:=fun hb=>hl.cov_end ((h x.k x.b).2 (by rw [hk]; exact er.cov_head (by have:=hl.head.1; omega) hb))
  have b2:¬ y.b<x.b:=fun hb=>hm.cov_end ((h y.k y.b).1 (by rw [← hk]; exact er.cov_head (by have:=hm.head.1; omega) hb))
  have hxy:x=y:=by
   obtain ⟨xk,xa,xb⟩:=x
   obtain ⟨yk,ya,yb⟩:=y
   (try simp only [au.mk.injEq] at *)
   omega
  subst hxy
  rw [er.unique hl.tail hm.tail fun k t=>by rw [hl.cov_tail,hm.cov_tail,h]]
theorem iA {l m:List au} {k t:Int}:fA (l++m) k t↔fA l k t∨fA m k t:=by
 constructor
 ·rintro ⟨x,hx,h⟩
  rcases List.mem_append.1 hx with hx | hx
  ·exact .inl ⟨x,hx,h⟩
  ·exact .inr ⟨x,hx,h⟩
 ·rintro (⟨x,hx,h⟩ | ⟨x,hx,h⟩)
  ·exact ⟨x,List.mem_append_left _ hx,h⟩
  ·exact ⟨x,List.mem_append_right _ hx,h⟩
theorem r7 {x:au} {k t:Int}:fA [x] k t↔x.k=k∧x.a≤t∧t<x.b:=
 ⟨fun ⟨y,hy,h⟩=>by rw [List.mem_singleton] at hy; subst hy; exact h,fun h=>⟨x,List.mem_singleton.2 rfl,h⟩⟩
theorem ug {l m:List au} (h:l.Perm m) {k t:Int}:fA l k t↔fA m k t:=
 ⟨fun ⟨x,hx,g⟩=>⟨x,h.mem_iff.1 hx,g⟩,fun ⟨x,hx,g⟩=>⟨x,h.mem_iff.2 hx,g⟩⟩
def leL (x y:au):Prop:=x.k<y.k∨(x.k=y.k∧x.a≤y.a)
theorem ph {l:List au} {x:au}:er (l++[x])↔er l∧x.a<x.b∧∀ y∈l,nc y x:=by
 constructor
 ·rintro ⟨h1,h2⟩
  obtain ⟨p1,_,p3⟩:=List.pairwise_append.1 h2
  exact ⟨⟨fun y hy=>h1 y (List.mem_append_left _ hy),p1⟩,h1 x (by simp),fun y hy=>p3 y hy x (by simp)⟩
 ·rintro ⟨⟨h1,h2⟩,h3,h4⟩
  refine ⟨fun y hy=>?_,List.pairwise_append.2 ⟨h2,by simp,fun y hy z hz=>?_⟩⟩
  ·rcases List.mem_append.1 hy with hy | hy
   ·exact h1 y hy
   ·rw [List.mem_singleton] at hy; subst hy; exact h3
  ·rw [List.mem_singleton] at hz; subst hz; exact h4 y hy
theorem jM (o:List au) (y x:au):eO (o++[y]) x=if y.k=x.k∧x.a≤y.b then o++[⟨y.k,y.a,max y.b x.b⟩] else o++[y]++[x]:=by
 unfold eO
 rw [List.getLast?_concat]
 simp only [List.dropLast_concat]
theorem co {α:Type} (l:List α):l=[]∨∃ o y,l=o++[y]:=by
 rcases List.eq_nil_or_concat l with h | ⟨o,y,h⟩
 ·exact .inl h
 ·exact .inr ⟨o,y,by rw [h,List.concat_eq_append]⟩
theorem Fg {out:List au} {x:au} (h:er out) (hx:x.a<x.b) (hle:∀ y∈out,leL y x):er (eO out x)∧(∀ k t,fA (eO out x) k t↔fA out k t∨fA [x] k t)∧∀ y∈eO out x,∀ z,leL x z→leL y z:=by
 rcases co out with rfl | ⟨o,y,rfl⟩
 ·refine ⟨⟨fun y hy=>?_,by simp [eO]⟩,fun k t=>?_,fun y hy z hz=>?_⟩
  ·simp only [eO,List.getLast?_nil,List.mem_singleton] at hy; subst hy; exact hx
  ·simp only [eO,List.getLast?_nil]
   exact ⟨.inr,fun h=>h.elim (fun ⟨_,h,_⟩=>nomatch h) id⟩
  ·simp only [eO,List.getLast?_nil,List.mem_singleton] at hy; subst hy; exact hz
 ·rw [jM]
  obtain ⟨c1,c2,c3⟩:=ph.1 h
  have hyx:=hle y (by simp)
  by_cases ht:y.k=x.k∧x.a≤y.b
  ·rw [if_pos ht]
   have hya:y.a≤x.a:=by rcases hyx with g | g <;> omega
   refine ⟨ph.2 ⟨c1,by show y.a<max y.b x.b; omega,fun z hz=>?_⟩,fun k t=>?_,fun z hz q hq=>?_⟩
   ·have:=c3 z hz
    unfold nc at this ⊢
    exact this
   ·rw [iA,iA,r7,r7,r7]
    simp only
    constructor
    ·rintro (g0 | ⟨g1,g2,g3⟩)
     ·exact .inl (.inl g0)
     by_cases g4:t<y.b
     ·exact .inl (.inr ⟨g1,g2,g4⟩)
     ·exact .inr ⟨by omega,by omega,by omega⟩
    ·rintro ((g0 | ⟨g1,g2,g3⟩) | ⟨g1,g2,g3⟩)
     ·exact .inl g0
     ·exact .inr ⟨g1,g2,by omega⟩
     ·exact .inr ⟨by omega,by omega,by omega⟩
   ·rcases List.mem_append.1 hz with hz | hz
    ·have h1:=hle z (by simp [hz])
     unfold leL at *
     omega
    ·rw [List.mem_singleton] at hz; subst hz
     unfold leL at *
     simp only
     omega
  ·rw [if_neg ht]
   refine ⟨ph.2 ⟨h,hx,fun z hz=>?_⟩,fun k t=>iA,fun z hz q hq=>?_⟩
   ·rcases List.mem_append.1 hz with hz | hz
    ·have h1:=c3 z hz
     unfold nc leL at *
     have:=c1.ok z hz
     omega
    ·rw [List.mem_singleton] at hz; subst hz
     unfold nc leL at *
     omega
   ·rcases List.mem_append.1 hz with hz | hz
    ·have h1:=hle z hz
     unfold leL at *
     omega
    ·rw [List.mem_singleton] at hz; subst hz; exact hq
theorem C6 {x y z:au} (h1:leL x y) (h2:leL y z):leL x z:=by unfold leL at *; omega
theorem ro:∀ (l out:List au),er out→(∀ x∈l,x.a<x.b)→l.Pairwise leL→(∀ y∈out,∀ x∈l,leL y x)→er (l.foldl eO out)∧∀ k t,fA (l.foldl eO out) k t↔fA out k t∨fA l k t
 | [],out,h,_,_,_=>⟨h,fun k t=>⟨.inl,fun h=>h.elim id fun ⟨_,h,_⟩=>nomatch h⟩⟩
 | x::l,out,h,hx,hs,hle=>by
  obtain ⟨s1,s2⟩:=List.pairwise_cons.1 hs
  obtain ⟨j1,j2,j3⟩:=Fg h (hx x List.mem_cons_self) fun y hy=>hle y hy x List.mem_cons_self
  obtain ⟨r1,r2⟩:=ro l (eO out x) j1 (fun y hy=>hx y (List.mem_cons_of_mem _ hy)) s2 fun y hy z hz=>j3 y hy z (s1 z hz)
  refine ⟨r1,fun k t=>?_⟩
  rw [List.foldl_cons,r2,j2,or_assoc,← iA]
  rfl
theorem tX {l:List au} (hx:∀ x∈l,x.a<x.b) (hs:l.Pairwise leL):er (dR l)∧∀ k t,fA (dR l) k t↔fA l k t:=by
 obtain ⟨h1,h2⟩:=ro l [] ⟨by simp,by simp⟩ hx hs (by simp)
 exact ⟨h1,fun k t=>(h2 k t).trans ⟨fun h=>h.elim (fun ⟨_,h,_⟩=>nomatch h) id,.inr⟩⟩
def s6 (x y:au):Bool:=decide (x.k<y.k)||(decide (x.k=y.k)&&decide (x.a≤y.a))
theorem nP {x y:au}:s6 x y=true↔leL x y:=by simp [s6,leL]
def kZ (l:List au):List au:=dR (l.mergeSort s6)
theorem Es (l:List au):(l.mergeSort s6).Pairwise leL:=
 (List.pairwise_mergeSort (le:=s6) (fun a b c h1 h2=>nP.2 (C6 (nP.1 h1) (nP.1 h2))) (fun a b=>by simp only [s6,Bool.or_eq_true,Bool.and_eq_true,decide_eq_true_eq]; omega) l).imp fun h=>nP.1 h
theorem uj {l:List au} (hx:∀ x∈l,x.a<x.b):er (kZ l)∧∀ k t,fA (kZ l) k t↔fA l k t:=by
 have hp:=List.mergeSort_perm l s6
 obtain ⟨h1,h2⟩:=tX (l:=l.mergeSort s6) (fun x h=>hx x (hp.mem_iff.1 h)) (Es l)
 exact ⟨h1,fun k t=>(h2 k t).trans (ug hp)⟩
theorem xL {l m:List au} (hx:∀ x∈l,x.a<x.b) (hp:m.Perm l) (hs:m.Pairwise leL):dR m=kZ l:=by
 obtain ⟨h1,h2⟩:=tX (fun x h=>hx x (hp.mem_iff.1 h)) hs
 obtain ⟨h3,h4⟩:=uj hx
 exact h1.unique h3 fun k t=>by rw [h2,h4,ug hp]
end Go.Proofs
namespace Go.Proofs
open Go Go.AI
structure Img where
 i:Int
 u:Int
 a:Int
 b:Int
deriving DecidableEq
def kR (x:Img):List AV:=[.int .i64 x.i,.int .i64 x.u,.int .i64 x.a,.int .i64 x.b]
def kQ (l:List Img):AV := .sl .no 4 (l.map kR)
def dg:List Img→List (Int×Int)
 | []=>[]
 | x::r=>(x.a,x.u)::(x.b,0 - x.u)::dg r
def kq (t:Int):List (Int×Int)→Int
 | []=>0
 | x::r=>(if x.1≤t then x.2 else 0)+kq t r
def ce:Int→List (Int×Int)→List (Int×Int)
 | _,[]=>[]
 | f,x::[]=>[(x.1,f+x.2)]
 | f,x::y::r=>if y.1=x.1 then ce (f+x.2) (y::r) else (x.1,f+x.2)::ce (f+x.2) (y::r)
theorem qM {t:Int} {s s':List (Int×Int)} (h:s.Perm s'):kq t s=kq t s':=by
 induction h with
 | nil=>rfl
 | cons x _ ih=>simp only [kq,ih]
 | swap x y l=>simp only [kq]; omega
 | trans _ _ h1 h2=>exact h1.trans h2
theorem mA {t:Int}:∀ {s:List (Int×Int)},(∀ y∈s,t<y.1)→kq t s=0
 | [],_=>rfl
 | x::r,h=>by
  have hx:=h x List.mem_cons_self
  simp only [kq]
  rw [mA fun y hy=>h y (List.mem_cons_of_mem _ hy),if_neg (by omega)]; rfl
theorem jR:∀ (s:List (Int×Int)) (f:Int),s.Pairwise (fun x y=>x.1≤y.1)→∀ p:Int×Int,p∈ce f s↔(∃ x∈s,x.1=p.1)∧p.2=f+kq p.1 s
 | [],f,_,p=>by simp [ce]
 | x::[],f,_,p=>by
  simp only [ce,List.mem_singleton,exists_eq_left,kq]
  constructor
  ·rintro rfl; exact ⟨rfl,by simp⟩
  ·rintro ⟨h1,h2⟩
   rw [if_pos (by omega)] at h2
   exact Prod.ext h1.symm (by simp; omega)
 | x::y::r,f,hs,p=>by
  obtain ⟨s1,s2⟩:=List.pairwise_cons.1 hs
  have ih:=jR (y::r) (f+x.2) s2 p
  have hxy:=s1 y List.mem_cons_self
  have hsum:kq p.1 (x::y::r)=(if x.1≤p.1 then x.2 else 0)+kq p.1 (y::r):=rfl
  rw [hsum]
  by_cases he:y.1=x.1
  ·rw [show ce f (x::y::r)=ce (f+x.2) (y::r) from if_pos he,ih]
   constructor
   ·rintro ⟨⟨z,hz,h1⟩,h2⟩
    have:=s1 z hz
    refine ⟨⟨z,List.mem_cons_of_mem _ hz,h1⟩,?_⟩
    rw [if_pos (by omega)]; omega
   ·rintro ⟨⟨z,hz,h1⟩,h2⟩
    have hz':∃ z∈y::r,z.1=p.1:=by
     rcases List.mem_cons.1 hz with rfl | hz
     ·exact ⟨y,List.mem_cons_self,by omega⟩
     ·exact ⟨z,hz,h1⟩
    obtain ⟨q,hq,h3⟩:=hz'
    have:=s1 q hq
    rw [if_pos (by omega)] at h2
    exact ⟨⟨q,hq,h3⟩,by omega⟩
  ·rw [show ce f (x::y::r)=(x.1,f+x.2)::ce (f+x.2) (y::r) from if_neg he,List.mem_cons,ih]
   have hlt:∀ z∈y::r,x.1<z.1:=fun z hz=>by
    rcases List.mem_cons.1 hz with rfl | hz
    ·omega
    ·have:=(List.pairwise_cons.1 s2).1 z hz
     omega
   constructor
   ·rintro (rfl | ⟨⟨z,hz,h1⟩,h2⟩)
    ·refine ⟨⟨x,List.mem_cons_self,rfl⟩,?_⟩
     simp only [Int.le_refl,if_true]
     rw [mA fun z hz=>hlt z hz]; omega
    ·have:=hlt z hz
     refine ⟨⟨z,List.mem_cons_of_mem _ hz,h1⟩,?_⟩
     rw [if_pos (by omega)]; omega
   ·rintro ⟨⟨z,hz,h1⟩,h2⟩
    rcases List.mem_cons.1 hz with rfl | hz
    ·left
     rw [if_pos (by omega),mA fun z hz=>by have:=hlt z hz; omega] at h2
     exact Prod.ext h1.symm (by simp; omega)
    ·right
     have:=hlt z hz
     rw [if_pos (by omega)] at h2
     exact ⟨⟨z,hz,h1⟩,by omega⟩
theorem m5:∀ (s:List (Int×Int)) (f:Int),s.Pairwise (fun x y=>x.1≤y.1)→(ce f s).Pairwise fun x y=>x.1<y.1
 | [],f,_=>by simp [ce]
 | x::[],f,_=>by simp [ce]
 | x::y::r,f,hs=>by
  obtain ⟨s1,s2⟩:=List.pairwise_cons.1 hs
  have ih:=m5 (y::r) (f+x.2) s2
  have hxy:=s1 y List.mem_cons_self
  by_cases he:y.1=x.1
  ·rw [show ce f (x::y::r)=ce (f+x.2) (y::r) from if_pos he]; exact ih
  ·rw [show ce f (x::y::r)=(x.1,f+x.2)::ce (f+x.2) (y::r) from if_neg he,List.pairwise_cons]
   refine ⟨fun p hp=>?_,ih⟩
   obtain ⟨⟨z,hz,h1⟩,_⟩:=(jR _ _ s2 p).1 hp
   show x.1<p.1
   rcases List.mem_cons.1 hz with rfl | hz
   ·omega
   ·have:=(List.pairwise_cons.1 s2).1 z hz
    omega
theorem sj:∀ {l m:List (Int×Int)},l.Pairwise (fun x y=>x.1<y.1)→m.Pairwise (fun x y=>x.1<y.1)→(∀ p,p∈l↔p∈m)→l=m
 | [],[],_,_,_=>rfl
 | [],y::m,_,_,h=>by have:=(h y).2 List.mem_cons_self; cases this
 | x::l,[],_,_,h=>by have:=(h x).1 List.mem_cons_self; cases this
 | x::l,y::m,h1,h2,h=>by
  obtain ⟨p1,p2⟩:=List.pairwise_cons.1 h1
  obtain ⟨q1,q2⟩:=List.pairwise_cons.1 h2
  have hxy:x=y:=by
   rcases List.mem_cons.1 ((h x).1 List.mem_cons_self) with e | e
   ·exact e
   ·rcases List.mem_cons.1 ((h y).2 List.mem_cons_self) with e' | e'
    ·exact e'.symm
    ·have:=q1 x e; have:=p1 y e'; omega
  subst hxy
  rw [sj p2 q2 fun p=>?_]
  constructor
  ·intro hp
   rcases List.mem_cons.1 ((h p).1 (List.mem_cons_of_mem _ hp)) with e | e
   ·have:=p1 p hp; rw [e] at this; omega
   ·exact e
  ·intro hp
   rcases List.mem_cons.1 ((h p).2 (List.mem_cons_of_mem _ hp)) with e | e
   ·have:=q1 p hp; rw [e] at this; omega
   ·exact e
def leT (x y:Int×Int):Bool:=decide (x.1≤y.1)
def eZ (l:List Img):List (Int×Int):=ce 0 ((dg l).mergeSort leT)
theorem wW (s:List (Int×Int)):(s.mergeSort leT).Pairwise fun x y=>x.1≤y.1:=
 (List.pairwise_mergeSort (le:=leT) (fun a b c h1 h2=>by (try simp only [leT,decide_eq_true_eq] at *); omega) (fun a b=>by simp only [leT,Bool.or_eq_true,decide_eq_true_eq]; omega) s).imp fun h=>by simpa [leT] using h
theorem rU {l:List Img} {s:List (Int×Int)} (hp:s.Perm (dg l)) (hs:s.Pairwise fun x y=>x.1≤y.1):ce 0 s=eZ l:=by
 have hq:=List.mergeSort_perm (dg l) leT
 refine sj (m5 _ _ hs) (m5 _ _ (wW _)) fun p=>?_
 rw [jR _ _ hs,eZ,jR _ _ (wW _),qM hp,qM hq]
 constructor
 ·rintro ⟨⟨x,hx,h1⟩,h2⟩; exact ⟨⟨x,hq.mem_iff.2 (hp.mem_iff.1 hx),h1⟩,h2⟩
 ·rintro ⟨⟨x,hx,h1⟩,h2⟩; exact ⟨⟨x,hp.mem_iff.2 (hq.mem_iff.1 hx),h1⟩,h2⟩
end Go.Proofs
namespace Go.Proofs
open Go Go.AI
def iZ (l:List Opt):List au:=l.map fun o=>⟨1,o.a,o.b⟩
def Am (l:List Opt):List au:=l.flatMap fun o=>o.sl.map fun x=>⟨2,x.a,x.b⟩
def mJ (l:List Opt):List au:=iZ l++Am l
def oe (l:List Opt):Bool:=l.any fun o => !cK o.a o.b||decide (6<o.sl.length)
def FN (l:List Opt):Bool:=l.any fun o=>o.sl.any fun x => !cK x.a x.b
def yv (l:List Opt):Bool:=decide (8<l.length)||oe l||FN l
def aF (l:List Opt):List au:=if yv l then [] else kZ (mJ l)
theorem gD {a b:Int}:cK a b=true↔0≤a∧a<b∧b≤1000000:=by
 constructor
 ·exact ny
 ·rintro ⟨h1,h2,h3⟩
  unfold cK inS
  rw [show w64 (b - 1)=b - 1 from am (by omega) (by omega)]
  simp; omega
structure ew (l:List Opt):Prop where
 n:l.length≤8
 shot:∀ o∈l,0≤o.a∧o.a<o.b∧o.b≤1000000∧o.sl.length≤6
 slot:∀ o∈l,∀ x∈o.sl,0≤x.a∧x.a<x.b∧x.b≤1000000
theorem x3 {l:List Opt}:yv l=false↔ew l:=by
 constructor
 ·intro h
  simp only [yv,oe,FN,Bool.or_eq_false_iff,decide_eq_false_iff_not,List.any_eq_false,Bool.or_eq_true,Bool.not_eq_true',decide_eq_true_eq,not_or,Bool.not_eq_true,Bool.not_eq_false] at h
  obtain ⟨⟨h1,h2⟩,h3⟩:=h
  refine ⟨by omega,fun o ho=>?_,fun o ho x hx=>?_⟩
  ·obtain ⟨g1,g2⟩:=h2 o ho
   have:=ny g1
   omega
  ·have:=h3 o ho x hx
   exact ny (by simpa using this)
 ·rintro ⟨h1,h2,h3⟩
  simp only [yv,oe,FN,Bool.or_eq_false_iff,decide_eq_false_iff_not,List.any_eq_false,Bool.or_eq_true,Bool.not_eq_true',decide_eq_true_eq,not_or,Bool.not_eq_true,Bool.not_eq_false]
  refine ⟨⟨by omega,fun o ho=>?_⟩,fun o ho x hx=>?_⟩
  ·have:=h2 o ho
   exact ⟨gD.2 (by omega),by omega⟩
  ·have:=h3 o ho x hx
   simpa using gD.2 this
theorem EI {l:List Opt} {x:au}:x∈mJ l↔(∃ o∈l,x=⟨1,o.a,o.b⟩)∨∃ o∈l,∃ y∈o.sl,x=⟨2,y.a,y.b⟩:=by
 simp only [mJ,iZ,Am,List.mem_append,List.mem_map,List.mem_flatMap]
 constructor
 ·rintro (⟨o,ho,rfl⟩ | ⟨o,ho,y,hy,rfl⟩)
  ·exact .inl ⟨o,ho,rfl⟩
  ·exact .inr ⟨o,ho,y,hy,rfl⟩
 ·rintro (⟨o,ho,rfl⟩ | ⟨o,ho,y,hy,rfl⟩)
  ·exact .inl ⟨o,ho,rfl⟩
  ·exact .inr ⟨o,ho,y,hy,rfl⟩
theorem ew.raw {l:List Opt} (h:ew l):∀ x∈mJ l,(x.k=1∨x.k=2)∧0≤x.a∧x.a<x.b∧x.b≤1000000:=fun x hx=>by
 rcases EI.1 hx with ⟨o,ho,rfl⟩ | ⟨o,ho,y,hy,rfl⟩
 ·have:=h.shot o ho; exact ⟨.inl rfl,this.1,this.2.1,this.2.2.1⟩
 ·exact ⟨.inr rfl,h.slot o ho y hy⟩
theorem C8 (out:List au) (x:au):(eO out x).length≤out.length+1:=by
 rcases co out with rfl | ⟨o,y,rfl⟩
 ·simp [eO]
 ·rw [jM]
  split <;> simp
theorem mU:∀ (l out:List au),(l.foldl eO out).length≤out.length+l.length
 | [],out=>by simp
 | x::l,out=>by
  have h1:=mU l (eO out x)
  have h2:=C8 out x
  simp only [List.foldl_cons,List.length_cons]
  omega
theorem r9 (l:List au):(kZ l).length≤l.length:=by
 have:=mU (l.mergeSort s6) []
 have h2:=(List.mergeSort_perm l s6).length_eq
 simp only [List.length_nil,Nat.zero_add,h2] at this
 exact this
theorem yd (n:Nat):∀ l:List Opt,(∀ o∈l,o.sl.length≤n)→(Am l).length≤n*l.length
 | [],_=>by simp [Am]
 | o::r,h=>by
  have h1:=yd n r fun x hx=>h x (List.mem_cons_of_mem _ hx)
  have h2:=h o List.mem_cons_self
  simp only [Am,List.flatMap_cons,List.length_append,List.length_map,List.length_cons,Nat.mul_add,Nat.mul_one] at h1 ⊢
  omega
theorem ew.len {l:List Opt} (h:ew l):(mJ l).length≤56:=by
 have h1:=yd 6 l fun o ho=>(h.shot o ho).2.2.2
 have h2:=h.n
 simp only [mJ,iZ,List.length_append,List.length_map]
 omega
theorem BR:∀ (rest pre:List au),er (pre++rest)→(∀ x∈rest,(x.k=1∨x.k=2)∧0≤x.a∧x.b≤1000000)→okL pre rest=true
 | [],_,_,_=>rfl
 | x::r,pre,h,hb=>by
  have hx:=hb x List.mem_cons_self
  have hok:=h.ok x (by simp)
  have hsep:=(List.pairwise_append.1 h.sep).2.2
  have ih:=BR r (pre++[x]) (by simpa using h) fun y hy=>hb y (List.mem_cons_of_mem _ hy)
  rw [okL,ih,Bool.and_true,fZ,gD.2 (by omega),show inS x.k 1 2=true from by unfold inS; simp; omega]
  simp only [Bool.true_and,Bool.not_eq_true',List.any_eq_false,xy,Bool.and_eq_true,decide_eq_true_eq,not_and]
  intro y hy g1 g2
  have:=hsep y hy x List.mem_cons_self
  unfold nc at this
  omega
theorem AS {l m:List au} (h:er m) (hc:∀ k t,fA m k t↔fA l k t) (hl:∀ x∈l,(x.k=1∨x.k=2)∧0≤x.a∧x.a<x.b∧x.b≤1000000):∀ x∈m,(x.k=1∨x.k=2)∧0≤x.a∧x.b≤1000000:=fun x hx=>by
 have hok:=h.ok x hx
 obtain ⟨y,hy,h1,h2,h3⟩:=(hc x.k x.a).1 ⟨x,hx,rfl,Int.le_refl _,hok⟩
 obtain ⟨z,hz,g1,g2,g3⟩:=(hc x.k (x.b - 1)).1 ⟨x,hx,rfl,by omega,by omega⟩
 have b1:=hl y hy
 have b2:=hl z hz
 rw [h1] at b1
 exact ⟨b1.1,by omega,by omega⟩
theorem ew.loads {l:List Opt} (h:ew l):aF l=kZ (mJ l):=by unfold aF; rw [x3.2 h]; rfl
theorem ew.can {l:List Opt} (h:ew l):er (aF l)∧∀ k t,fA (aF l) k t↔fA (mJ l) k t:=by
 rw [h.loads]; exact uj fun x hx=>(h.raw x hx).2.2.1
theorem ew.proper {l:List Opt} (h:ew l):dW (aF l)=true:=by
 obtain ⟨h1,h2⟩:=h.can
 have hlen:(aF l).length≤56:=by rw [h.loads]; exact Nat.le_trans (r9 _) h.len
 unfold dW
 rw [decide_eq_true (by omega),Bool.true_and]
 exact BR _ [] h1 (AS h1 h2 h.raw)
end Go.Proofs
namespace Go.Proofs
open Go Go.AI
def mkK (k:Int) (x:Int×Int):au:=⟨k,x.1,x.2⟩
def dn (l:List Opt):List (Int×Int):=l.flatMap fun o=>o.sl.map fun x=>(x.a,x.b)
theorem BK (l:List Opt):Am l=(dn l).map (mkK 2):=by
 unfold Am dn
 rw [List.map_flatMap]
 congr 1
 funext o
 simp [mkK]
end Go.Proofs
namespace Go.Proofs
open Go Go.AI
def rj:Opt:=⟨0,0,0,0,0,0,0,0,[]⟩
def gH:aS:=⟨0,0,0⟩
def ap (l:List Opt) (i:Nat):Opt:=l.getD i rj
def aN (o:Opt) (i:Nat):aS:=o.sl.getD i gH
def fk (o:Opt):Int:=(aN o (o.sl.length - 1)).b
def FR (l:List Opt):List HO:=l.map fun o=>⟨o.a,o.b,o.look⟩
def fW (l:List Opt):List Img:=l.map fun o=>⟨o.id,o.size,o.a,fk o⟩
def fO (f:Int) (x y:Int×Int):Int:=if max x.1 y.1<min x.2 y.2∧(f<0∨max x.1 y.1<f) then max x.1 y.1 else f
def H0 (xs ys:List (Int×Int)):Int:=xs.foldl (fun f x=>ys.foldl (fun f y=>fO f x y) f) (-1)
def slP (o:Opt):List (Int×Int):=o.sl.map fun x=>(x.a,x.b)
def rr (a b:Opt):Int:=H0 (slP a) (slP b)
theorem xO {f:Int} {x y:Int×Int} (hx:0≤x.1):0≤fO f x y↔0≤f∨max x.1 y.1<min x.2 y.2:=by
 unfold fO
 split
 ·rename_i h; omega
 ·rename_i h; omega
theorem BW {x:Int×Int} (hx:0≤x.1):∀ (ys:List (Int×Int)) (f:Int),0≤ys.foldl (fun f y=>fO f x y) f↔0≤f∨∃ y∈ys,max x.1 y.1<min x.2 y.2
 | [],f=>by simp
 | y::ys,f=>by
  rw [List.foldl_cons,BW hx ys,xO hx]
  simp only [List.mem_cons,exists_eq_or_imp,or_assoc]
theorem xM:∀ (xs ys:List (Int×Int)) (f:Int),(∀ x∈xs,0≤x.1)→(0≤xs.foldl (fun f x=>ys.foldl (fun f y=>fO f x y) f) f↔0≤f∨∃ x∈xs,∃ y∈ys,max x.1 y.1<min x.2 y.2)
 | [],ys,f,_=>by simp
 | x::xs,ys,f,h=>by
  rw [List.foldl_cons,xM xs ys _ fun z hz=>h z (List.mem_cons_of_mem _ hz),BW (h x List.mem_cons_self)]
  simp only [List.mem_cons,exists_eq_or_imp,or_assoc]
def zS (a b:Opt):Prop:=∃ x∈slP a,∃ y∈slP b,max x.1 y.1<min x.2 y.2
theorem C3 {a b:Opt} (h:∀ x∈a.sl,0≤x.a):rr a b≥0↔zS a b:=by
 have:=xM (slP a) (slP b) (-1) fun x hx=>by
  obtain ⟨y,hy,rfl⟩:=List.mem_map.1 hx
  exact h y hy
 unfold rr H0 zS
 constructor
 ·intro g
  rcases this.1 g with g | g
  ·omega
  ·exact g
 ·exact fun g=>this.2 (.inr g)
theorem bN {l:List Opt} {i:Nat} (h:i<l.length):ap l i=l[i]:=by simp [ap,List.getD_eq_getElem?_getD,List.getElem?_eq_getElem h]
end Go.Proofs
namespace Go.Proofs
open Go Go.AI
theorem qu {l:List Opt} (h:ew l):(aF l).length≤56:=by rw [h.loads]; exact Nat.le_trans (r9 _) h.len
end Go.Proofs
namespace Go.Proofs
open Go Go.AI
set_option maxRecDepth 10000
theorem sJ (o:Opt) (k:Nat) (hl:o.sl.length≤1000000) (hc:na o=true) (hk:k<o.sl.length):ae Tryz.prog 56 [.agg (aA o),.int .i64 k] (.tup [.agg (kR ⟨o.id,o.size,o.a,(o.sl.getD k ⟨0,0,0⟩).b⟩),.int .i64 0]):=by
 have k100:=Dx o hl
 rw [hc] at k100
 have hx:=eR hk
 have hw:IntKind.i64.wrap (((o.sl.map ax).length:Int) - 1)=(o.sl.length:Int) - 1:=by rw [List.length_map]; exact am (by omega) (by omega)
 have k101:=ut (k:Int) 0 (IntKind.i64.wrap (((o.sl.map ax).length:Int) - 1))
 rw [eX (show 0≤(k:Int)∧(k:Int)≤IntKind.i64.wrap (((o.sl.map ax).length:Int) - 1) by rw [hw]; omega)] at k101
 refine ah aa Tryz.func56 rfl (by kernel_rfl) af (Nat.le_of_ble_eq_true rfl) ?_
 intro F n' w0 m0 hG hro h1
 repeat' first|refine QS rfl hG aa za ?_|((conv=>whnf); first|refine anF ?_|refine anT ?_|refine anK ?_|refine Exists.intro _ (And.intro (k100) ?_)|refine Exists.intro _ (And.intro (k101) ?_)|refine And.intro (Int.natCast_nonneg k) (Exists.intro _ (And.intro hx ?_))|refine And.intro (fun h=>?_) (fun h=>?_)|refine Or.inl ?_)
 all_goals exact Ends.mk (Or.inl rfl) (ac rfl)
theorem vi {o:Opt} (h:na o=true):1≤o.sl.length∧o.sl.length≤6:=by
 simp only [na,inS,Bool.and_eq_true,decide_eq_true_eq] at h
 omega
theorem sr (o:Opt) (hl:o.sl.length≤1000000) (hc:na o=true):ae Tryz.prog 55 [.agg (aA o)] (.tup [.agg (kR ⟨o.id,o.size,o.a,fk o⟩),.int .i64 0]):=by
 have hn:=vi hc
 have k48:=sJ o (o.sl.length - 1) hl hc (by omega)
 rw [show ((o.sl.length - 1:Nat):Int)=IntKind.i64.wrap (((o.sl.map ax).length:Int) - 1) by rw [List.length_map]; exact ((am (by omega) (by omega)).trans (by omega)).symm] at k48
 refine ah aa Tryz.func55 rfl (by kernel_rfl) af (Nat.le_of_ble_eq_true rfl) ?_
 intro F n' w0 m0 hG hro h1
 repeat' first|refine QS rfl hG aa zb ?_|((conv=>whnf); first|refine anF ?_|refine anT ?_|refine anK ?_|refine Exists.intro _ (And.intro (k48) ?_)|refine And.intro (fun h=>?_) (fun h=>?_)|refine Or.inl ?_)
 all_goals exact Ends.mk (Or.inl rfl) (ac rfl)
structure ao where
 sat:Int
 st:Int
 sa:Int
 sb:Int
 ca:Int
 cb:Int
deriving DecidableEq
def aO (p:ao):List AV:=[.int .i64 p.sat,.int .i64 p.st,.int .i64 p.sa,.int .i64 p.sb,.int .i64 p.ca,.int .i64 p.cb]
def ay (l:List ao):AV := .sl .no 6 (l.map aO)
def kJ:ao:=⟨0,0,0,0,0,0⟩
def aD (l:List ao) (i:Nat):ao:=l.getD i kJ
def cU (p:ao):Bool:=(inS p.sat 0 23&&(inS p.st 0 11&&true))&&((decide (0≤p.ca)&&decide (p.ca<p.cb)&&decide (p.cb≤1000001))&&((p.sa==0&&(p.sb==0&&true))||(decide (p.ca≤p.sa)&&decide (p.sa<p.sb)&&decide (p.sb≤p.cb))))
set_option maxHeartbeats 4000000 in
theorem zz (p:ao):ae Tryz.prog 65 [.agg (aO p)] (.bool (cU p)):=by
 have k114:=(oC [⟨p.sat,0,23⟩,⟨p.st,0,11⟩] (Nat.le_of_ble_eq_true rfl)).sl0 (o := .full)
 refine ah aa Tryz.func65 rfl (by kernel_rfl) af (Nat.le_of_ble_eq_true rfl) ?_
 intro F n' w0 m0 hG hro h1
 repeat' first|refine QS rfl hG aa y6 ?_|((conv=>whnf); first|refine anF ?_|refine anT ?_|refine anK ?_|refine Exists.intro _ (And.intro (k114) ?_)|refine And.intro (fun h=>?_) (fun h=>?_)|refine Or.inl ?_)
 all_goals refine Ends.mk (Or.inl rfl) (ac (congrArg AV.bool ?_))
 all_goals (unfold cU; (try simp only [List.all_cons,List.all_nil,Bool.and_true] at *); simp only [*,Bool.true_and,Bool.and_true,Bool.false_and,Bool.and_false,Bool.true_or,Bool.false_or])
theorem vu (p:ao):ae Tryz.prog 64 [.agg (aO p)] (.bool (!cU p)):=by
 refine ah aa Tryz.func64 rfl (by kernel_rfl) af (Nat.le_of_ble_eq_true rfl) ?_
 intro F n' w0 m0 hG hro h1
 repeat' first|refine QS rfl hG aa y7 ?_|((conv=>whnf); first|refine anF ?_|refine anT ?_|refine anK ?_|refine Exists.intro _ (And.intro (zz p) ?_)|refine And.intro (fun h=>?_) (fun h=>?_)|refine Or.inl ?_)
 all_goals exact Ends.mk (Or.inl rfl) (ac rfl)
def qm (p q:ao):Int:=orS [dN p.ca q.ca,dN p.sat q.sat,dN p.st q.st,dN p.sa q.sa,dN p.cb q.cb]
theorem pm (p q:ao):ae Tryz.prog 67 [.agg (aO p),.agg (aO q)] (.int .i64 (qm p q)):=by
 refine ah aa Tryz.func67 rfl (by kernel_rfl) af (Nat.le_of_ble_eq_true rfl) ?_
 intro F n' w0 m0 hG hro h1
 repeat' first|refine QS rfl hG aa yZ ?_|((conv=>whnf); first|refine anF ?_|refine anT ?_|refine anK ?_|refine Exists.intro _ (And.intro (jq _ _) ?_)|refine Exists.intro _ (And.intro (sM [dN p.ca q.ca,dN p.sat q.sat,dN p.st q.st,dN p.sa q.sa,dN p.cb q.cb] (Nat.le_of_ble_eq_true rfl)) ?_)|refine And.intro (fun h=>?_) (fun h=>?_)|refine Or.inl ?_)
 all_goals exact Ends.mk (Or.inl rfl) (ac rfl)
theorem lr (l:List ao) (p:ao→Bool) (g:FuncId) (fv:AV) (cap:List AV) (hf:fv = .clo g cap∨(fv = .fn g∧cap=[])) (hl:l.length≤1000000)
  (hp:∀ x∈l,ae Tryz.prog g ((.agg (aO x))::cap) (.bool (p x))):ae Tryz.prog 111 [.sl .no 6 (l.map aO),fv] (.int .i64 (bC p l 0)):=by
 rcases hf with rfl | ⟨rfl,rfl⟩
 ·refine ah aa Tryz.func111 rfl (by kernel_rfl) af (Nat.le_of_ble_eq_true rfl) ?_
  intro F n' w0 m0 hG hro h1
  repeat' first|refine QS rfl hG aa gB ?_|((conv=>whnf); first|refine anF ?_|refine anT ?_|refine anK ?_|refine And.intro (fun h=>?_) (fun h=>?_)|refine Or.inl ?_)
  refine ar (X:=Nat) (fun j=>⟨[(8,.int .i64 j),(7,.int .i64 (l.map aO).length),(0,.sl .no 6 (l.map aO)),(1,.clo g cap)],[]⟩) (fun j=>j≤l.length∧bC p (l.drop j) j=bC p l 0) (fun j=>l.length - j) 0
   ⟨Nat.zero_le _,by simp⟩ (ai ?_ trivial) (fun j hj=>?_)
  ·repeat' (first | exact trivial | refine And.intro rfl ?_)
  ·obtain ⟨hj,hi⟩:=hj
   have hj2:decide ((j:Int)<((l.map aO).length:Int))=true→j<l.length:=fun h=>by have:=of_decide_eq_true h; simp at this; omega
   have hx:decide ((j:Int)<((l.map aO).length:Int))=true→(l.map aO)[(j:Int).toNat]?=some (aO (l.getD j kJ)):=fun h=>by have:=hj2 h; simp [List.getElem?_eq_getElem this]
   have hc:decide ((j:Int)<((l.map aO).length:Int))=true→ae Tryz.prog g ((.agg (aO (l.getD j kJ)))::cap) (.bool (p (l.getD j kJ))):=fun h=>hp _ (by have:=hj2 h; rw [List.getD_eq_getElem?_getD,List.getElem?_eq_getElem this]; exact List.getElem_mem this)
   repeat' first|refine QS rfl hG aa gB ?_|((conv=>whnf); first|refine anF ?_|refine anT ?_|refine anK ?_|refine And.intro (Int.natCast_nonneg j) (Exists.intro _ (And.intro (hx (by assumption)) ?_))|refine Exists.intro _ (And.intro (hc (by assumption)) ?_)|refine And.intro (fun h=>?_) (fun h=>?_)|refine Or.inl ?_)
   ·rw [aR (d:=kJ) (hj2 (by assumption)),if_pos (by assumption)] at hi
    exact Ends.mk (Or.inl rfl) (ac (congrArg (AV.int .i64) hi))
   ·have hj2:=hj2 (by assumption)
    rw [aR (d:=kJ) hj2,if_neg (fun h=>tf h (by assumption))] at hi
    refine Exists.intro (j+1) (And.intro ⟨hj2,hi⟩ (And.intro (by omega) (ai ?_ trivial)))
    refine And.intro (congrArg (fun z=>some (AV.int .i64 z)) ((am (by omega) (by omega)).trans (by omega))) ?_
    repeat' (first | exact trivial | refine And.intro rfl ?_)
   ·have hj2:l.length≤j:=by have:=of_decide_eq_false (by assumption:decide ((j:Int)<((l.map aO).length:Int))=false); simp at this; omega
    rw [List.drop_of_length_le hj2] at hi
    exact Ends.mk (Or.inl rfl) (ac (congrArg (AV.int .i64) hi))
 ·refine ah aa Tryz.func111 rfl (by kernel_rfl) af (Nat.le_of_ble_eq_true rfl) ?_
  intro F n' w0 m0 hG hro h1
  repeat' first|refine QS rfl hG aa gB ?_|((conv=>whnf); first|refine anF ?_|refine anT ?_|refine anK ?_|refine And.intro (fun h=>?_) (fun h=>?_)|refine Or.inl ?_)
  refine ar (X:=Nat) (fun j=>⟨[(8,.int .i64 j),(7,.int .i64 (l.map aO).length),(0,.sl .no 6 (l.map aO)),(1,.fn g)],[]⟩) (fun j=>j≤l.length∧bC p (l.drop j) j=bC p l 0) (fun j=>l.length - j) 0
   ⟨Nat.zero_le _,by simp⟩ (ai ?_ trivial) (fun j hj=>?_)
  ·repeat' (first | exact trivial | refine And.intro rfl ?_)
  ·obtain ⟨hj,hi⟩:=hj
   have hj2:decide ((j:Int)<((l.map aO).length:Int))=true→j<l.length:=fun h=>by have:=of_decide_eq_true h; simp at this; omega
   have hx:decide ((j:Int)<((l.map aO).length:Int))=true→(l.map aO)[(j:Int).toNat]?=some (aO (l.getD j kJ)):=fun h=>by have:=hj2 h; simp [List.getElem?_eq_getElem this]
   have hc:decide ((j:Int)<((l.map aO).length:Int))=true→ae Tryz.prog g ((.agg (aO (l.getD j kJ)))::[]) (.bool (p (l.getD j kJ))):=fun h=>hp _ (by have:=hj2 h; rw [List.getD_eq_getElem?_getD,List.getElem?_eq_getElem this]; exact List.getElem_mem this)
   repeat' first|refine QS rfl hG aa gB ?_|((conv=>whnf); first|refine anF ?_|refine anT ?_|refine anK ?_|refine And.intro (Int.natCast_nonneg j) (Exists.intro _ (And.intro (hx (by assumption)) ?_))|refine Exists.intro _ (And.intro (hc (by assumption)) ?_)|refine And.intro (fun h=>?_) (fun h=>?_)|refine Or.inl ?_)
   ·rw [aR (d:=kJ) (hj2 (by assumption)),if_pos (by assumption)] at hi
    exact Ends.mk (Or.inl rfl) (ac (congrArg (AV.int .i64) hi))
   ·have hj2:=hj2 (by assumption)
    rw [aR (d:=kJ) hj2,if_neg (fun h=>tf h (by assumption))] at hi
    refine Exists.intro (j+1) (And.intro ⟨hj2,hi⟩ (And.intro (by omega) (ai ?_ trivial)))
    refine And.intro (congrArg (fun z=>some (AV.int .i64 z)) ((am (by omega) (by omega)).trans (by omega))) ?_
    repeat' (first | exact trivial | refine And.intro rfl ?_)
   ·have hj2:l.length≤j:=by have:=of_decide_eq_false (by assumption:decide ((j:Int)<((l.map aO).length:Int))=false); simp at this; omega
    rw [List.drop_of_length_le hj2] at hi
    exact Ends.mk (Or.inl rfl) (ac (congrArg (AV.int .i64) hi))
theorem oz (l:List ao) (p:ao→Bool) (g:FuncId) (fv:AV) (cap:List AV) (hf:fv = .clo g cap∨(fv = .fn g∧cap=[])) (hl:l.length≤1000000)
  (hp:∀ x∈l,ae Tryz.prog g ((.agg (aO x))::cap) (.bool (p x))):ae Tryz.prog 63 [.sl .no 6 (l.map aO),fv] (.bool (l.any p)):=by
 rcases hf with rfl | ⟨rfl,rfl⟩
 ·refine ah aa Tryz.func63 rfl (by kernel_rfl) af (Nat.le_of_ble_eq_true rfl) ?_
  intro F n' w0 m0 hG hro h1
  repeat' first|refine QS rfl hG aa pX ?_|((conv=>whnf); first|refine anF ?_|refine anT ?_|refine anK ?_|refine Exists.intro _ (And.intro (lr l p g _ _ (Or.inl rfl) hl hp) ?_)|refine And.intro (fun h=>?_) (fun h=>?_)|refine Or.inl ?_)
  all_goals exact Ends.mk (Or.inl rfl) (ac (congrArg AV.bool (dM p l 0)))
 ·refine ah aa Tryz.func63 rfl (by kernel_rfl) af (Nat.le_of_ble_eq_true rfl) ?_
  intro F n' w0 m0 hG hro h1
  repeat' first|refine QS rfl hG aa pX ?_|((conv=>whnf); first|refine anF ?_|refine anT ?_|refine anK ?_|refine Exists.intro _ (And.intro (lr l p g _ _ (Or.inr ⟨rfl,rfl⟩) hl hp) ?_)|refine And.intro (fun h=>?_) (fun h=>?_)|refine Or.inl ?_)
  all_goals exact Ends.mk (Or.inl rfl) (ac (congrArg AV.bool (dM p l 0)))
theorem mw (l:List Opt) (p:Opt→Bool) (g:FuncId) (fv:AV) (cap:List AV) (hf:fv = .clo g cap∨(fv = .fn g∧cap=[])) (hl:l.length≤1000000)
  (hp:∀ x∈l,ae Tryz.prog g ((.agg (aA x))::cap) (.bool (p x))):ae Tryz.prog 68 [.sl .no 9 (l.map aA),fv] (.int .i64 (bC p l 0)):=by
 rcases hf with rfl | ⟨rfl,rfl⟩
 ·refine ah aa Tryz.func68 rfl (by kernel_rfl) af (Nat.le_of_ble_eq_true rfl) ?_
  intro F n' w0 m0 hG hro h1
  repeat' first|refine QS rfl hG aa iH ?_|((conv=>whnf); first|refine anF ?_|refine anT ?_|refine anK ?_|refine And.intro (fun h=>?_) (fun h=>?_)|refine Or.inl ?_)
  refine ar (X:=Nat) (fun j=>⟨[(8,.int .i64 j),(7,.int .i64 (l.map aA).length),(0,.sl .no 9 (l.map aA)),(1,.clo g cap)],[]⟩) (fun j=>j≤l.length∧bC p (l.drop j) j=bC p l 0) (fun j=>l.length - j) 0
   ⟨Nat.zero_le _,by simp⟩ (ai ?_ trivial) (fun j hj=>?_)
  ·repeat' (first | exact trivial | refine And.intro rfl ?_)
  ·obtain ⟨hj,hi⟩:=hj
   have hj2:decide ((j:Int)<((l.map aA).length:Int))=true→j<l.length:=fun h=>by have:=of_decide_eq_true h; simp at this; omega
   have hx:decide ((j:Int)<((l.map aA).length:Int))=true→(l.map aA)[(j:Int).toNat]?=some (aA (l.getD j rj)):=fun h=>by have:=hj2 h; simp [List.getElem?_eq_getElem this]
   have hc:decide ((j:Int)<((l.map aA).length:Int))=true→ae Tryz.prog g ((.agg (aA (l.getD j rj)))::cap) (.bool (p (l.getD j rj))):=fun h=>hp _ (by have:=hj2 h; rw [List.getD_eq_getElem?_getD,List.getElem?_eq_getElem this]; exact List.getElem_mem this)
   repeat' first|refine QS rfl hG aa iH ?_|((conv=>whnf); first|refine anF ?_|refine anT ?_|refine anK ?_|refine And.intro (Int.natCast_nonneg j) (Exists.intro _ (And.intro (hx (by assumption)) ?_))|refine Exists.intro _ (And.intro (hc (by assumption)) ?_)|refine And.intro (fun h=>?_) (fun h=>?_)|refine Or.inl ?_)
   ·rw [aR (d:=rj) (hj2 (by assumption)),if_pos (by assumption)] at hi
    exact Ends.mk (Or.inl rfl) (ac (congrArg (AV.int .i64) hi))
   ·have hj2:=hj2 (by assumption)
    rw [aR (d:=rj) hj2,if_neg (fun h=>tf h (by assumption))] at hi
    refine Exists.intro (j+1) (And.intro ⟨hj2,hi⟩ (And.intro (by omega) (ai ?_ trivial)))
    refine And.intro (congrArg (fun z=>some (AV.int .i64 z)) ((am (by omega) (by omega)).trans (by omega))) ?_
    repeat' (first | exact trivial | refine And.intro rfl ?_)
   ·have hj2:l.length≤j:=by have:=of_decide_eq_false (by assumption:decide ((j:Int)<((l.map aA).length:Int))=false); simp at this; omega
    rw [List.drop_of_length_le hj2] at hi
    exact Ends.mk (Or.inl rfl) (ac (congrArg (AV.int .i64) hi))
 ·refine ah aa Tryz.func68 rfl (by kernel_rfl) af (Nat.le_of_ble_eq_true rfl) ?_
  intro F n' w0 m0 hG hro h1
  repeat' first|refine QS rfl hG aa iH ?_|((conv=>whnf); first|refine anF ?_|refine anT ?_|refine anK ?_|refine And.intro (fun h=>?_) (fun h=>?_)|refine Or.inl ?_)
  refine ar (X:=Nat) (fun j=>⟨[(8,.int .i64 j),(7,.int .i64 (l.map aA).length),(0,.sl .no 9 (l.map aA)),(1,.fn g)],[]⟩) (fun j=>j≤l.length∧bC p (l.drop j) j=bC p l 0) (fun j=>l.length - j) 0
   ⟨Nat.zero_le _,by simp⟩ (ai ?_ trivial) (fun j hj=>?_)
  ·repeat' (first | exact trivial | refine And.intro rfl ?_)
  ·obtain ⟨hj,hi⟩:=hj
   have hj2:decide ((j:Int)<((l.map aA).length:Int))=true→j<l.length:=fun h=>by have:=of_decide_eq_true h; simp at this; omega
   have hx:decide ((j:Int)<((l.map aA).length:Int))=true→(l.map aA)[(j:Int).toNat]?=some (aA (l.getD j rj)):=fun h=>by have:=hj2 h; simp [List.getElem?_eq_getElem this]
   have hc:decide ((j:Int)<((l.map aA).length:Int))=true→ae Tryz.prog g ((.agg (aA (l.getD j rj)))::[]) (.bool (p (l.getD j rj))):=fun h=>hp _ (by have:=hj2 h; rw [List.getD_eq_getElem?_getD,List.getElem?_eq_getElem this]; exact List.getElem_mem this)
   repeat' first|refine QS rfl hG aa iH ?_|((conv=>whnf); first|refine anF ?_|refine anT ?_|refine anK ?_|refine And.intro (Int.natCast_nonneg j) (Exists.intro _ (And.intro (hx (by assumption)) ?_))|refine Exists.intro _ (And.intro (hc (by assumption)) ?_)|refine And.intro (fun h=>?_) (fun h=>?_)|refine Or.inl ?_)
   ·rw [aR (d:=rj) (hj2 (by assumption)),if_pos (by assumption)] at hi
    exact Ends.mk (Or.inl rfl) (ac (congrArg (AV.int .i64) hi))
   ·have hj2:=hj2 (by assumption)
    rw [aR (d:=rj) hj2,if_neg (fun h=>tf h (by assumption))] at hi
    refine Exists.intro (j+1) (And.intro ⟨hj2,hi⟩ (And.intro (by omega) (ai ?_ trivial)))
    refine And.intro (congrArg (fun z=>some (AV.int .i64 z)) ((am (by omega) (by omega)).trans (by omega))) ?_
    repeat' (first | exact trivial | refine And.intro rfl ?_)
   ·have hj2:l.length≤j:=by have:=of_decide_eq_false (by assumption:decide ((j:Int)<((l.map aA).length:Int))=false); simp at this; omega
    rw [List.drop_of_length_le hj2] at hi
    exact Ends.mk (Or.inl rfl) (ac (congrArg (AV.int .i64) hi))
theorem jp (l:List Opt) (p:Opt→Bool) (g:FuncId) (fv:AV) (cap:List AV) (hf:fv = .clo g cap∨(fv = .fn g∧cap=[])) (hl:l.length≤1000000)
  (hp:∀ x∈l,ae Tryz.prog g ((.agg (aA x))::cap) (.bool (p x))):ae Tryz.prog 40 [.sl .no 9 (l.map aA),fv] (.bool (l.any p)):=by
 rcases hf with rfl | ⟨rfl,rfl⟩
 ·refine ah aa Tryz.func40 rfl (by kernel_rfl) af (Nat.le_of_ble_eq_true rfl) ?_
  intro F n' w0 m0 hG hro h1
  repeat' first|refine QS rfl hG aa pY ?_|((conv=>whnf); first|refine anF ?_|refine anT ?_|refine anK ?_|refine Exists.intro _ (And.intro (mw l p g _ _ (Or.inl rfl) hl hp) ?_)|refine And.intro (fun h=>?_) (fun h=>?_)|refine Or.inl ?_)
  all_goals exact Ends.mk (Or.inl rfl) (ac (congrArg AV.bool (dM p l 0)))
 ·refine ah aa Tryz.func40 rfl (by kernel_rfl) af (Nat.le_of_ble_eq_true rfl) ?_
  intro F n' w0 m0 hG hro h1
  repeat' first|refine QS rfl hG aa pY ?_|((conv=>whnf); first|refine anF ?_|refine anT ?_|refine anK ?_|refine Exists.intro _ (And.intro (mw l p g _ _ (Or.inr ⟨rfl,rfl⟩) hl hp) ?_)|refine And.intro (fun h=>?_) (fun h=>?_)|refine Or.inl ?_)
  all_goals exact Ends.mk (Or.inl rfl) (ac (congrArg AV.bool (dM p l 0)))
def Er (l:List ao):Bool:=(List.range (l.length - 1)).all fun i => !decide (qm (aD l (i+1)) (aD l i)<0)
theorem eB {l:List ao} {i:Nat} (h:i<l.length):(l.map aO)[i]?=some (aO (aD l i)):=by simp [aD,List.getElem?_eq_getElem h]
set_option maxHeartbeats 4000000 in
theorem tj (l:List ao) (hl:l.length≤1000000):ae Tryz.prog 66 [ay l,.fn 67] (.bool (Er l)):=by
 refine ah aa Tryz.func66 rfl (by kernel_rfl) af (Nat.le_of_ble_eq_true rfl) ?_
 intro F n' w0 m0 hG hro h1
 repeat' first|refine QS rfl hG aa lh ?_|((conv=>whnf); first|refine anF ?_|refine anT ?_|refine anK ?_|refine And.intro (fun h=>?_) (fun h=>?_)|refine Or.inl ?_)
 refine ar (X:=Int) (fun i=>⟨[(5,.int .i64 i),(0,ay l),(1,.fn 67)],[]⟩)
  (fun i => -1≤i∧i≤(l.length:Int) - 1∧∀ j:Nat,i≤(j:Int)→(j:Int)<(l.length:Int) - 1→decide (qm (aD l (j+1)) (aD l j)<0)=false) (fun i=>(i+1).toNat) (IntKind.i64.wrap (((l.map aO).length:Int) - 1)) ?_ (ai ?_ ?_) (fun i hi=>?_)
 ·rw [show IntKind.i64.wrap (((l.map aO).length:Int) - 1)=(l.length:Int) - 1 by rw [List.length_map]; exact am (by omega) (by omega)]
  exact ⟨by omega,by omega,fun j h1 h2=>by omega⟩
 ·repeat' (first | exact trivial | refine And.intro rfl ?_)
 ·repeat' (first | exact trivial | refine And.intro rfl ?_)
 ·obtain ⟨h1,h2,h3⟩:=hi
  by_cases hp:i>0
  ·obtain ⟨j,rfl⟩:∃ j:Nat,i=((j+1:Nat):Int):=⟨(i - 1).toNat,by omega⟩
   have hw:IntKind.i64.wrap (((j+1:Nat):Int) - 1)=(j:Int):=(am (by omega) (by omega)).trans (by omega)
   have hx:=eB (l:=l) (i:=j+1) (by omega)
   have hy:=eB (l:=l) (i:=j) (by omega)
   have hy':(l.map aO)[(IntKind.i64.wrap (((j+1:Nat):Int) - 1)).toNat]?=some (aO (aD l j)):=by rw [hw]; exact hy
   have h0:0≤IntKind.i64.wrap (((j+1:Nat):Int) - 1):=by rw [hw]; exact Int.natCast_nonneg j
   have bb:decide (((j+1:Nat):Int)>0)=false→False:=fun h=>by have:=of_decide_eq_false h; omega
   repeat' first|exact (bb (by assumption)).elim|refine QS rfl hG aa lh ?_|((conv=>whnf); first|refine anF ?_|refine anT ?_|refine anK ?_|refine And.intro (Int.natCast_nonneg (j+1)) (Exists.intro _ (And.intro hx ?_))|refine And.intro h0 (Exists.intro _ (And.intro hy' ?_))|refine Exists.intro _ (And.intro (pm _ _) ?_)|refine And.intro (fun h=>?_) (fun h=>?_)|refine Or.inl ?_)
   ·refine Ends.mk (Or.inl rfl) (ac (congrArg AV.bool ?_))
    symm
    unfold Er
    rw [List.all_eq_false]
    exact ⟨j,List.mem_range.2 (by omega),by
     have hb:=(by assumption:decide (qm (aD l (j+1)) (aD l j)<0)=true)
     rw [hb]; simp⟩
   ·refine Exists.intro (IntKind.i64.wrap (((j+1:Nat):Int) - 1)) (And.intro ?_ (And.intro ?_ (ai ?_ ?_)))
    ·rw [hw]
     refine ⟨by omega,by omega,fun k g1 g2=>?_⟩
     by_cases hk:k=j
     ·rw [hk]; assumption
     ·exact h3 k (by omega) g2
    ·rw [hw]; omega
    ·repeat' (first | exact trivial | refine And.intro rfl ?_)
    ·repeat' (first | exact trivial | refine And.intro rfl ?_)
  ·have bb:decide (i>0)=true→False:=fun h=>hp (of_decide_eq_true h)
   repeat' first|exact (bb (by assumption)).elim|refine QS rfl hG aa lh ?_|((conv=>whnf); first|refine anF ?_|refine anT ?_|refine anK ?_|refine And.intro (fun h=>?_) (fun h=>?_)|refine Or.inl ?_)
   refine Ends.mk (Or.inl rfl) (ac (congrArg AV.bool ?_))
   symm
   unfold Er
   rw [List.all_eq_true]
   intro j hj
   have:=List.mem_range.1 hj
   rw [h3 j (by omega) (by omega)]; rfl
def cH (l:List ao):Bool:=decide (l.length≤64) && !(l.any fun p => !cU p)&&Er l
theorem ey (l:List ao) (hl:l.length≤1000000):ae Tryz.prog 39 [ay l] (.bool (cH l)):=by
 have hlm:decide (((l.map aO).length:Int)≤64)=decide (l.length≤64):=by rw [List.length_map]; exact decide_eq_decide.2 (by omega)
 refine ah aa Tryz.func39 rfl (by kernel_rfl) af (Nat.le_of_ble_eq_true rfl) ?_
 intro F n' w0 m0 hG hro h1
 repeat' first|refine QS rfl hG aa zj ?_|((conv=>whnf); first|refine anF ?_|refine anT ?_|refine anK ?_|refine Exists.intro _ (And.intro (oz l (fun p => !cU p) 64 _ [] (Or.inr ⟨rfl,rfl⟩) hl (fun p _=>vu p)) ?_)|refine Exists.intro _ (And.intro (tj l hl) ?_)|refine And.intro (fun h=>?_) (fun h=>?_)|refine Or.inl ?_)
 all_goals refine Ends.mk (Or.inl rfl) (ac (congrArg AV.bool ?_))
 all_goals (unfold cH; rw [← hlm]; clear hlm; simp only [*,Bool.true_and,Bool.and_true,Bool.false_and,Bool.and_false])
end Go.Proofs
namespace Go.Proofs
open Go Go.AI
set_option maxRecDepth 10000
def ez (s:Nat→Int) (ps:List ao) (size t:Int) (x:aS):Bool:=
 inS x.p 0 (w64 ((ps.length:Int) - 1))&&((((aD ps x.p.toNat).sat==s 0)&&decide (x.a≥max t (aD ps x.p.toNat).sa)&&decide (x.b≤(aD ps x.p.toNat).sb)&&decide (x.a<x.b)) &&
  !decide (w64 (w64 (x.b - x.a)*s 20)<size))
def bj (s:Nat→Int) (ps:List ao) (size:Int):Int→List aS→Bool
 | _,[]=>true
 | t,x::r=>ez s ps size t x&&bj s ps size x.b r
def mm (s:Nat→Int) (o:Opt):Bool:=inS o.id 0 63&&inS o.ord 0 63&&inS o.cl 0 11&&(o.sat==s 0)&&inS o.size 1 (s 10)
def pz (s:Nat→Int) (o:Opt):Bool:=oG (jb s) o.a o.b o.look&&inS o.look (w64 (0 - s 9)) (s 9)&&decide (o.b≤1000000)
def cY (s:Nat→Int) (o:Opt) (ps:List ao):Bool:=mm s o&&pz s o&&inS (o.sl.length:Int) 1 6&&bj s ps o.size o.b o.sl
theorem nl {s:Nat→Int} {ps:List ao} {z t:Int} {l:List aS} {i:Nat} (h:i<l.length):bj s ps z t (l.drop i)=(ez s ps z t (l.getD i ⟨0,0,0⟩)&&bj s ps z (l.getD i ⟨0,0,0⟩).b (l.drop (i+1))):=by
 rw [List.drop_eq_getElem_cons h,List.getD_eq_getElem?_getD,List.getElem?_eq_getElem h]; rfl
set_option maxHeartbeats 16000000 in
theorem D4 (s:Nat→Int) (o:Opt) (ps:List ao) (hl:o.sl.length≤1000000) (hps:ps.length≤1000000):ae Tryz.prog 78 [.agg (cJ s),.agg (aA o),ay ps] (.bool (cY s o ps)):=by
 have hlm:((o.sl.map ax).length:Int)=(o.sl.length:Int):=by rw [List.length_map]
 have hpm:((ps.map aO).length:Int)=(ps.length:Int):=by rw [List.length_map]
 refine ah aa Tryz.func78 rfl (by kernel_rfl) af (Nat.le_of_ble_eq_true rfl) ?_
 intro F n' w0 m0 hG hro h1
 refine Q1 ?_
 refine Q4 hG aa dp (by kernel_rfl) ?_
 conv=>whnf
 refine Q1 ?_
 refine SPB.cut (X:=Unit) (fun _=>⟨[(7,.bool (mm s o)),(6,.bool false),(4,.loc 4 0),(3,.loc 3 0),(2,ay ps)],[(4,aA o),(3,cJ s)]⟩) (fun _=>True) ?_ (fun _ _=>?_)
 ·refine Q4 hG aa dp (by kernel_rfl) ?_
  repeat' first|refine QS rfl hG aa dp ?_|((conv=>whnf); first|refine anF ?_|refine anT ?_|refine anK ?_|refine Exists.intro _ (And.intro (jo _ _ _) ?_)|refine And.intro (fun h=>?_) (fun h=>?_)|refine Or.inl ?_)
  all_goals refine Exists.intro () (And.intro trivial (ai (And.intro (congrArg (fun z=>some (AV.bool z)) ?_) ?_) ?_))
  all_goals first
   |(simp only [mm, *,Bool.true_and,Bool.and_true,Bool.false_and,Bool.and_false,Bool.true_or,Bool.or_true,Bool.false_or,Bool.or_false,Bool.not_true,Bool.not_false]; done)
   |(repeat' (first | exact trivial | refine And.intro rfl ?_))
 conv=>whnf
 refine Q1 ?_
 refine SPB.cut (X:=Unit) (fun _=>⟨[(8,.bool (pz s o)),(7,.bool (mm s o)),(6,.bool false),(4,.loc 4 0),(3,.loc 3 0),(2,ay ps)],[(4,aA o),(3,cJ s)]⟩) (fun _=>True) ?_ (fun _ _=>?_)
 ·refine Q4 hG aa dp (by kernel_rfl) ?_
  repeat' first|refine QS rfl hG aa dp ?_|((conv=>whnf); first|refine anF ?_|refine anT ?_|refine anK ?_|refine Exists.intro _ (And.intro (jo _ _ _) ?_)|refine Exists.intro _ (And.intro (Dw (jb s) _ _ _) ?_)|refine And.intro (fun h=>?_) (fun h=>?_)|refine Or.inl ?_)
  all_goals refine Exists.intro () (And.intro trivial (ai (And.intro (congrArg (fun z=>some (AV.bool z)) ?_) ?_) ?_))
  all_goals first
   |(simp only [pz,w64, *,Bool.true_and,Bool.and_true,Bool.false_and,Bool.and_false,Bool.true_or,Bool.or_true,Bool.false_or,Bool.or_false,Bool.not_true,Bool.not_false]; done)
   |(repeat' (first | exact trivial | refine And.intro rfl ?_))
 conv=>whnf
 repeat' first|refine QS rfl hG aa dp ?_|((conv=>whnf); first|refine anF ?_|refine anT ?_|refine anK ?_|refine Exists.intro _ (And.intro (jo _ _ _) ?_)|refine And.intro (fun h=>?_) (fun h=>?_)|refine Or.inl ?_)
 ·refine Ends.mk (Or.inl rfl) (ac (congrArg AV.bool ?_))
  simp only [cY,Ho (by assumption:(!mm s o)=true),Bool.false_and]
 ·refine Ends.mk (Or.inl rfl) (ac (congrArg AV.bool ?_))
  simp only [cY,Ho (by assumption:(!pz s o)=true),Bool.false_and,Bool.and_false]
 ·refine Ends.mk (Or.inl rfl) (ac (congrArg AV.bool ?_))
  have h:=Ho (by assumption:(!inS (((o.sl.map ax).length:Nat):Int) 1 6)=true)
  rw [hlm] at h
  simp only [cY,h,Bool.false_and,Bool.and_false]
 ·have q1:=sZ (by assumption:(!mm s o)=false)
  have q2:=sZ (by assumption:(!pz s o)=false)
  have q3:=sZ (by assumption:(!inS (((o.sl.map ax).length:Nat):Int) 1 6)=false)
  rw [hlm] at q3
  have hfit:cY s o ps=bj s ps o.size o.b o.sl:=by simp only [cY,q1,q2,q3,Bool.true_and]
  rw [hfit]
  refine ar (X:=Nat×Int) (fun q=>⟨[(83,.int .i64 q.1),(82,.int .i64 (o.sl.map ax).length),(81,.sl .no 3 (o.sl.map ax)),(9,.int .i64 q.2),(6,.bool false),(4,.loc 4 0),(3,.loc 3 0),(2,ay ps)],[(4,aA o),(3,cJ s)]⟩)
   (fun q=>q.1≤o.sl.length∧bj s ps o.size q.2 (o.sl.drop q.1)=bj s ps o.size o.b o.sl) (fun q=>o.sl.length - q.1) (0,o.b) ⟨Nat.zero_le _,rfl⟩ (ai ?_ ?_) (fun q hq=>?_)
  ·repeat' (first | exact trivial | refine And.intro rfl ?_)
  ·repeat' (first | exact trivial | refine And.intro rfl ?_)
  ·obtain ⟨i,t⟩:=q
   obtain ⟨hi,hf⟩:=hq
   have hi:i≤o.sl.length:=hi
   have hf:bj s ps o.size t (o.sl.drop i)=bj s ps o.size o.b o.sl:=hf
   by_cases hlt:i<o.sl.length
   ·have bbk:decide ((i:Int)<((o.sl.map ax).length:Int))=false→False:=fun h=>by have:=of_decide_eq_false h; omega
    have hx:=eR hlt
    rw [nl hlt] at hf
    generalize o.sl.getD i ⟨0,0,0⟩=x at hx hf
    have bad:ez s ps o.size t x=false→false=bj s ps o.size o.b o.sl:=fun h=>by rw [← hf,h,Bool.false_and]
    have hin:(!inS x.p 0 (IntKind.i64.wrap (((ps.map aO).length:Int) - 1)))=false→0≤x.p∧(ps.map aO)[x.p.toNat]?=some (aO (aD ps x.p.toNat)):=fun h=>by
     have h:=sZ h
     rw [hpm,show IntKind.i64.wrap ((ps.length:Int) - 1)=(ps.length:Int) - 1 from am (by omega) (by omega)] at h
     simp only [inS,Bool.and_eq_true,decide_eq_true_eq] at h
     exact ⟨h.1,eB (by omega)⟩
    have hpm':w64 ((ps.length:Int) - 1)=IntKind.i64.wrap (((ps.map aO).length:Int) - 1):=by rw [hpm]; rfl
    repeat' first|exact (bbk (by assumption)).elim|refine QS rfl hG aa dp ?_|((conv=>whnf); first|refine anF ?_|refine anT ?_|refine anK ?_|refine And.intro (Int.natCast_nonneg i) (Exists.intro _ (And.intro hx ?_))|refine Exists.intro _ (And.intro (jo _ _ _) ?_)|refine And.intro (hin (by assumption)).1 (Exists.intro _ (And.intro (hin (by assumption)).2 ?_))|refine And.intro (fun h=>?_) (fun h=>?_)|refine Or.inl ?_)
    rotate_left 3
    ·have hok:ez s ps o.size t x=true:=by
      (try simp only [Bool.not_eq_true',Bool.not_eq_false',cond_true] at *)
      unfold ez w64
      unfold w64 at hpm'
      rw [hpm']
      simp only [*,Bool.true_and,Bool.and_true,Bool.false_and,Bool.and_false,Bool.true_or,Bool.or_true,Bool.false_or,Bool.or_false,Bool.not_true,Bool.not_false]
     refine Exists.intro (i+1,x.b) (And.intro ⟨hlt,?_⟩ (And.intro (by show o.sl.length - (i+1)<o.sl.length - i; omega) (ai ?_ ?_)))
     ·show bj s ps o.size x.b (o.sl.drop (i+1))=_
      rw [← hf,hok,Bool.true_and]
     ·refine And.intro (congrArg some (aq (by omega))) ?_
      repeat' (first | exact trivial | refine And.intro rfl ?_)
     ·repeat' (first | exact trivial | refine And.intro rfl ?_)
    all_goals refine Ends.mk (Or.inl rfl) (ac (congrArg AV.bool (bad ?_)))
    all_goals (try simp only [Bool.not_eq_true',Bool.not_eq_false',cond_true] at *)
    all_goals (unfold ez w64; unfold w64 at hpm'; rw [hpm']; simp only [*,Bool.true_and,Bool.and_true,Bool.false_and,Bool.and_false,Bool.true_or,Bool.or_true,Bool.false_or,Bool.or_false,Bool.not_true,Bool.not_false])
   ·have hge:i=o.sl.length:=by omega
    have bbk:decide ((i:Int)<((o.sl.map ax).length:Int))=true→False:=fun h=>by have:=of_decide_eq_true h; omega
    rw [List.drop_of_length_le (by omega)] at hf
    repeat' first|exact (bbk (by assumption)).elim|refine QS rfl hG aa dp ?_|((conv=>whnf); first|refine anF ?_|refine anT ?_|refine anK ?_|refine And.intro (fun h=>?_) (fun h=>?_)|refine Or.inl ?_)
    exact Ends.mk (Or.inl rfl) (ac (congrArg AV.bool hf))
def nI (s:Nat→Int) (ps:List ao) (a b:Int) (pre:List Opt) (o:Opt):Bool:=cY s o ps && !decide (o.a<a) && !decide (fk o>b) && !(pre.any fun p=>p.id==o.id)
def eo (s:Nat→Int) (ps:List ao) (a b:Int):List Opt→List Opt→Bool
 | _,[]=>true
 | pre,o::r=>nI s ps a b pre o&&eo s ps a b (pre++[o]) r
theorem xB {s:Nat→Int} {ps:List ao} {a b:Int} {l:List Opt} {i:Nat} (h:i<l.length):eo s ps a b (l.take i) (l.drop i)=(nI s ps a b (l.take i) (ap l i)&&eo s ps a b (l.take (i+1)) (l.drop (i+1))):=by
 rw [List.drop_eq_getElem_cons h,eo,bN h,List.take_add_one,List.getElem?_eq_getElem h]; rfl
def a8 (s:Nat→Int) (l:List Opt) (ps:List ao) (a b:Int):Bool:=decide (l.length≤8)&&cK a b && !decide (w64 (b - a)>3000)&&gI s&&cH ps&&eo s ps a b [] l
theorem Dz (o p:Opt):ae Tryz.prog 77 [.agg (aA p),.ref (aA o)] (.bool (p.id==o.id)):=by
 refine ah aa Tryz.func77 rfl (by kernel_rfl) af (Nat.le_of_ble_eq_true rfl) ?_
 intro F n' w0 m0 hG hro h1
 repeat' first|refine QS rfl hG aa yV ?_|((conv=>whnf); first|refine anF ?_|refine anT ?_|refine anK ?_|refine And.intro (fun h=>?_) (fun h=>?_)|refine Or.inl ?_)
 all_goals exact Ends.mk (Or.inl rfl) (ac rfl)
theorem fX {l:List Opt} {i:Nat} (h:i<l.length):(l.map aA)[(i:Int).toNat]?=some (aA (ap l i)):=by simp [ap,List.getElem?_eq_getElem h]
theorem yf {s:Nat→Int} {o:Opt} {ps:List ao} (h:cY s o ps=true):1≤o.sl.length∧o.sl.length≤6:=by
 simp only [cY,inS,Bool.and_eq_true,decide_eq_true_eq] at h
 omega
end Go.Proofs
namespace Go.Proofs
open Go Go.AI
set_option maxRecDepth 10000
def ku (l:List Opt):Prop:=∀ o∈l,o.sl.length≤1000000
set_option maxHeartbeats 16000000 in
theorem A0 (s:Nat→Int) (l:List Opt) (ps:List ao) (a b:Int) (hl:l.length≤1000000) (hs:ku l) (hps:ps.length≤1000000):ae Tryz.prog 45 [.agg (cJ s),aZ l,ay ps,.agg (bp a b)] (.bool (a8 s l ps a b)):=by
 have hlm:((l.map aA).length:Int)=(l.length:Int):=by rw [List.length_map]
 have hn8:decide (l.length≤8) = !decide (((l.map aA).length:Int)>8):=by rw [hlm]; by_cases h:l.length≤8 <;> simp [h] <;> omega
 refine ah aa Tryz.func45 rfl (by kernel_rfl) af (Nat.le_of_ble_eq_true rfl) ?_
 intro F n' w0 m0 hG hro h1
 repeat' first|refine QS rfl hG aa lk ?_|((conv=>whnf); first|refine anF ?_|refine anT ?_|refine anK ?_|refine Exists.intro _ (And.intro (sq _ _) ?_)|refine Exists.intro _ (And.intro (zJ s) ?_)|refine Exists.intro _ (And.intro (ey ps hps) ?_)|refine And.intro (fun h=>?_) (fun h=>?_)|refine Or.inl ?_)
 rotate_left 5
 ·have c1:l.length≤8:=by
   have h:=(by assumption:decide (((l.map aA).length:Int)>8)=false)
   have h2:=hn8; rw [h] at h2; simpa using h2
  have hv:a8 s l ps a b=eo s ps a b [] l:=by
   have c2:=sZ (by assumption:(!cK a b)=false)
   have c3:=sZ (by assumption:(!gI s)=false)
   have c4:=sZ (by assumption:(!cH ps)=false)
   have c5:decide (w64 (b - a)>3000)=false:=(by assumption:decide (IntKind.i64.wrap (b - a)>3000)=false)
   simp only [a8,decide_eq_true c1,c2,c3,c4,c5,Bool.true_and,Bool.not_false,Bool.and_true]
  rw [hv]
  refine ar (X:=Nat) (fun i=>⟨[(40,.int .i64 i),(39,.int .i64 (l.map aA).length),(38,aZ l),(8,.bool false),(7,.loc 7 0),(4,.loc 4 0),(2,ay ps),(1,aZ l)],[(7,bp a b),(4,cJ s)]⟩)
   (fun i=>i≤l.length∧eo s ps a b (l.take i) (l.drop i)=eo s ps a b [] l) (fun i=>l.length - i) 0 ⟨Nat.zero_le _,rfl⟩ (ai ?_ ?_) (fun i hi=>?_)
  ·repeat' (first | exact trivial | refine And.intro rfl ?_)
  ·repeat' (first | exact trivial | refine And.intro rfl ?_)
  ·obtain ⟨hi,hok⟩:=hi
   by_cases hlt:i<l.length
   ·have bbk:decide ((i:Int)<((l.map aA).length:Int))=false→False:=fun h=>by have:=of_decide_eq_false h; omega
    have hx:=fX hlt
    rw [xB hlt] at hok
    have hsx:(ap l i).sl.length≤1000000:=hs _ (by rw [bN hlt]; exact List.getElem_mem hlt)
    generalize ap l i=x at hx hok hsx
    have hle:(i:Int).toNat≤(l.map aA).length:=by simp; exact hi
    have he:((l.map aA).take (i:Int).toNat).drop 0=(l.take i).map aA:=by simp [List.map_take]
    have h88:=jp (l.take i) (fun p=>p.id==x.id) 77 _ [.ref (aA x)] (Or.inl rfl) (by simp; omega) (fun y _=>Dz x y)
    rw [← he] at h88
    have hlast:(!cY s x ps)=false→0≤IntKind.i64.wrap (((x.sl.map ax).length:Int) - 1)∧(x.sl.map ax)[(IntKind.i64.wrap (((x.sl.map ax).length:Int) - 1)).toNat]?=some [.int .i64 (aN x (x.sl.length - 1)).p,.int .i64 (aN x (x.sl.length - 1)).a,.int .i64 (fk x)]:=fun h=>by
     have hn:=yf (sZ h)
     rw [List.length_map,show IntKind.i64.wrap ((x.sl.length:Int) - 1)=((x.sl.length - 1:Nat):Int) from (am (by omega) (by omega)).trans (by omega)]
     exact ⟨Int.natCast_nonneg _,eR (by omega)⟩
    repeat' first|exact (bbk (by assumption)).elim|refine QS rfl hG aa lk ?_|((conv=>whnf); first|refine anF ?_|refine anT ?_|refine anK ?_|refine And.intro (Int.natCast_nonneg i) (Exists.intro _ (And.intro hx ?_))|refine Exists.intro _ (And.intro (D4 s _ ps hsx hps) ?_)|refine Exists.intro _ (And.intro (h88) ?_)|refine And.intro (hlast (by assumption)).1 (Exists.intro _ (And.intro (hlast (by assumption)).2 ?_))|refine And.intro (Int.natCast_nonneg i) (And.intro (Nat.zero_le _) (And.intro hle ?_))|refine And.intro (fun h=>?_) (fun h=>?_)|refine Or.inl ?_)
    all_goals first
     |(refine Ends.mk (Or.inl rfl) (ac (congrArg AV.bool ?_))
       have hb:nI s ps a b (l.take i) x=false:=by
        (try simp only [Bool.not_eq_true',Bool.not_eq_false'] at *)
        unfold nI
        simp only [*,Bool.true_and,Bool.and_true,Bool.false_and,Bool.and_false,Bool.true_or,Bool.or_true,Bool.false_or,Bool.or_false,Bool.not_true,Bool.not_false]
       rw [← hok,hb,Bool.false_and])
     | skip
    have hb:nI s ps a b (l.take i) x=true:=by
     (try simp only [Bool.not_eq_true',Bool.not_eq_false'] at *)
     unfold nI
     simp only [*,Bool.true_and,Bool.and_true,Bool.false_and,Bool.and_false,Bool.true_or,Bool.or_true,Bool.false_or,Bool.or_false,Bool.not_true,Bool.not_false]
    rw [hb,Bool.true_and] at hok
    refine Exists.intro (i+1) (And.intro ⟨hlt,hok⟩ (And.intro (by omega) (ai ?_ ?_)))
    ·refine And.intro (congrArg some (aq (by omega))) ?_
     repeat' (first | exact trivial | refine And.intro rfl ?_)
    ·repeat' (first | exact trivial | refine And.intro rfl ?_)
   ·have bbk:decide ((i:Int)<((l.map aA).length:Int))=true→False:=fun h=>by have:=of_decide_eq_true h; omega
    rw [List.drop_of_length_le (by omega)] at hok
    repeat' first|exact (bbk (by assumption)).elim|refine QS rfl hG aa lk ?_|((conv=>whnf); first|refine anF ?_|refine anT ?_|refine anK ?_|refine And.intro (fun h=>?_) (fun h=>?_)|refine Or.inl ?_)
    exact Ends.mk (Or.inl rfl) (ac (congrArg AV.bool hok))
 all_goals refine Ends.mk (Or.inl rfl) (ac (congrArg AV.bool ?_))
 all_goals ((try simp only [Bool.not_eq_true',Bool.not_eq_false'] at *); unfold a8 w64; rw [hn8]; clear hlm; simp only [*,Bool.true_and,Bool.and_true,Bool.false_and,Bool.and_false,Bool.true_or,Bool.or_true,Bool.false_or,Bool.or_false,Bool.not_true,Bool.not_false])
end Go.Proofs
namespace Go.Proofs
open Go Go.AI
set_option maxRecDepth 10000
theorem DA (l:List Opt):ae Tryz.prog 100 [aZ l] (.clo 132 [.ref [aZ l]]):=by
 refine ah aa Tryz.func100 rfl (by kernel_rfl) af (Nat.le_of_ble_eq_true rfl) ?_
 intro F n' w0 m0 hG hro h1
 repeat' first|refine QS rfl hG aa wz ?_|((conv=>whnf); first|refine anF ?_|refine anT ?_|refine anK ?_|refine And.intro (fun h=>?_) (fun h=>?_)|refine Or.inl ?_)
 all_goals exact Ends.mk (Or.inl rfl) (ac rfl)
def spA (x:Int×Int):List AV:=[.agg (bp x.1 x.2)]
theorem tG {l:List Opt} {i:Nat} (h:i<l.length):dn (l.take (i+1))=dn (l.take i)++slP (ap l i):=by
 rw [List.take_add_one,List.getElem?_eq_getElem h,bN h]
 simp only [dn,List.flatMap_append,Option.toList_some,List.flatMap_cons,List.flatMap_nil,List.append_nil,slP]
theorem Ez {l:List Opt} {i j:Nat} (h:i<l.length) (hj:j<(ap l i).sl.length):(dn l)[(dn (l.take i)).length+j]?=some ((aN (ap l i) j).a,(aN (ap l i) j).b):=by
 have e:dn l=dn (l.take (i+1))++dn (l.drop (i+1)):=by
  conv=>lhs; rw [← List.take_append_drop (i+1) l]
  simp only [dn,List.flatMap_append]
 have h1:j<(slP (ap l i)).length:=by simpa [slP] using hj
 rw [e,tG h,List.append_assoc,List.getElem?_append_right (by omega),Nat.add_sub_cancel_left,List.getElem?_append_left h1]
 simp [slP,aN,List.getElem?_eq_getElem hj]
set_option maxHeartbeats 8000000 in
theorem vm (l:List Opt) (hl:l.length≤1000000) (hs:ku l):kf Tryz.prog spA 132 [.ref [aZ l]] (dn l):=by
 refine kf.of Tryz.func132 rfl (by kernel_rfl) af (Nat.le_of_ble_eq_true rfl) rfl ?_
 intro F n m y J Jx hY
 repeat' first|refine MPB.seq ?_|refine MPB.block ?_|refine MPB.reg hY aa dI (by kernel_rfl) ?_|refine MPB.skip ?_|refine MPB.label ?_|refine MPB.ret ?_|refine MPB.exit ?_|refine MPB.condT rfl ?_|refine MPB.condF rfl ?_|refine MPB.cond rfl (And.intro (fun h=>?_) (fun h=>?_))|((conv=>whnf); first|refine anF ?_|refine anT ?_|refine anK ?_|refine And.intro (fun h=>?_) (fun h=>?_)|refine Or.inl ?_)
 refine MPB.loop (X:=Nat) (fun i=>((false,(dn (l.take i)).length),⟨[(9,.int .i64 i),(8,.int .i64 (l.map aA).length),(7,aZ l),(0,.lit (.func (.yield y) #[] #[]))],[]⟩)) (fun i=>i≤l.length) (fun i=>l.length - i) 0 (Nat.zero_le _) rfl (ai ?_ ?_) (fun i hi=>?_)
 ·repeat' (first | exact trivial | refine And.intro rfl ?_)
 ·repeat' (first | exact trivial | refine And.intro rfl ?_)
 ·by_cases hlt:i<l.length
  ·have bbk:decide ((i:Int)<((l.map aA).length:Int))=false→False:=fun h=>by have:=of_decide_eq_false h; simp at this; omega
   have hx:=fX hlt
   have hsx:(ap l i).sl.length≤1000000:=hs _ (by rw [bN hlt]; exact List.getElem_mem hlt)
   have hget:=fun (j:Nat) (hj:j<(ap l i).sl.length)=>Ez hlt hj
   have htk:(dn (l.take (i+1))).length=(dn (l.take i)).length+(ap l i).sl.length:=by rw [tG hlt]; simp [slP]
   generalize ap l i=x at hx hsx hget htk
   have hlm:((x.sl.map ax).length:Int)=(x.sl.length:Int):=by rw [List.length_map]
   repeat' first|exact (bbk (by assumption)).elim|refine MPB.seq ?_|refine MPB.block ?_|refine MPB.reg hY aa dI (by kernel_rfl) ?_|refine MPB.skip ?_|refine MPB.label ?_|refine MPB.ret ?_|refine MPB.exit ?_|refine MPB.condT rfl ?_|refine MPB.condF rfl ?_|refine MPB.cond rfl (And.intro (fun h=>?_) (fun h=>?_))|((conv=>whnf); first|refine anF ?_|refine anT ?_|refine anK ?_|refine And.intro (Int.natCast_nonneg i) (Exists.intro _ (And.intro hx ?_))|refine And.intro (fun h=>?_) (fun h=>?_)|refine Or.inl ?_)
   refine MPB.loop (X:=Nat) (fun j=>((false,(dn (l.take i)).length+j),⟨[(16,.int .i64 j),(15,.int .i64 (x.sl.map ax).length),(14,.sl .no 3 (x.sl.map ax)),(9,.int .i64 i),(8,.int .i64 (l.map aA).length),(7,aZ l),(0,.lit (.func (.yield y) #[] #[]))],[]⟩)) (fun j=>j≤x.sl.length) (fun j=>x.sl.length - j) 0 (Nat.zero_le _) rfl (ai ?_ ?_) (fun j hj=>?_)
   ·repeat' (first | exact trivial | refine And.intro rfl ?_)
   ·repeat' (first | exact trivial | refine And.intro rfl ?_)
   ·by_cases hjl:j<x.sl.length
    ·have bbj:decide ((j:Int)<((x.sl.map ax).length:Int))=false→False:=fun h=>by have:=of_decide_eq_false h; omega
     have hy:=eR hjl
     have hg:=hget j hjl
     have hsl:x.sl.getD j ⟨0,0,0⟩=aN x j:=rfl
     rw [hsl] at hy
     generalize aN x j=z at hy hg
     repeat' first|exact (bbj (by assumption)).elim|refine MPB.seq ?_|refine MPB.block ?_|refine MPB.reg hY aa dI (by kernel_rfl) ?_|refine MPB.skip ?_|refine MPB.label ?_|refine MPB.ret ?_|refine MPB.exit ?_|refine MPB.condT rfl ?_|refine MPB.condF rfl ?_|refine MPB.cond rfl (And.intro (fun h=>?_) (fun h=>?_))|((conv=>whnf); first|refine anF ?_|refine anT ?_|refine anK ?_|refine And.intro (Int.natCast_nonneg j) (Exists.intro _ (And.intro hy ?_))|refine And.intro (fun h=>?_) (fun h=>?_)|refine Or.inl ?_)
     refine Exists.intro (z.a,z.b) (And.intro hg (And.intro rfl (fun t ht=>?_)))
     subst ht
     refine And.intro ?_ ?_
     ·repeat' first|refine MPB.seq ?_|refine MPB.block ?_|refine MPB.reg hY aa dI (by kernel_rfl) ?_|refine MPB.skip ?_|refine MPB.label ?_|refine MPB.ret ?_|refine MPB.exit ?_|refine MPB.condT rfl ?_|refine MPB.condF rfl ?_|refine MPB.cond rfl (And.intro (fun h=>?_) (fun h=>?_))|((conv=>whnf); first|refine anF ?_|refine anT ?_|refine anK ?_|refine And.intro (fun h=>?_) (fun h=>?_)|refine Or.inl ?_)
      refine Exists.intro (j+1) (And.intro hjl (And.intro (by omega) (And.intro rfl (ai ?_ ?_))))
      ·refine And.intro (congrArg some (aq (by omega))) ?_
       repeat' (first | exact trivial | refine And.intro rfl ?_)
      ·repeat' (first | exact trivial | refine And.intro rfl ?_)
     ·repeat' first|refine MPB.seq ?_|refine MPB.block ?_|refine MPB.reg hY aa dI (by kernel_rfl) ?_|refine MPB.skip ?_|refine MPB.label ?_|refine MPB.ret ?_|refine MPB.exit ?_|refine MPB.condT rfl ?_|refine MPB.condF rfl ?_|refine MPB.cond rfl (And.intro (fun h=>?_) (fun h=>?_))|((conv=>whnf); first|refine anF ?_|refine anT ?_|refine anK ?_|refine And.intro (fun h=>?_) (fun h=>?_)|refine Or.inl ?_)
      exact fp.mk (Or.inl rfl) (Or.inr rfl)
    ·have hge:j=x.sl.length:=by omega
     have bbj:decide ((j:Int)<((x.sl.map ax).length:Int))=true→False:=fun h=>by have:=of_decide_eq_true h; omega
     repeat' first|exact (bbj (by assumption)).elim|refine MPB.seq ?_|refine MPB.block ?_|refine MPB.reg hY aa dI (by kernel_rfl) ?_|refine MPB.skip ?_|refine MPB.label ?_|refine MPB.ret ?_|refine MPB.exit ?_|refine MPB.condT rfl ?_|refine MPB.condF rfl ?_|refine MPB.cond rfl (And.intro (fun h=>?_) (fun h=>?_))|((conv=>whnf); first|refine anF ?_|refine anT ?_|refine anK ?_|refine And.intro (fun h=>?_) (fun h=>?_)|refine Or.inl ?_)
     refine Exists.intro (i+1) (And.intro hlt (And.intro (by omega) (And.intro (congrArg (Prod.mk false) (by rw [htk,hge])) (ai ?_ ?_))))
     ·refine And.intro (congrArg some (aq (by omega))) ?_
      repeat' (first | exact trivial | refine And.intro rfl ?_)
     ·repeat' (first | exact trivial | refine And.intro rfl ?_)
  ·have bbk:decide ((i:Int)<((l.map aA).length:Int))=true→False:=fun h=>by have:=of_decide_eq_true h; simp at this; omega
   have he:l.take i=l:=List.take_of_length_le (by omega)
   repeat' first|exact (bbk (by assumption)).elim|refine MPB.seq ?_|refine MPB.block ?_|refine MPB.reg hY aa dI (by kernel_rfl) ?_|refine MPB.skip ?_|refine MPB.label ?_|refine MPB.ret ?_|refine MPB.exit ?_|refine MPB.condT rfl ?_|refine MPB.condF rfl ?_|refine MPB.cond rfl (And.intro (fun h=>?_) (fun h=>?_))|((conv=>whnf); first|refine anF ?_|refine anT ?_|refine anK ?_|refine And.intro (fun h=>?_) (fun h=>?_)|refine Or.inl ?_)
   exact fp.mk (Or.inr rfl) (Or.inl (congrArg (Prod.mk false) (by rw [he])))
end Go.Proofs
namespace Go.Proofs
open Go Go.Shelf
def sB:Go.Shelf.Ren:=⟨fun | 6=>133 | 15=>51 | 14=>151 | 28=>93 | 29=>94 | 20=>164 | 21=>165 | 22=>166 | 23=>167 | 24=>168 | 25=>169 | 26=>170 | 27=>171 | 46=>190 | 47=>126 | 48=>127 | 49=>191 | 50=>192 | 57=>208 | n=>n,fun | 22=>47 | 24=>182 | 25=>187 | 3=>3 | 39=>134 | 0=>0 | 53=>175 | 55=>177 | 4=>4 | 46=>168 | 45=>167 | 50=>98 | 5=>5 | 9=>9 | 66=>210 | 70=>214 | 76=>232 | 77=>233 | n=>n,fun | n=>n⟩
theorem sC:Go.Proofs.SlLaysF0.n6 Tryz.prog sB where
 mixed:=by kernel_rfl
 f6:=⟨Tryz.f133.name,by kernel_rfl,Tryz.func133.trans (congrArg some (by kernel_rfl))⟩
 f14:=⟨Tryz.f151.name,by kernel_rfl,Tryz.func151.trans (congrArg some (by kernel_rfl))⟩
 f15:=Tryz.func51.trans (congrArg some (by kernel_rfl))
 f20:=⟨Tryz.f164.name,by kernel_rfl,Tryz.func164.trans (congrArg some (by kernel_rfl))⟩
 f21:=⟨Tryz.f165.name,by kernel_rfl,Tryz.func165.trans (congrArg some (by kernel_rfl))⟩
 f22:=⟨Tryz.f166.name,by kernel_rfl,Tryz.func166.trans (congrArg some (by kernel_rfl))⟩
 f23:=⟨Tryz.f167.name,by kernel_rfl,Tryz.func167.trans (congrArg some (by kernel_rfl))⟩
 f24:=⟨Tryz.f168.name,by kernel_rfl,Tryz.func168.trans (congrArg some (by kernel_rfl))⟩
 f25:=⟨Tryz.f169.name,by kernel_rfl,Tryz.func169.trans (congrArg some (by kernel_rfl))⟩
 f26:=⟨Tryz.f170.name,by kernel_rfl,Tryz.func170.trans (congrArg some (by kernel_rfl))⟩
 f27:=⟨Tryz.f171.name,by kernel_rfl,Tryz.func171.trans (congrArg some (by kernel_rfl))⟩
 f28:=Tryz.func93.trans (congrArg some (by kernel_rfl))
 f29:=Tryz.func94.trans (congrArg some (by kernel_rfl))
 f46:=⟨Tryz.f190.name,by kernel_rfl,Tryz.func190.trans (congrArg some (by kernel_rfl))⟩
 f47:=Tryz.func126.trans (congrArg some (by kernel_rfl))
 f48:=Tryz.func127.trans (congrArg some (by kernel_rfl))
 f49:=⟨Tryz.f191.name,by kernel_rfl,Tryz.func191.trans (congrArg some (by kernel_rfl))⟩
 f50:=⟨Tryz.f192.name,by kernel_rfl,Tryz.func192.trans (congrArg some (by kernel_rfl))⟩
 f57:=⟨Tryz.f208.name,by kernel_rfl,Tryz.func208.trans (congrArg some (by kernel_rfl))⟩
 t0:=Tryz.underlying0
 a0:=Tryz.isAgg0
 z0:=Tryz.sizeOf0
 v0:=Tryz.zeroValue0
 t3:=Tryz.underlying3
 a3:=Tryz.isAgg3
 z3:=Tryz.sizeOf3
 v3:=Tryz.zeroValue3
 t4:=Tryz.underlying4
 a4:=Tryz.isAgg4
 z4:=Tryz.sizeOf4
 v4:=Tryz.zeroValue4
 t5:=Tryz.underlying5
 a5:=Tryz.isAgg5
 z5:=Tryz.sizeOf5
 v5:=Tryz.zeroValue5
 t9:=Tryz.underlying9
 a9:=Tryz.isAgg9
 z9:=Tryz.sizeOf9
 v9:=Tryz.zeroValue9
 t22:=Tryz.underlying47
 a22:=Tryz.isAgg47
 z22:=Tryz.sizeOf47
 v22:=Tryz.zeroValue47
 t25:=Tryz.underlying187
 a25:=Tryz.isAgg187
 z25:=Tryz.sizeOf187
 v25:=Tryz.zeroValue187
 t39:=Tryz.underlying134
 a39:=Tryz.isAgg134
 z39:=Tryz.sizeOf134
 v39:=Tryz.zeroValue134
 t45:=Tryz.underlying167
 a45:=Tryz.isAgg167
 z45:=Tryz.sizeOf167
 v45:=Tryz.zeroValue167
 t46:=Tryz.underlying168
 a46:=Tryz.isAgg168
 z46:=Tryz.sizeOf168
 v46:=Tryz.zeroValue168
 t50:=Tryz.underlying98
 a50:=Tryz.isAgg98
 z50:=Tryz.sizeOf98
 v50:=Tryz.zeroValue98
 t53:=Tryz.underlying175
 a53:=Tryz.isAgg175
 z53:=Tryz.sizeOf175
 v53:=Tryz.zeroValue175
 t55:=Tryz.underlying177
 a55:=Tryz.isAgg177
 z55:=Tryz.sizeOf177
 v55:=Tryz.zeroValue177
 t66:=Tryz.underlying210
 a66:=Tryz.isAgg210
 z66:=Tryz.sizeOf210
 v66:=Tryz.zeroValue210
 t70:=Tryz.underlying214
 a70:=Tryz.isAgg214
 z70:=Tryz.sizeOf214
 v70:=Tryz.zeroValue214
 t76:=Tryz.underlying232
 a76:=Tryz.isAgg232
 z76:=Tryz.sizeOf232
 v76:=Tryz.zeroValue232
 t77:=Tryz.underlying233
 a77:=Tryz.isAgg233
 z77:=Tryz.sizeOf233
 v77:=Tryz.zeroValue233
end Go.Proofs
namespace Go.Proofs
open Go Go.Shelf
def sw:Go.Shelf.Ren:=⟨fun | 6=>139 | 15=>51 | 14=>155 | 28=>93 | 29=>94 | 20=>173 | 21=>174 | 22=>175 | 23=>176 | 24=>177 | 25=>178 | 26=>179 | 27=>180 | 46=>194 | 47=>126 | 48=>127 | 49=>195 | 50=>196 | 57=>209 | n=>n,fun | 22=>223 | 24=>225 | 25=>227 | 3=>3 | 39=>134 | 0=>0 | 53=>175 | 55=>177 | 4=>4 | 46=>168 | 45=>167 | 50=>98 | 5=>5 | 9=>9 | 66=>210 | 70=>214 | 76=>232 | 77=>233 | n=>n,fun | n=>n⟩
theorem sy:Go.Proofs.SlLaysF0.n6 Tryz.prog sw where
 mixed:=by kernel_rfl
 f6:=⟨Tryz.f139.name,by kernel_rfl,Tryz.func139.trans (congrArg some (by kernel_rfl))⟩
 f14:=⟨Tryz.f155.name,by kernel_rfl,Tryz.func155.trans (congrArg some (by kernel_rfl))⟩
 f15:=Tryz.func51.trans (congrArg some (by kernel_rfl))
 f20:=⟨Tryz.f173.name,by kernel_rfl,Tryz.func173.trans (congrArg some (by kernel_rfl))⟩
 f21:=⟨Tryz.f174.name,by kernel_rfl,Tryz.func174.trans (congrArg some (by kernel_rfl))⟩
 f22:=⟨Tryz.f175.name,by kernel_rfl,Tryz.func175.trans (congrArg some (by kernel_rfl))⟩
 f23:=⟨Tryz.f176.name,by kernel_rfl,Tryz.func176.trans (congrArg some (by kernel_rfl))⟩
 f24:=⟨Tryz.f177.name,by kernel_rfl,Tryz.func177.trans (congrArg some (by kernel_rfl))⟩
 f25:=⟨Tryz.f178.name,by kernel_rfl,Tryz.func178.trans (congrArg some (by kernel_rfl))⟩
 f26:=⟨Tryz.f179.name,by kernel_rfl,Tryz.func179.trans (congrArg some (by kernel_rfl))⟩
 f27:=⟨Tryz.f180.name,by kernel_rfl,Tryz.func180.trans (congrArg some (by kernel_rfl))⟩
 f28:=Tryz.func93.trans (congrArg some (by kernel_rfl))
 f29:=Tryz.func94.trans (congrArg some (by kernel_rfl))
 f46:=⟨Tryz.f194.name,by kernel_rfl,Tryz.func194.trans (congrArg some (by kernel_rfl))⟩
 f47:=Tryz.func126.trans (congrArg some (by kernel_rfl))
 f48:=Tryz.func127.trans (congrArg some (by kernel_rfl))
 f49:=⟨Tryz.f195.name,by kernel_rfl,Tryz.func195.trans (congrArg some (by kernel_rfl))⟩
 f50:=⟨Tryz.f196.name,by kernel_rfl,Tryz.func196.trans (congrArg some (by kernel_rfl))⟩
 f57:=⟨Tryz.f209.name,by kernel_rfl,Tryz.func209.trans (congrArg some (by kernel_rfl))⟩
 t0:=Tryz.underlying0
 a0:=Tryz.isAgg0
 z0:=Tryz.sizeOf0
 v0:=Tryz.zeroValue0
 t3:=Tryz.underlying3
 a3:=Tryz.isAgg3
 z3:=Tryz.sizeOf3
 v3:=Tryz.zeroValue3
 t4:=Tryz.underlying4
 a4:=Tryz.isAgg4
 z4:=Tryz.sizeOf4
 v4:=Tryz.zeroValue4
 t5:=Tryz.underlying5
 a5:=Tryz.isAgg5
 z5:=Tryz.sizeOf5
 v5:=Tryz.zeroValue5
 t9:=Tryz.underlying9
 a9:=Tryz.isAgg9
 z9:=Tryz.sizeOf9
 v9:=Tryz.zeroValue9
 t22:=Tryz.underlying223
 a22:=Tryz.isAgg223
 z22:=Tryz.sizeOf223
 v22:=Tryz.zeroValue223
 t25:=Tryz.underlying227
 a25:=Tryz.isAgg227
 z25:=Tryz.sizeOf227
 v25:=Tryz.zeroValue227
 t39:=Tryz.underlying134
 a39:=Tryz.isAgg134
 z39:=Tryz.sizeOf134
 v39:=Tryz.zeroValue134
 t45:=Tryz.underlying167
 a45:=Tryz.isAgg167
 z45:=Tryz.sizeOf167
 v45:=Tryz.zeroValue167
 t46:=Tryz.underlying168
 a46:=Tryz.isAgg168
 z46:=Tryz.sizeOf168
 v46:=Tryz.zeroValue168
 t50:=Tryz.underlying98
 a50:=Tryz.isAgg98
 z50:=Tryz.sizeOf98
 v50:=Tryz.zeroValue98
 t53:=Tryz.underlying175
 a53:=Tryz.isAgg175
 z53:=Tryz.sizeOf175
 v53:=Tryz.zeroValue175
 t55:=Tryz.underlying177
 a55:=Tryz.isAgg177
 z55:=Tryz.sizeOf177
 v55:=Tryz.zeroValue177
 t66:=Tryz.underlying210
 a66:=Tryz.isAgg210
 z66:=Tryz.sizeOf210
 v66:=Tryz.zeroValue210
 t70:=Tryz.underlying214
 a70:=Tryz.isAgg214
 z70:=Tryz.sizeOf214
 v70:=Tryz.zeroValue214
 t76:=Tryz.underlying232
 a76:=Tryz.isAgg232
 z76:=Tryz.sizeOf232
 v76:=Tryz.zeroValue232
 t77:=Tryz.underlying233
 a77:=Tryz.isAgg233
 z77:=Tryz.sizeOf233
 v77:=Tryz.zeroValue233
end Go.Proofs
namespace Go.Proofs
open Go Go.AI
set_option maxRecDepth 10000
def l3 (x:au):List Int:=[x.k,x.a,x.b]
instance:Inhabited au:=⟨⟨0,0,0⟩⟩
def yq (x y:au):Int:=orS [dN x.k y.k,dN x.a y.a]
theorem pU (x y:au):ae Tryz.prog 101 [.agg (aC x),.agg (aC y)] (.int .i64 (yq x y)):=by
 refine ah aa Tryz.func101 rfl (by kernel_rfl) af (Nat.le_of_ble_eq_true rfl) ?_
 intro F n' w0 m0 hG hro h1
 repeat' first|refine QS rfl hG aa wy ?_|((conv=>whnf); first|refine anF ?_|refine anT ?_|refine anK ?_|refine Exists.intro _ (And.intro (jq _ _) ?_)|refine Exists.intro _ (And.intro (sM [dN x.k y.k,dN x.a y.a] (Nat.le_of_ble_eq_true rfl)) ?_)|refine And.intro (fun h=>?_) (fun h=>?_)|refine Or.inl ?_)
 all_goals exact Ends.mk (Or.inl rfl) (ac rfl)
def my (x y:au):Bool:=(x.k==y.k)&&decide (y.a≤x.b)
theorem Bb (x y:au):ae Tryz.prog 105 [.agg (aC x),.agg (aC y)] (.tup [.agg (aC ⟨x.k,x.a,max x.b y.b⟩),.bool (my x y)]):=by
 refine ah aa Tryz.func105 rfl (by kernel_rfl) af (Nat.le_of_ble_eq_true rfl) ?_
 intro F n' w0 m0 hG hro h1
 repeat' first|refine QS rfl hG aa ww ?_|((conv=>whnf); first|refine anF ?_|refine anT ?_|refine anK ?_|refine And.intro (fun h=>?_) (fun h=>?_)|refine Or.inl ?_)
 all_goals refine Ends.mk (Or.inl rfl) (ac (congrArg (fun z=>AV.tup [.agg (aC ⟨x.k,x.a,max x.b y.b⟩),.bool z]) ?_))
 all_goals simp only [my, *,Bool.true_and,Bool.and_true,Bool.false_and,Bool.and_false,Bool.true_or,Bool.or_true,Bool.false_or,Bool.or_false,Bool.not_true,Bool.not_false]
theorem Cg (x y:au):ltOf yq x y=true↔x.k<y.k∨(x.k=y.k∧x.a<y.a):=by
 unfold ltOf yq
 simp only [orS,dN,decide_eq_true_eq]
 by_cases h1:x.k<y.k <;> by_cases h2:y.k<x.k <;> by_cases h3:x.a<y.a <;> by_cases h4:y.a<x.a <;> simp [h1,h2,h3,h4] <;> omega
theorem vc (x y:au):ltOf yq x y=false↔leL y x:=by
 have h:=Cg x y
 unfold leL
 cases hb:ltOf yq x y with
 | true=>have:=h.1 hb; simp; omega
 | false=>
  have:¬ (x.k<y.k∨(x.k=y.k∧x.a<y.a)):=fun g=>by rw [h.2 g] at hb; cases hb
  simp; omega
theorem FC:Sort.SWO (ltOf yq) where
 irrefl x:=by rw [vc]; unfold leL; omega
 trans x y z h1 h2:=by rw [Cg] at *; omega
 ntrans x y z h1 h2:=by rw [vc] at *; unfold leL at *; omega
theorem sA (l:List au) (hl:l.length≤1000000):dJ Tryz.prog 133 3 (l.map l3) [.fn 101] (fun r rows=>r = .tup []∧∃ l':List au,l'.Perm l∧l'.Pairwise (fun x y=>ltOf yq y x=false)∧rows=l'.map l3):=
 dJ.sort l3 3 yq sC (fun _=>rfl) Tryz.isAgg182 Tryz.sizeOf182 FC (fun x y=>pU x y) (pU ⟨0,0,0⟩ ⟨0,0,0⟩).enters (enters_of Tryz.func133 (by kernel_rfl) rfl) l (by omega)
theorem B3 (l:List au):bu (l.map l3)=l.map aC:=by simp [bu,l3,aC]
def BJ:List au→List (Nat×AV)
 | []=>[(7,.sl .full 0 [])]
 | x::r=>[(7,.me .sl 46 (x::r).length []),(xk 46,.me .arr 46 3 ((x::r).map aC))]
theorem jE (o:List au) (z:au):BJ (o++[z])=[(7,.me .sl 46 (o.length+1) []),(xk 46,.me .arr 46 3 ((o++[z]).map aC))]:=by
 cases o with
 | nil=>rfl
 | cons x r=>simp [BJ]
theorem xi (o:List au) (z x:au):BJ (o++[z]++[x])=[(7,.me .sl 46 (o.length+1+1) []),(xk 46,.me .arr 46 3 ((o++[z]).map aC++[aC x]))]:=by
 rw [jE,List.map_append,List.length_append]; rfl
theorem qP {α:Type} (a b:α):∀ l:List α,bB (l++[a]) l.length b=l++[b]
 | []=>rfl
 | x::l=>by simp only [List.cons_append,List.length_cons,bB,qP a b l]
theorem CZ {l:List au} (h:l≠[]):∃ o z,dR l=o++[z]:=by
 rcases co l with rfl | ⟨m,x,rfl⟩
 ·exact absurd rfl h
 ·rw [dR,List.foldl_append]
  show ∃ o z,eO (dR m) x=o++[z]
  rcases co (dR m) with e | ⟨o,y,e⟩
  ·rw [e]; exact ⟨[],x,rfl⟩
  ·rw [e,jM]
   split
   ·exact ⟨o,_,rfl⟩
   ·exact ⟨o++[y],x,rfl⟩
set_option maxHeartbeats 8000000 in
theorem A5 (l:List au) (hl:l.length≤1000000) (hne:l≠[]):dJ Tryz.prog 104 3 (l.map l3) [.fn 101,.fn 105] (fun r _=>∃ l':List au,l'.Perm l∧l'.Pairwise leL∧r=eE (dR l')):=by
 refine dJ.ofRebase aa Tryz.func104 rfl (by kernel_rfl) af (Nat.le_of_ble_eq_true rfl) (by kernel_rfl) (by kernel_rfl) (by kernel_rfl) 2 (by kernel_rfl) ?_
 intro F n' b cap hro h1 w0 m0 hG
 refine SPB.out ?_
 refine Q4 hG aa da (by kernel_rfl) ?_
 conv=>whnf
 refine And.intro rfl ?_
 conv=>whnf
 refine And.intro rfl (And.intro rfl (And.intro rfl (Exists.intro _ (And.intro (sA l hl) ?_))))
 rintro r rows ⟨rfl,l',hp,hs,rfl⟩ _ _
 conv=>whnf
 intro _ _ w2 m2 hG2
 rw [B3 l']
 have hle:l'.Pairwise leL:=hs.imp fun h=>(vc _ _).1 h
 have hn':l'.length=l.length:=hp.length_eq
 have hpos:0<l'.length:=by rw [hn']; exact List.length_pos_iff.2 hne
 clear hG
 have hG:=hG2
 refine SPB.out ?_
 refine Q1 ?_
 refine SPB.regN hG aa da [7] (by kernel_rfl) ?_
 conv=>whnf
 repeat' first|refine QS rfl hG aa da ?_|((conv=>whnf); first|refine anF ?_|refine anT ?_|refine anK ?_|refine And.intro (fun h=>?_) (fun h=>?_)|refine Or.inl ?_)
 refine ar (X:=Nat) (fun i=>⟨(18,.int .i64 i)::(17,.int .i64 (l'.map aC).length)::(16,eE l')::(2,.fn 105)::BJ (dR (l'.take i)),[]⟩) (fun i=>i≤l'.length) (fun i=>l'.length - i) 0 (Nat.zero_le _) (ai ?_ ?_) (fun i hi=>?_)
 ·repeat' (first | exact trivial | refine And.intro rfl ?_)
 ·repeat' (first | exact trivial | refine And.intro rfl ?_)
 ·by_cases hlt:i<l'.length
  ·have bbk:decide ((i:Int)<((l'.map aC).length:Int))=false→False:=fun h=>by have:=of_decide_eq_false h; simp at this; omega
   have hx:(l'.map aC)[(i:Int).toNat]?=some (aC l'[i]):=by simp [List.getElem?_eq_getElem hlt]
   have hsn:dR (l'.take (i+1))=eO (dR (l'.take i)) l'[i]:=by
    rw [dR,List.take_add_one,List.getElem?_eq_getElem hlt,List.foldl_append]; rfl
   have hbd:(dR (l'.take i)).length≤i:=by
    have:=mU (l'.take i) []
    simp only [List.length_nil,Nat.zero_add,List.length_take] at this
    unfold dR; omega
   generalize l'[i]=x at hx hsn
   generalize dR (l'.take i)=out at hsn hbd
   rcases co out with rfl | ⟨o,z,rfl⟩
   ·have bb0:decide ((([]:List (List AV)).length:Int)>0)=true→False:=fun h=>by simp at h
    have bb1:decide ((0:Int)>0)=true→False:=fun h=>by simp at h
    repeat' first|exact (bbk (by assumption)).elim|exact (bb0 (by assumption)).elim|exact (bb1 (by assumption)).elim|refine QS rfl hG aa da ?_|((conv=>whnf); first|refine anF ?_|refine anT ?_|refine anK ?_|refine And.intro (Int.natCast_nonneg i) (Exists.intro _ (And.intro hx ?_))|refine Or.inr (And.intro rfl (And.intro (Nat.le_of_ble_eq_true rfl) (And.intro (Nat.le_of_ble_eq_true rfl) (And.intro (Nat.le_of_ble_eq_true rfl) ?_))))|refine And.intro (fun h=>?_) (fun h=>?_)|refine Or.inl ?_)
    refine Exists.intro (i+1) (And.intro hlt (And.intro (by omega) ?_))
    dsimp only
    rw [hsn,show eO [] x=[x] from rfl]
    refine ai (And.intro (congrArg some (aq (by omega))) ?_) ?_
    ·repeat' (first | exact trivial | refine And.intro rfl ?_)
    ·repeat' (first | exact trivial | refine And.intro rfl ?_)
   ·rw [jE]
    have hgt:decide (((o.length+1:Nat):Int)>0)=false→False:=fun h=>by have:=of_decide_eq_false h; omega
    have hbo:o.length+1≤i:=by simpa using hbd
    have hln:((o++[z]).map aC).length=o.length+1:=by simp
    have hw:IntKind.i64.wrap (((o.length+1:Nat):Int) - 1)=(o.length:Int):=(am (by omega) (by omega)).trans (by omega)
    have h0:0≤IntKind.i64.wrap (((o.length+1:Nat):Int) - 1):=by rw [hw]; exact Int.natCast_nonneg _
    have hl1:IntKind.i64.wrap (((o.length+1:Nat):Int) - 1)<((o.length+1:Nat):Int):=by rw [hw]; omega
    have hz:((o++[z]).map aC)[(IntKind.i64.wrap (((o.length+1:Nat):Int) - 1)).toNat]?=some (aC z):=by rw [hw]; simp
    rw [jM] at hsn
    repeat' first|exact (bbk (by assumption)).elim|exact (hgt (by assumption)).elim|refine QS rfl hG aa da ?_|((conv=>whnf); first|refine anF ?_|refine anT ?_|refine anK ?_|refine And.intro (Int.natCast_nonneg i) (Exists.intro _ (And.intro hx ?_))|refine And.intro h0 (And.intro hl1 ?_)|refine Exists.intro _ (And.intro hz ?_)|refine Exists.intro _ (And.intro (Bb _ _) ?_)|refine And.intro (Nat.le_of_ble_eq_true rfl) (And.intro (show (((o++[z]).map aC).length+1)*24≤70368744177664 by rw [hln]; omega) (And.intro (show ((o++[z]).map aC).length+1≤4611686018427387904 by rw [hln]; omega) ?_))|refine And.intro (fun h=>?_) (fun h=>?_)|refine Or.inl ?_)
    ·have ht:=(by assumption:my z x=true)
     simp only [my,Bool.and_eq_true,beq_iff_eq,decide_eq_true_eq] at ht
     rw [if_pos ht] at hsn
     refine Exists.intro (i+1) (And.intro hlt (And.intro (by omega) ?_))
     dsimp only
     rw [hsn,jE]
     refine ai (And.intro (congrArg some (aq (by omega))) (And.intro rfl (And.intro rfl (And.intro rfl (And.intro rfl (And.intro (congrArg (fun q=>some (AV.me .arr 46 3 q)) ?_) trivial)))))) ?_
     ·rw [hw,Int.toNat_natCast]
      have e:=qP (aC z) (aC ⟨z.k,z.a,max z.b x.b⟩) (o.map aC)
      rw [List.length_map] at e
      rw [List.map_append,List.map_append]
      exact e
     ·repeat' (first | exact trivial | refine And.intro rfl ?_)
    ·have ht:=(by assumption:my z x=false)
     have ht:¬ (z.k=x.k∧x.a≤z.b):=fun h=>by
      have:my z x=true:=by simp only [my,Bool.and_eq_true,beq_iff_eq,decide_eq_true_eq]; exact h
      rw [this] at ht; cases ht
     rw [if_neg ht] at hsn
     refine Exists.intro (i+1) (And.intro hlt (And.intro (by omega) ?_))
     dsimp only
     rw [hsn,xi]
     refine ai (And.intro (congrArg some (aq (by omega))) ?_) ?_
     ·repeat' (first | exact trivial | refine And.intro rfl ?_)
     ·repeat' (first | exact trivial | refine And.intro rfl ?_)
  ·have he:l'.take i=l':=List.take_of_length_le (by omega)
   have bbk:decide ((i:Int)<((l'.map aC).length:Int))=true→False:=fun h=>by have:=of_decide_eq_true h; simp at this; omega
   rw [he]
   obtain ⟨o,z,hoz⟩:=CZ (l:=l') (by intro h; rw [h] at hpos; simp at hpos)
   rw [hoz,jE]
   refine SPB.frz [.tmp 7] ?_
   conv=>whnf
   repeat' first|exact (bbk (by assumption)).elim|refine QS rfl hG aa da ?_|((conv=>whnf); first|refine anF ?_|refine anT ?_|refine anK ?_|refine And.intro (fun h=>?_) (fun h=>?_)|refine Or.inl ?_)
   refine Exists.intro (eE (dR l')) (And.intro ⟨l',hp,hle,rfl⟩ (Ends.mk (Or.inl rfl) (ac ?_)))
   rw [hoz]; rfl
end Go.Proofs
namespace Go.Proofs
open Go Go.AI
set_option maxRecDepth 10000
theorem te:ae Tryz.prog 104 [.sl .no 3 [],.fn 101,.fn 105] (eE []):=by
 have ks:=ae.sortNil sC (enters_of Tryz.func133 (by kernel_rfl) rfl) 3 101 (o := .no)
 refine ah aa Tryz.func104 rfl (by kernel_rfl) af (Nat.le_of_ble_eq_true rfl) ?_
 intro F n' w0 m0 hG hro h1
 repeat' first|refine QS rfl hG aa da ?_|((conv=>whnf); first|refine anF ?_|refine anT ?_|refine anK ?_|refine Exists.intro _ (And.intro (ks) ?_)|refine And.intro (fun h=>?_) (fun h=>?_)|refine Or.inl ?_)
 refine ar (X:=Unit) (fun _=>⟨[(18,.int .i64 0),(17,.int .i64 0),(7,.sl (.id 7) 3 [])],[]⟩) (fun _=>True) (fun _=>0) () trivial (ai ?_ ?_) (fun i hi=>?_)
 ·repeat' (first | exact trivial | refine And.intro rfl ?_)
 ·repeat' (first | exact trivial | refine And.intro rfl ?_)
 ·have bb:decide ((0:Int)<0)=true→False:=fun h=>by simp at h
  repeat' first|exact (bb (by assumption)).elim|refine QS rfl hG aa da ?_|((conv=>whnf); first|refine anF ?_|refine anT ?_|refine anK ?_|refine And.intro (fun h=>?_) (fun h=>?_)|refine Or.inl ?_)
  exact Ends.mk (Or.inl rfl) (ac rfl)
def xD (l:List Opt):Bool:=decide (8<l.length)
theorem Dp (l:List Opt):FN l=(dn l).any fun x => !cK x.1 x.2:=by
 unfold FN dn
 rw [List.any_flatMap]
 congr 1
 funext o
 rw [List.any_map]; rfl
theorem si (l:List Opt):yv l=(xD l||oe l||(dn l).any fun x => !cK x.1 x.2):=by
 unfold yv; rw [Dp]; rfl
theorem AR:kZ []=[]:=by simp [kZ,dR]
theorem xm (l:List Opt):(mJ l).length=l.length+(dn l).length:=by rw [mJ,BK]; simp [iZ]
set_option maxHeartbeats 16000000 in
theorem A7 (l:List Opt) (hl:l.length≤1000000) (hs:ku l) (hsp:(dn l).length≤900000):ae Tryz.prog 57 [aZ l] (eE (aF l)):=by
 refine ae.ofBm aa Tryz.func57 rfl (by kernel_rfl) af (Nat.le_of_ble_eq_true rfl) ?_
 intro F n' w0 m0 hG hro h9 hm0
 repeat' first|refine QS rfl hG aa cZ ?_|((conv=>whnf); first|refine anF ?_|refine anT ?_|refine anK ?_|refine And.intro (fun h=>?_) (fun h=>?_)|refine Or.inl ?_)
 have hn8:decide (((l.map aA).length:Int)>8)=xD l:=by rw [List.length_map]; exact decide_eq_decide.2 (by omega)
 rw [hn8]
 refine SPB.resize 3 0 1003000 3 rfl rfl ?_
 refine ar (X:=Nat) (fun i=>⟨[(14,.int .i64 i),(13,.int .i64 (l.map aA).length),(12,aZ l),(4,.loc 4 0),(3,.loc 3 0),(0,aZ l)],[(4,[.bool (xD l||oe (l.take i))]),(3,[.sl (.id 1003000) 3 ((iZ (l.take i)).map aC)])]⟩) (fun i=>i≤l.length) (fun i=>l.length - i) 0 (Nat.zero_le _) (ai ?_ ?_) (fun i hi=>?_)
 ·repeat' (first | exact trivial | refine And.intro rfl ?_)
 ·refine And.intro (congrArg (fun z=>some [AV.bool z]) (by simp [oe])) ?_
  repeat' (first | exact trivial | refine And.intro rfl ?_)
 ·by_cases hlt:i<l.length
  ·have bbk:decide ((i:Int)<((l.map aA).length:Int))=false→False:=fun h=>by have:=of_decide_eq_false h; simp at this; omega
   have hx:=fX hlt
   have hsA:iZ (l.take (i+1))=iZ (l.take i)++[⟨1,(ap l i).a,(ap l i).b⟩]:=by
    rw [List.take_add_one,List.getElem?_eq_getElem hlt,bN hlt]; exact List.map_append
   have hbA:oe (l.take (i+1))=(oe (l.take i)||(!cK (ap l i).a (ap l i).b||decide (6<(ap l i).sl.length))):=by
    rw [List.take_add_one,List.getElem?_eq_getElem hlt,bN hlt]
    unfold oe
    rw [List.any_append]; simp
   have hln:((iZ (l.take i)).map aC).length=i:=by simp [iZ]; omega
   generalize ap l i=x at hx hsA hbA
   have h6:decide (((x.sl.map ax).length:Int)>6)=decide (6<x.sl.length):=by rw [List.length_map]; exact decide_eq_decide.2 (by omega)
   have hrow:(iZ (l.take (i+1))).map aC=(iZ (l.take i)).map aC++[[.int .i64 1,.int .i64 x.a,.int .i64 x.b]]:=by rw [hsA,List.map_append]; rfl
   generalize (iZ (l.take i)).map aC=row at hln hrow
   obtain ⟨wb,hwb⟩:∃ wb,wb=(xD l||oe (l.take i)):=⟨_,rfl⟩
   rw [← hwb]
   have hw2:(xD l||oe (l.take (i+1)))=(wb||(!cK x.a x.b||decide (6<x.sl.length))):=by rw [hbA,hwb,Bool.or_assoc]
   repeat' first|exact (bbk (by assumption)).elim|refine QS rfl hG aa cZ ?_|((conv=>whnf); first|refine anF ?_|refine anT ?_|refine anK ?_|refine And.intro (Int.natCast_nonneg i) (Exists.intro _ (And.intro hx ?_))|refine Exists.intro _ (And.intro (sq _ _) ?_)|refine And.intro (show (row.length+1)*24≤70368744177664 by omega) (And.intro (show row.length+1≤4611686018427387904 by omega) ?_)|refine And.intro (fun h=>?_) (fun h=>?_)|refine Or.inl ?_)
   all_goals refine Exists.intro (i+1) (And.intro hlt (And.intro (by omega) ?_))
   all_goals dsimp only
   all_goals rw [hw2,hrow]
   all_goals refine ai (And.intro (congrArg some (aq (by omega))) ?_) (And.intro (congrArg (fun z=>some [AV.bool z]) ?_) ?_)
   all_goals first
    |(clear hwb hw2; simp only [h6, *,Bool.true_and,Bool.and_true,Bool.false_and,Bool.and_false,Bool.true_or,Bool.or_true,Bool.false_or,Bool.or_false,Bool.not_true,Bool.not_false]; done)
    |(repeat' (first | exact trivial | refine And.intro rfl ?_))
  ·have bbk:decide ((i:Int)<((l.map aA).length:Int))=true→False:=fun h=>by have:=of_decide_eq_true h; simp at this; omega
   have he:l.take i=l:=List.take_of_length_le (by omega)
   rw [he]
   repeat' first|exact (bbk (by assumption)).elim|refine QS rfl hG aa cZ ?_|((conv=>whnf); first|refine anF ?_|refine anT ?_|refine anK ?_|refine Exists.intro _ (And.intro (DA l) ?_)|refine And.intro (fun h=>?_) (fun h=>?_)|refine Or.inl ?_)
   have hAB:mJ l=iZ l++(dn l).map (mkK 2):=by rw [mJ,BK]
   refine ⟨SP.rangeM hG hro (Nat.le_trans (by decide) h9) (α:=Int×Int) spA (f:=132) (cap:=[.ref [aZ l]]) (items:=dn l) rfl (vm l hl hs) (fun _=>rfl) (fun _=>[(4,.loc 4 0),(3,.loc 3 0)]) [4,3] (fun _=>rfl)
    (fun pre=>[(4,[.bool (xD l||oe l||pre.any fun x => !cK x.1 x.2)]),(3,[.sl (.id 1003000) 3 ((iZ l++pre.map (mkK 2)).map aC)])]) (ai ?_ ?_) (by kernel_rfl) (by decide) ?_ ?_⟩
   ·repeat' (first | exact trivial | refine And.intro rfl ?_)
   ·refine And.intro (congrArg (fun z=>some [AV.bool z]) (by simp)) (And.intro (congrArg (fun z=>some [AV.sl (.id 1003000) 3 z]) (by simp)) trivial)
   ·intro F' n'' m' hG' pre x rest hx
    clear hG
    have hG:=hG'
    have hpl:pre.length<1000000:=by
     have:=congrArg List.length hx
     simp at this; omega
    have hrl:(iZ l).length≤1000000:=by simp [iZ]; omega
    have hrow:(iZ l++(pre++[x]).map (mkK 2)).map aC=(iZ l++pre.map (mkK 2)).map aC++[[.int .i64 2,.int .i64 x.1,.int .i64 x.2]]:=by simp [aC,mkK]
    have hln:((iZ l++pre.map (mkK 2)).map aC).length≤3000000:=by simp; omega
    generalize (iZ l++pre.map (mkK 2)).map aC=row at hln hrow
    obtain ⟨wb,hwb⟩:∃ wb,wb=(xD l||oe l||pre.any fun x => !cK x.1 x.2):=⟨_,rfl⟩
    rw [← hwb]
    have hw2:(xD l||oe l||(pre++[x]).any fun x => !cK x.1 x.2)=(wb || !cK x.1 x.2):=by rw [List.any_append,hwb]; simp [Bool.or_assoc]
    refine SPB.out (Q4 hG aa cZ (by kernel_rfl) ?_)
    conv=>whnf
    refine And.intro rfl (And.intro (ai ?_ ?_) ?_)
    ·repeat' (first | exact trivial | refine And.intro rfl ?_)
    ·repeat' (first | exact trivial | refine And.intro rfl ?_)
    refine SPB.out ?_
    repeat' first|refine QS rfl hG aa cZ ?_|((conv=>whnf); first|refine anF ?_|refine anT ?_|refine anK ?_|refine Exists.intro _ (And.intro (sq _ _) ?_)|refine And.intro (show (row.length+1)*24≤70368744177664 by omega) (And.intro (show row.length+1≤4611686018427387904 by omega) ?_)|refine And.intro (fun h=>?_) (fun h=>?_)|refine Or.inl ?_)
    all_goals (refine ai ?_ ?_)
    all_goals first
     |(dsimp only; rw [hw2,hrow]; clear hwb hw2; refine And.intro (congrArg (fun z=>some [AV.bool z]) ?_) (And.intro rfl trivial); simp only [*,Bool.true_and,Bool.and_true,Bool.false_and,Bool.and_false,Bool.true_or,Bool.or_true,Bool.false_or,Bool.or_false,Bool.not_true,Bool.not_false]; done)
     |(repeat' (first | exact trivial | refine And.intro rfl ?_))
   ·conv=>whnf
    by_cases hne:mJ l=[]
    ·rw [← hAB,hne]
     repeat' first|refine QS rfl hG aa cZ ?_|((conv=>whnf); first|refine anF ?_|refine anT ?_|refine anK ?_|refine Exists.intro _ (And.intro (te) ?_)|refine And.intro (fun h=>?_) (fun h=>?_)|refine Or.inl ?_)
     ·refine Ends.mk (Or.inl rfl) (ac ?_)
      rw [aF,si,if_pos ‹_›]; rfl
     ·refine Ends.mk (Or.inl rfl) (ac ?_)
      rw [aF,hne,AR]; split <;> rfl
    ·rw [← hAB]
     repeat' first|refine SPB.oreg (id:=16) hG aa hm0 cZ 2 (by kernel_rfl) ?_|refine QS rfl hG aa cZ ?_|((conv=>whnf); first|refine anF ?_|refine anT ?_|refine anK ?_|refine And.intro (fun h=>?_) (fun h=>?_)|refine Or.inl ?_)
     ·refine Ends.mk (Or.inl rfl) (ac ?_)
      rw [aF,si,if_pos ‹_›]; rfl
     ·have hb:yv l=false:=by rw [si]; assumption
      have h8:l.length≤8:=by
       have:=hb; unfold yv at this; simp at this; omega
      conv=>whnf
      refine Exists.intro ((mJ l).map l3) (Exists.intro _ (And.intro (A5 (mJ l) ?_ hne) (And.intro (B3 _).symm (And.intro ?_ (And.intro (by decide) (And.intro ?_ (And.intro rfl ?_)))))))
      ·rw [xm]; omega
      ·simpa using hne
      ·intro x hx; obtain ⟨y,_,rfl⟩:=List.mem_map.1 hx; rfl
      ·rintro r rows ⟨l',hp,hle,rfl⟩ _ _
       repeat' first|refine QS rfl hG aa cZ ?_|((conv=>whnf); first|refine anF ?_|refine anT ?_|refine anK ?_|refine And.intro (fun h=>?_) (fun h=>?_)|refine Or.inl ?_)
       have hg:=x3.1 hb
       refine Ends.mk (Or.inl rfl) (ac ?_)
       rw [xL (fun x h=>(hg.raw x h).2.2.1) hp hle,← hg.loads]; rfl
end Go.Proofs
namespace Go.Proofs
open Go Go.AI
set_option maxRecDepth 10000
def p2 (x:Int×Int):List Int:=[x.1,x.2]
def pA (x:Int×Int):List AV:=[.int .i64 x.1,.int .i64 x.2]
def yp (x y:Int×Int):Int:=dN x.1 y.1
theorem qz (x y:Int×Int):ltOf yp y x=false↔x.1≤y.1:=by
 unfold ltOf yp
 simp only [dN]
 by_cases h1:y.1<x.1 <;> by_cases h2:x.1<y.1 <;> simp [h1,h2] <;> omega
theorem HD (x y:Int×Int):ltOf yp x y=true↔x.1<y.1:=by
 have:=qz y x
 cases h:ltOf yp x y
 ·simp; exact this.1 h
 ·simp
  rw [h] at this
  simp at this; exact this
theorem FB:Sort.SWO (ltOf yp) where
 irrefl x:=by rw [qz]; omega
 trans x y z h1 h2:=by rw [HD] at *; omega
 ntrans x y z h1 h2:=by rw [qz] at *; omega
theorem oA (x y:Int×Int):ae Tryz.prog 140 [.agg (pA x),.agg (pA y)] (.int .i64 (yp x y)):=by
 refine ah aa Tryz.func140 rfl (by kernel_rfl) af (Nat.le_of_ble_eq_true rfl) ?_
 intro F n' w0 m0 hG hro h1
 repeat' first|refine QS rfl hG aa wd ?_|((conv=>whnf); first|refine anF ?_|refine anT ?_|refine anK ?_|refine Exists.intro _ (And.intro (jq _ _) ?_)|refine And.intro (fun h=>?_) (fun h=>?_)|refine Or.inl ?_)
 all_goals exact Ends.mk (Or.inl rfl) (ac rfl)
theorem sv (l:List (Int×Int)) (hl:l.length≤4000000):dJ Tryz.prog 139 2 (l.map p2) [.fn 140] (fun r rows=>r = .tup []∧∃ l':List (Int×Int),l'.Perm l∧l'.Pairwise (fun x y=>ltOf yp y x=false)∧rows=l'.map p2):=
 dJ.sort p2 2 yp sy (fun _=>rfl) Tryz.isAgg225 Tryz.sizeOf225 FB (fun x y=>oA x y) (oA (0,0) (0,0)).enters (enters_of Tryz.func139 (by kernel_rfl) rfl) l (by omega)
theorem B1 (l:List (Int×Int)):bu (l.map p2)=l.map pA:=by simp [bu,p2,pA]
def EH:List (Int×Int)→List (Nat×AV)
 | []=>[(3,.sl .full 0 [])]
 | x::r=>[(3,.me .sl 30 (x::r).length []),(xk 30,.me .arr 30 2 ((x::r).map pA))]
theorem Al (z:Int×Int) (o:List (Int×Int)) (a b:Int×Int):EH (z::o++[a,b])=[(3,.me .sl 30 ((z::o).length+2) []),(xk 30,.me .arr 30 2 ((z::o).map pA++[pA a,pA b]))]:=by
 simp [EH]
def rO:Img:=⟨0,0,0,0⟩
theorem Ah {l:List Img} {i:Nat} (h:i<l.length):dg (l.take (i+1))=dg (l.take i)++[((l.getD i rO).a,(l.getD i rO).u),((l.getD i rO).b,0 - (l.getD i rO).u)]:=by
 induction l generalizing i with
 | nil=>simp at h
 | cons x r ih=>
  cases i with
  | zero=>rfl
  | succ i => 
   have:=ih (i:=i) (by simpa using h)
   simp only [List.take_succ_cons,dg,this,List.getD_cons_succ,List.cons_append]
theorem Fl {l:List Img} {i:Nat} (h:i<l.length):(l.map kR)[(i:Int).toNat]?=some (kR (l.getD i rO)):=by simp [List.getElem?_eq_getElem h]
theorem oI:∀ l:List Img,(dg l).length=2*l.length
 | []=>rfl
 | x::r=>by simp only [dg,List.length_cons,oI r]; omega
theorem yg (f:Int) (x y:Int×Int) (r:List (Int×Int)):ce f (x::y::r)=if y.1=x.1 then ce (f+x.2) (y::r) else (x.1,f+x.2)::ce (f+x.2) (y::r):=rfl
theorem wU:∀ (l:List Img),(∀ x∈l,0≤x.u∧x.u≤1000000)→∀ p∈dg l,-1000000≤p.2∧p.2≤1000000
 | [],_,p,hp=>nomatch hp
 | x::r,h,p,hp=>by
  have h1:=h x (.head _)
  simp only [dg,List.mem_cons] at hp
  rcases hp with rfl | rfl | hp
  ·dsimp only; omega
  ·dsimp only; omega
  ·exact wU r (fun y hy=>h y (.tail _ hy)) p hp
theorem yn {α:Type} {l:List α} {k:Nat} {a:α} {t:List α} (h:a::t=l.drop k):l[k]?=some a∧t=l.drop (k+1)∧k<l.length:=by
 have h1:(l.drop k)[0]?=some a:=by rw [← h]; rfl
 rw [List.getElem?_drop] at h1
 refine ⟨by simpa using h1,?_,(List.getElem?_eq_some_iff.1 (by simpa using h1)).1⟩
 have:=congrArg List.tail h
 rw [List.tail_drop] at this
 exact this
theorem Bd (l:List Img):ae Tryz.prog 116 [kQ l] (.clo 138 [.ref [kQ l]]):=by
 refine ah aa Tryz.func116 rfl (by kernel_rfl) af (Nat.le_of_ble_eq_true rfl) ?_
 intro F n' w0 m0 hG hro h1
 repeat' first|refine QS rfl hG aa ws ?_|((conv=>whnf); first|refine anF ?_|refine anT ?_|refine anK ?_|refine And.intro (fun h=>?_) (fun h=>?_)|refine Or.inl ?_)
 all_goals exact Ends.mk (Or.inl rfl) (ac rfl)
set_option maxHeartbeats 8000000 in
theorem tn (l:List Img) (hl:l.length≤1000000) (hu:∀ x∈l,0≤x.u∧x.u≤1000000):kf Tryz.prog pA 138 [.ref [kQ l]] (eZ l):=by
 refine kf.of Tryz.func138 rfl (by kernel_rfl) af (Nat.le_of_ble_eq_true rfl) rfl ?_
 intro F n m y J Jx hY
 have ks:=ae.sortNil sy (enters_of Tryz.func139 (by kernel_rfl) rfl) 0 140 (o := .full)
 have hbd:=wU l hu
 refine MPB.seq ?_
 refine MPB.sp (by kernel_rfl) (fun W0 m0 hG hms=>?_) hY
 refine SPB.regN hG aa aI [3] (by kernel_rfl) ?_
 conv=>whnf
 refine MPB.seq ?_
 refine MPB.sp (by kernel_rfl) (fun W0 m0 hG hms=>?_) hY
 repeat' first|refine QS rfl hG aa aI ?_|((conv=>whnf); first|refine anF ?_|refine anT ?_|refine anK ?_|refine And.intro (fun h=>?_) (fun h=>?_)|refine Or.inl ?_)
 refine ar (X:=Nat) (fun i=>⟨(11,.int .i64 i)::(10,.int .i64 (l.map kR).length)::(9,kQ l)::(0,.lit (.func (.yield y) #[] #[]))::EH (dg (l.take i)),[]⟩) (fun i=>i≤l.length) (fun i=>l.length - i) 0 (Nat.zero_le _) (ai ?_ ?_) (fun i hi=>?_)
 ·repeat' (first | exact trivial | refine And.intro rfl ?_)
 ·repeat' (first | exact trivial | refine And.intro rfl ?_)
 ·by_cases hlt:i<l.length
  ·have bbk:decide ((i:Int)<((l.map kR).length:Int))=false→False:=fun h=>by have:=of_decide_eq_false h; simp at this; omega
   have hx:=Fl hlt
   have hux:0≤(l.getD i rO).u∧(l.getD i rO).u≤1000000:=hu _ (by rw [List.getD_eq_getElem?_getD,List.getElem?_eq_getElem hlt]; exact List.getElem_mem hlt)
   have hst:=Ah hlt
   have hln:(dg (l.take i)).length=2*i:=by rw [oI,List.length_take]; omega
   generalize l.getD i rO=x at hx hux hst
   have hng:IntKind.i64.wrap (0 - x.u)=0 - x.u:=(am (by omega) (by omega)).trans (by omega)
   generalize dg (l.take i)=st at hst hln
   rcases st with _ | ⟨z,o⟩
   ·skip
    repeat' first|exact (bbk (by assumption)).elim|refine QS rfl hG aa aI ?_|((conv=>whnf); first|refine anF ?_|refine anT ?_|refine anK ?_|refine And.intro (Int.natCast_nonneg i) (Exists.intro _ (And.intro hx ?_))|refine Or.inr (And.intro rfl (And.intro (Nat.le_of_ble_eq_true rfl) (And.intro (Nat.le_of_ble_eq_true rfl) (And.intro (Nat.le_of_ble_eq_true rfl) ?_))))|refine And.intro (fun h=>?_) (fun h=>?_)|refine Or.inl ?_)
    conv=>whnf
    refine Exists.intro (i+1) (And.intro hlt (And.intro (by omega) ?_))
    rw [hst,hng]
    refine ai (And.intro (congrArg some (aq (by omega))) ?_) ?_
    ·repeat' (first | exact trivial | refine And.intro rfl ?_)
    ·repeat' (first | exact trivial | refine And.intro rfl ?_)
   ·have hml:((z::o).map pA).length=2*i:=by rw [List.length_map]; exact hln
    repeat' first|exact (bbk (by assumption)).elim|refine QS rfl hG aa aI ?_|((conv=>whnf); first|refine anF ?_|refine anT ?_|refine anK ?_|refine And.intro (Int.natCast_nonneg i) (Exists.intro _ (And.intro hx ?_))|refine And.intro (Nat.le_of_ble_eq_true rfl) (And.intro (show (((z::o).map pA).length+2)*16≤70368744177664 by rw [hml]; omega) (And.intro (show ((z::o).map pA).length+2≤4611686018427387904 by rw [hml]; omega) ?_))|refine And.intro (fun h=>?_) (fun h=>?_)|refine Or.inl ?_)
    conv=>whnf
    refine Exists.intro (i+1) (And.intro hlt (And.intro (by omega) ?_))
    rw [hst,Al,hng]
    refine ai (And.intro (congrArg some (aq (by omega))) ?_) ?_
    ·repeat' (first | exact trivial | refine And.intro rfl ?_)
    ·repeat' (first | exact trivial | refine And.intro rfl ?_)
  ·have he:l.take i=l:=List.take_of_length_le (by omega)
   have bbk:decide ((i:Int)<((l.map kR).length:Int))=true→False:=fun h=>by have:=of_decide_eq_true h; simp at this; omega
   rw [he]
   have hln:=oI l
   have hbd:=hbd
   have hfl:=fun (s:List (Int×Int)) (hp:s.Perm (dg l)) (hs:s.Pairwise fun x y=>x.1≤y.1)=>rU hp hs
   generalize dg l=st at hln hfl hbd
   rcases st with _ | ⟨z,o⟩
   ·have hf0:=hfl [] (.refl _) .nil
    repeat' first|exact (bbk (by assumption)).elim|refine QS rfl hG aa aI ?_|((conv=>whnf); first|refine anF ?_|refine anT ?_|refine anK ?_|refine And.intro (fun h=>?_) (fun h=>?_)|refine Or.inl ?_)
    refine MPB.seq ?_
    refine MPB.sp (by kernel_rfl) (fun W0 m0 hG hms=>?_) hY
    refine Q4 hG aa aI (by kernel_rfl) ?_
    repeat' first|refine MPB.sp (c := .region _ _ true) (by kernel_rfl) (fun W0 m0 hG hms=>?_) hY|refine Q3 hG aa aI (by kernel_rfl) ?_|refine MPB.seq ?_|refine MPB.block ?_|refine MPB.reg hY aa aI (by kernel_rfl) ?_|refine MPB.skip ?_|refine MPB.label ?_|refine MPB.ret ?_|refine MPB.exit ?_|refine MPB.condT rfl ?_|refine MPB.condF rfl ?_|refine MPB.cond rfl (And.intro (fun h=>?_) (fun h=>?_))|((conv=>whnf); first|refine anF ?_|refine anT ?_|refine anK ?_|refine Exists.intro _ (And.intro (ks) ?_)|refine And.intro (fun h=>?_) (fun h=>?_)|refine Or.inl ?_)
    refine MPB.loop (X:=Unit) (fun _=>((false,0),⟨[(36,.int .i64 0),(35,.int .i64 0),(0,.lit (.func (.yield y) #[] #[]))],[]⟩)) (fun _=>True) (fun _=>0) () trivial rfl (ai ?_ ?_) (fun _ _=>?_)
    ·repeat' (first | exact trivial | refine And.intro rfl ?_)
    ·repeat' (first | exact trivial | refine And.intro rfl ?_)
    ·have bb0:decide ((0:Int)<0)=true→False:=fun h=>by simp at h
     repeat' first|exact (bb0 (by assumption)).elim|refine MPB.seq ?_|refine MPB.block ?_|refine MPB.reg hY aa aI (by kernel_rfl) ?_|refine MPB.skip ?_|refine MPB.label ?_|refine MPB.ret ?_|refine MPB.exit ?_|refine MPB.condT rfl ?_|refine MPB.condF rfl ?_|refine MPB.cond rfl (And.intro (fun h=>?_) (fun h=>?_))|((conv=>whnf); first|refine anF ?_|refine anT ?_|refine anK ?_|refine And.intro (fun h=>?_) (fun h=>?_)|refine Or.inl ?_)
     exact fp.mk (Or.inr rfl) (Or.inl (congrArg (Prod.mk false) (by rw [← hf0]; rfl)))
   ·skip
    repeat' first|exact (bbk (by assumption)).elim|refine QS rfl hG aa aI ?_|((conv=>whnf); first|refine anF ?_|refine anT ?_|refine anK ?_|refine And.intro (fun h=>?_) (fun h=>?_)|refine Or.inl ?_)
    refine MPB.seq ?_
    refine MPB.sp (by kernel_rfl) (fun W0 m0 hG hms=>?_) hY
    refine SPB.oregX hG aa aI 1 (by kernel_rfl) ?_
    conv=>whnf
    refine Exists.intro ((z::o).map p2) (Exists.intro _ (And.intro (sv (z::o) ?_) (And.intro (B1 _).symm (And.intro ?_ ?_))))
    ·omega
    ·intro x hx; obtain ⟨y,_,rfl⟩:=List.mem_map.1 hx; rfl
    ·rintro r rows ⟨rfl,s,hp,hs,rfl⟩ _ _
     conv=>whnf
     rw [B1]
     have hs':s.Pairwise fun x y=>x.1≤y.1:=hs.imp fun h=>(qz _ _).1 h
     have hf:=hfl s hp hs'
     have hbs:∀ p∈s,-1000000≤p.2∧p.2≤1000000:=fun p h=>hbd p (hp.mem_iff.1 h)
     have hsl:s.length≤2000000:=by have:=hp.length_eq; omega
     repeat' first|refine MPB.seq ?_|refine MPB.block ?_|refine MPB.reg hY aa aI (by kernel_rfl) ?_|refine MPB.skip ?_|refine MPB.label ?_|refine MPB.ret ?_|refine MPB.exit ?_|refine MPB.condT rfl ?_|refine MPB.condF rfl ?_|refine MPB.cond rfl (And.intro (fun h=>?_) (fun h=>?_))|((conv=>whnf); first|refine anF ?_|refine anT ?_|refine anK ?_|refine And.intro (fun h=>?_) (fun h=>?_)|refine Or.inl ?_)
     refine MPB.loop (X:=Nat×Int×Nat) (fun x=>((false,x.2.2),⟨[(36,.int .i64 x.1),(35,.int .i64 (s.map pA).length),(34,.sl .no 2 (s.map pA)),(3,.sl .no 2 (s.map pA)),(6,.int .i64 x.2.1),(0,.lit (.func (.yield y) #[] #[]))],[]⟩)) (fun x=>x.1≤s.length∧ce x.2.1 (s.drop x.1)=(eZ l).drop x.2.2∧x.2.2≤(eZ l).length∧-1000000*(x.1:Int)≤x.2.1∧x.2.1≤1000000*(x.1:Int)) (fun x=>s.length - x.1) (0,0,0) ⟨Nat.zero_le _,hf,Nat.zero_le _,by decide,by decide⟩ rfl (ai ?_ ?_) (fun x hI=>?_)
     ·repeat' (first | exact trivial | refine And.intro rfl ?_)
     ·repeat' (first | exact trivial | refine And.intro rfl ?_)
     ·obtain ⟨j,f,k⟩:=x
      obtain ⟨hj,hfr,hk,hf1,hf2⟩:=hI
      simp only at hj hfr hk hf1 hf2 ⊢
      by_cases hjl:j<s.length
      ·have bbj:decide ((j:Int)<((s.map pA).length:Int))=false→False:=fun h=>by have:=of_decide_eq_false h; simp at this; omega
       have hx:(s.map pA)[(j:Int).toNat]?=some (pA s[j]):=by simp [List.getElem?_eq_getElem hjl]
       have hxb:=hbs s[j] (List.getElem_mem hjl)
       rw [List.drop_eq_getElem_cons hjl] at hfr
       have hw1:IntKind.i64.wrap ((j:Int)+1)=((j+1:Nat):Int):=(am (by omega) (by omega)).trans (by omega)
       generalize s[j]=x at hx hxb hfr
       have hwf:IntKind.i64.wrap (f+x.2)=f+x.2:=am (by omega) (by omega)
       by_cases hj1:j+1<s.length
       ·have bb1:decide (IntKind.i64.wrap ((j:Int)+1)<((s.map pA).length:Int))=false→False:=fun h=>by rw [hw1] at h; have:=of_decide_eq_false h; simp at this; omega
        have hy:(s.map pA)[(IntKind.i64.wrap ((j:Int)+1)).toNat]?=some (pA s[j+1]):=by rw [hw1,Int.toNat_natCast]; simp [List.getElem?_eq_getElem hj1]
        have h0:0≤IntKind.i64.wrap ((j:Int)+1):=by rw [hw1]; exact Int.natCast_nonneg _
        rw [List.drop_eq_getElem_cons hj1,yg,← List.drop_eq_getElem_cons hj1] at hfr
        generalize s[j+1]=z at hy hfr
        repeat' first|exact (bbj (by assumption)).elim|exact (bb1 (by assumption)).elim|refine MPB.sp (c := .region _ _ true) (by kernel_rfl) (fun W0 m0 hG hms=>?_) hY|refine Q3 hG aa aI (by kernel_rfl) ?_|refine MPB.seq ?_|refine MPB.block ?_|refine MPB.reg hY aa aI (by kernel_rfl) ?_|refine MPB.skip ?_|refine MPB.label ?_|refine MPB.ret ?_|refine MPB.exit ?_|refine MPB.condT rfl ?_|refine MPB.condF rfl ?_|refine MPB.cond rfl (And.intro (fun h=>?_) (fun h=>?_))|((conv=>whnf); first|refine anF ?_|refine anT ?_|refine anK ?_|refine And.intro (Int.natCast_nonneg j) (Exists.intro _ (And.intro hx ?_))|refine And.intro h0 (Exists.intro _ (And.intro hy ?_))|refine And.intro (fun h=>?_) (fun h=>?_)|refine Or.inl ?_)
        ·have hzx:=beq_iff_eq.1 (by assumption:(z.1==x.1)=true)
         rw [if_pos hzx] at hfr
         refine Exists.intro (j+1,f+x.2,k) (And.intro ⟨hjl,hfr,hk,show -1000000*((j+1:Nat):Int)≤f+x.2 by omega,show f+x.2≤1000000*((j+1:Nat):Int) by omega⟩ (And.intro (show s.length - (j+1)<s.length - j by omega) (And.intro rfl (ai ?_ ?_))))
         ·exact And.intro (congrArg some (aq (by omega))) (And.intro rfl (And.intro rfl (And.intro rfl (And.intro (congrArg (fun z=>some (AV.int .i64 z)) hwf) (And.intro rfl trivial)))))
         ·repeat' (first | exact trivial | refine And.intro rfl ?_)
        ·have hzx:¬ z.1=x.1:=fun h=>by have:=(by assumption:(z.1==x.1)=false); rw [h] at this; simp at this
         rw [if_neg hzx] at hfr
         obtain ⟨hg1,hg2,hg3⟩:=yn hfr
         refine Exists.intro (x.1,f+x.2) (And.intro hg1 (And.intro (congrArg (fun z=>[AV.int .i64 x.1,AV.int .i64 z]) hwf) (fun t ht=>?_)))
         subst ht
         refine And.intro ?_ ?_
         ·skip
          repeat' first|refine MPB.seq ?_|refine MPB.block ?_|refine MPB.reg hY aa aI (by kernel_rfl) ?_|refine MPB.skip ?_|refine MPB.label ?_|refine MPB.ret ?_|refine MPB.exit ?_|refine MPB.condT rfl ?_|refine MPB.condF rfl ?_|refine MPB.cond rfl (And.intro (fun h=>?_) (fun h=>?_))|((conv=>whnf); first|refine anF ?_|refine anT ?_|refine anK ?_|refine And.intro (fun h=>?_) (fun h=>?_)|refine Or.inl ?_)
          refine Exists.intro (j+1,f+x.2,k+1) (And.intro ⟨hjl,hg2,hg3,show -1000000*((j+1:Nat):Int)≤f+x.2 by omega,show f+x.2≤1000000*((j+1:Nat):Int) by omega⟩ (And.intro (show s.length - (j+1)<s.length - j by omega) (And.intro rfl (ai ?_ ?_))))
          ·exact And.intro (congrArg some (aq (by omega))) (And.intro rfl (And.intro rfl (And.intro rfl (And.intro (congrArg (fun z=>some (AV.int .i64 z)) hwf) (And.intro rfl trivial)))))
          ·repeat' (first | exact trivial | refine And.intro rfl ?_)
         ·skip
          repeat' first|refine MPB.seq ?_|refine MPB.block ?_|refine MPB.reg hY aa aI (by kernel_rfl) ?_|refine MPB.skip ?_|refine MPB.label ?_|refine MPB.ret ?_|refine MPB.exit ?_|refine MPB.condT rfl ?_|refine MPB.condF rfl ?_|refine MPB.cond rfl (And.intro (fun h=>?_) (fun h=>?_))|((conv=>whnf); first|refine anF ?_|refine anT ?_|refine anK ?_|refine And.intro (fun h=>?_) (fun h=>?_)|refine Or.inl ?_)
          exact fp.mk (Or.inl rfl) (Or.inr rfl)
       ·have bb1:decide (IntKind.i64.wrap ((j:Int)+1)<((s.map pA).length:Int))=true→False:=fun h=>by rw [hw1] at h; have:=of_decide_eq_true h; simp at this; omega
        repeat' first|exact (bbj (by assumption)).elim|exact (bb1 (by assumption)).elim|refine MPB.sp (c := .region _ _ true) (by kernel_rfl) (fun W0 m0 hG hms=>?_) hY|refine Q3 hG aa aI (by kernel_rfl) ?_|refine MPB.seq ?_|refine MPB.block ?_|refine MPB.reg hY aa aI (by kernel_rfl) ?_|refine MPB.skip ?_|refine MPB.label ?_|refine MPB.ret ?_|refine MPB.exit ?_|refine MPB.condT rfl ?_|refine MPB.condF rfl ?_|refine MPB.cond rfl (And.intro (fun h=>?_) (fun h=>?_))|((conv=>whnf); first|refine anF ?_|refine anT ?_|refine anK ?_|refine And.intro (Int.natCast_nonneg j) (Exists.intro _ (And.intro hx ?_))|refine And.intro (fun h=>?_) (fun h=>?_)|refine Or.inl ?_)
        have hde:s.drop (j+1)=[]:=List.drop_of_length_le (by omega)
        rw [hde] at hfr
        obtain ⟨hg1,hg2,hg3⟩:=yn (show (x.1,f+x.2)::[]=(eZ l).drop k from hfr)
        rw [← show ce (f+x.2) (s.drop (j+1))=[] by rw [hde]; rfl] at hg2
        refine Exists.intro (x.1,f+x.2) (And.intro hg1 (And.intro (congrArg (fun z=>[AV.int .i64 x.1,AV.int .i64 z]) hwf) (fun t ht=>?_)))
        subst ht
        refine And.intro ?_ ?_
        ·skip
         repeat' first|refine MPB.seq ?_|refine MPB.block ?_|refine MPB.reg hY aa aI (by kernel_rfl) ?_|refine MPB.skip ?_|refine MPB.label ?_|refine MPB.ret ?_|refine MPB.exit ?_|refine MPB.condT rfl ?_|refine MPB.condF rfl ?_|refine MPB.cond rfl (And.intro (fun h=>?_) (fun h=>?_))|((conv=>whnf); first|refine anF ?_|refine anT ?_|refine anK ?_|refine And.intro (fun h=>?_) (fun h=>?_)|refine Or.inl ?_)
         refine Exists.intro (j+1,f+x.2,k+1) (And.intro ⟨hjl,hg2,hg3,show -1000000*((j+1:Nat):Int)≤f+x.2 by omega,show f+x.2≤1000000*((j+1:Nat):Int) by omega⟩ (And.intro (show s.length - (j+1)<s.length - j by omega) (And.intro rfl (ai ?_ ?_))))
         ·exact And.intro (congrArg some (aq (by omega))) (And.intro rfl (And.intro rfl (And.intro rfl (And.intro (congrArg (fun z=>some (AV.int .i64 z)) hwf) (And.intro rfl trivial)))))
         ·repeat' (first | exact trivial | refine And.intro rfl ?_)
        ·skip
         repeat' first|refine MPB.seq ?_|refine MPB.block ?_|refine MPB.reg hY aa aI (by kernel_rfl) ?_|refine MPB.skip ?_|refine MPB.label ?_|refine MPB.ret ?_|refine MPB.exit ?_|refine MPB.condT rfl ?_|refine MPB.condF rfl ?_|refine MPB.cond rfl (And.intro (fun h=>?_) (fun h=>?_))|((conv=>whnf); first|refine anF ?_|refine anT ?_|refine anK ?_|refine And.intro (fun h=>?_) (fun h=>?_)|refine Or.inl ?_)
         exact fp.mk (Or.inl rfl) (Or.inr rfl)
      ·have bbj:decide ((j:Int)<((s.map pA).length:Int))=true→False:=fun h=>by have:=of_decide_eq_true h; simp at this; omega
       repeat' first|exact (bbj (by assumption)).elim|refine MPB.sp (c := .region _ _ true) (by kernel_rfl) (fun W0 m0 hG hms=>?_) hY|refine Q3 hG aa aI (by kernel_rfl) ?_|refine MPB.seq ?_|refine MPB.block ?_|refine MPB.reg hY aa aI (by kernel_rfl) ?_|refine MPB.skip ?_|refine MPB.label ?_|refine MPB.ret ?_|refine MPB.exit ?_|refine MPB.condT rfl ?_|refine MPB.condF rfl ?_|refine MPB.cond rfl (And.intro (fun h=>?_) (fun h=>?_))|((conv=>whnf); first|refine anF ?_|refine anT ?_|refine anK ?_|refine And.intro (fun h=>?_) (fun h=>?_)|refine Or.inl ?_)
       have hke:k=(eZ l).length:=by
        rw [List.drop_of_length_le (by omega)] at hfr
        have:=congrArg List.length hfr
        simp [ce] at this; omega
       exact fp.mk (Or.inr rfl) (Or.inl (congrArg (Prod.mk false) hke))
end Go.Proofs
