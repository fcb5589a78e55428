/- Contracts of the functions and plain facts about what they reckon, part 2: called with arguments that read so, each hands back what is typed. The conditions are those typed. -/
import Derived.Test.YtehdegggapeihaaGreatXConA
import Derived.Shelf.SlLaysF0
set_option linter.unusedSectionVars false
set_option linter.unusedVariables false
set_option linter.unusedSimpArgs false
namespace Go.Proofs
open Go Go.AI
set_option maxRecDepth 10000
def EE (a b : Int) : Bool:=decide (0 ≤ a) && decide (a < b) && decide (b ≤ 1000000) && decide (w64 (b - a) ≤ 3000)
structure DB where
 a : Int
 b : Int
 k : Int
end Go.Proofs
namespace Go.Proofs
open Go Go.AI
set_option maxRecDepth 10000
def FG (s : Nat → Int) (x : DB) : Bool:=decide (0 ≤ x.a) && decide (x.a < x.b) && decide (x.b ≤ 1000000) && decide (w64 (x.b - x.a) ≤ 60) && inS x.k (w64 (0 - s 9)) (s 9)
def FF (s : Nat → Int) (l : List DB) : Bool:=l.all (FG s) && decide (l.length ≤ 64)
def Fn (s : Nat → Int) (l : List DB) : Bool:=FF s l && gt s
end Go.Proofs
namespace Go.Proofs
open Go Go.AI
set_option maxRecDepth 10000
def hv (g : Int → Int) (a : Int) : Nat → Int
 | 0 => 0
 | n + 1 => max 0 (hv g a n + g (a + n))
end Go.Proofs
namespace Go.Proofs
open Go Go.AI
set_option maxRecDepth 10000
structure aU where
 p : Int
 a : Int
 b : Int
deriving DecidableEq
def aw (x : aU) : List AV:=[.int .i64 x.p,.int .i64 x.a,.int .i64 x.b]
structure Opt where
 id : Int
 ord : Int
 cl : Int
 sat : Int
 a : Int
 b : Int
 look : Int
 size : Int
 sl : List aU
def ua (l : List aU) : AV:=.sl .no 3 (l.map aw)
def aH (o : Opt) : List AV:=[.int .i64 o.id,.int .i64 o.ord,.int .i64 o.cl,.int .i64 o.sat,.int .i64 o.a,.int .i64 o.b,.int .i64 o.look,.int .i64 o.size,ua o.sl]
def aM (l : List Opt) : AV:=.sl .no 9 (l.map aH)
theorem jb (n a b : Int) : ae Tryz.prog 153 [.int .i64 n,.int .i64 a,.int .i64 b] (.bool (inS n a b)):=by
 refine ag aa Tryz.func153 rfl (by kernel_rfl) af (Nat.le_of_ble_eq_true rfl) ?_
 intro F n' w0 m0 hG hro h1
 repeat' first|refine Q1 ?_|refine Q2 ?_|refine Q3 hG aa n9 ?_|refine Q4 hG aa n9 ?_|refine Q5 hG aa ?_|refine Q6 hG aa ?_|refine Q7 hG aa ?_|refine Q8 hG aa ?_|refine Q9 rfl ?_|refine QF rfl ?_|refine QC rfl ⟨fun h => ?_,fun h => ?_⟩|((conv => whnf); first|refine anF ?_|refine anT ?_|refine anK ?_|refine And.intro (fun h => ?_) (fun h => ?_)|refine Or.inl ?_)
 all_goals refine Ends.mk (Or.inl rfl) (ac (congrArg AV.bool ?_))
 all_goals (simp_all [inS] <;> omega)
theorem Az (n a b : Int) : ae Tryz.prog 228 [.int .i64 n,.int .i64 a,.int .i64 b] (.bool (inS n a b)):=by
 refine ag aa Tryz.func228 rfl (by kernel_rfl) af (Nat.le_of_ble_eq_true rfl) ?_
 intro F n' w0 m0 hG hro h1
 repeat' first|refine Q1 ?_|refine Q2 ?_|refine Q3 hG aa nv ?_|refine Q4 hG aa nv ?_|refine Q5 hG aa ?_|refine Q6 hG aa ?_|refine Q7 hG aa ?_|refine Q8 hG aa ?_|refine Q9 rfl ?_|refine QF rfl ?_|refine QC rfl ⟨fun h => ?_,fun h => ?_⟩|((conv => whnf); first|refine anF ?_|refine anT ?_|refine anK ?_|refine And.intro (fun h => ?_) (fun h => ?_)|refine Or.inl ?_)
 all_goals refine Ends.mk (Or.inl rfl) (ac (congrArg AV.bool ?_))
 all_goals (simp_all [inS] <;> omega)
theorem tK (n a b : Int) : ae Tryz.prog 104 [.int .i64 n,.int .i64 a,.int .i64 b] (.bool (inS n a b)):=by
 refine ag aa Tryz.func104 rfl (by kernel_rfl) af (Nat.le_of_ble_eq_true rfl) ?_
 intro F n' w0 m0 hG hro h1
 repeat' first|refine Q1 ?_|refine Q2 ?_|refine Q3 hG aa gM ?_|refine Q4 hG aa gM ?_|refine Q5 hG aa ?_|refine Q6 hG aa ?_|refine Q7 hG aa ?_|refine Q8 hG aa ?_|refine Q9 rfl ?_|refine QF rfl ?_|refine QC rfl ⟨fun h => ?_,fun h => ?_⟩|((conv => whnf); first|refine anF ?_|refine anT ?_|refine anK ?_|refine And.intro (fun h => ?_) (fun h => ?_)|refine Or.inl ?_)
 all_goals refine Ends.mk (Or.inl rfl) (ac (congrArg AV.bool ?_))
 all_goals (simp_all [inS] <;> omega)
theorem rY (a b : Int) : ae Tryz.prog 83 [.agg (aK a b)] (.bool (bE a b)):=by
 refine ag aa Tryz.func83 rfl (by kernel_rfl) af (Nat.le_of_ble_eq_true rfl) ?_
 intro F n' w0 m0 hG hro h1
 repeat' first|refine Q1 ?_|refine Q2 ?_|refine Q3 hG aa pV ?_|refine Q4 hG aa pV ?_|refine Q5 hG aa ?_|refine Q6 hG aa ?_|refine Q7 hG aa ?_|refine Q8 hG aa ?_|refine Q9 rfl ?_|refine QF rfl ?_|refine QC rfl ⟨fun h => ?_,fun h => ?_⟩|((conv => whnf); first|refine anF ?_|refine anT ?_|refine anK ?_|refine Exists.intro _ (And.intro (jb _ _ _) ?_)|refine And.intro (fun h => ?_) (fun h => ?_)|refine Or.inl ?_)
 all_goals refine Ends.mk (Or.inl rfl) (ac (congrArg AV.bool ?_))
 all_goals (simp only [bE, *,Bool.true_and,Bool.and_true,Bool.false_and,Bool.and_false]; try rfl)
def jz (a b : Int) : Bool:=decide (0 ≤ a) && decide (a < b) && decide (b ≤ 1000001)
theorem tI (a b : Int) : ae Tryz.prog 170 [.agg (aK a b)] (.bool (jz a b)):=by
 refine ag aa Tryz.func170 rfl (by kernel_rfl) af (Nat.le_of_ble_eq_true rfl) ?_
 intro F n' w0 m0 hG hro h1
 repeat' first|refine Q1 ?_|refine Q2 ?_|refine Q3 hG aa gI ?_|refine Q4 hG aa gI ?_|refine Q5 hG aa ?_|refine Q6 hG aa ?_|refine Q7 hG aa ?_|refine Q8 hG aa ?_|refine Q9 rfl ?_|refine QF rfl ?_|refine QC rfl ⟨fun h => ?_,fun h => ?_⟩|((conv => whnf); first|refine anF ?_|refine anT ?_|refine anK ?_|refine And.intro (fun h => ?_) (fun h => ?_)|refine Or.inl ?_)
 all_goals refine Ends.mk (Or.inl rfl) (ac (congrArg AV.bool ?_))
 all_goals (simp_all [jz] <;> (intros; omega))
def vP (a b m : Int) : Bool:=jz a b && decide (w64 (b - a) ≤ m)
theorem AA (a b m : Int) : ae Tryz.prog 227 [.agg (aK a b),.int .i64 m] (.bool (vP a b m)):=by
 refine ag aa Tryz.func227 rfl (by kernel_rfl) af (Nat.le_of_ble_eq_true rfl) ?_
 intro F n' w0 m0 hG hro h1
 repeat' first|refine Q1 ?_|refine Q2 ?_|refine Q3 hG aa nw ?_|refine Q4 hG aa nw ?_|refine Q5 hG aa ?_|refine Q6 hG aa ?_|refine Q7 hG aa ?_|refine Q8 hG aa ?_|refine Q9 rfl ?_|refine QF rfl ?_|refine QC rfl ⟨fun h => ?_,fun h => ?_⟩|((conv => whnf); first|refine anF ?_|refine anT ?_|refine anK ?_|refine And.intro (fun h => ?_) (fun h => ?_)|refine Or.inl ?_)
 all_goals refine Ends.mk (Or.inl rfl) (ac (congrArg AV.bool ?_))
 all_goals (simp only [vP,jz,w64, *,Bool.true_and,Bool.and_true,Bool.false_and,Bool.and_false]; try rfl)
def oH (o : Nat → Int) (a b k : Int) : Bool:=lB o && vP a b 60 && inS k (-4) 4
theorem AB (o : Nat → Int) (a b k : Int) : ae Tryz.prog 161 [.agg (kT o),.agg (aK a b),.int .i64 k] (.bool (oH o a b k)):=by
 refine ag aa Tryz.func161 rfl (by kernel_rfl) af (Nat.le_of_ble_eq_true rfl) ?_
 intro F n' w0 m0 hG hro h1
 repeat' first|refine Q1 ?_|refine Q2 ?_|refine Q3 hG aa nY ?_|refine Q4 hG aa nY ?_|refine Q5 hG aa ?_|refine Q6 hG aa ?_|refine Q7 hG aa ?_|refine Q8 hG aa ?_|refine Q9 rfl ?_|refine QF rfl ?_|refine QC rfl ⟨fun h => ?_,fun h => ?_⟩|((conv => whnf); first|refine anF ?_|refine anT ?_|refine anK ?_|refine Exists.intro _ (And.intro (sy o) ?_)|refine Exists.intro _ (And.intro (AA _ _ _) ?_)|refine Exists.intro _ (And.intro (Az _ _ _) ?_)|refine And.intro (fun h => ?_) (fun h => ?_)|refine Or.inl ?_)
 all_goals refine Ends.mk (Or.inl rfl) (ac (congrArg AV.bool ?_))
 all_goals simp only [oH, *,Bool.true_and,Bool.and_true,Bool.false_and,Bool.and_false]
def eO : Int → List aU → Bool
 | _,[] => true
 | t,x :: r => decide (t ≤ x.a) && jz x.a x.b && eO x.b r
def iY (o : Opt) : Bool:=eO o.b o.sl && (inS o.id 0 63 && inS o.size 1 1000000 && jz o.a o.b && inS (o.sl.length : Int) 1 6)
theorem cR {l : List aU} {i : Nat} (h : i < l.length) : (l.map aw)[(i : Int).toNat]? = some [.int .i64 (l.getD i ⟨0,0,0⟩).p,.int .i64 (l.getD i ⟨0,0,0⟩).a,.int .i64 (l.getD i ⟨0,0,0⟩).b]:=by simp [List.getElem?_eq_getElem h]; rfl
theorem pD {t : Int} {l : List aU} {i : Nat} (h : i < l.length) : eO t (l.drop i) = (decide (t ≤ (l.getD i ⟨0,0,0⟩).a) && jz (l.getD i ⟨0,0,0⟩).a (l.getD i ⟨0,0,0⟩).b && eO (l.getD i ⟨0,0,0⟩).b (l.drop (i + 1))):=by
 rw [List.drop_eq_getElem_cons h,List.getD_eq_getElem?_getD,List.getElem?_eq_getElem h]; rfl
set_option maxHeartbeats 4000000 in
theorem AC (o : Opt) (hl : o.sl.length ≤ 1000000) : ae Tryz.prog 103 [.agg (aH o)] (.bool (iY o)):=by
 have hlm : ((o.sl.map aw).length : Int) = (o.sl.length : Int):=by rw [List.length_map]
 refine ag aa Tryz.func103 rfl (by kernel_rfl) af (Nat.le_of_ble_eq_true rfl) ?_
 intro F n' w0 m0 hG hro h1
 repeat' first|refine Q1 ?_|refine Q2 ?_|refine Q3 hG aa eL ?_|refine Q4 hG aa eL ?_|refine Q5 hG aa ?_|refine Q6 hG aa ?_|refine Q7 hG aa ?_|refine Q8 hG aa ?_|refine Q9 rfl ?_|refine QF rfl ?_|refine QC rfl ⟨fun h => ?_,fun h => ?_⟩|((conv => whnf); first|refine anF ?_|refine anT ?_|refine anK ?_|refine And.intro (fun h => ?_) (fun h => ?_)|refine Or.inl ?_)
 refine ar (X:=Nat × Int × Int) (fun q => ⟨[(11,.int .i64 q.1),(10,.int .i64 (o.sl.map aw).length),(9,ua o.sl),(3,.loc 3 0),(1,.loc 1 0)],[(3,aK q.2.1 q.2.2),(1,aH o)]⟩)
  (fun q => q.1 ≤ o.sl.length ∧ eO q.2.2 (o.sl.drop q.1) = eO o.b o.sl) (fun q => o.sl.length - q.1) (0,o.a,o.b) ⟨Nat.zero_le _,rfl⟩ (ah ?_ ?_) (fun q hq => ?_)
 ·repeat' (first | exact trivial | refine And.intro rfl ?_)
 ·repeat' (first | exact trivial | refine And.intro rfl ?_)
 ·obtain ⟨i,la,lb⟩:=q
  obtain ⟨hi,hf⟩:=hq
  have hi : i ≤ o.sl.length:=hi
  have hf : eO lb (o.sl.drop i) = eO o.b o.sl:=hf
  by_cases hlt : i < o.sl.length
  ·have bbk : decide ((i : Int) < ((o.sl.map aw).length : Int)) = false → False:=fun h => by have:=of_decide_eq_false h; omega
   have hx:=cR hlt
   rw [pD hlt] at hf
   generalize o.sl.getD i ⟨0,0,0⟩ = x at hx hf
   have bad : (decide (lb ≤ x.a) && jz x.a x.b) = false → false = iY o:=fun h => by rw [h,Bool.false_and] at hf; rw [iY,← hf,Bool.false_and]
   repeat' first|exact (bbk (by assumption)).elim|refine Q1 ?_|refine Q2 ?_|refine Q3 hG aa eL ?_|refine Q4 hG aa eL ?_|refine Q5 hG aa ?_|refine Q6 hG aa ?_|refine Q7 hG aa ?_|refine Q8 hG aa ?_|refine Q9 rfl ?_|refine QF rfl ?_|refine QC rfl ⟨fun h => ?_,fun h => ?_⟩|((conv => whnf); first|refine anF ?_|refine anT ?_|refine anK ?_|refine And.intro (Int.natCast_nonneg i) (Exists.intro _ (And.intro hx ?_))|refine Exists.intro _ (And.intro (tI _ _) ?_)|refine And.intro (fun h => ?_) (fun h => ?_)|refine Or.inl ?_)
   ·have h:=of_decide_eq_true (by assumption : decide (x.a < lb) = true)
    exact Ends.mk (Or.inl rfl) (ac (congrArg AV.bool (bad (by rw [decide_eq_false (by omega),Bool.false_and]))))
   ·have h:=zO (by assumption : (!jz x.a x.b) = true)
    exact Ends.mk (Or.inl rfl) (ac (congrArg AV.bool (bad (by rw [h,Bool.and_false]))))
   ·have h1:=of_decide_eq_false (by assumption : decide (x.a < lb) = false)
    have h2:=mD (by assumption : (!jz x.a x.b) = false)
    rw [decide_eq_true (show lb ≤ x.a by omega),h2,Bool.true_and,Bool.true_and] at hf
    refine Exists.intro (i + 1,x.a,x.b) (And.intro ⟨hlt,hf⟩ (And.intro (by show o.sl.length - (i + 1) < o.sl.length - i; omega) (ah ?_ ?_)))
    ·refine And.intro (congrArg some (ap (by omega))) ?_
     repeat' (first | exact trivial | refine And.intro rfl ?_)
    ·repeat' (first | exact trivial | refine And.intro rfl ?_)
  ·have hge : i = o.sl.length:=by omega
   have bbk : decide ((i : Int) < ((o.sl.map aw).length : Int)) = true → False:=fun h => by have:=of_decide_eq_true h; omega
   rw [List.drop_of_length_le (by omega)] at hf
   have hft : eO o.b o.sl = true:=hf.symm
   clear hf
   repeat' first|exact (bbk (by assumption)).elim|refine Q1 ?_|refine Q2 ?_|refine Q3 hG aa eL ?_|refine Q4 hG aa eL ?_|refine Q5 hG aa ?_|refine Q6 hG aa ?_|refine Q7 hG aa ?_|refine Q8 hG aa ?_|refine Q9 rfl ?_|refine QF rfl ?_|refine QC rfl ⟨fun h => ?_,fun h => ?_⟩|((conv => whnf); first|refine anF ?_|refine anT ?_|refine anK ?_|refine Exists.intro _ (And.intro (tK _ _ _) ?_)|refine Exists.intro _ (And.intro (tI _ _) ?_)|refine And.intro (fun h => ?_) (fun h => ?_)|refine Or.inl ?_)
   all_goals refine Ends.mk (Or.inl rfl) (ac (congrArg AV.bool ?_))
   all_goals (rw [iY,hft]; simp only [hlm, *,Bool.true_and,Bool.and_true,Bool.false_and,Bool.and_false])
end Go.Proofs
namespace Go.Proofs
open Go Go.AI
def fg (out : List ax) (x : ax) : List ax:=match out.getLast? with
 | some y => if y.k = x.k ∧ x.a ≤ y.b then out.dropLast ++ [⟨y.k,y.a,max y.b x.b⟩] else out ++ [x]
 | none => [x]
def dW (l : List ax) : List ax:=l.foldl fg []
def fJ (l : List ax) (k t : Int) : Prop:=∃ x ∈ l,x.k = k ∧ x.a ≤ t ∧ t < x.b
def lR (x y : ax) : Prop:=x.k < y.k ∨ (x.k = y.k ∧ x.b < y.a)
structure eM (l : List ax) : Prop where
 ok : ∀ x ∈ l,x.a < x.b
 sep : l.Pairwise lR
theorem eM.tail {x : ax} {l : List ax} (h : eM (x :: l)) : eM l:=⟨fun y hy => h.ok y (List.mem_cons_of_mem _ hy),(List.pairwise_cons.1 h.sep).2⟩
theorem eM.head {x : ax} {l : List ax} (h : eM (x :: l)) : x.a < x.b ∧ ∀ y ∈ l,lR x y:=⟨h.ok x List.mem_cons_self,(List.pairwise_cons.1 h.sep).1⟩
theorem eM.cov_tail {x : ax} {l : List ax} (h : eM (x :: l)) (k t : Int) : fJ l k t ↔ fJ (x :: l) k t ∧ ¬ (k = x.k ∧ x.a ≤ t ∧ t < x.b):=by
 constructor
 ·rintro ⟨y,hy,h1,h2,h3⟩
  refine ⟨⟨y,List.mem_cons_of_mem _ hy,h1,h2,h3⟩,fun ⟨g1,g2,g3⟩ => ?_⟩
  rcases h.head.2 y hy with g | g <;> omega
 ·rintro ⟨⟨y,hy,h1,h2,h3⟩,hn⟩
  rcases List.mem_cons.1 hy with rfl | hy
  ·exact absurd ⟨h1.symm,h2,h3⟩ hn
  ·exact ⟨y,hy,h1,h2,h3⟩
theorem eM.cov_ge {x : ax} {l : List ax} (h : eM (x :: l)) {k t : Int} (hc : fJ (x :: l) k t) : x.k < k ∨ (x.k = k ∧ x.a ≤ t):=by
 obtain ⟨y,hy,h1,h2,h3⟩:=hc
 rcases List.mem_cons.1 hy with rfl | hy
 ·right; omega
 ·have:=h.head.1
  rcases h.head.2 y hy with g | g <;> omega
theorem eM.cov_end {x : ax} {l : List ax} (h : eM (x :: l)) : ¬ fJ (x :: l) x.k x.b:=by
 rintro ⟨y,hy,h1,h2,h3⟩
 rcases List.mem_cons.1 hy with rfl | hy
 ·omega
 ·rcases h.head.2 y hy with g | g <;> omega
theorem eM.cov_head {x : ax} {l : List ax} {t : Int} (h1 : x.a ≤ t) (h2 : t < x.b) : fJ (x :: l) x.k t:=⟨x,List.mem_cons_self,rfl,h1,h2⟩
theorem eM.unique : ∀ {l m : List ax},eM l → eM m → (∀ k t,fJ l k t ↔ fJ m k t) → l = m
 | [],[],_,_,_ => rfl
 | [],y :: m,_,hm,h => by
  obtain ⟨z,hz,_⟩:=(h y.k y.a).2 (eM.cov_head (Int.le_refl _) hm.head.1)
  cases hz
 | x :: l,[],hl,_,h => by
  obtain ⟨z,hz,_⟩:=(h x.k x.a).1 (eM.cov_head (Int.le_refl _) hl.head.1)
  cases hz
 | x :: l,y :: m,hl,hm,h => by
  have a1:=hm.cov_ge ((h x.k x.a).1 (eM.cov_head (Int.le_refl _) hl.head.1))
  have a2:=hl.cov_ge ((h y.k y.a).2 (eM.cov_head (Int.le_refl _) hm.head.1))
  have hk : x.k = y.k:=by omega
  have ha : x.a = y.a:=by omega
  have b1 : ¬ x.b < y.b:=fun hb => hl.cov_end ((h x.k x.b).2 (by rw [hk]; exact eM.cov_head (by have:=hl.head.1; omega) hb))
  have b2 : ¬ y.b < x.b:=fun hb => hm.cov_end ((h y.k y.b).1 (by rw [← hk]; exact eM.cov_head (by have:=hm.head.1; omega) hb))
  have hxy : x = y:=by
   obtain ⟨xk,xa,xb⟩:=x
   obtain ⟨yk,ya,yb⟩:=y
   (try simp only [ax.mk.injEq] at *)
   omega
  subst hxy
  rw [eM.unique hl.tail hm.tail fun k t => by rw [hl.cov_tail,hm.cov_tail,h]]
theorem fi {l m : List ax} {k t : Int} : fJ (l ++ m) k t ↔ fJ l k t ∨ fJ m k t:=by
 constructor
 ·rintro ⟨x,hx,h⟩
  rcases List.mem_append.1 hx with hx | hx
  ·exact .inl ⟨x,hx,h⟩
  ·exact .inr ⟨x,hx,h⟩
 ·rintro (⟨x,hx,h⟩ | ⟨x,hx,h⟩)
  ·exact ⟨x,List.mem_append_left _ hx,h⟩
  ·exact ⟨x,List.mem_append_right _ hx,h⟩
theorem rP {x : ax} {k t : Int} : fJ [x] k t ↔ x.k = k ∧ x.a ≤ t ∧ t < x.b:=
 ⟨fun ⟨y,hy,h⟩ => by rw [List.mem_singleton] at hy; subst hy; exact h,fun h => ⟨x,List.mem_singleton.2 rfl,h⟩⟩
theorem tz {l m : List ax} (h : l.Perm m) {k t : Int} : fJ l k t ↔ fJ m k t:=
 ⟨fun ⟨x,hx,g⟩ => ⟨x,h.mem_iff.1 hx,g⟩,fun ⟨x,hx,g⟩ => ⟨x,h.mem_iff.2 hx,g⟩⟩
def leL (x y : ax) : Prop:=x.k < y.k ∨ (x.k = y.k ∧ x.a ≤ y.a)
theorem oY {l : List ax} {x : ax} : eM (l ++ [x]) ↔ eM l ∧ x.a < x.b ∧ ∀ y ∈ l,lR y x:=by
 constructor
 ·rintro ⟨h1,h2⟩
  obtain ⟨p1,_,p3⟩:=List.pairwise_append.1 h2
  exact ⟨⟨fun y hy => h1 y (List.mem_append_left _ hy),p1⟩,h1 x (by simp),fun y hy => p3 y hy x (by simp)⟩
 ·rintro ⟨⟨h1,h2⟩,h3,h4⟩
  refine ⟨fun y hy => ?_,List.pairwise_append.2 ⟨h2,by simp,fun y hy z hz => ?_⟩⟩
  ·rcases List.mem_append.1 hy with hy | hy
   ·exact h1 y hy
   ·rw [List.mem_singleton] at hy; subst hy; exact h3
  ·rw [List.mem_singleton] at hz; subst hz; exact h4 y hy
theorem jy (o : List ax) (y x : ax) : fg (o ++ [y]) x = if y.k = x.k ∧ x.a ≤ y.b then o ++ [⟨y.k,y.a,max y.b x.b⟩] else o ++ [y] ++ [x]:=by
 unfold fg
 rw [List.getLast?_concat]
 simp only [List.dropLast_concat]
theorem ck {α : Type} (l : List α) : l = [] ∨ ∃ o y,l = o ++ [y]:=by
 rcases List.eq_nil_or_concat l with h | ⟨o,y,h⟩
 ·exact .inl h
 ·exact .inr ⟨o,y,by rw [h,List.concat_eq_append]⟩
theorem B7 {out : List ax} {x : ax} (h : eM out) (hx : x.a < x.b) (hle : ∀ y ∈ out,leL y x) : eM (fg out x) ∧ (∀ k t,fJ (fg out x) k t ↔ fJ out k t ∨ fJ [x] k t) ∧ ∀ y ∈ fg out x,∀ z,leL x z → leL y z:=by
 rcases ck out with rfl | ⟨o,y,rfl⟩
 ·refine ⟨⟨fun y hy => ?_,by simp [fg]⟩,fun k t => ?_,fun y hy z hz => ?_⟩
  ·simp only [fg,List.getLast?_nil,List.mem_singleton] at hy; subst hy; exact hx
  ·simp only [fg,List.getLast?_nil]
   exact ⟨.inr,fun h => h.elim (fun ⟨_,h,_⟩ => nomatch h) id⟩
  ·simp only [fg,List.getLast?_nil,List.mem_singleton] at hy; subst hy; exact hz
 ·rw [jy]
  obtain ⟨c1,c2,c3⟩:=oY.1 h
  have hyx:=hle y (by simp)
  by_cases ht : y.k = x.k ∧ x.a ≤ y.b
  ·rw [if_pos ht]
   have hya : y.a ≤ x.a:=by rcases hyx with g | g <;> omega
   refine ⟨oY.2 ⟨c1,by show y.a < max y.b x.b; omega,fun z hz => ?_⟩,fun k t => ?_,fun z hz q hq => ?_⟩
   ·have:=c3 z hz
    unfold lR at this ⊢
    exact this
   ·rw [fi,fi,rP,rP,rP]
    simp only
    constructor
    ·rintro (g0 | ⟨g1,g2,g3⟩)
     ·exact .inl (.inl g0)
     by_cases g4 : t < y.b
     ·exact .inl (.inr ⟨g1,g2,g4⟩)
     ·exact .inr ⟨by omega,by omega,by omega⟩
    ·rintro ((g0 | ⟨g1,g2,g3⟩) | ⟨g1,g2,g3⟩)
     ·exact .inl g0
     ·exact .inr ⟨g1,g2,by omega⟩
     ·exact .inr ⟨by omega,by omega,by omega⟩
   ·rcases List.mem_append.1 hz with hz | hz
    ·have h1:=hle z (by simp [hz])
     unfold leL at *
     omega
    ·rw [List.mem_singleton] at hz; subst hz
     unfold leL at *
     simp only
     omega
  ·rw [if_neg ht]
   refine ⟨oY.2 ⟨h,hx,fun z hz => ?_⟩,fun k t => fi,fun z hz q hq => ?_⟩
   ·rcases List.mem_append.1 hz with hz | hz
    ·have h1:=c3 z hz
     unfold lR leL at *
     have:=c1.ok z hz
     omega
    ·rw [List.mem_singleton] at hz; subst hz
     unfold lR leL at *
     omega
   ·rcases List.mem_append.1 hz with hz | hz
    ·have h1:=hle z hz
     unfold leL at *
     omega
    ·rw [List.mem_singleton] at hz; subst hz; exact hq
theorem zZ {x y z : ax} (h1 : leL x y) (h2 : leL y z) : leL x z:=by unfold leL at *; omega
theorem rg : ∀ (l out : List ax),eM out → (∀ x ∈ l,x.a < x.b) → l.Pairwise leL → (∀ y ∈ out,∀ x ∈ l,leL y x) → eM (l.foldl fg out) ∧ ∀ k t,fJ (l.foldl fg out) k t ↔ fJ out k t ∨ fJ l k t
 | [],out,h,_,_,_ => ⟨h,fun k t => ⟨.inl,fun h => h.elim id fun ⟨_,h,_⟩ => nomatch h⟩⟩
 | x :: l,out,h,hx,hs,hle => by
  obtain ⟨s1,s2⟩:=List.pairwise_cons.1 hs
  obtain ⟨j1,j2,j3⟩:=B7 h (hx x List.mem_cons_self) fun y hy => hle y hy x List.mem_cons_self
  obtain ⟨r1,r2⟩:=rg l (fg out x) j1 (fun y hy => hx y (List.mem_cons_of_mem _ hy)) s2 fun y hy z hz => j3 y hy z (s1 z hz)
  refine ⟨r1,fun k t => ?_⟩
  rw [List.foldl_cons,r2,j2,or_assoc,← fi]
  rfl
theorem tk {l : List ax} (hx : ∀ x ∈ l,x.a < x.b) (hs : l.Pairwise leL) : eM (dW l) ∧ ∀ k t,fJ (dW l) k t ↔ fJ l k t:=by
 obtain ⟨h1,h2⟩:=rg l [] ⟨by simp,by simp⟩ hx hs (by simp)
 exact ⟨h1,fun k t => (h2 k t).trans ⟨fun h => h.elim (fun ⟨_,h,_⟩ => nomatch h) id,.inr⟩⟩
def sH (x y : ax) : Bool:=decide (x.k < y.k) || (decide (x.k = y.k) && decide (x.a ≤ y.a))
theorem mI {x y : ax} : sH x y = true ↔ leL x y:=by simp [sH,leL]
def kh (l : List ax) : List ax:=dW (l.mergeSort sH)
theorem Bt (l : List ax) : (l.mergeSort sH).Pairwise leL:=
 (List.pairwise_mergeSort (le:=sH) (fun a b c h1 h2 => mI.2 (zZ (mI.1 h1) (mI.1 h2))) (fun a b => by simp only [sH,Bool.or_eq_true,Bool.and_eq_true,decide_eq_true_eq]; omega) l).imp fun h => mI.1 h
theorem tC {l : List ax} (hx : ∀ x ∈ l,x.a < x.b) : eM (kh l) ∧ ∀ k t,fJ (kh l) k t ↔ fJ l k t:=by
 have hp:=List.mergeSort_perm l sH
 obtain ⟨h1,h2⟩:=tk (l:=l.mergeSort sH) (fun x h => hx x (hp.mem_iff.1 h)) (Bt l)
 exact ⟨h1,fun k t => (h2 k t).trans (tz hp)⟩
theorem vJ {l m : List ax} (hx : ∀ x ∈ l,x.a < x.b) (hp : m.Perm l) (hs : m.Pairwise leL) : dW m = kh l:=by
 obtain ⟨h1,h2⟩:=tk (fun x h => hx x (hp.mem_iff.1 h)) hs
 obtain ⟨h3,h4⟩:=tC hx
 exact h1.unique h3 fun k t => by rw [h2,h4,tz hp]
end Go.Proofs
namespace Go.Proofs
open Go Go.AI
structure Img where
 i : Int
 u : Int
 a : Int
 b : Int
deriving DecidableEq
def fE (x : Img) : List AV:=[.int .i64 x.i,.int .i64 x.u,.int .i64 x.a,.int .i64 x.b]
def eR (l : List Img) : AV:=.sl .no 4 (l.map fE)
def du : List Img → List (Int × Int)
 | [] => []
 | x :: r => (x.a,x.u) :: (x.b,0 - x.u) :: du r
def jU (t : Int) : List (Int × Int) → Int
 | [] => 0
 | x :: r => (if x.1 ≤ t then x.2 else 0) + jU t r
def bY : Int → List (Int × Int) → List (Int × Int)
 | _,[] => []
 | f,x :: [] => [(x.1,f + x.2)]
 | f,x :: y :: r => if y.1 = x.1 then bY (f + x.2) (y :: r) else (x.1,f + x.2) :: bY (f + x.2) (y :: r)
theorem qN {t : Int} {s s' : List (Int × Int)} (h : s.Perm s') : jU t s = jU t s':=by
 induction h with
 | nil => rfl
 | cons x _ ih => simp only [jU,ih]
 | swap x y l => simp only [jU]; omega
 | trans _ _ h1 h2 => exact h1.trans h2
theorem lr {t : Int} : ∀ {s : List (Int × Int)},(∀ y ∈ s,t < y.1) → jU t s = 0
 | [],_ => rfl
 | x :: r,h => by
  have hx:=h x List.mem_cons_self
  simp only [jU]
  rw [lr fun y hy => h y (List.mem_cons_of_mem _ hy),if_neg (by omega)]; rfl
theorem jC : ∀ (s : List (Int × Int)) (f : Int),s.Pairwise (fun x y => x.1 ≤ y.1) → ∀ p : Int × Int,p ∈ bY f s ↔ (∃ x ∈ s,x.1 = p.1) ∧ p.2 = f + jU p.1 s
 | [],f,_,p => by simp [bY]
 | x :: [],f,_,p => by
  simp only [bY,List.mem_singleton,exists_eq_left,jU]
  constructor
  ·rintro rfl; exact ⟨rfl,by simp⟩
  ·rintro ⟨h1,h2⟩
   rw [if_pos (by omega)] at h2
   exact Prod.ext h1.symm (by simp; omega)
 | x :: y :: r,f,hs,p => by
  obtain ⟨s1,s2⟩:=List.pairwise_cons.1 hs
  have ih:=jC (y :: r) (f + x.2) s2 p
  have hxy:=s1 y List.mem_cons_self
  have hsum : jU p.1 (x :: y :: r) = (if x.1 ≤ p.1 then x.2 else 0) + jU p.1 (y :: r):=rfl
  rw [hsum]
  by_cases he : y.1 = x.1
  ·rw [show bY f (x :: y :: r) = bY (f + x.2) (y :: r) from if_pos he,ih]
   constructor
   ·rintro ⟨⟨z,hz,h1⟩,h2⟩
    have:=s1 z hz
    refine ⟨⟨z,List.mem_cons_of_mem _ hz,h1⟩,?_⟩
    rw [if_pos (by omega)]; omega
   ·rintro ⟨⟨z,hz,h1⟩,h2⟩
    have hz' : ∃ z ∈ y :: r,z.1 = p.1:=by
     rcases List.mem_cons.1 hz with rfl | hz
     ·exact ⟨y,List.mem_cons_self,by omega⟩
     ·exact ⟨z,hz,h1⟩
    obtain ⟨q,hq,h3⟩:=hz'
    have:=s1 q hq
    rw [if_pos (by omega)] at h2
    exact ⟨⟨q,hq,h3⟩,by omega⟩
  ·rw [show bY f (x :: y :: r) = (x.1,f + x.2) :: bY (f + x.2) (y :: r) from if_neg he,List.mem_cons,ih]
   have hlt : ∀ z ∈ y :: r,x.1 < z.1:=fun z hz => by
    rcases List.mem_cons.1 hz with rfl | hz
    ·omega
    ·have:=(List.pairwise_cons.1 s2).1 z hz
     omega
   constructor
   ·rintro (rfl | ⟨⟨z,hz,h1⟩,h2⟩)
    ·refine ⟨⟨x,List.mem_cons_self,rfl⟩,?_⟩
     simp only [Int.le_refl,if_true]
     rw [lr fun z hz => hlt z hz]; omega
    ·have:=hlt z hz
     refine ⟨⟨z,List.mem_cons_of_mem _ hz,h1⟩,?_⟩
     rw [if_pos (by omega)]; omega
   ·rintro ⟨⟨z,hz,h1⟩,h2⟩
    rcases List.mem_cons.1 hz with rfl | hz
    ·left
     rw [if_pos (by omega),lr fun z hz => by have:=hlt z hz; omega] at h2
     exact Prod.ext h1.symm (by simp; omega)
    ·right
     have:=hlt z hz
     rw [if_pos (by omega)] at h2
     exact ⟨⟨z,hz,h1⟩,by omega⟩
theorem lL : ∀ (s : List (Int × Int)) (f : Int),s.Pairwise (fun x y => x.1 ≤ y.1) → (bY f s).Pairwise fun x y => x.1 < y.1
 | [],f,_ => by simp [bY]
 | x :: [],f,_ => by simp [bY]
 | x :: y :: r,f,hs => by
  obtain ⟨s1,s2⟩:=List.pairwise_cons.1 hs
  have ih:=lL (y :: r) (f + x.2) s2
  have hxy:=s1 y List.mem_cons_self
  by_cases he : y.1 = x.1
  ·rw [show bY f (x :: y :: r) = bY (f + x.2) (y :: r) from if_pos he]; exact ih
  ·rw [show bY f (x :: y :: r) = (x.1,f + x.2) :: bY (f + x.2) (y :: r) from if_neg he,List.pairwise_cons]
   refine ⟨fun p hp => ?_,ih⟩
   obtain ⟨⟨z,hz,h1⟩,_⟩:=(jC _ _ s2 p).1 hp
   show x.1 < p.1
   rcases List.mem_cons.1 hz with rfl | hz
   ·omega
   ·have:=(List.pairwise_cons.1 s2).1 z hz
    omega
theorem rW : ∀ {l m : List (Int × Int)},l.Pairwise (fun x y => x.1 < y.1) → m.Pairwise (fun x y => x.1 < y.1) → (∀ p,p ∈ l ↔ p ∈ m) → l = m
 | [],[],_,_,_ => rfl
 | [],y :: m,_,_,h => by have:=(h y).2 List.mem_cons_self; cases this
 | x :: l,[],_,_,h => by have:=(h x).1 List.mem_cons_self; cases this
 | x :: l,y :: m,h1,h2,h => by
  obtain ⟨p1,p2⟩:=List.pairwise_cons.1 h1
  obtain ⟨q1,q2⟩:=List.pairwise_cons.1 h2
  have hxy : x = y:=by
   rcases List.mem_cons.1 ((h x).1 List.mem_cons_self) with e | e
   ·exact e
   ·rcases List.mem_cons.1 ((h y).2 List.mem_cons_self) with e' | e'
    ·exact e'.symm
    ·have:=q1 x e; have:=p1 y e'; omega
  subst hxy
  rw [rW p2 q2 fun p => ?_]
  constructor
  ·intro hp
   rcases List.mem_cons.1 ((h p).1 (List.mem_cons_of_mem _ hp)) with e | e
   ·have:=p1 p hp; rw [e] at this; omega
   ·exact e
  ·intro hp
   rcases List.mem_cons.1 ((h p).2 (List.mem_cons_of_mem _ hp)) with e | e
   ·have:=q1 p hp; rw [e] at this; omega
   ·exact e
def leT (x y : Int × Int) : Bool:=decide (x.1 ≤ y.1)
def fF (l : List Img) : List (Int × Int):=bY 0 ((du l).mergeSort leT)
theorem vd (s : List (Int × Int)) : (s.mergeSort leT).Pairwise fun x y => x.1 ≤ y.1:=
 (List.pairwise_mergeSort (le:=leT) (fun a b c h1 h2 => by (try simp only [leT,decide_eq_true_eq] at *); omega) (fun a b => by simp only [leT,Bool.or_eq_true,decide_eq_true_eq]; omega) s).imp fun h => by simpa [leT] using h
theorem rM {l : List Img} {s : List (Int × Int)} (hp : s.Perm (du l)) (hs : s.Pairwise fun x y => x.1 ≤ y.1) : bY 0 s = fF l:=by
 have hq:=List.mergeSort_perm (du l) leT
 refine rW (lL _ _ hs) (lL _ _ (vd _)) fun p => ?_
 rw [jC _ _ hs,fF,jC _ _ (vd _),qN hp,qN hq]
 constructor
 ·rintro ⟨⟨x,hx,h1⟩,h2⟩; exact ⟨⟨x,hq.mem_iff.2 (hp.mem_iff.1 hx),h1⟩,h2⟩
 ·rintro ⟨⟨x,hx,h1⟩,h2⟩; exact ⟨⟨x,hp.mem_iff.2 (hq.mem_iff.1 hx),h1⟩,h2⟩
end Go.Proofs
namespace Go.Proofs
open Go Go.AI
def ip (l : List Opt) : List ax:=l.map fun o => ⟨1,o.a,o.b⟩
def xy (l : List Opt) : List ax:=l.flatMap fun o => o.sl.map fun x => ⟨2,x.a,x.b⟩
def kQ (l : List Opt) : List ax:=ip l ++ xy l
def m5 (l : List Opt) : Bool:=l.any fun o => !bE o.a o.b || decide (6 < o.sl.length)
def CA (l : List Opt) : Bool:=l.any fun o => o.sl.any fun x => !bE x.a x.b
def uD (l : List Opt) : Bool:=decide (8 < l.length) || m5 l || CA l
def aL (l : List Opt) : List ax:=if uD l then [] else kh (kQ l)
theorem dy {a b : Int} : bE a b = true ↔ 0 ≤ a ∧ a < b ∧ b ≤ 1000000:=by
 constructor
 ·exact mq
 ·rintro ⟨h1,h2,h3⟩
  unfold bE inS
  rw [show w64 (b - 1) = b - 1 from aq (by omega) (by omega)]
  simp; omega
structure dI (l : List Opt) : Prop where
 n : l.length ≤ 8
 shot : ∀ o ∈ l,0 ≤ o.a ∧ o.a < o.b ∧ o.b ≤ 1000000 ∧ o.sl.length ≤ 6
 slot : ∀ o ∈ l,∀ x ∈ o.sl,0 ≤ x.a ∧ x.a < x.b ∧ x.b ≤ 1000000
theorem rE {l : List Opt} : uD l = false ↔ dI l:=by
 constructor
 ·intro h
  simp only [uD,m5,CA,Bool.or_eq_false_iff,decide_eq_false_iff_not,List.any_eq_false,Bool.or_eq_true,Bool.not_eq_true',decide_eq_true_eq,not_or,Bool.not_eq_true,Bool.not_eq_false] at h
  obtain ⟨⟨h1,h2⟩,h3⟩:=h
  refine ⟨by omega,fun o ho => ?_,fun o ho x hx => ?_⟩
  ·obtain ⟨g1,g2⟩:=h2 o ho
   have:=mq g1
   omega
  ·have:=h3 o ho x hx
   exact mq (by simpa using this)
 ·rintro ⟨h1,h2,h3⟩
  simp only [uD,m5,CA,Bool.or_eq_false_iff,decide_eq_false_iff_not,List.any_eq_false,Bool.or_eq_true,Bool.not_eq_true',decide_eq_true_eq,not_or,Bool.not_eq_true,Bool.not_eq_false]
  refine ⟨⟨by omega,fun o ho => ?_⟩,fun o ho x hx => ?_⟩
  ·have:=h2 o ho
   exact ⟨dy.2 (by omega),by omega⟩
  ·have:=h3 o ho x hx
   simpa using dy.2 this
theorem BJ {l : List Opt} {x : ax} : x ∈ kQ l ↔ (∃ o ∈ l,x = ⟨1,o.a,o.b⟩) ∨ ∃ o ∈ l,∃ y ∈ o.sl,x = ⟨2,y.a,y.b⟩:=by
 simp only [kQ,ip,xy,List.mem_append,List.mem_map,List.mem_flatMap]
 constructor
 ·rintro (⟨o,ho,rfl⟩ | ⟨o,ho,y,hy,rfl⟩)
  ·exact .inl ⟨o,ho,rfl⟩
  ·exact .inr ⟨o,ho,y,hy,rfl⟩
 ·rintro (⟨o,ho,rfl⟩ | ⟨o,ho,y,hy,rfl⟩)
  ·exact .inl ⟨o,ho,rfl⟩
  ·exact .inr ⟨o,ho,y,hy,rfl⟩
theorem dI.raw {l : List Opt} (h : dI l) : ∀ x ∈ kQ l,(x.k = 1 ∨ x.k = 2) ∧ 0 ≤ x.a ∧ x.a < x.b ∧ x.b ≤ 1000000:=fun x hx => by
 rcases BJ.1 hx with ⟨o,ho,rfl⟩ | ⟨o,ho,y,hy,rfl⟩
 ·have:=h.shot o ho; exact ⟨.inl rfl,this.1,this.2.1,this.2.2.1⟩
 ·exact ⟨.inr rfl,h.slot o ho y hy⟩
theorem Ab (out : List ax) (x : ax) : (fg out x).length ≤ out.length + 1:=by
 rcases ck out with rfl | ⟨o,y,rfl⟩
 ·simp [fg]
 ·rw [jy]
  split <;> simp
theorem lH : ∀ (l out : List ax),(l.foldl fg out).length ≤ out.length + l.length
 | [],out => by simp
 | x :: l,out => by
  have h1:=lH l (fg out x)
  have h2:=Ab out x
  simp only [List.foldl_cons,List.length_cons]
  omega
theorem rR (l : List ax) : (kh l).length ≤ l.length:=by
 have:=lH (l.mergeSort sH) []
 have h2:=(List.mergeSort_perm l sH).length_eq
 simp only [List.length_nil,Nat.zero_add,h2] at this
 exact this
theorem rJ (n : Nat) : ∀ l : List Opt,(∀ o ∈ l,o.sl.length ≤ n) → (xy l).length ≤ n * l.length
 | [],_ => by simp [xy]
 | o :: r,h => by
  have h1:=rJ n r fun x hx => h x (List.mem_cons_of_mem _ hx)
  have h2:=h o List.mem_cons_self
  simp only [xy,List.flatMap_cons,List.length_append,List.length_map,List.length_cons,Nat.mul_add,Nat.mul_one] at h1 ⊢
  omega
theorem dI.len {l : List Opt} (h : dI l) : (kQ l).length ≤ 56:=by
 have h1:=rJ 6 l fun o ho => (h.shot o ho).2.2.2
 have h2:=h.n
 simp only [kQ,ip,List.length_append,List.length_map]
 omega
theorem yW : ∀ (rest pre : List ax),eM (pre ++ rest) → (∀ x ∈ rest,(x.k = 1 ∨ x.k = 2) ∧ 0 ≤ x.a ∧ x.b ≤ 1000000) → okL pre rest = true
 | [],_,_,_ => rfl
 | x :: r,pre,h,hb => by
  have hx:=hb x List.mem_cons_self
  have hok:=h.ok x (by simp)
  have hsep:=(List.pairwise_append.1 h.sep).2.2
  have ih:=yW r (pre ++ [x]) (by simpa using h) fun y hy => hb y (List.mem_cons_of_mem _ hy)
  rw [okL,ih,Bool.and_true,gi,dy.2 (by omega),show inS x.k 1 2 = true from by unfold inS; simp; omega]
  simp only [Bool.true_and,Bool.not_eq_true',List.any_eq_false,vx,Bool.and_eq_true,decide_eq_true_eq,not_and]
  intro y hy g1 g2
  have:=hsep y hy x List.mem_cons_self
  unfold lR at this
  omega
theorem xV {l m : List ax} (h : eM m) (hc : ∀ k t,fJ m k t ↔ fJ l k t) (hl : ∀ x ∈ l,(x.k = 1 ∨ x.k = 2) ∧ 0 ≤ x.a ∧ x.a < x.b ∧ x.b ≤ 1000000) : ∀ x ∈ m,(x.k = 1 ∨ x.k = 2) ∧ 0 ≤ x.a ∧ x.b ≤ 1000000:=fun x hx => by
 have hok:=h.ok x hx
 obtain ⟨y,hy,h1,h2,h3⟩:=(hc x.k x.a).1 ⟨x,hx,rfl,Int.le_refl _,hok⟩
 obtain ⟨z,hz,g1,g2,g3⟩:=(hc x.k (x.b - 1)).1 ⟨x,hx,rfl,by omega,by omega⟩
 have b1:=hl y hy
 have b2:=hl z hz
 rw [h1] at b1
 exact ⟨b1.1,by omega,by omega⟩
theorem dI.loads {l : List Opt} (h : dI l) : aL l = kh (kQ l):=by unfold aL; rw [rE.2 h]; rfl
theorem dI.can {l : List Opt} (h : dI l) : eM (aL l) ∧ ∀ k t,fJ (aL l) k t ↔ fJ (kQ l) k t:=by
 rw [h.loads]; exact tC fun x hx => (h.raw x hx).2.2.1
theorem dI.proper {l : List Opt} (h : dI l) : d9 (aL l) = true:=by
 obtain ⟨h1,h2⟩:=h.can
 have hlen : (aL l).length ≤ 56:=by rw [h.loads]; exact Nat.le_trans (rR _) h.len
 unfold d9
 rw [decide_eq_true (by omega),Bool.true_and]
 exact yW _ [] h1 (xV h1 h2 h.raw)
end Go.Proofs
namespace Go.Proofs
open Go Go.AI
def gm (r : List (Int × Int) × (Int × Int)) (o : Int × Int) : List (Int × Int) × (Int × Int):=if o.2 < r.2.1 ∨ o.1 > r.2.2 then (r.1 ++ [o],r.2) else (r.1,(min r.2.1 o.1,max r.2.2 o.2))
def vV (next : List (Int × Int)) (s : Int × Int) : List (Int × Int):=next.takeWhile (fun x => decide (x.1 < s.1)) ++ s :: next.dropWhile (fun x => decide (x.1 < s.1))
def fK (out : List (Int × Int)) (s : Int × Int) : List (Int × Int):=vV (out.foldl gm ([],s)).1 (out.foldl gm ([],s)).2
def gw (l : List (Int × Int)) : List (Int × Int):=l.foldl fK []
structure yu (l : List (Int × Int)) : Prop where
 ok : ∀ x ∈ l,x.1 < x.2
 sep : l.Pairwise fun x y => x.2 < y.1
def kf (l : List (Int × Int)) (t : Int) : Prop:=∃ x ∈ l,x.1 ≤ t ∧ t < x.2
theorem fh {l m : List (Int × Int)} {t : Int} : kf (l ++ m) t ↔ kf l t ∨ kf m t:=by
 constructor
 ·rintro ⟨x,hx,h⟩
  rcases List.mem_append.1 hx with hx | hx
  ·exact .inl ⟨x,hx,h⟩
  ·exact .inr ⟨x,hx,h⟩
 ·rintro (⟨x,hx,h⟩ | ⟨x,hx,h⟩)
  ·exact ⟨x,List.mem_append_left _ hx,h⟩
  ·exact ⟨x,List.mem_append_right _ hx,h⟩
theorem mR {x : Int × Int} {t : Int} : kf [x] t ↔ x.1 ≤ t ∧ t < x.2:=
 ⟨fun ⟨y,hy,h⟩ => by rw [List.mem_singleton] at hy; subst hy; exact h,fun h => ⟨x,List.mem_singleton.2 rfl,h⟩⟩
structure FK (s : Int × Int) (pre : List (Int × Int)) (r : List (Int × Int) × (Int × Int)) : Prop where
 lt : r.2.1 < r.2.2
 mem : ∀ x ∈ r.1,x ∈ pre ∧ (x.2 < r.2.1 ∨ r.2.2 < x.1)
 sep : r.1.Pairwise fun x y => x.2 < y.1
 cov : ∀ t,(kf r.1 t ∨ (r.2.1 ≤ t ∧ t < r.2.2)) ↔ (kf pre t ∨ (s.1 ≤ t ∧ t < s.2))
theorem vG {s : Int × Int} : ∀ (rest pre : List (Int × Int)) (r : List (Int × Int) × (Int × Int)),yu (pre ++ rest) → FK s pre r → FK s (pre ++ rest) (rest.foldl gm r)
 | [],pre,r,_,h => by simpa using h
 | q :: rest,pre,r,hc,h => by
  have hsep:=(List.pairwise_append.1 hc.sep).2.2
  have hq : ∀ x ∈ pre,x.2 < q.1:=fun x hx => hsep x hx q List.mem_cons_self
  have hqq:=hc.ok q (by simp)
  have hpre : ∀ x ∈ pre,x.1 < x.2:=fun x hx => hc.ok x (List.mem_append_left _ hx)
  have hc' : yu ((pre ++ [q]) ++ rest):=by simpa using hc
  have:=vG (s:=s) rest (pre ++ [q]) (gm r q) hc' ?_
  ·simpa using this
  ·have hs:=h.lt
   unfold gm
   split
   ·rename_i hn
    refine ⟨hs,fun x hx => ?_,List.pairwise_append.2 ⟨h.sep,by simp,fun x hx y hy => ?_⟩,fun t => ?_⟩
    ·rcases List.mem_append.1 hx with hx | hx
     ·exact ⟨List.mem_append_left _ (h.mem x hx).1,(h.mem x hx).2⟩
     ·rw [List.mem_singleton] at hx; subst hx
      exact ⟨by simp,by simp only; omega⟩
    ·rw [List.mem_singleton] at hy; subst hy
     exact hq x (h.mem x hx).1
    ·have:=h.cov t
     simp only [fh,mR]
     constructor
     ·rintro ((g | g) | g)
      ·rcases this.1 (.inl g) with g | g
       ·exact .inl (.inl g)
       ·exact .inr g
      ·exact .inl (.inr g)
      ·rcases this.1 (.inr g) with g | g
       ·exact .inl (.inl g)
       ·exact .inr g
     ·rintro ((g | g) | g)
      ·rcases this.2 (.inl g) with g | g
       ·exact .inl (.inl g)
       ·exact .inr g
      ·exact .inl (.inr g)
      ·rcases this.2 (.inr g) with g | g
       ·exact .inl (.inl g)
       ·exact .inr g
   ·rename_i hn
    have h1 : ¬ q.2 < r.2.1:=fun g => hn (.inl g)
    have h2 : ¬ q.1 > r.2.2:=fun g => hn (.inr g)
    refine ⟨by simp only; omega,fun x hx => ?_,h.sep,fun t => ?_⟩
    ·obtain ⟨m1,m2⟩:=h.mem x hx
     refine ⟨List.mem_append_left _ m1,?_⟩
     have g1:=hq x m1
     have g2:=hpre x m1
     simp only
     omega
    ·have:=h.cov t
     simp only [fh,mR]
     have e : (min r.2.1 q.1 ≤ t ∧ t < max r.2.2 q.2) ↔ (r.2.1 ≤ t ∧ t < r.2.2) ∨ (q.1 ≤ t ∧ t < q.2):=by omega
     rw [e]
     constructor
     ·rintro (g | g | g)
      ·rcases this.1 (.inl g) with g | g
       ·exact .inl (.inl g)
       ·exact .inr g
      ·rcases this.1 (.inr g) with g | g
       ·exact .inl (.inl g)
       ·exact .inr g
      ·exact .inl (.inr g)
     ·rintro ((g | g) | g)
      ·rcases this.2 (.inl g) with g | g
       ·exact .inl g
       ·exact .inr (.inl g)
      ·exact .inr (.inr g)
      ·rcases this.2 (.inr g) with g | g
       ·exact .inl g
       ·exact .inr (.inl g)
theorem sW {α : Type} {p : α → Bool} : ∀ {l : List α} {x : α},x ∈ l.takeWhile p → p x = true
 | [],x,h => by cases h
 | y :: r,x,h => by
  rw [List.takeWhile_cons] at h
  split at h
  ·rcases List.mem_cons.1 h with rfl | h
   ·assumption
   ·exact sW h
  ·cases h
theorem wn {s : Int} : ∀ {l : List (Int × Int)},l.Pairwise (fun x y => x.2 < y.1) → (∀ x ∈ l,x.1 < x.2) → ∀ x ∈ l.dropWhile (fun x => decide (x.1 < s)),s ≤ x.1
 | [],_,_,x,h => by cases h
 | y :: r,hs,hok,x,h => by
  rw [List.dropWhile_cons] at h
  split at h
  ·exact wn (List.pairwise_cons.1 hs).2 (fun z hz => hok z (List.mem_cons_of_mem _ hz)) x h
  ·rename_i hn
   have hn : ¬ y.1 < s:=by simpa using hn
   rcases List.mem_cons.1 h with rfl | h
   ·omega
   ·have:=(List.pairwise_cons.1 hs).1 x h
    have:=hok y List.mem_cons_self
    omega
theorem Bq {out : List (Int × Int)} {s : Int × Int} (h : yu out) (hs : s.1 < s.2) : yu (fK out s) ∧ ∀ t,kf (fK out s) t ↔ kf out t ∨ (s.1 ≤ t ∧ t < s.2):=by
 have hn:=vG (s:=s) out [] ([],s) (by simpa using h) ⟨hs,by simp,by simp,fun t => by simp⟩
 simp only [List.nil_append] at hn
 unfold fK
 generalize out.foldl gm ([],s) = r at hn
 obtain ⟨next,s'⟩:=r
 have hs' : s'.1 < s'.2:=hn.lt
 have hmem:=hn.mem
 have hsep:=hn.sep
 have hcov:=hn.cov
 simp only at hmem hsep hcov ⊢
 have hok : ∀ x ∈ next,x.1 < x.2:=fun x hx => h.ok x (hmem x hx).1
 have hta : ∀ x ∈ next.takeWhile (fun x => decide (x.1 < s'.1)),x ∈ next ∧ x.2 < s'.1:=fun x hx => by
  have h1:=sW hx
  have h2:=(List.takeWhile_sublist _).subset hx
  have h3:=(hmem x h2).2
  have h4:=hok x h2
  simp only [decide_eq_true_eq] at h1
  exact ⟨h2,by omega⟩
 have hdr : ∀ x ∈ next.dropWhile (fun x => decide (x.1 < s'.1)),x ∈ next ∧ s'.2 < x.1:=fun x hx => by
  have h1:=wn hsep hok x hx
  have h2:=(List.dropWhile_sublist _).subset hx
  have h3:=(hmem x h2).2
  have h4:=hok x h2
  exact ⟨h2,by omega⟩
 refine ⟨⟨fun x hx => ?_,?_⟩,fun t => ?_⟩
 ·unfold vV at hx
  rcases List.mem_append.1 hx with hx | hx
  ·exact hok x (hta x hx).1
  ·rcases List.mem_cons.1 hx with rfl | hx
   ·exact hs'
   ·exact hok x (hdr x hx).1
 ·unfold vV
  refine List.pairwise_append.2 ⟨hsep.sublist (List.takeWhile_sublist _),List.pairwise_cons.2 ⟨fun x hx => (hdr x hx).2,hsep.sublist (List.dropWhile_sublist _)⟩,fun x hx y hy => ?_⟩
  have h1:=(hta x hx).2
  rcases List.mem_cons.1 hy with rfl | hy
  ·exact h1
  ·have:=(hdr y hy).2; omega
 ·rw [← hcov t]
  have e : kf next t ↔ kf (next.takeWhile (fun x => decide (x.1 < s'.1))) t ∨ kf (next.dropWhile (fun x => decide (x.1 < s'.1))) t:=by
   rw [← fh,List.takeWhile_append_dropWhile]
  rw [e]
  unfold vV
  rw [fh,show s' :: next.dropWhile (fun x => decide (x.1 < s'.1)) = [s'] ++ next.dropWhile (fun x => decide (x.1 < s'.1)) from rfl,fh,mR]
  constructor
  ·rintro (g | g | g)
   ·exact .inl (.inl g)
   ·exact .inr g
   ·exact .inl (.inr g)
  ·rintro ((g | g) | g)
   ·exact .inl g
   ·exact .inr (.inr g)
   ·exact .inr (.inl g)
theorem rx : ∀ (l out : List (Int × Int)),yu out → (∀ x ∈ l,x.1 < x.2) → yu (l.foldl fK out) ∧ ∀ t,kf (l.foldl fK out) t ↔ kf out t ∨ kf l t
 | [],out,h,_ => ⟨h,fun t => ⟨.inl,fun h => h.elim id fun ⟨_,h,_⟩ => nomatch h⟩⟩
 | x :: l,out,h,hx => by
  obtain ⟨j1,j2⟩:=Bq h (hx x List.mem_cons_self)
  obtain ⟨r1,r2⟩:=rx l (fK out x) j1 fun y hy => hx y (List.mem_cons_of_mem _ hy)
  refine ⟨r1,fun t => ?_⟩
  rw [List.foldl_cons,r2,j2,or_assoc,← mR,← fh]
  rfl
theorem ry {l : List (Int × Int)} (h : ∀ x ∈ l,x.1 < x.2) : yu (gw l) ∧ ∀ t,kf (gw l) t ↔ kf l t:=by
 obtain ⟨h1,h2⟩:=rx l [] ⟨by simp,by simp⟩ h
 exact ⟨h1,fun t => (h2 t).trans ⟨fun h => h.elim (fun ⟨_,h,_⟩ => nomatch h) id,.inr⟩⟩
def mkK (k : Int) (x : Int × Int) : ax:=⟨k,x.1,x.2⟩
theorem qx {k k' t : Int} {l : List (Int × Int)} : fJ (l.map (mkK k)) k' t ↔ k = k' ∧ kf l t:=by
 constructor
 ·rintro ⟨x,hx,h1,h2,h3⟩
  obtain ⟨y,hy,rfl⟩:=List.mem_map.1 hx
  exact ⟨h1,y,hy,h2,h3⟩
 ·rintro ⟨rfl,y,hy,h2,h3⟩
  exact ⟨mkK k y,List.mem_map.2 ⟨y,hy,rfl⟩,rfl,h2,h3⟩
def fL (l : List Opt) : List (Int × Int):=l.map fun o => (o.a,o.b)
def bu (l : List Opt) : List (Int × Int):=l.flatMap fun o => o.sl.map fun x => (x.a,x.b)
theorem D3 (l : List Opt) : ip l = (fL l).map (mkK 1):=by simp [ip,fL,mkK]
theorem qv (l : List Opt) : xy l = (bu l).map (mkK 2):=by
 unfold xy bu
 rw [List.map_flatMap]
 congr 1
 funext o
 simp [mkK]
theorem dI.ref {l : List Opt} (h : dI l) : (gw (fL l)).map (mkK 1) ++ (gw (bu l)).map (mkK 2) = aL l:=by
 have hA : ∀ x ∈ fL l,x.1 < x.2:=fun x hx => by
  obtain ⟨o,ho,rfl⟩:=List.mem_map.1 hx
  exact (h.shot o ho).2.1
 have hB : ∀ x ∈ bu l,x.1 < x.2:=fun x hx => by
  obtain ⟨o,ho,hx⟩:=List.mem_flatMap.1 hx
  obtain ⟨y,hy,rfl⟩:=List.mem_map.1 hx
  exact (h.slot o ho y hy).2.1
 obtain ⟨a1,a2⟩:=ry hA
 obtain ⟨b1,b2⟩:=ry hB
 obtain ⟨c1,c2⟩:=h.can
 refine eM.unique ⟨fun x hx => ?_,List.pairwise_append.2 ⟨?_,?_,fun x hx y hy => ?_⟩⟩ c1 fun k t => ?_
 ·rcases List.mem_append.1 hx with hx | hx
  ·obtain ⟨y,hy,rfl⟩:=List.mem_map.1 hx; exact a1.ok y hy
  ·obtain ⟨y,hy,rfl⟩:=List.mem_map.1 hx; exact b1.ok y hy
 ·exact List.pairwise_map.2 (a1.sep.imp fun h => .inr ⟨rfl,h⟩)
 ·exact List.pairwise_map.2 (b1.sep.imp fun h => .inr ⟨rfl,h⟩)
 ·obtain ⟨p,hp,rfl⟩:=List.mem_map.1 hx
  obtain ⟨q,hq,rfl⟩:=List.mem_map.1 hy
  exact .inl (by show (1 : Int) < 2; omega)
 ·rw [c2,fi,kQ,fi,D3,qv,qx,qx,qx,qx,a2,b2]
end Go.Proofs
namespace Go.Proofs
open Go Go.AI
def lG : Opt:=⟨0,0,0,0,0,0,0,0,[]⟩
def qQ : aU:=⟨0,0,0⟩
def aF (l : List Opt) (i : Nat) : Opt:=l.getD i lG
def eh (o : Opt) (i : Nat) : aU:=o.sl.getD i qQ
def ff (o : Opt) : Int:=(eh o (o.sl.length - 1)).b
def CF (l : List Opt) : List DB:=l.map fun o => ⟨o.a,o.b,o.look⟩
def gg (l : List Opt) : List Img:=l.map fun o => ⟨o.id,o.size,o.a,ff o⟩
def slP (o : Opt) : List (Int × Int):=o.sl.map fun x => (x.a,x.b)
theorem cp {l : List Opt} {i : Nat} (h : i < l.length) : aF l i = l[i]:=by simp [aF,List.getD_eq_getElem?_getD,List.getElem?_eq_getElem h]
end Go.Proofs
namespace Go.Proofs
open Go Go.AI
theorem my {l : List Opt} (h : dI l) : (aL l).length ≤ 56:=by rw [h.loads]; exact Nat.le_trans (rR _) h.len
end Go.Proofs
namespace Go.Proofs
open Go Go.AI
set_option maxRecDepth 10000
theorem su (o : Opt) (k : Nat) (hl : o.sl.length ≤ 1000000) (hc : iY o = true) (hk : k < o.sl.length) : ae Tryz.prog 36 [.agg (aH o),.int .i64 k] (.tup [.agg (fE ⟨o.id,o.size,o.a,(o.sl.getD k ⟨0,0,0⟩).b⟩),.int .i64 0]):=by
 have k100:=AC o hl
 rw [hc] at k100
 have hx:=cR hk
 have hw : IntKind.i64.wrap (((o.sl.map aw).length : Int) - 1) = (o.sl.length : Int) - 1:=by rw [List.length_map]; exact aq (by omega) (by omega)
 have k101:=tK (k : Int) 0 (IntKind.i64.wrap (((o.sl.map aw).length : Int) - 1))
 rw [fD (show 0 ≤ (k : Int) ∧ (k : Int) ≤ IntKind.i64.wrap (((o.sl.map aw).length : Int) - 1) by rw [hw]; omega)] at k101
 refine ag aa Tryz.func36 rfl (by kernel_rfl) af (Nat.le_of_ble_eq_true rfl) ?_
 intro F n' w0 m0 hG hro h1
 repeat' first|refine Q1 ?_|refine Q2 ?_|refine Q3 hG aa qf ?_|refine Q4 hG aa qf ?_|refine Q5 hG aa ?_|refine Q6 hG aa ?_|refine Q7 hG aa ?_|refine Q8 hG aa ?_|refine Q9 rfl ?_|refine QF rfl ?_|refine QC rfl ⟨fun h => ?_,fun h => ?_⟩|((conv => whnf); first|refine anF ?_|refine anT ?_|refine anK ?_|refine Exists.intro _ (And.intro (k100) ?_)|refine Exists.intro _ (And.intro (k101) ?_)|refine And.intro (Int.natCast_nonneg k) (Exists.intro _ (And.intro hx ?_))|refine And.intro (fun h => ?_) (fun h => ?_)|refine Or.inl ?_)
 all_goals exact Ends.mk (Or.inl rfl) (ac rfl)
theorem Ep {o : Opt} (h : iY o = true) : 1 ≤ o.sl.length ∧ o.sl.length ≤ 6:=by
 simp only [iY,inS,Bool.and_eq_true,decide_eq_true_eq] at h
 omega
theorem x2 (o : Opt) (hl : o.sl.length ≤ 1000000) (hc : iY o = true) : ae Tryz.prog 35 [.agg (aH o)] (.tup [.agg (fE ⟨o.id,o.size,o.a,ff o⟩),.int .i64 0]):=by
 have hn:=Ep hc
 have k48:=su o (o.sl.length - 1) hl hc (by omega)
 rw [show ((o.sl.length - 1 : Nat) : Int) = IntKind.i64.wrap (((o.sl.map aw).length : Int) - 1) by rw [List.length_map]; exact ((aq (by omega) (by omega)).trans (by omega)).symm] at k48
 refine ag aa Tryz.func35 rfl (by kernel_rfl) af (Nat.le_of_ble_eq_true rfl) ?_
 intro F n' w0 m0 hG hro h1
 repeat' first|refine Q1 ?_|refine Q2 ?_|refine Q3 hG aa qg ?_|refine Q4 hG aa qg ?_|refine Q5 hG aa ?_|refine Q6 hG aa ?_|refine Q7 hG aa ?_|refine Q8 hG aa ?_|refine Q9 rfl ?_|refine QF rfl ?_|refine QC rfl ⟨fun h => ?_,fun h => ?_⟩|((conv => whnf); first|refine anF ?_|refine anT ?_|refine anK ?_|refine Exists.intro _ (And.intro (k48) ?_)|refine And.intro (fun h => ?_) (fun h => ?_)|refine Or.inl ?_)
 all_goals exact Ends.mk (Or.inl rfl) (ac rfl)
structure al where
 sat : Int
 st : Int
 sa : Int
 sb : Int
 ca : Int
 cb : Int
deriving DecidableEq
def aG (p : al) : List AV:=[.int .i64 p.sat,.int .i64 p.st,.int .i64 p.sa,.int .i64 p.sb,.int .i64 p.ca,.int .i64 p.cb]
def ak (l : List al) : AV:=.sl .no 6 (l.map aG)
def j6 : al:=⟨0,0,0,0,0,0⟩
def aA (l : List al) (i : Nat) : al:=l.getD i j6
def bX (p : al) : Bool:=(inS p.sat 0 23 && (inS p.st 0 11 && true)) && ((decide (0 ≤ p.ca) && decide (p.ca < p.cb) && decide (p.cb ≤ 1000001)) && ((p.sa == 0 && (p.sb == 0 && true)) || (decide (p.ca ≤ p.sa) && decide (p.sa < p.sb) && decide (p.sb ≤ p.cb))))
set_option maxHeartbeats 4000000 in
theorem wM (p : al) : ae Tryz.prog 158 [.agg (aG p)] (.bool (bX p)):=by
 have k114:=(oE [⟨p.sat,0,23⟩,⟨p.st,0,11⟩] (Nat.le_of_ble_eq_true rfl)).sl0 (o:=.full)
 refine ag aa Tryz.func158 rfl (by kernel_rfl) af (Nat.le_of_ble_eq_true rfl) ?_
 intro F n' w0 m0 hG hro h1
 repeat' first|refine Q1 ?_|refine Q2 ?_|refine Q3 hG aa n4 ?_|refine Q4 hG aa n4 ?_|refine Q5 hG aa ?_|refine Q6 hG aa ?_|refine Q7 hG aa ?_|refine Q8 hG aa ?_|refine Q9 rfl ?_|refine QF rfl ?_|refine QC rfl ⟨fun h => ?_,fun h => ?_⟩|((conv => whnf); first|refine anF ?_|refine anT ?_|refine anK ?_|refine Exists.intro _ (And.intro (k114) ?_)|refine And.intro (fun h => ?_) (fun h => ?_)|refine Or.inl ?_)
 all_goals refine Ends.mk (Or.inl rfl) (ac (congrArg AV.bool ?_))
 all_goals (unfold bX; (try simp only [List.all_cons,List.all_nil,Bool.and_true] at *); simp only [*,Bool.true_and,Bool.and_true,Bool.false_and,Bool.and_false,Bool.true_or,Bool.false_or])
theorem uQ (p : al) : ae Tryz.prog 157 [.agg (aG p)] (.bool (!bX p)):=by
 refine ag aa Tryz.func157 rfl (by kernel_rfl) af (Nat.le_of_ble_eq_true rfl) ?_
 intro F n' w0 m0 hG hro h1
 repeat' first|refine Q1 ?_|refine Q2 ?_|refine Q3 hG aa n5 ?_|refine Q4 hG aa n5 ?_|refine Q5 hG aa ?_|refine Q6 hG aa ?_|refine Q7 hG aa ?_|refine Q8 hG aa ?_|refine Q9 rfl ?_|refine QF rfl ?_|refine QC rfl ⟨fun h => ?_,fun h => ?_⟩|((conv => whnf); first|refine anF ?_|refine anT ?_|refine anK ?_|refine Exists.intro _ (And.intro (wM p) ?_)|refine And.intro (fun h => ?_) (fun h => ?_)|refine Or.inl ?_)
 all_goals exact Ends.mk (Or.inl rfl) (ac rfl)
def qq (p q : al) : Int:=orS [eP p.ca q.ca,eP p.sat q.sat,eP p.st q.st,eP p.sa q.sa,eP p.cb q.cb]
theorem o3 (p q : al) : ae Tryz.prog 160 [.agg (aG p),.agg (aG q)] (.int .i64 (qq p q)):=by
 refine ag aa Tryz.func160 rfl (by kernel_rfl) af (Nat.le_of_ble_eq_true rfl) ?_
 intro F n' w0 m0 hG hro h1
 repeat' first|refine Q1 ?_|refine Q2 ?_|refine Q3 hG aa nZ ?_|refine Q4 hG aa nZ ?_|refine Q5 hG aa ?_|refine Q6 hG aa ?_|refine Q7 hG aa ?_|refine Q8 hG aa ?_|refine Q9 rfl ?_|refine QF rfl ?_|refine QC rfl ⟨fun h => ?_,fun h => ?_⟩|((conv => whnf); first|refine anF ?_|refine anT ?_|refine anK ?_|refine Exists.intro _ (And.intro (kp _ _) ?_)|refine Exists.intro _ (And.intro (sx [eP p.ca q.ca,eP p.sat q.sat,eP p.st q.st,eP p.sa q.sa,eP p.cb q.cb] (Nat.le_of_ble_eq_true rfl)) ?_)|refine And.intro (fun h => ?_) (fun h => ?_)|refine Or.inl ?_)
 all_goals exact Ends.mk (Or.inl rfl) (ac rfl)
theorem kn (l : List al) (p : al → Bool) (g : FuncId) (fv : AV) (cap : List AV) (hf : fv = .clo g cap ∨ (fv = .fn g ∧ cap = [])) (hl : l.length ≤ 1000000)
  (hp : ∀ x ∈ l,ae Tryz.prog g ((.agg (aG x)) :: cap) (.bool (p x))) : ae Tryz.prog 226 [.sl .no 6 (l.map aG),fv] (.int .i64 (bV p l 0)):=by
 rcases hf with rfl | ⟨rfl,rfl⟩
 ·refine ag aa Tryz.func226 rfl (by kernel_rfl) af (Nat.le_of_ble_eq_true rfl) ?_
  intro F n' w0 m0 hG hro h1
  repeat' first|refine Q1 ?_|refine Q2 ?_|refine Q3 hG aa c9 ?_|refine Q4 hG aa c9 ?_|refine Q5 hG aa ?_|refine Q6 hG aa ?_|refine Q7 hG aa ?_|refine Q8 hG aa ?_|refine Q9 rfl ?_|refine QF rfl ?_|refine QC rfl ⟨fun h => ?_,fun h => ?_⟩|((conv => whnf); first|refine anF ?_|refine anT ?_|refine anK ?_|refine And.intro (fun h => ?_) (fun h => ?_)|refine Or.inl ?_)
  refine ar (X:=Nat) (fun j => ⟨[(8,.int .i64 j),(7,.int .i64 (l.map aG).length),(0,.sl .no 6 (l.map aG)),(1,.clo g cap)],[]⟩) (fun j => j ≤ l.length ∧ bV p (l.drop j) j = bV p l 0) (fun j => l.length - j) 0
   ⟨Nat.zero_le _,by simp⟩ (ah ?_ trivial) (fun j hj => ?_)
  ·repeat' (first | exact trivial | refine And.intro rfl ?_)
  ·obtain ⟨hj,hi⟩:=hj
   have hj2 : decide ((j : Int) < ((l.map aG).length : Int)) = true → j < l.length:=fun h => by have:=of_decide_eq_true h; simp at this; omega
   have hx : decide ((j : Int) < ((l.map aG).length : Int)) = true → (l.map aG)[(j : Int).toNat]? = some (aG (l.getD j j6)):=fun h => by have:=hj2 h; simp [List.getElem?_eq_getElem this]
   have hc : decide ((j : Int) < ((l.map aG).length : Int)) = true → ae Tryz.prog g ((.agg (aG (l.getD j j6))) :: cap) (.bool (p (l.getD j j6))):=fun h => hp _ (by have:=hj2 h; rw [List.getD_eq_getElem?_getD,List.getElem?_eq_getElem this]; exact List.getElem_mem this)
   repeat' first|refine Q1 ?_|refine Q2 ?_|refine Q3 hG aa c9 ?_|refine Q4 hG aa c9 ?_|refine Q5 hG aa ?_|refine Q6 hG aa ?_|refine Q7 hG aa ?_|refine Q8 hG aa ?_|refine Q9 rfl ?_|refine QF rfl ?_|refine QC rfl ⟨fun h => ?_,fun h => ?_⟩|((conv => whnf); first|refine anF ?_|refine anT ?_|refine anK ?_|refine And.intro (Int.natCast_nonneg j) (Exists.intro _ (And.intro (hx (by assumption)) ?_))|refine Exists.intro _ (And.intro (hc (by assumption)) ?_)|refine And.intro (fun h => ?_) (fun h => ?_)|refine Or.inl ?_)
   ·rw [aT (d:=j6) (hj2 (by assumption)),if_pos (by assumption)] at hi
    exact Ends.mk (Or.inl rfl) (ac (congrArg (AV.int .i64) hi))
   ·have hj2:=hj2 (by assumption)
    rw [aT (d:=j6) hj2,if_neg (fun h => tf h (by assumption))] at hi
    refine Exists.intro (j + 1) (And.intro ⟨hj2,hi⟩ (And.intro (by omega) (ah ?_ trivial)))
    refine And.intro (congrArg (fun z => some (AV.int .i64 z)) ((aq (by omega) (by omega)).trans (by omega))) ?_
    repeat' (first | exact trivial | refine And.intro rfl ?_)
   ·have hj2 : l.length ≤ j:=by have:=of_decide_eq_false (by assumption : decide ((j : Int) < ((l.map aG).length : Int)) = false); simp at this; omega
    rw [List.drop_of_length_le hj2] at hi
    exact Ends.mk (Or.inl rfl) (ac (congrArg (AV.int .i64) hi))
 ·refine ag aa Tryz.func226 rfl (by kernel_rfl) af (Nat.le_of_ble_eq_true rfl) ?_
  intro F n' w0 m0 hG hro h1
  repeat' first|refine Q1 ?_|refine Q2 ?_|refine Q3 hG aa c9 ?_|refine Q4 hG aa c9 ?_|refine Q5 hG aa ?_|refine Q6 hG aa ?_|refine Q7 hG aa ?_|refine Q8 hG aa ?_|refine Q9 rfl ?_|refine QF rfl ?_|refine QC rfl ⟨fun h => ?_,fun h => ?_⟩|((conv => whnf); first|refine anF ?_|refine anT ?_|refine anK ?_|refine And.intro (fun h => ?_) (fun h => ?_)|refine Or.inl ?_)
  refine ar (X:=Nat) (fun j => ⟨[(8,.int .i64 j),(7,.int .i64 (l.map aG).length),(0,.sl .no 6 (l.map aG)),(1,.fn g)],[]⟩) (fun j => j ≤ l.length ∧ bV p (l.drop j) j = bV p l 0) (fun j => l.length - j) 0
   ⟨Nat.zero_le _,by simp⟩ (ah ?_ trivial) (fun j hj => ?_)
  ·repeat' (first | exact trivial | refine And.intro rfl ?_)
  ·obtain ⟨hj,hi⟩:=hj
   have hj2 : decide ((j : Int) < ((l.map aG).length : Int)) = true → j < l.length:=fun h => by have:=of_decide_eq_true h; simp at this; omega
   have hx : decide ((j : Int) < ((l.map aG).length : Int)) = true → (l.map aG)[(j : Int).toNat]? = some (aG (l.getD j j6)):=fun h => by have:=hj2 h; simp [List.getElem?_eq_getElem this]
   have hc : decide ((j : Int) < ((l.map aG).length : Int)) = true → ae Tryz.prog g ((.agg (aG (l.getD j j6))) :: []) (.bool (p (l.getD j j6))):=fun h => hp _ (by have:=hj2 h; rw [List.getD_eq_getElem?_getD,List.getElem?_eq_getElem this]; exact List.getElem_mem this)
   repeat' first|refine Q1 ?_|refine Q2 ?_|refine Q3 hG aa c9 ?_|refine Q4 hG aa c9 ?_|refine Q5 hG aa ?_|refine Q6 hG aa ?_|refine Q7 hG aa ?_|refine Q8 hG aa ?_|refine Q9 rfl ?_|refine QF rfl ?_|refine QC rfl ⟨fun h => ?_,fun h => ?_⟩|((conv => whnf); first|refine anF ?_|refine anT ?_|refine anK ?_|refine And.intro (Int.natCast_nonneg j) (Exists.intro _ (And.intro (hx (by assumption)) ?_))|refine Exists.intro _ (And.intro (hc (by assumption)) ?_)|refine And.intro (fun h => ?_) (fun h => ?_)|refine Or.inl ?_)
   ·rw [aT (d:=j6) (hj2 (by assumption)),if_pos (by assumption)] at hi
    exact Ends.mk (Or.inl rfl) (ac (congrArg (AV.int .i64) hi))
   ·have hj2:=hj2 (by assumption)
    rw [aT (d:=j6) hj2,if_neg (fun h => tf h (by assumption))] at hi
    refine Exists.intro (j + 1) (And.intro ⟨hj2,hi⟩ (And.intro (by omega) (ah ?_ trivial)))
    refine And.intro (congrArg (fun z => some (AV.int .i64 z)) ((aq (by omega) (by omega)).trans (by omega))) ?_
    repeat' (first | exact trivial | refine And.intro rfl ?_)
   ·have hj2 : l.length ≤ j:=by have:=of_decide_eq_false (by assumption : decide ((j : Int) < ((l.map aG).length : Int)) = false); simp at this; omega
    rw [List.drop_of_length_le hj2] at hi
    exact Ends.mk (Or.inl rfl) (ac (congrArg (AV.int .i64) hi))
theorem oB (l : List al) (p : al → Bool) (g : FuncId) (fv : AV) (cap : List AV) (hf : fv = .clo g cap ∨ (fv = .fn g ∧ cap = [])) (hl : l.length ≤ 1000000)
  (hp : ∀ x ∈ l,ae Tryz.prog g ((.agg (aG x)) :: cap) (.bool (p x))) : ae Tryz.prog 156 [.sl .no 6 (l.map aG),fv] (.bool (l.any p)):=by
 rcases hf with rfl | ⟨rfl,rfl⟩
 ·refine ag aa Tryz.func156 rfl (by kernel_rfl) af (Nat.le_of_ble_eq_true rfl) ?_
  intro F n' w0 m0 hG hro h1
  repeat' first|refine Q1 ?_|refine Q2 ?_|refine Q3 hG aa gK ?_|refine Q4 hG aa gK ?_|refine Q5 hG aa ?_|refine Q6 hG aa ?_|refine Q7 hG aa ?_|refine Q8 hG aa ?_|refine Q9 rfl ?_|refine QF rfl ?_|refine QC rfl ⟨fun h => ?_,fun h => ?_⟩|((conv => whnf); first|refine anF ?_|refine anT ?_|refine anK ?_|refine Exists.intro _ (And.intro (kn l p g _ _ (Or.inl rfl) hl hp) ?_)|refine And.intro (fun h => ?_) (fun h => ?_)|refine Or.inl ?_)
  all_goals exact Ends.mk (Or.inl rfl) (ac (congrArg AV.bool (dS p l 0)))
 ·refine ag aa Tryz.func156 rfl (by kernel_rfl) af (Nat.le_of_ble_eq_true rfl) ?_
  intro F n' w0 m0 hG hro h1
  repeat' first|refine Q1 ?_|refine Q2 ?_|refine Q3 hG aa gK ?_|refine Q4 hG aa gK ?_|refine Q5 hG aa ?_|refine Q6 hG aa ?_|refine Q7 hG aa ?_|refine Q8 hG aa ?_|refine Q9 rfl ?_|refine QF rfl ?_|refine QC rfl ⟨fun h => ?_,fun h => ?_⟩|((conv => whnf); first|refine anF ?_|refine anT ?_|refine anK ?_|refine Exists.intro _ (And.intro (kn l p g _ _ (Or.inr ⟨rfl,rfl⟩) hl hp) ?_)|refine And.intro (fun h => ?_) (fun h => ?_)|refine Or.inl ?_)
  all_goals exact Ends.mk (Or.inl rfl) (ac (congrArg AV.bool (dS p l 0)))
theorem lk (l : List Opt) (p : Opt → Bool) (g : FuncId) (fv : AV) (cap : List AV) (hf : fv = .clo g cap ∨ (fv = .fn g ∧ cap = [])) (hl : l.length ≤ 1000000)
  (hp : ∀ x ∈ l,ae Tryz.prog g ((.agg (aH x)) :: cap) (.bool (p x))) : ae Tryz.prog 162 [.sl .no 9 (l.map aH),fv] (.int .i64 (bV p l 0)):=by
 rcases hf with rfl | ⟨rfl,rfl⟩
 ·refine ag aa Tryz.func162 rfl (by kernel_rfl) af (Nat.le_of_ble_eq_true rfl) ?_
  intro F n' w0 m0 hG hro h1
  repeat' first|refine Q1 ?_|refine Q2 ?_|refine Q3 hG aa dc ?_|refine Q4 hG aa dc ?_|refine Q5 hG aa ?_|refine Q6 hG aa ?_|refine Q7 hG aa ?_|refine Q8 hG aa ?_|refine Q9 rfl ?_|refine QF rfl ?_|refine QC rfl ⟨fun h => ?_,fun h => ?_⟩|((conv => whnf); first|refine anF ?_|refine anT ?_|refine anK ?_|refine And.intro (fun h => ?_) (fun h => ?_)|refine Or.inl ?_)
  refine ar (X:=Nat) (fun j => ⟨[(8,.int .i64 j),(7,.int .i64 (l.map aH).length),(0,.sl .no 9 (l.map aH)),(1,.clo g cap)],[]⟩) (fun j => j ≤ l.length ∧ bV p (l.drop j) j = bV p l 0) (fun j => l.length - j) 0
   ⟨Nat.zero_le _,by simp⟩ (ah ?_ trivial) (fun j hj => ?_)
  ·repeat' (first | exact trivial | refine And.intro rfl ?_)
  ·obtain ⟨hj,hi⟩:=hj
   have hj2 : decide ((j : Int) < ((l.map aH).length : Int)) = true → j < l.length:=fun h => by have:=of_decide_eq_true h; simp at this; omega
   have hx : decide ((j : Int) < ((l.map aH).length : Int)) = true → (l.map aH)[(j : Int).toNat]? = some (aH (l.getD j lG)):=fun h => by have:=hj2 h; simp [List.getElem?_eq_getElem this]
   have hc : decide ((j : Int) < ((l.map aH).length : Int)) = true → ae Tryz.prog g ((.agg (aH (l.getD j lG))) :: cap) (.bool (p (l.getD j lG))):=fun h => hp _ (by have:=hj2 h; rw [List.getD_eq_getElem?_getD,List.getElem?_eq_getElem this]; exact List.getElem_mem this)
   repeat' first|refine Q1 ?_|refine Q2 ?_|refine Q3 hG aa dc ?_|refine Q4 hG aa dc ?_|refine Q5 hG aa ?_|refine Q6 hG aa ?_|refine Q7 hG aa ?_|refine Q8 hG aa ?_|refine Q9 rfl ?_|refine QF rfl ?_|refine QC rfl ⟨fun h => ?_,fun h => ?_⟩|((conv => whnf); first|refine anF ?_|refine anT ?_|refine anK ?_|refine And.intro (Int.natCast_nonneg j) (Exists.intro _ (And.intro (hx (by assumption)) ?_))|refine Exists.intro _ (And.intro (hc (by assumption)) ?_)|refine And.intro (fun h => ?_) (fun h => ?_)|refine Or.inl ?_)
   ·rw [aT (d:=lG) (hj2 (by assumption)),if_pos (by assumption)] at hi
    exact Ends.mk (Or.inl rfl) (ac (congrArg (AV.int .i64) hi))
   ·have hj2:=hj2 (by assumption)
    rw [aT (d:=lG) hj2,if_neg (fun h => tf h (by assumption))] at hi
    refine Exists.intro (j + 1) (And.intro ⟨hj2,hi⟩ (And.intro (by omega) (ah ?_ trivial)))
    refine And.intro (congrArg (fun z => some (AV.int .i64 z)) ((aq (by omega) (by omega)).trans (by omega))) ?_
    repeat' (first | exact trivial | refine And.intro rfl ?_)
   ·have hj2 : l.length ≤ j:=by have:=of_decide_eq_false (by assumption : decide ((j : Int) < ((l.map aH).length : Int)) = false); simp at this; omega
    rw [List.drop_of_length_le hj2] at hi
    exact Ends.mk (Or.inl rfl) (ac (congrArg (AV.int .i64) hi))
 ·refine ag aa Tryz.func162 rfl (by kernel_rfl) af (Nat.le_of_ble_eq_true rfl) ?_
  intro F n' w0 m0 hG hro h1
  repeat' first|refine Q1 ?_|refine Q2 ?_|refine Q3 hG aa dc ?_|refine Q4 hG aa dc ?_|refine Q5 hG aa ?_|refine Q6 hG aa ?_|refine Q7 hG aa ?_|refine Q8 hG aa ?_|refine Q9 rfl ?_|refine QF rfl ?_|refine QC rfl ⟨fun h => ?_,fun h => ?_⟩|((conv => whnf); first|refine anF ?_|refine anT ?_|refine anK ?_|refine And.intro (fun h => ?_) (fun h => ?_)|refine Or.inl ?_)
  refine ar (X:=Nat) (fun j => ⟨[(8,.int .i64 j),(7,.int .i64 (l.map aH).length),(0,.sl .no 9 (l.map aH)),(1,.fn g)],[]⟩) (fun j => j ≤ l.length ∧ bV p (l.drop j) j = bV p l 0) (fun j => l.length - j) 0
   ⟨Nat.zero_le _,by simp⟩ (ah ?_ trivial) (fun j hj => ?_)
  ·repeat' (first | exact trivial | refine And.intro rfl ?_)
  ·obtain ⟨hj,hi⟩:=hj
   have hj2 : decide ((j : Int) < ((l.map aH).length : Int)) = true → j < l.length:=fun h => by have:=of_decide_eq_true h; simp at this; omega
   have hx : decide ((j : Int) < ((l.map aH).length : Int)) = true → (l.map aH)[(j : Int).toNat]? = some (aH (l.getD j lG)):=fun h => by have:=hj2 h; simp [List.getElem?_eq_getElem this]
   have hc : decide ((j : Int) < ((l.map aH).length : Int)) = true → ae Tryz.prog g ((.agg (aH (l.getD j lG))) :: []) (.bool (p (l.getD j lG))):=fun h => hp _ (by have:=hj2 h; rw [List.getD_eq_getElem?_getD,List.getElem?_eq_getElem this]; exact List.getElem_mem this)
   repeat' first|refine Q1 ?_|refine Q2 ?_|refine Q3 hG aa dc ?_|refine Q4 hG aa dc ?_|refine Q5 hG aa ?_|refine Q6 hG aa ?_|refine Q7 hG aa ?_|refine Q8 hG aa ?_|refine Q9 rfl ?_|refine QF rfl ?_|refine QC rfl ⟨fun h => ?_,fun h => ?_⟩|((conv => whnf); first|refine anF ?_|refine anT ?_|refine anK ?_|refine And.intro (Int.natCast_nonneg j) (Exists.intro _ (And.intro (hx (by assumption)) ?_))|refine Exists.intro _ (And.intro (hc (by assumption)) ?_)|refine And.intro (fun h => ?_) (fun h => ?_)|refine Or.inl ?_)
   ·rw [aT (d:=lG) (hj2 (by assumption)),if_pos (by assumption)] at hi
    exact Ends.mk (Or.inl rfl) (ac (congrArg (AV.int .i64) hi))
   ·have hj2:=hj2 (by assumption)
    rw [aT (d:=lG) hj2,if_neg (fun h => tf h (by assumption))] at hi
    refine Exists.intro (j + 1) (And.intro ⟨hj2,hi⟩ (And.intro (by omega) (ah ?_ trivial)))
    refine And.intro (congrArg (fun z => some (AV.int .i64 z)) ((aq (by omega) (by omega)).trans (by omega))) ?_
    repeat' (first | exact trivial | refine And.intro rfl ?_)
   ·have hj2 : l.length ≤ j:=by have:=of_decide_eq_false (by assumption : decide ((j : Int) < ((l.map aH).length : Int)) = false); simp at this; omega
    rw [List.drop_of_length_le hj2] at hi
    exact Ends.mk (Or.inl rfl) (ac (congrArg (AV.int .i64) hi))
theorem jc (l : List Opt) (p : Opt → Bool) (g : FuncId) (fv : AV) (cap : List AV) (hf : fv = .clo g cap ∨ (fv = .fn g ∧ cap = [])) (hl : l.length ≤ 1000000)
  (hp : ∀ x ∈ l,ae Tryz.prog g ((.agg (aH x)) :: cap) (.bool (p x))) : ae Tryz.prog 88 [.sl .no 9 (l.map aH),fv] (.bool (l.any p)):=by
 rcases hf with rfl | ⟨rfl,rfl⟩
 ·refine ag aa Tryz.func88 rfl (by kernel_rfl) af (Nat.le_of_ble_eq_true rfl) ?_
  intro F n' w0 m0 hG hro h1
  repeat' first|refine Q1 ?_|refine Q2 ?_|refine Q3 hG aa iF ?_|refine Q4 hG aa iF ?_|refine Q5 hG aa ?_|refine Q6 hG aa ?_|refine Q7 hG aa ?_|refine Q8 hG aa ?_|refine Q9 rfl ?_|refine QF rfl ?_|refine QC rfl ⟨fun h => ?_,fun h => ?_⟩|((conv => whnf); first|refine anF ?_|refine anT ?_|refine anK ?_|refine Exists.intro _ (And.intro (lk l p g _ _ (Or.inl rfl) hl hp) ?_)|refine And.intro (fun h => ?_) (fun h => ?_)|refine Or.inl ?_)
  all_goals exact Ends.mk (Or.inl rfl) (ac (congrArg AV.bool (dS p l 0)))
 ·refine ag aa Tryz.func88 rfl (by kernel_rfl) af (Nat.le_of_ble_eq_true rfl) ?_
  intro F n' w0 m0 hG hro h1
  repeat' first|refine Q1 ?_|refine Q2 ?_|refine Q3 hG aa iF ?_|refine Q4 hG aa iF ?_|refine Q5 hG aa ?_|refine Q6 hG aa ?_|refine Q7 hG aa ?_|refine Q8 hG aa ?_|refine Q9 rfl ?_|refine QF rfl ?_|refine QC rfl ⟨fun h => ?_,fun h => ?_⟩|((conv => whnf); first|refine anF ?_|refine anT ?_|refine anK ?_|refine Exists.intro _ (And.intro (lk l p g _ _ (Or.inr ⟨rfl,rfl⟩) hl hp) ?_)|refine And.intro (fun h => ?_) (fun h => ?_)|refine Or.inl ?_)
  all_goals exact Ends.mk (Or.inl rfl) (ac (congrArg AV.bool (dS p l 0)))
def Br (l : List al) : Bool:=(List.range (l.length - 1)).all fun i => !decide (qq (aA l (i + 1)) (aA l i) < 0)
theorem cn {l : List al} {i : Nat} (h : i < l.length) : (l.map aG)[i]? = some (aG (aA l i)):=by simp [aA,List.getElem?_eq_getElem h]
set_option maxHeartbeats 4000000 in
theorem sO (l : List al) (hl : l.length ≤ 1000000) : ae Tryz.prog 159 [ak l,.fn 160] (.bool (Br l)):=by
 refine ag aa Tryz.func159 rfl (by kernel_rfl) af (Nat.le_of_ble_eq_true rfl) ?_
 intro F n' w0 m0 hG hro h1
 repeat' first|refine Q1 ?_|refine Q2 ?_|refine Q3 hG aa eG ?_|refine Q4 hG aa eG ?_|refine Q5 hG aa ?_|refine Q6 hG aa ?_|refine Q7 hG aa ?_|refine Q8 hG aa ?_|refine Q9 rfl ?_|refine QF rfl ?_|refine QC rfl ⟨fun h => ?_,fun h => ?_⟩|((conv => whnf); first|refine anF ?_|refine anT ?_|refine anK ?_|refine And.intro (fun h => ?_) (fun h => ?_)|refine Or.inl ?_)
 refine ar (X:=Int) (fun i => ⟨[(5,.int .i64 i),(0,ak l),(1,.fn 160)],[]⟩)
  (fun i => -1 ≤ i ∧ i ≤ (l.length : Int) - 1 ∧ ∀ j : Nat,i ≤ (j : Int) → (j : Int) < (l.length : Int) - 1 → decide (qq (aA l (j + 1)) (aA l j) < 0) = false) (fun i => (i + 1).toNat) (IntKind.i64.wrap (((l.map aG).length : Int) - 1)) ?_ (ah ?_ ?_) (fun i hi => ?_)
 ·rw [show IntKind.i64.wrap (((l.map aG).length : Int) - 1) = (l.length : Int) - 1 by rw [List.length_map]; exact aq (by omega) (by omega)]
  exact ⟨by omega,by omega,fun j h1 h2 => by omega⟩
 ·repeat' (first | exact trivial | refine And.intro rfl ?_)
 ·repeat' (first | exact trivial | refine And.intro rfl ?_)
 ·obtain ⟨h1,h2,h3⟩:=hi
  by_cases hp : i > 0
  ·obtain ⟨j,rfl⟩ : ∃ j : Nat,i = ((j + 1 : Nat) : Int):=⟨(i - 1).toNat,by omega⟩
   have hw : IntKind.i64.wrap (((j + 1 : Nat) : Int) - 1) = (j : Int):=(aq (by omega) (by omega)).trans (by omega)
   have hx:=cn (l:=l) (i:=j + 1) (by omega)
   have hy:=cn (l:=l) (i:=j) (by omega)
   have hy' : (l.map aG)[(IntKind.i64.wrap (((j + 1 : Nat) : Int) - 1)).toNat]? = some (aG (aA l j)):=by rw [hw]; exact hy
   have h0 : 0 ≤ IntKind.i64.wrap (((j + 1 : Nat) : Int) - 1):=by rw [hw]; exact Int.natCast_nonneg j
   have bb : decide (((j + 1 : Nat) : Int) > 0) = false → False:=fun h => by have:=of_decide_eq_false h; omega
   repeat' first|exact (bb (by assumption)).elim|refine Q1 ?_|refine Q2 ?_|refine Q3 hG aa eG ?_|refine Q4 hG aa eG ?_|refine Q5 hG aa ?_|refine Q6 hG aa ?_|refine Q7 hG aa ?_|refine Q8 hG aa ?_|refine Q9 rfl ?_|refine QF rfl ?_|refine QC rfl ⟨fun h => ?_,fun h => ?_⟩|((conv => whnf); first|refine anF ?_|refine anT ?_|refine anK ?_|refine And.intro (Int.natCast_nonneg (j + 1)) (Exists.intro _ (And.intro hx ?_))|refine And.intro h0 (Exists.intro _ (And.intro hy' ?_))|refine Exists.intro _ (And.intro (o3 _ _) ?_)|refine And.intro (fun h => ?_) (fun h => ?_)|refine Or.inl ?_)
   ·refine Ends.mk (Or.inl rfl) (ac (congrArg AV.bool ?_))
    symm
    unfold Br
    rw [List.all_eq_false]
    exact ⟨j,List.mem_range.2 (by omega),by
     have hb:=(by assumption : decide (qq (aA l (j + 1)) (aA l j) < 0) = true)
     rw [hb]; simp⟩
   ·refine Exists.intro (IntKind.i64.wrap (((j + 1 : Nat) : Int) - 1)) (And.intro ?_ (And.intro ?_ (ah ?_ ?_)))
    ·rw [hw]
     refine ⟨by omega,by omega,fun k g1 g2 => ?_⟩
     by_cases hk : k = j
     ·rw [hk]; assumption
     ·exact h3 k (by omega) g2
    ·rw [hw]; omega
    ·repeat' (first | exact trivial | refine And.intro rfl ?_)
    ·repeat' (first | exact trivial | refine And.intro rfl ?_)
  ·have bb : decide (i > 0) = true → False:=fun h => hp (of_decide_eq_true h)
   repeat' first|exact (bb (by assumption)).elim|refine Q1 ?_|refine Q2 ?_|refine Q3 hG aa eG ?_|refine Q4 hG aa eG ?_|refine Q5 hG aa ?_|refine Q6 hG aa ?_|refine Q7 hG aa ?_|refine Q8 hG aa ?_|refine Q9 rfl ?_|refine QF rfl ?_|refine QC rfl ⟨fun h => ?_,fun h => ?_⟩|((conv => whnf); first|refine anF ?_|refine anT ?_|refine anK ?_|refine And.intro (fun h => ?_) (fun h => ?_)|refine Or.inl ?_)
   refine Ends.mk (Or.inl rfl) (ac (congrArg AV.bool ?_))
   symm
   unfold Br
   rw [List.all_eq_true]
   intro j hj
   have:=List.mem_range.1 hj
   rw [h3 j (by omega) (by omega)]; rfl
def bp (l : List al) : Bool:=decide (l.length ≤ 64) && !(l.any fun p => !bX p) && Br l
theorem eV (l : List al) (hl : l.length ≤ 1000000) : ae Tryz.prog 85 [ak l] (.bool (bp l)):=by
 have hlm : decide (((l.map aG).length : Int) ≤ 64) = decide (l.length ≤ 64):=by rw [List.length_map]; exact decide_eq_decide.2 (by omega)
 refine ag aa Tryz.func85 rfl (by kernel_rfl) af (Nat.le_of_ble_eq_true rfl) ?_
 intro F n' w0 m0 hG hro h1
 repeat' first|refine Q1 ?_|refine Q2 ?_|refine Q3 hG aa pT ?_|refine Q4 hG aa pT ?_|refine Q5 hG aa ?_|refine Q6 hG aa ?_|refine Q7 hG aa ?_|refine Q8 hG aa ?_|refine Q9 rfl ?_|refine QF rfl ?_|refine QC rfl ⟨fun h => ?_,fun h => ?_⟩|((conv => whnf); first|refine anF ?_|refine anT ?_|refine anK ?_|refine Exists.intro _ (And.intro (oB l (fun p => !bX p) 157 _ [] (Or.inr ⟨rfl,rfl⟩) hl (fun p _ => uQ p)) ?_)|refine Exists.intro _ (And.intro (sO l hl) ?_)|refine And.intro (fun h => ?_) (fun h => ?_)|refine Or.inl ?_)
 all_goals refine Ends.mk (Or.inl rfl) (ac (congrArg AV.bool ?_))
 all_goals (unfold bp; rw [← hlm]; clear hlm; simp only [*,Bool.true_and,Bool.and_true,Bool.false_and,Bool.and_false])
end Go.Proofs
namespace Go.Proofs
open Go Go.AI
set_option maxRecDepth 10000
def fO (s : Nat → Int) (ps : List al) (size t : Int) (x : aU) : Bool:=
 inS x.p 0 (w64 ((ps.length : Int) - 1)) && ((((aA ps x.p.toNat).sat == s 0) && decide (x.a ≥ max t (aA ps x.p.toNat).sa) && decide (x.b ≤ (aA ps x.p.toNat).sb) && decide (x.a < x.b)) &&
  !decide (w64 (w64 (x.b - x.a) * s 20) < size))
def bv (s : Nat → Int) (ps : List al) (size : Int) : Int → List aU → Bool
 | _,[] => true
 | t,x :: r => fO s ps size t x && bv s ps size x.b r
def mK (s : Nat → Int) (o : Opt) : Bool:=inS o.id 0 63 && inS o.ord 0 63 && inS o.cl 0 11 && (o.sat == s 0) && inS o.size 1 (s 10)
def ph (s : Nat → Int) (o : Opt) : Bool:=oH (iS s) o.a o.b o.look && inS o.look (w64 (0 - s 9)) (s 9) && decide (o.b ≤ 1000000)
def dp (s : Nat → Int) (o : Opt) (ps : List al) : Bool:=mK s o && ph s o && inS (o.sl.length : Int) 1 6 && bv s ps o.size o.b o.sl
theorem ma {s : Nat → Int} {ps : List al} {z t : Int} {l : List aU} {i : Nat} (h : i < l.length) : bv s ps z t (l.drop i) = (fO s ps z t (l.getD i ⟨0,0,0⟩) && bv s ps z (l.getD i ⟨0,0,0⟩).b (l.drop (i + 1))):=by
 rw [List.drop_eq_getElem_cons h,List.getD_eq_getElem?_getD,List.getElem?_eq_getElem h]; rfl
set_option maxHeartbeats 16000000 in
theorem Ba (s : Nat → Int) (o : Opt) (ps : List al) (hl : o.sl.length ≤ 1000000) (hps : ps.length ≤ 1000000) : ae Tryz.prog 87 [.agg (bg s),.agg (aH o),ak ps] (.bool (dp s o ps)):=by
 have hlm : ((o.sl.map aw).length : Int) = (o.sl.length : Int):=by rw [List.length_map]
 have hpm : ((ps.map aG).length : Int) = (ps.length : Int):=by rw [List.length_map]
 refine ag aa Tryz.func87 rfl (by kernel_rfl) af (Nat.le_of_ble_eq_true rfl) ?_
 intro F n' w0 m0 hG hro h1
 refine Q1 ?_
 refine Q4 hG aa bq ?_
 conv => whnf
 refine Q1 ?_
 refine SPB.cut (X:=Unit) (fun _ => ⟨[(7,.bool (mK s o)),(6,.bool false),(4,.loc 4 0),(3,.loc 3 0),(2,ak ps)],[(4,aH o),(3,bg s)]⟩) (fun _ => True) ?_ (fun _ _ => ?_)
 ·refine Q4 hG aa bq ?_
  repeat' first|refine Q1 ?_|refine Q2 ?_|refine Q3 hG aa bq ?_|refine Q4 hG aa bq ?_|refine Q5 hG aa ?_|refine Q6 hG aa ?_|refine Q7 hG aa ?_|refine Q8 hG aa ?_|refine Q9 rfl ?_|refine QF rfl ?_|refine QC rfl ⟨fun h => ?_,fun h => ?_⟩|((conv => whnf); first|refine anF ?_|refine anT ?_|refine anK ?_|refine Exists.intro _ (And.intro (jb _ _ _) ?_)|refine And.intro (fun h => ?_) (fun h => ?_)|refine Or.inl ?_)
  all_goals refine Exists.intro () (And.intro trivial (ah (And.intro (congrArg (fun z => some (AV.bool z)) ?_) ?_) ?_))
  all_goals first
   |(simp only [mK, *,Bool.true_and,Bool.and_true,Bool.false_and,Bool.and_false,Bool.true_or,Bool.or_true,Bool.false_or,Bool.or_false,Bool.not_true,Bool.not_false]; done)
   |(repeat' (first | exact trivial | refine And.intro rfl ?_))
 conv => whnf
 refine Q1 ?_
 refine SPB.cut (X:=Unit) (fun _ => ⟨[(8,.bool (ph s o)),(7,.bool (mK s o)),(6,.bool false),(4,.loc 4 0),(3,.loc 3 0),(2,ak ps)],[(4,aH o),(3,bg s)]⟩) (fun _ => True) ?_ (fun _ _ => ?_)
 ·refine Q4 hG aa bq ?_
  repeat' first|refine Q1 ?_|refine Q2 ?_|refine Q3 hG aa bq ?_|refine Q4 hG aa bq ?_|refine Q5 hG aa ?_|refine Q6 hG aa ?_|refine Q7 hG aa ?_|refine Q8 hG aa ?_|refine Q9 rfl ?_|refine QF rfl ?_|refine QC rfl ⟨fun h => ?_,fun h => ?_⟩|((conv => whnf); first|refine anF ?_|refine anT ?_|refine anK ?_|refine Exists.intro _ (And.intro (jb _ _ _) ?_)|refine Exists.intro _ (And.intro (AB (iS s) _ _ _) ?_)|refine And.intro (fun h => ?_) (fun h => ?_)|refine Or.inl ?_)
  all_goals refine Exists.intro () (And.intro trivial (ah (And.intro (congrArg (fun z => some (AV.bool z)) ?_) ?_) ?_))
  all_goals first
   |(simp only [ph,w64, *,Bool.true_and,Bool.and_true,Bool.false_and,Bool.and_false,Bool.true_or,Bool.or_true,Bool.false_or,Bool.or_false,Bool.not_true,Bool.not_false]; done)
   |(repeat' (first | exact trivial | refine And.intro rfl ?_))
 conv => whnf
 repeat' first|refine Q1 ?_|refine Q2 ?_|refine Q3 hG aa bq ?_|refine Q4 hG aa bq ?_|refine Q5 hG aa ?_|refine Q6 hG aa ?_|refine Q7 hG aa ?_|refine Q8 hG aa ?_|refine Q9 rfl ?_|refine QF rfl ?_|refine QC rfl ⟨fun h => ?_,fun h => ?_⟩|((conv => whnf); first|refine anF ?_|refine anT ?_|refine anK ?_|refine Exists.intro _ (And.intro (jb _ _ _) ?_)|refine And.intro (fun h => ?_) (fun h => ?_)|refine Or.inl ?_)
 ·refine Ends.mk (Or.inl rfl) (ac (congrArg AV.bool ?_))
  simp only [dp,zO (by assumption : (!mK s o) = true),Bool.false_and]
 ·refine Ends.mk (Or.inl rfl) (ac (congrArg AV.bool ?_))
  simp only [dp,zO (by assumption : (!ph s o) = true),Bool.false_and,Bool.and_false]
 ·refine Ends.mk (Or.inl rfl) (ac (congrArg AV.bool ?_))
  have h:=zO (by assumption : (!inS (((o.sl.map aw).length : Nat) : Int) 1 6) = true)
  rw [hlm] at h
  simp only [dp,h,Bool.false_and,Bool.and_false]
 ·have q1:=mD (by assumption : (!mK s o) = false)
  have q2:=mD (by assumption : (!ph s o) = false)
  have q3:=mD (by assumption : (!inS (((o.sl.map aw).length : Nat) : Int) 1 6) = false)
  rw [hlm] at q3
  have hfit : dp s o ps = bv s ps o.size o.b o.sl:=by simp only [dp,q1,q2,q3,Bool.true_and]
  rw [hfit]
  refine ar (X:=Nat × Int) (fun q => ⟨[(83,.int .i64 q.1),(82,.int .i64 (o.sl.map aw).length),(81,.sl .no 3 (o.sl.map aw)),(9,.int .i64 q.2),(6,.bool false),(4,.loc 4 0),(3,.loc 3 0),(2,ak ps)],[(4,aH o),(3,bg s)]⟩)
   (fun q => q.1 ≤ o.sl.length ∧ bv s ps o.size q.2 (o.sl.drop q.1) = bv s ps o.size o.b o.sl) (fun q => o.sl.length - q.1) (0,o.b) ⟨Nat.zero_le _,rfl⟩ (ah ?_ ?_) (fun q hq => ?_)
  ·repeat' (first | exact trivial | refine And.intro rfl ?_)
  ·repeat' (first | exact trivial | refine And.intro rfl ?_)
  ·obtain ⟨i,t⟩:=q
   obtain ⟨hi,hf⟩:=hq
   have hi : i ≤ o.sl.length:=hi
   have hf : bv s ps o.size t (o.sl.drop i) = bv s ps o.size o.b o.sl:=hf
   by_cases hlt : i < o.sl.length
   ·have bbk : decide ((i : Int) < ((o.sl.map aw).length : Int)) = false → False:=fun h => by have:=of_decide_eq_false h; omega
    have hx:=cR hlt
    rw [ma hlt] at hf
    generalize o.sl.getD i ⟨0,0,0⟩ = x at hx hf
    have bad : fO s ps o.size t x = false → false = bv s ps o.size o.b o.sl:=fun h => by rw [← hf,h,Bool.false_and]
    have hin : (!inS x.p 0 (IntKind.i64.wrap (((ps.map aG).length : Int) - 1))) = false → 0 ≤ x.p ∧ (ps.map aG)[x.p.toNat]? = some (aG (aA ps x.p.toNat)):=fun h => by
     have h:=mD h
     rw [hpm,show IntKind.i64.wrap ((ps.length : Int) - 1) = (ps.length : Int) - 1 from aq (by omega) (by omega)] at h
     simp only [inS,Bool.and_eq_true,decide_eq_true_eq] at h
     exact ⟨h.1,cn (by omega)⟩
    have hpm' : w64 ((ps.length : Int) - 1) = IntKind.i64.wrap (((ps.map aG).length : Int) - 1):=by rw [hpm]; rfl
    repeat' first|exact (bbk (by assumption)).elim|refine Q1 ?_|refine Q2 ?_|refine Q3 hG aa bq ?_|refine Q4 hG aa bq ?_|refine Q5 hG aa ?_|refine Q6 hG aa ?_|refine Q7 hG aa ?_|refine Q8 hG aa ?_|refine Q9 rfl ?_|refine QF rfl ?_|refine QC rfl ⟨fun h => ?_,fun h => ?_⟩|((conv => whnf); first|refine anF ?_|refine anT ?_|refine anK ?_|refine And.intro (Int.natCast_nonneg i) (Exists.intro _ (And.intro hx ?_))|refine Exists.intro _ (And.intro (jb _ _ _) ?_)|refine And.intro (hin (by assumption)).1 (Exists.intro _ (And.intro (hin (by assumption)).2 ?_))|refine And.intro (fun h => ?_) (fun h => ?_)|refine Or.inl ?_)
    rotate_left 3
    ·have hok : fO s ps o.size t x = true:=by
      (try simp only [Bool.not_eq_true',Bool.not_eq_false',cond_true] at *)
      unfold fO w64
      unfold w64 at hpm'
      rw [hpm']
      simp only [*,Bool.true_and,Bool.and_true,Bool.false_and,Bool.and_false,Bool.true_or,Bool.or_true,Bool.false_or,Bool.or_false,Bool.not_true,Bool.not_false]
     refine Exists.intro (i + 1,x.b) (And.intro ⟨hlt,?_⟩ (And.intro (by show o.sl.length - (i + 1) < o.sl.length - i; omega) (ah ?_ ?_)))
     ·show bv s ps o.size x.b (o.sl.drop (i + 1)) = _
      rw [← hf,hok,Bool.true_and]
     ·refine And.intro (congrArg some (ap (by omega))) ?_
      repeat' (first | exact trivial | refine And.intro rfl ?_)
     ·repeat' (first | exact trivial | refine And.intro rfl ?_)
    all_goals refine Ends.mk (Or.inl rfl) (ac (congrArg AV.bool (bad ?_)))
    all_goals (try simp only [Bool.not_eq_true',Bool.not_eq_false',cond_true] at *)
    all_goals (unfold fO w64; unfold w64 at hpm'; rw [hpm']; simp only [*,Bool.true_and,Bool.and_true,Bool.false_and,Bool.and_false,Bool.true_or,Bool.or_true,Bool.false_or,Bool.or_false,Bool.not_true,Bool.not_false])
   ·have hge : i = o.sl.length:=by omega
    have bbk : decide ((i : Int) < ((o.sl.map aw).length : Int)) = true → False:=fun h => by have:=of_decide_eq_true h; omega
    rw [List.drop_of_length_le (by omega)] at hf
    repeat' first|exact (bbk (by assumption)).elim|refine Q1 ?_|refine Q2 ?_|refine Q3 hG aa bq ?_|refine Q4 hG aa bq ?_|refine Q5 hG aa ?_|refine Q6 hG aa ?_|refine Q7 hG aa ?_|refine Q8 hG aa ?_|refine Q9 rfl ?_|refine QF rfl ?_|refine QC rfl ⟨fun h => ?_,fun h => ?_⟩|((conv => whnf); first|refine anF ?_|refine anT ?_|refine anK ?_|refine And.intro (fun h => ?_) (fun h => ?_)|refine Or.inl ?_)
    exact Ends.mk (Or.inl rfl) (ac (congrArg AV.bool hf))
def iT (s : Nat → Int) (ps : List al) (a b : Int) (pre : List Opt) (o : Opt) : Bool:=dp s o ps && !decide (o.a < a) && !decide (ff o > b) && !(pre.any fun p => p.id == o.id)
def dA (s : Nat → Int) (ps : List al) (a b : Int) : List Opt → List Opt → Bool
 | _,[] => true
 | pre,o :: r => iT s ps a b pre o && dA s ps a b (pre ++ [o]) r
theorem pt {s : Nat → Int} {ps : List al} {a b : Int} {l : List Opt} {i : Nat} (h : i < l.length) : dA s ps a b (l.take i) (l.drop i) = (iT s ps a b (l.take i) (aF l i) && dA s ps a b (l.take (i + 1)) (l.drop (i + 1))):=by
 rw [List.drop_eq_getElem_cons h,dA,cp h,List.take_add_one,List.getElem?_eq_getElem h]; rfl
def aX (s : Nat → Int) (l : List Opt) (ps : List al) (a b : Int) : Bool:=decide (l.length ≤ 8) && bE a b && !decide (w64 (b - a) > 3000) && gt s && bp ps && dA s ps a b [] l
theorem AD (o p : Opt) : ae Tryz.prog 86 [.agg (aH p),.ref (aH o)] (.bool (p.id == o.id)):=by
 refine ag aa Tryz.func86 rfl (by kernel_rfl) af (Nat.le_of_ble_eq_true rfl) ?_
 intro F n' w0 m0 hG hro h1
 repeat' first|refine Q1 ?_|refine Q2 ?_|refine Q3 hG aa pS ?_|refine Q4 hG aa pS ?_|refine Q5 hG aa ?_|refine Q6 hG aa ?_|refine Q7 hG aa ?_|refine Q8 hG aa ?_|refine Q9 rfl ?_|refine QF rfl ?_|refine QC rfl ⟨fun h => ?_,fun h => ?_⟩|((conv => whnf); first|refine anF ?_|refine anT ?_|refine anK ?_|refine And.intro (fun h => ?_) (fun h => ?_)|refine Or.inl ?_)
 all_goals exact Ends.mk (Or.inl rfl) (ac rfl)
theorem gh {l : List Opt} {i : Nat} (h : i < l.length) : (l.map aH)[(i : Int).toNat]? = some (aH (aF l i)):=by simp [aF,List.getElem?_eq_getElem h]
theorem rK {s : Nat → Int} {o : Opt} {ps : List al} (h : dp s o ps = true) : 1 ≤ o.sl.length ∧ o.sl.length ≤ 6:=by
 simp only [dp,inS,Bool.and_eq_true,decide_eq_true_eq] at h
 omega
end Go.Proofs
namespace Go.Proofs
open Go Go.AI
set_option maxRecDepth 10000
def fc (l : List Opt) : Prop:=∀ o ∈ l,o.sl.length ≤ 1000000
set_option maxHeartbeats 16000000 in
theorem x4 (s : Nat → Int) (l : List Opt) (ps : List al) (a b : Int) (hl : l.length ≤ 1000000) (hs : fc l) (hps : ps.length ≤ 1000000) : ae Tryz.prog 23 [.agg (bg s),aM l,ak ps,.agg (aK a b)] (.bool (aX s l ps a b)):=by
 have hlm : ((l.map aH).length : Int) = (l.length : Int):=by rw [List.length_map]
 have hn8 : decide (l.length ≤ 8) = !decide (((l.map aH).length : Int) > 8):=by rw [hlm]; by_cases h : l.length ≤ 8 <;> simp [h] <;> omega
 refine ag aa Tryz.func23 rfl (by kernel_rfl) af (Nat.le_of_ble_eq_true rfl) ?_
 intro F n' w0 m0 hG hro h1
 repeat' first|refine Q1 ?_|refine Q2 ?_|refine Q3 hG aa fx ?_|refine Q4 hG aa fx ?_|refine Q5 hG aa ?_|refine Q6 hG aa ?_|refine Q7 hG aa ?_|refine Q8 hG aa ?_|refine Q9 rfl ?_|refine QF rfl ?_|refine QC rfl ⟨fun h => ?_,fun h => ?_⟩|((conv => whnf); first|refine anF ?_|refine anT ?_|refine anK ?_|refine Exists.intro _ (And.intro (rY _ _) ?_)|refine Exists.intro _ (And.intro (wU s) ?_)|refine Exists.intro _ (And.intro (eV ps hps) ?_)|refine And.intro (fun h => ?_) (fun h => ?_)|refine Or.inl ?_)
 rotate_left 5
 ·have c1 : l.length ≤ 8:=by
   have h:=(by assumption : decide (((l.map aH).length : Int) > 8) = false)
   have h2:=hn8; rw [h] at h2; simpa using h2
  have hv : aX s l ps a b = dA s ps a b [] l:=by
   have c2:=mD (by assumption : (!bE a b) = false)
   have c3:=mD (by assumption : (!gt s) = false)
   have c4:=mD (by assumption : (!bp ps) = false)
   have c5 : decide (w64 (b - a) > 3000) = false:=(by assumption : decide (IntKind.i64.wrap (b - a) > 3000) = false)
   simp only [aX,decide_eq_true c1,c2,c3,c4,c5,Bool.true_and,Bool.not_false,Bool.and_true]
  rw [hv]
  refine ar (X:=Nat) (fun i => ⟨[(40,.int .i64 i),(39,.int .i64 (l.map aH).length),(38,aM l),(8,.bool false),(7,.loc 7 0),(4,.loc 4 0),(2,ak ps),(1,aM l)],[(7,aK a b),(4,bg s)]⟩)
   (fun i => i ≤ l.length ∧ dA s ps a b (l.take i) (l.drop i) = dA s ps a b [] l) (fun i => l.length - i) 0 ⟨Nat.zero_le _,rfl⟩ (ah ?_ ?_) (fun i hi => ?_)
  ·repeat' (first | exact trivial | refine And.intro rfl ?_)
  ·repeat' (first | exact trivial | refine And.intro rfl ?_)
  ·obtain ⟨hi,hok⟩:=hi
   by_cases hlt : i < l.length
   ·have bbk : decide ((i : Int) < ((l.map aH).length : Int)) = false → False:=fun h => by have:=of_decide_eq_false h; omega
    have hx:=gh hlt
    rw [pt hlt] at hok
    have hsx : (aF l i).sl.length ≤ 1000000:=hs _ (by rw [cp hlt]; exact List.getElem_mem hlt)
    generalize aF l i = x at hx hok hsx
    have hle : (i : Int).toNat ≤ (l.map aH).length:=by simp; exact hi
    have he : ((l.map aH).take (i : Int).toNat).drop 0 = (l.take i).map aH:=by simp [List.map_take]
    have h88:=jc (l.take i) (fun p => p.id == x.id) 86 _ [.ref (aH x)] (Or.inl rfl) (by simp; omega) (fun y _ => AD x y)
    rw [← he] at h88
    have hlast : (!dp s x ps) = false → 0 ≤ IntKind.i64.wrap (((x.sl.map aw).length : Int) - 1) ∧ (x.sl.map aw)[(IntKind.i64.wrap (((x.sl.map aw).length : Int) - 1)).toNat]? = some [.int .i64 (eh x (x.sl.length - 1)).p,.int .i64 (eh x (x.sl.length - 1)).a,.int .i64 (ff x)]:=fun h => by
     have hn:=rK (mD h)
     rw [List.length_map,show IntKind.i64.wrap ((x.sl.length : Int) - 1) = ((x.sl.length - 1 : Nat) : Int) from (aq (by omega) (by omega)).trans (by omega)]
     exact ⟨Int.natCast_nonneg _,cR (by omega)⟩
    repeat' first|exact (bbk (by assumption)).elim|refine Q1 ?_|refine Q2 ?_|refine Q3 hG aa fx ?_|refine Q4 hG aa fx ?_|refine Q5 hG aa ?_|refine Q6 hG aa ?_|refine Q7 hG aa ?_|refine Q8 hG aa ?_|refine Q9 rfl ?_|refine QF rfl ?_|refine QC rfl ⟨fun h => ?_,fun h => ?_⟩|((conv => whnf); first|refine anF ?_|refine anT ?_|refine anK ?_|refine And.intro (Int.natCast_nonneg i) (Exists.intro _ (And.intro hx ?_))|refine Exists.intro _ (And.intro (Ba s _ ps hsx hps) ?_)|refine Exists.intro _ (And.intro (h88) ?_)|refine And.intro (hlast (by assumption)).1 (Exists.intro _ (And.intro (hlast (by assumption)).2 ?_))|refine And.intro (Int.natCast_nonneg i) (And.intro (Nat.zero_le _) (And.intro hle ?_))|refine And.intro (fun h => ?_) (fun h => ?_)|refine Or.inl ?_)
    all_goals first
     |(refine Ends.mk (Or.inl rfl) (ac (congrArg AV.bool ?_))
       have hb : iT s ps a b (l.take i) x = false:=by
        (try simp only [Bool.not_eq_true',Bool.not_eq_false'] at *)
        unfold iT
        simp only [*,Bool.true_and,Bool.and_true,Bool.false_and,Bool.and_false,Bool.true_or,Bool.or_true,Bool.false_or,Bool.or_false,Bool.not_true,Bool.not_false]
       rw [← hok,hb,Bool.false_and])
     | skip
    have hb : iT s ps a b (l.take i) x = true:=by
     (try simp only [Bool.not_eq_true',Bool.not_eq_false'] at *)
     unfold iT
     simp only [*,Bool.true_and,Bool.and_true,Bool.false_and,Bool.and_false,Bool.true_or,Bool.or_true,Bool.false_or,Bool.or_false,Bool.not_true,Bool.not_false]
    rw [hb,Bool.true_and] at hok
    refine Exists.intro (i + 1) (And.intro ⟨hlt,hok⟩ (And.intro (by omega) (ah ?_ ?_)))
    ·refine And.intro (congrArg some (ap (by omega))) ?_
     repeat' (first | exact trivial | refine And.intro rfl ?_)
    ·repeat' (first | exact trivial | refine And.intro rfl ?_)
   ·have bbk : decide ((i : Int) < ((l.map aH).length : Int)) = true → False:=fun h => by have:=of_decide_eq_true h; omega
    rw [List.drop_of_length_le (by omega)] at hok
    repeat' first|exact (bbk (by assumption)).elim|refine Q1 ?_|refine Q2 ?_|refine Q3 hG aa fx ?_|refine Q4 hG aa fx ?_|refine Q5 hG aa ?_|refine Q6 hG aa ?_|refine Q7 hG aa ?_|refine Q8 hG aa ?_|refine Q9 rfl ?_|refine QF rfl ?_|refine QC rfl ⟨fun h => ?_,fun h => ?_⟩|((conv => whnf); first|refine anF ?_|refine anT ?_|refine anK ?_|refine And.intro (fun h => ?_) (fun h => ?_)|refine Or.inl ?_)
    exact Ends.mk (Or.inl rfl) (ac (congrArg AV.bool hok))
 all_goals refine Ends.mk (Or.inl rfl) (ac (congrArg AV.bool ?_))
 all_goals ((try simp only [Bool.not_eq_true',Bool.not_eq_false'] at *); unfold aX w64; rw [hn8]; clear hlm; simp only [*,Bool.true_and,Bool.and_true,Bool.false_and,Bool.and_false,Bool.true_or,Bool.or_true,Bool.false_or,Bool.or_false,Bool.not_true,Bool.not_false])
end Go.Proofs
namespace Go.Proofs
open Go Go.AI
set_option maxRecDepth 10000
theorem AE (l : List Opt) : ae Tryz.prog 92 [aM l] (.clo 166 [.ref [aM l]]):=by
 refine ag aa Tryz.func92 rfl (by kernel_rfl) af (Nat.le_of_ble_eq_true rfl) ?_
 intro F n' w0 m0 hG hro h1
 repeat' first|refine Q1 ?_|refine Q2 ?_|refine Q3 hG aa pP ?_|refine Q4 hG aa pP ?_|refine Q5 hG aa ?_|refine Q6 hG aa ?_|refine Q7 hG aa ?_|refine Q8 hG aa ?_|refine Q9 rfl ?_|refine QF rfl ?_|refine QC rfl ⟨fun h => ?_,fun h => ?_⟩|((conv => whnf); first|refine anF ?_|refine anT ?_|refine anK ?_|refine And.intro (fun h => ?_) (fun h => ?_)|refine Or.inl ?_)
 all_goals exact Ends.mk (Or.inl rfl) (ac rfl)
def spA (x : Int × Int) : List AV:=[.agg (aK x.1 x.2)]
theorem s6 {l : List Opt} {i : Nat} (h : i < l.length) : bu (l.take (i + 1)) = bu (l.take i) ++ slP (aF l i):=by
 rw [List.take_add_one,List.getElem?_eq_getElem h,cp h]
 simp only [bu,List.flatMap_append,Option.toList_some,List.flatMap_cons,List.flatMap_nil,List.append_nil,slP]
theorem Bz {l : List Opt} {i j : Nat} (h : i < l.length) (hj : j < (aF l i).sl.length) : (bu l)[(bu (l.take i)).length + j]? = some ((eh (aF l i) j).a,(eh (aF l i) j).b):=by
 have e : bu l = bu (l.take (i + 1)) ++ bu (l.drop (i + 1)):=by
  conv => lhs; rw [← List.take_append_drop (i + 1) l]
  simp only [bu,List.flatMap_append]
 have h1 : j < (slP (aF l i)).length:=by simpa [slP] using hj
 rw [e,s6 h,List.append_assoc,List.getElem?_append_right (by omega),Nat.add_sub_cancel_left,List.getElem?_append_left h1]
 simp [slP,eh,List.getElem?_eq_getElem hj]
set_option maxHeartbeats 8000000 in
theorem uH (l : List Opt) (hl : l.length ≤ 1000000) (hs : fc l) : lm Tryz.prog spA 166 [.ref [aM l]] (bu l):=by
 refine lm.of Tryz.func166 rfl (by kernel_rfl) af (Nat.le_of_ble_eq_true rfl) rfl ?_
 intro F n m y J Jx hY
 repeat' first|refine MPB.seq ?_|refine MPB.block ?_|refine MPB.reg hY aa dN (by kernel_rfl) ?_|refine MPB.skip ?_|refine MPB.label ?_|refine MPB.ret ?_|refine MPB.exit ?_|refine MPB.condT rfl ?_|refine MPB.condF rfl ?_|refine MPB.cond rfl (And.intro (fun h => ?_) (fun h => ?_))|((conv => whnf); first|refine anF ?_|refine anT ?_|refine anK ?_|refine And.intro (fun h => ?_) (fun h => ?_)|refine Or.inl ?_)
 refine MPB.loop (X:=Nat) (fun i => ((false,(bu (l.take i)).length),⟨[(9,.int .i64 i),(8,.int .i64 (l.map aH).length),(7,aM l),(0,.lit (.func (.yield y) #[] #[]))],[]⟩)) (fun i => i ≤ l.length) (fun i => l.length - i) 0 (Nat.zero_le _) rfl (ah ?_ ?_) (fun i hi => ?_)
 ·repeat' (first | exact trivial | refine And.intro rfl ?_)
 ·repeat' (first | exact trivial | refine And.intro rfl ?_)
 ·by_cases hlt : i < l.length
  ·have bbk : decide ((i : Int) < ((l.map aH).length : Int)) = false → False:=fun h => by have:=of_decide_eq_false h; simp at this; omega
   have hx:=gh hlt
   have hsx : (aF l i).sl.length ≤ 1000000:=hs _ (by rw [cp hlt]; exact List.getElem_mem hlt)
   have hget:=fun (j : Nat) (hj : j < (aF l i).sl.length) => Bz hlt hj
   have htk : (bu (l.take (i + 1))).length = (bu (l.take i)).length + (aF l i).sl.length:=by rw [s6 hlt]; simp [slP]
   generalize aF l i = x at hx hsx hget htk
   have hlm : ((x.sl.map aw).length : Int) = (x.sl.length : Int):=by rw [List.length_map]
   repeat' first|exact (bbk (by assumption)).elim|refine MPB.seq ?_|refine MPB.block ?_|refine MPB.reg hY aa dN (by kernel_rfl) ?_|refine MPB.skip ?_|refine MPB.label ?_|refine MPB.ret ?_|refine MPB.exit ?_|refine MPB.condT rfl ?_|refine MPB.condF rfl ?_|refine MPB.cond rfl (And.intro (fun h => ?_) (fun h => ?_))|((conv => whnf); first|refine anF ?_|refine anT ?_|refine anK ?_|refine And.intro (Int.natCast_nonneg i) (Exists.intro _ (And.intro hx ?_))|refine And.intro (fun h => ?_) (fun h => ?_)|refine Or.inl ?_)
   refine MPB.loop (X:=Nat) (fun j => ((false,(bu (l.take i)).length + j),⟨[(16,.int .i64 j),(15,.int .i64 (x.sl.map aw).length),(14,.sl .no 3 (x.sl.map aw)),(9,.int .i64 i),(8,.int .i64 (l.map aH).length),(7,aM l),(0,.lit (.func (.yield y) #[] #[]))],[]⟩)) (fun j => j ≤ x.sl.length) (fun j => x.sl.length - j) 0 (Nat.zero_le _) rfl (ah ?_ ?_) (fun j hj => ?_)
   ·repeat' (first | exact trivial | refine And.intro rfl ?_)
   ·repeat' (first | exact trivial | refine And.intro rfl ?_)
   ·by_cases hjl : j < x.sl.length
    ·have bbj : decide ((j : Int) < ((x.sl.map aw).length : Int)) = false → False:=fun h => by have:=of_decide_eq_false h; omega
     have hy:=cR hjl
     have hg:=hget j hjl
     have hsl : x.sl.getD j ⟨0,0,0⟩ = eh x j:=rfl
     rw [hsl] at hy
     generalize eh x j = z at hy hg
     repeat' first|exact (bbj (by assumption)).elim|refine MPB.seq ?_|refine MPB.block ?_|refine MPB.reg hY aa dN (by kernel_rfl) ?_|refine MPB.skip ?_|refine MPB.label ?_|refine MPB.ret ?_|refine MPB.exit ?_|refine MPB.condT rfl ?_|refine MPB.condF rfl ?_|refine MPB.cond rfl (And.intro (fun h => ?_) (fun h => ?_))|((conv => whnf); first|refine anF ?_|refine anT ?_|refine anK ?_|refine And.intro (Int.natCast_nonneg j) (Exists.intro _ (And.intro hy ?_))|refine And.intro (fun h => ?_) (fun h => ?_)|refine Or.inl ?_)
     refine Exists.intro (z.a,z.b) (And.intro hg (And.intro rfl (fun t ht => ?_)))
     subst ht
     refine And.intro ?_ ?_
     ·repeat' first|refine MPB.seq ?_|refine MPB.block ?_|refine MPB.reg hY aa dN (by kernel_rfl) ?_|refine MPB.skip ?_|refine MPB.label ?_|refine MPB.ret ?_|refine MPB.exit ?_|refine MPB.condT rfl ?_|refine MPB.condF rfl ?_|refine MPB.cond rfl (And.intro (fun h => ?_) (fun h => ?_))|((conv => whnf); first|refine anF ?_|refine anT ?_|refine anK ?_|refine And.intro (fun h => ?_) (fun h => ?_)|refine Or.inl ?_)
      refine Exists.intro (j + 1) (And.intro hjl (And.intro (by omega) (And.intro rfl (ah ?_ ?_))))
      ·refine And.intro (congrArg some (ap (by omega))) ?_
       repeat' (first | exact trivial | refine And.intro rfl ?_)
      ·repeat' (first | exact trivial | refine And.intro rfl ?_)
     ·repeat' first|refine MPB.seq ?_|refine MPB.block ?_|refine MPB.reg hY aa dN (by kernel_rfl) ?_|refine MPB.skip ?_|refine MPB.label ?_|refine MPB.ret ?_|refine MPB.exit ?_|refine MPB.condT rfl ?_|refine MPB.condF rfl ?_|refine MPB.cond rfl (And.intro (fun h => ?_) (fun h => ?_))|((conv => whnf); first|refine anF ?_|refine anT ?_|refine anK ?_|refine And.intro (fun h => ?_) (fun h => ?_)|refine Or.inl ?_)
      exact il.mk (Or.inl rfl) (Or.inr rfl)
    ·have hge : j = x.sl.length:=by omega
     have bbj : decide ((j : Int) < ((x.sl.map aw).length : Int)) = true → False:=fun h => by have:=of_decide_eq_true h; omega
     repeat' first|exact (bbj (by assumption)).elim|refine MPB.seq ?_|refine MPB.block ?_|refine MPB.reg hY aa dN (by kernel_rfl) ?_|refine MPB.skip ?_|refine MPB.label ?_|refine MPB.ret ?_|refine MPB.exit ?_|refine MPB.condT rfl ?_|refine MPB.condF rfl ?_|refine MPB.cond rfl (And.intro (fun h => ?_) (fun h => ?_))|((conv => whnf); first|refine anF ?_|refine anT ?_|refine anK ?_|refine And.intro (fun h => ?_) (fun h => ?_)|refine Or.inl ?_)
     refine Exists.intro (i + 1) (And.intro hlt (And.intro (by omega) (And.intro (congrArg (Prod.mk false) (by rw [htk,hge])) (ah ?_ ?_))))
     ·refine And.intro (congrArg some (ap (by omega))) ?_
      repeat' (first | exact trivial | refine And.intro rfl ?_)
     ·repeat' (first | exact trivial | refine And.intro rfl ?_)
  ·have bbk : decide ((i : Int) < ((l.map aH).length : Int)) = true → False:=fun h => by have:=of_decide_eq_true h; simp at this; omega
   have he : l.take i = l:=List.take_of_length_le (by omega)
   repeat' first|exact (bbk (by assumption)).elim|refine MPB.seq ?_|refine MPB.block ?_|refine MPB.reg hY aa dN (by kernel_rfl) ?_|refine MPB.skip ?_|refine MPB.label ?_|refine MPB.ret ?_|refine MPB.exit ?_|refine MPB.condT rfl ?_|refine MPB.condF rfl ?_|refine MPB.cond rfl (And.intro (fun h => ?_) (fun h => ?_))|((conv => whnf); first|refine anF ?_|refine anT ?_|refine anK ?_|refine And.intro (fun h => ?_) (fun h => ?_)|refine Or.inl ?_)
   exact il.mk (Or.inr rfl) (Or.inl (congrArg (Prod.mk false) (by rw [he])))
end Go.Proofs
namespace Go.Proofs
open Go Go.Shelf
def sc : Go.Shelf.Ren:=⟨fun | 6 => 168 | 15 => 190 | 14 => 230 | 28 => 250 | 29 => 251 | 20 => 272 | 21 => 273 | 22 => 274 | 23 => 275 | 24 => 276 | 25 => 277 | 26 => 278 | 27 => 279 | 46 => 306 | 47 => 292 | 48 => 293 | 49 => 307 | 50 => 308 | 57 => 322 | n => n,fun | 22 => 57 | 24 => 74 | 25 => 155 | 3 => 3 | 39 => 254 | 0 => 0 | 53 => 299 | 55 => 301 | 4 => 4 | 46 => 293 | 45 => 292 | 50 => 118 | 5 => 5 | 9 => 9 | 66 => 325 | 70 => 329 | 76 => 346 | 77 => 347 | n => n,fun | n => n⟩
theorem sd : Go.Proofs.SlLaysF0.n6 Tryz.prog sc where
 mixed:=by kernel_rfl
 f6:=⟨Tryz.f168.name,by kernel_rfl,Tryz.func168.trans (congrArg some (by kernel_rfl))⟩
 f14:=⟨Tryz.f230.name,by kernel_rfl,Tryz.func230.trans (congrArg some (by kernel_rfl))⟩
 f15:=Tryz.func190.trans (congrArg some (by kernel_rfl))
 f20:=⟨Tryz.f272.name,by kernel_rfl,Tryz.func272.trans (congrArg some (by kernel_rfl))⟩
 f21:=⟨Tryz.f273.name,by kernel_rfl,Tryz.func273.trans (congrArg some (by kernel_rfl))⟩
 f22:=⟨Tryz.f274.name,by kernel_rfl,Tryz.func274.trans (congrArg some (by kernel_rfl))⟩
 f23:=⟨Tryz.f275.name,by kernel_rfl,Tryz.func275.trans (congrArg some (by kernel_rfl))⟩
 f24:=⟨Tryz.f276.name,by kernel_rfl,Tryz.func276.trans (congrArg some (by kernel_rfl))⟩
 f25:=⟨Tryz.f277.name,by kernel_rfl,Tryz.func277.trans (congrArg some (by kernel_rfl))⟩
 f26:=⟨Tryz.f278.name,by kernel_rfl,Tryz.func278.trans (congrArg some (by kernel_rfl))⟩
 f27:=⟨Tryz.f279.name,by kernel_rfl,Tryz.func279.trans (congrArg some (by kernel_rfl))⟩
 f28:=Tryz.func250.trans (congrArg some (by kernel_rfl))
 f29:=Tryz.func251.trans (congrArg some (by kernel_rfl))
 f46:=⟨Tryz.f306.name,by kernel_rfl,Tryz.func306.trans (congrArg some (by kernel_rfl))⟩
 f47:=Tryz.func292.trans (congrArg some (by kernel_rfl))
 f48:=Tryz.func293.trans (congrArg some (by kernel_rfl))
 f49:=⟨Tryz.f307.name,by kernel_rfl,Tryz.func307.trans (congrArg some (by kernel_rfl))⟩
 f50:=⟨Tryz.f308.name,by kernel_rfl,Tryz.func308.trans (congrArg some (by kernel_rfl))⟩
 f57:=⟨Tryz.f322.name,by kernel_rfl,Tryz.func322.trans (congrArg some (by kernel_rfl))⟩
 t0:=Tryz.underlying0
 a0:=Tryz.isAgg0
 z0:=Tryz.sizeOf0
 v0:=Tryz.zeroValue0
 t3:=Tryz.underlying3
 a3:=Tryz.isAgg3
 z3:=Tryz.sizeOf3
 v3:=Tryz.zeroValue3
 t4:=Tryz.underlying4
 a4:=Tryz.isAgg4
 z4:=Tryz.sizeOf4
 v4:=Tryz.zeroValue4
 t5:=Tryz.underlying5
 a5:=Tryz.isAgg5
 z5:=Tryz.sizeOf5
 v5:=Tryz.zeroValue5
 t9:=Tryz.underlying9
 a9:=Tryz.isAgg9
 z9:=Tryz.sizeOf9
 v9:=Tryz.zeroValue9
 t22:=Tryz.underlying57
 a22:=Tryz.isAgg57
 z22:=Tryz.sizeOf57
 v22:=Tryz.zeroValue57
 t25:=Tryz.underlying155
 a25:=Tryz.isAgg155
 z25:=Tryz.sizeOf155
 v25:=Tryz.zeroValue155
 t39:=Tryz.underlying254
 a39:=Tryz.isAgg254
 z39:=Tryz.sizeOf254
 v39:=Tryz.zeroValue254
 t45:=Tryz.underlying292
 a45:=Tryz.isAgg292
 z45:=Tryz.sizeOf292
 v45:=Tryz.zeroValue292
 t46:=Tryz.underlying293
 a46:=Tryz.isAgg293
 z46:=Tryz.sizeOf293
 v46:=Tryz.zeroValue293
 t50:=Tryz.underlying118
 a50:=Tryz.isAgg118
 z50:=Tryz.sizeOf118
 v50:=Tryz.zeroValue118
 t53:=Tryz.underlying299
 a53:=Tryz.isAgg299
 z53:=Tryz.sizeOf299
 v53:=Tryz.zeroValue299
 t55:=Tryz.underlying301
 a55:=Tryz.isAgg301
 z55:=Tryz.sizeOf301
 v55:=Tryz.zeroValue301
 t66:=Tryz.underlying325
 a66:=Tryz.isAgg325
 z66:=Tryz.sizeOf325
 v66:=Tryz.zeroValue325
 t70:=Tryz.underlying329
 a70:=Tryz.isAgg329
 z70:=Tryz.sizeOf329
 v70:=Tryz.zeroValue329
 t76:=Tryz.underlying346
 a76:=Tryz.isAgg346
 z76:=Tryz.sizeOf346
 v76:=Tryz.zeroValue346
 t77:=Tryz.underlying347
 a77:=Tryz.isAgg347
 z77:=Tryz.sizeOf347
 v77:=Tryz.zeroValue347
end Go.Proofs
namespace Go.Proofs
open Go Go.Shelf
def r7 : Go.Shelf.Ren:=⟨fun | 6 => 172 | 15 => 190 | 14 => 235 | 28 => 250 | 29 => 251 | 20 => 280 | 21 => 281 | 22 => 282 | 23 => 283 | 24 => 284 | 25 => 285 | 26 => 286 | 27 => 287 | 46 => 309 | 47 => 292 | 48 => 293 | 49 => 310 | 50 => 311 | 57 => 323 | n => n,fun | 22 => 239 | 24 => 241 | 25 => 243 | 3 => 3 | 39 => 254 | 0 => 0 | 53 => 299 | 55 => 301 | 4 => 4 | 46 => 293 | 45 => 292 | 50 => 118 | 5 => 5 | 9 => 9 | 66 => 325 | 70 => 329 | 76 => 346 | 77 => 347 | n => n,fun | n => n⟩
theorem r8 : Go.Proofs.SlLaysF0.n6 Tryz.prog r7 where
 mixed:=by kernel_rfl
 f6:=⟨Tryz.f172.name,by kernel_rfl,Tryz.func172.trans (congrArg some (by kernel_rfl))⟩
 f14:=⟨Tryz.f235.name,by kernel_rfl,Tryz.func235.trans (congrArg some (by kernel_rfl))⟩
 f15:=Tryz.func190.trans (congrArg some (by kernel_rfl))
 f20:=⟨Tryz.f280.name,by kernel_rfl,Tryz.func280.trans (congrArg some (by kernel_rfl))⟩
 f21:=⟨Tryz.f281.name,by kernel_rfl,Tryz.func281.trans (congrArg some (by kernel_rfl))⟩
 f22:=⟨Tryz.f282.name,by kernel_rfl,Tryz.func282.trans (congrArg some (by kernel_rfl))⟩
 f23:=⟨Tryz.f283.name,by kernel_rfl,Tryz.func283.trans (congrArg some (by kernel_rfl))⟩
 f24:=⟨Tryz.f284.name,by kernel_rfl,Tryz.func284.trans (congrArg some (by kernel_rfl))⟩
 f25:=⟨Tryz.f285.name,by kernel_rfl,Tryz.func285.trans (congrArg some (by kernel_rfl))⟩
 f26:=⟨Tryz.f286.name,by kernel_rfl,Tryz.func286.trans (congrArg some (by kernel_rfl))⟩
 f27:=⟨Tryz.f287.name,by kernel_rfl,Tryz.func287.trans (congrArg some (by kernel_rfl))⟩
 f28:=Tryz.func250.trans (congrArg some (by kernel_rfl))
 f29:=Tryz.func251.trans (congrArg some (by kernel_rfl))
 f46:=⟨Tryz.f309.name,by kernel_rfl,Tryz.func309.trans (congrArg some (by kernel_rfl))⟩
 f47:=Tryz.func292.trans (congrArg some (by kernel_rfl))
 f48:=Tryz.func293.trans (congrArg some (by kernel_rfl))
 f49:=⟨Tryz.f310.name,by kernel_rfl,Tryz.func310.trans (congrArg some (by kernel_rfl))⟩
 f50:=⟨Tryz.f311.name,by kernel_rfl,Tryz.func311.trans (congrArg some (by kernel_rfl))⟩
 f57:=⟨Tryz.f323.name,by kernel_rfl,Tryz.func323.trans (congrArg some (by kernel_rfl))⟩
 t0:=Tryz.underlying0
 a0:=Tryz.isAgg0
 z0:=Tryz.sizeOf0
 v0:=Tryz.zeroValue0
 t3:=Tryz.underlying3
 a3:=Tryz.isAgg3
 z3:=Tryz.sizeOf3
 v3:=Tryz.zeroValue3
 t4:=Tryz.underlying4
 a4:=Tryz.isAgg4
 z4:=Tryz.sizeOf4
 v4:=Tryz.zeroValue4
 t5:=Tryz.underlying5
 a5:=Tryz.isAgg5
 z5:=Tryz.sizeOf5
 v5:=Tryz.zeroValue5
 t9:=Tryz.underlying9
 a9:=Tryz.isAgg9
 z9:=Tryz.sizeOf9
 v9:=Tryz.zeroValue9
 t22:=Tryz.underlying239
 a22:=Tryz.isAgg239
 z22:=Tryz.sizeOf239
 v22:=Tryz.zeroValue239
 t25:=Tryz.underlying243
 a25:=Tryz.isAgg243
 z25:=Tryz.sizeOf243
 v25:=Tryz.zeroValue243
 t39:=Tryz.underlying254
 a39:=Tryz.isAgg254
 z39:=Tryz.sizeOf254
 v39:=Tryz.zeroValue254
 t45:=Tryz.underlying292
 a45:=Tryz.isAgg292
 z45:=Tryz.sizeOf292
 v45:=Tryz.zeroValue292
 t46:=Tryz.underlying293
 a46:=Tryz.isAgg293
 z46:=Tryz.sizeOf293
 v46:=Tryz.zeroValue293
 t50:=Tryz.underlying118
 a50:=Tryz.isAgg118
 z50:=Tryz.sizeOf118
 v50:=Tryz.zeroValue118
 t53:=Tryz.underlying299
 a53:=Tryz.isAgg299
 z53:=Tryz.sizeOf299
 v53:=Tryz.zeroValue299
 t55:=Tryz.underlying301
 a55:=Tryz.isAgg301
 z55:=Tryz.sizeOf301
 v55:=Tryz.zeroValue301
 t66:=Tryz.underlying325
 a66:=Tryz.isAgg325
 z66:=Tryz.sizeOf325
 v66:=Tryz.zeroValue325
 t70:=Tryz.underlying329
 a70:=Tryz.isAgg329
 z70:=Tryz.sizeOf329
 v70:=Tryz.zeroValue329
 t76:=Tryz.underlying346
 a76:=Tryz.isAgg346
 z76:=Tryz.sizeOf346
 v76:=Tryz.zeroValue346
 t77:=Tryz.underlying347
 a77:=Tryz.isAgg347
 z77:=Tryz.sizeOf347
 v77:=Tryz.zeroValue347
end Go.Proofs
namespace Go.Proofs
open Go Go.AI
set_option maxRecDepth 10000
def l3 (x : ax) : List Int:=[x.k,x.a,x.b]
instance : Inhabited ax:=⟨⟨0,0,0⟩⟩
def wr (x y : ax) : Int:=orS [eP x.k y.k,eP x.a y.a]
theorem pJ (x y : ax) : ae Tryz.prog 93 [.agg (aD x),.agg (aD y)] (.int .i64 (wr x y)):=by
 refine ag aa Tryz.func93 rfl (by kernel_rfl) af (Nat.le_of_ble_eq_true rfl) ?_
 intro F n' w0 m0 hG hro h1
 repeat' first|refine Q1 ?_|refine Q2 ?_|refine Q3 hG aa pO ?_|refine Q4 hG aa pO ?_|refine Q5 hG aa ?_|refine Q6 hG aa ?_|refine Q7 hG aa ?_|refine Q8 hG aa ?_|refine Q9 rfl ?_|refine QF rfl ?_|refine QC rfl ⟨fun h => ?_,fun h => ?_⟩|((conv => whnf); first|refine anF ?_|refine anT ?_|refine anK ?_|refine Exists.intro _ (And.intro (kp _ _) ?_)|refine Exists.intro _ (And.intro (sx [eP x.k y.k,eP x.a y.a] (Nat.le_of_ble_eq_true rfl)) ?_)|refine And.intro (fun h => ?_) (fun h => ?_)|refine Or.inl ?_)
 all_goals exact Ends.mk (Or.inl rfl) (ac rfl)
def ln (x y : ax) : Bool:=(x.k == y.k) && decide (y.a ≤ x.b)
theorem yl (x y : ax) : ae Tryz.prog 97 [.agg (aD x),.agg (aD y)] (.tup [.agg (aD ⟨x.k,x.a,max x.b y.b⟩),.bool (ln x y)]):=by
 refine ag aa Tryz.func97 rfl (by kernel_rfl) af (Nat.le_of_ble_eq_true rfl) ?_
 intro F n' w0 m0 hG hro h1
 repeat' first|refine Q1 ?_|refine Q2 ?_|refine Q3 hG aa pM ?_|refine Q4 hG aa pM ?_|refine Q5 hG aa ?_|refine Q6 hG aa ?_|refine Q7 hG aa ?_|refine Q8 hG aa ?_|refine Q9 rfl ?_|refine QF rfl ?_|refine QC rfl ⟨fun h => ?_,fun h => ?_⟩|((conv => whnf); first|refine anF ?_|refine anT ?_|refine anK ?_|refine And.intro (fun h => ?_) (fun h => ?_)|refine Or.inl ?_)
 all_goals refine Ends.mk (Or.inl rfl) (ac (congrArg (fun z => AV.tup [.agg (aD ⟨x.k,x.a,max x.b y.b⟩),.bool z]) ?_))
 all_goals simp only [ln, *,Bool.true_and,Bool.and_true,Bool.false_and,Bool.and_false,Bool.true_or,Bool.or_true,Bool.false_or,Bool.or_false,Bool.not_true,Bool.not_false]
theorem zj (x y : ax) : ltOf wr x y = true ↔ x.k < y.k ∨ (x.k = y.k ∧ x.a < y.a):=by
 unfold ltOf wr
 simp only [orS,eP,decide_eq_true_eq]
 by_cases h1 : x.k < y.k <;> by_cases h2 : y.k < x.k <;> by_cases h3 : x.a < y.a <;> by_cases h4 : y.a < x.a <;> simp [h1,h2,h3,h4] <;> omega
theorem uv (x y : ax) : ltOf wr x y = false ↔ leL y x:=by
 have h:=zj x y
 unfold leL
 cases hb : ltOf wr x y with
 | true => have:=h.1 hb; simp; omega
 | false =>
  have : ¬ (x.k < y.k ∨ (x.k = y.k ∧ x.a < y.a)):=fun g => by rw [h.2 g] at hb; cases hb
  simp; omega
theorem Cs : Sort.SWO (ltOf wr) where
 irrefl x:=by rw [uv]; unfold leL; omega
 trans x y z h1 h2:=by rw [zj] at *; omega
 ntrans x y z h1 h2:=by rw [uv] at *; unfold leL at *; omega
theorem r9 (l : List ax) (hl : l.length ≤ 1000000) : dP Tryz.prog 168 3 (l.map l3) [.fn 93] (fun r rows => r = .tup [] ∧ ∃ l' : List ax,l'.Perm l ∧ l'.Pairwise (fun x y => ltOf wr y x = false) ∧ rows = l'.map l3):=
 dP.sort l3 3 wr sd (fun _ => rfl) Tryz.isAgg74 Tryz.sizeOf74 Cs (fun x y => pJ x y) (pJ ⟨0,0,0⟩ ⟨0,0,0⟩).enters (enters_of Tryz.func168 (by kernel_rfl) rfl) l (by omega)
theorem y7 (l : List ax) : bA (l.map l3) = l.map aD:=by simp [bA,l3,aD]
def yL : List ax → List (Nat × AV)
 | [] => [(7,.sl .full 0 [])]
 | x :: r => [(7,.me .sl 46 (x :: r).length []),(xk 46,.me .arr 46 3 ((x :: r).map aD))]
theorem jq (o : List ax) (z : ax) : yL (o ++ [z]) = [(7,.me .sl 46 (o.length + 1) []),(xk 46,.me .arr 46 3 ((o ++ [z]).map aD))]:=by
 cases o with
 | nil => rfl
 | cons x r => simp [yL]
theorem vn (o : List ax) (z x : ax) : yL (o ++ [z] ++ [x]) = [(7,.me .sl 46 (o.length + 1 + 1) []),(xk 46,.me .arr 46 3 ((o ++ [z]).map aD ++ [aD x]))]:=by
 rw [jq,List.map_append,List.length_append]; rfl
theorem qR {α : Type} (a b : α) : ∀ l : List α,bN (l ++ [a]) l.length b = l ++ [b]
 | [] => rfl
 | x :: l => by simp only [List.cons_append,List.length_cons,bN,qR a b l]
theorem zT {l : List ax} (h : l ≠ []) : ∃ o z,dW l = o ++ [z]:=by
 rcases ck l with rfl | ⟨m,x,rfl⟩
 ·exact absurd rfl h
 ·rw [dW,List.foldl_append]
  show ∃ o z,fg (dW m) x = o ++ [z]
  rcases ck (dW m) with e | ⟨o,y,e⟩
  ·rw [e]; exact ⟨[],x,rfl⟩
  ·rw [e,jy]
   split
   ·exact ⟨o,_,rfl⟩
   ·exact ⟨o ++ [y],x,rfl⟩
set_option maxHeartbeats 8000000 in
theorem yh (l : List ax) (hl : l.length ≤ 1000000) (hne : l ≠ []) : dP Tryz.prog 96 3 (l.map l3) [.fn 93,.fn 97] (fun r _ => ∃ l' : List ax,l'.Perm l ∧ l'.Pairwise leL ∧ r = br (dW l')):=by
 refine dP.ofRebase aa Tryz.func96 rfl (by kernel_rfl) af (Nat.le_of_ble_eq_true rfl) (by kernel_rfl) (by kernel_rfl) (by kernel_rfl) 2 (by kernel_rfl) ?_
 intro F n' b cap hro h1 w0 m0 hG
 refine SPB.out ?_
 refine Q4 hG aa bi ?_
 conv => whnf
 refine And.intro rfl ?_
 conv => whnf
 refine And.intro rfl (And.intro rfl (And.intro rfl (Exists.intro _ (And.intro (r9 l hl) ?_))))
 rintro r rows ⟨rfl,l',hp,hs,rfl⟩ _ _
 conv => whnf
 intro _ _ w2 m2 hG2
 rw [y7 l']
 have hle : l'.Pairwise leL:=hs.imp fun h => (uv _ _).1 h
 have hn' : l'.length = l.length:=hp.length_eq
 have hpos : 0 < l'.length:=by rw [hn']; exact List.length_pos_iff.2 hne
 clear hG
 have hG:=hG2
 refine SPB.out ?_
 refine Q1 ?_
 refine SPB.regN hG aa bi [7] (by kernel_rfl) ?_
 conv => whnf
 repeat' first|refine Q1 ?_|refine Q2 ?_|refine Q3 hG aa bi ?_|refine Q4 hG aa bi ?_|refine Q5 hG aa ?_|refine Q6 hG aa ?_|refine Q7 hG aa ?_|refine Q8 hG aa ?_|refine Q9 rfl ?_|refine QF rfl ?_|refine QC rfl ⟨fun h => ?_,fun h => ?_⟩|((conv => whnf); first|refine anF ?_|refine anT ?_|refine anK ?_|refine And.intro (fun h => ?_) (fun h => ?_)|refine Or.inl ?_)
 refine ar (X:=Nat) (fun i => ⟨(18,.int .i64 i) :: (17,.int .i64 (l'.map aD).length) :: (16,br l') :: (2,.fn 97) :: yL (dW (l'.take i)),[]⟩) (fun i => i ≤ l'.length) (fun i => l'.length - i) 0 (Nat.zero_le _) (ah ?_ ?_) (fun i hi => ?_)
 ·repeat' (first | exact trivial | refine And.intro rfl ?_)
 ·repeat' (first | exact trivial | refine And.intro rfl ?_)
 ·by_cases hlt : i < l'.length
  ·have bbk : decide ((i : Int) < ((l'.map aD).length : Int)) = false → False:=fun h => by have:=of_decide_eq_false h; simp at this; omega
   have hx : (l'.map aD)[(i : Int).toNat]? = some (aD l'[i]):=by simp [List.getElem?_eq_getElem hlt]
   have hsn : dW (l'.take (i + 1)) = fg (dW (l'.take i)) l'[i]:=by
    rw [dW,List.take_add_one,List.getElem?_eq_getElem hlt,List.foldl_append]; rfl
   have hbd : (dW (l'.take i)).length ≤ i:=by
    have:=lH (l'.take i) []
    simp only [List.length_nil,Nat.zero_add,List.length_take] at this
    unfold dW; omega
   generalize l'[i] = x at hx hsn
   generalize dW (l'.take i) = out at hsn hbd
   rcases ck out with rfl | ⟨o,z,rfl⟩
   ·have bb0 : decide ((([] : List (List AV)).length : Int) > 0) = true → False:=fun h => by simp at h
    have bb1 : decide ((0 : Int) > 0) = true → False:=fun h => by simp at h
    repeat' first|exact (bbk (by assumption)).elim|exact (bb0 (by assumption)).elim|exact (bb1 (by assumption)).elim|refine Q1 ?_|refine Q2 ?_|refine Q3 hG aa bi ?_|refine Q4 hG aa bi ?_|refine Q5 hG aa ?_|refine Q6 hG aa ?_|refine Q7 hG aa ?_|refine Q8 hG aa ?_|refine Q9 rfl ?_|refine QF rfl ?_|refine QC rfl ⟨fun h => ?_,fun h => ?_⟩|((conv => whnf); first|refine anF ?_|refine anT ?_|refine anK ?_|refine And.intro (Int.natCast_nonneg i) (Exists.intro _ (And.intro hx ?_))|refine Or.inr (And.intro rfl (And.intro (Nat.le_of_ble_eq_true rfl) (And.intro (Nat.le_of_ble_eq_true rfl) (And.intro (Nat.le_of_ble_eq_true rfl) ?_))))|refine And.intro (fun h => ?_) (fun h => ?_)|refine Or.inl ?_)
    refine Exists.intro (i + 1) (And.intro hlt (And.intro (by omega) ?_))
    dsimp only
    rw [hsn,show fg [] x = [x] from rfl]
    refine ah (And.intro (congrArg some (ap (by omega))) ?_) ?_
    ·repeat' (first | exact trivial | refine And.intro rfl ?_)
    ·repeat' (first | exact trivial | refine And.intro rfl ?_)
   ·rw [jq]
    have hgt : decide (((o.length + 1 : Nat) : Int) > 0) = false → False:=fun h => by have:=of_decide_eq_false h; omega
    have hbo : o.length + 1 ≤ i:=by simpa using hbd
    have hln : ((o ++ [z]).map aD).length = o.length + 1:=by simp
    have hw : IntKind.i64.wrap (((o.length + 1 : Nat) : Int) - 1) = (o.length : Int):=(aq (by omega) (by omega)).trans (by omega)
    have h0 : 0 ≤ IntKind.i64.wrap (((o.length + 1 : Nat) : Int) - 1):=by rw [hw]; exact Int.natCast_nonneg _
    have hl1 : IntKind.i64.wrap (((o.length + 1 : Nat) : Int) - 1) < ((o.length + 1 : Nat) : Int):=by rw [hw]; omega
    have hz : ((o ++ [z]).map aD)[(IntKind.i64.wrap (((o.length + 1 : Nat) : Int) - 1)).toNat]? = some (aD z):=by rw [hw]; simp
    rw [jy] at hsn
    repeat' first|exact (bbk (by assumption)).elim|exact (hgt (by assumption)).elim|refine Q1 ?_|refine Q2 ?_|refine Q3 hG aa bi ?_|refine Q4 hG aa bi ?_|refine Q5 hG aa ?_|refine Q6 hG aa ?_|refine Q7 hG aa ?_|refine Q8 hG aa ?_|refine Q9 rfl ?_|refine QF rfl ?_|refine QC rfl ⟨fun h => ?_,fun h => ?_⟩|((conv => whnf); first|refine anF ?_|refine anT ?_|refine anK ?_|refine And.intro (Int.natCast_nonneg i) (Exists.intro _ (And.intro hx ?_))|refine And.intro h0 (And.intro hl1 ?_)|refine Exists.intro _ (And.intro hz ?_)|refine Exists.intro _ (And.intro (yl _ _) ?_)|refine And.intro (Nat.le_of_ble_eq_true rfl) (And.intro (show (((o ++ [z]).map aD).length + 1) * 24 ≤ 70368744177664 by rw [hln]; omega) (And.intro (show ((o ++ [z]).map aD).length + 1 ≤ 4611686018427387904 by rw [hln]; omega) ?_))|refine And.intro (fun h => ?_) (fun h => ?_)|refine Or.inl ?_)
    ·have ht:=(by assumption : ln z x = true)
     simp only [ln,Bool.and_eq_true,beq_iff_eq,decide_eq_true_eq] at ht
     rw [if_pos ht] at hsn
     refine Exists.intro (i + 1) (And.intro hlt (And.intro (by omega) ?_))
     dsimp only
     rw [hsn,jq]
     refine ah (And.intro (congrArg some (ap (by omega))) (And.intro rfl (And.intro rfl (And.intro rfl (And.intro rfl (And.intro (congrArg (fun q => some (AV.me .arr 46 3 q)) ?_) trivial)))))) ?_
     ·rw [hw,Int.toNat_natCast]
      have e:=qR (aD z) (aD ⟨z.k,z.a,max z.b x.b⟩) (o.map aD)
      rw [List.length_map] at e
      rw [List.map_append,List.map_append]
      exact e
     ·repeat' (first | exact trivial | refine And.intro rfl ?_)
    ·have ht:=(by assumption : ln z x = false)
     have ht : ¬ (z.k = x.k ∧ x.a ≤ z.b):=fun h => by
      have : ln z x = true:=by simp only [ln,Bool.and_eq_true,beq_iff_eq,decide_eq_true_eq]; exact h
      rw [this] at ht; cases ht
     rw [if_neg ht] at hsn
     refine Exists.intro (i + 1) (And.intro hlt (And.intro (by omega) ?_))
     dsimp only
     rw [hsn,vn]
     refine ah (And.intro (congrArg some (ap (by omega))) ?_) ?_
     ·repeat' (first | exact trivial | refine And.intro rfl ?_)
     ·repeat' (first | exact trivial | refine And.intro rfl ?_)
  ·have he : l'.take i = l':=List.take_of_length_le (by omega)
   have bbk : decide ((i : Int) < ((l'.map aD).length : Int)) = true → False:=fun h => by have:=of_decide_eq_true h; simp at this; omega
   rw [he]
   obtain ⟨o,z,hoz⟩:=zT (l:=l') (by intro h; rw [h] at hpos; simp at hpos)
   rw [hoz,jq]
   refine SPB.frz [.tmp 7] ?_
   conv => whnf
   repeat' first|exact (bbk (by assumption)).elim|refine Q1 ?_|refine Q2 ?_|refine Q3 hG aa bi ?_|refine Q4 hG aa bi ?_|refine Q5 hG aa ?_|refine Q6 hG aa ?_|refine Q7 hG aa ?_|refine Q8 hG aa ?_|refine Q9 rfl ?_|refine QF rfl ?_|refine QC rfl ⟨fun h => ?_,fun h => ?_⟩|((conv => whnf); first|refine anF ?_|refine anT ?_|refine anK ?_|refine And.intro (fun h => ?_) (fun h => ?_)|refine Or.inl ?_)
   refine Exists.intro (br (dW l')) (And.intro ⟨l',hp,hle,rfl⟩ (Ends.mk (Or.inl rfl) (ac ?_)))
   rw [hoz]; rfl
end Go.Proofs
namespace Go.Proofs
open Go Go.AI
set_option maxRecDepth 10000
theorem sL : ae Tryz.prog 96 [.sl .no 3 [],.fn 93,.fn 97] (br []):=by
 have ks:=ae.sortNil sd (enters_of Tryz.func168 (by kernel_rfl) rfl) 3 93 (o:=.no)
 refine ag aa Tryz.func96 rfl (by kernel_rfl) af (Nat.le_of_ble_eq_true rfl) ?_
 intro F n' w0 m0 hG hro h1
 repeat' first|refine Q1 ?_|refine Q2 ?_|refine Q3 hG aa bi ?_|refine Q4 hG aa bi ?_|refine Q5 hG aa ?_|refine Q6 hG aa ?_|refine Q7 hG aa ?_|refine Q8 hG aa ?_|refine Q9 rfl ?_|refine QF rfl ?_|refine QC rfl ⟨fun h => ?_,fun h => ?_⟩|((conv => whnf); first|refine anF ?_|refine anT ?_|refine anK ?_|refine Exists.intro _ (And.intro (ks) ?_)|refine And.intro (fun h => ?_) (fun h => ?_)|refine Or.inl ?_)
 refine ar (X:=Unit) (fun _ => ⟨[(18,.int .i64 0),(17,.int .i64 0),(7,.sl (.id 7) 3 [])],[]⟩) (fun _ => True) (fun _ => 0) () trivial (ah ?_ ?_) (fun i hi => ?_)
 ·repeat' (first | exact trivial | refine And.intro rfl ?_)
 ·repeat' (first | exact trivial | refine And.intro rfl ?_)
 ·have bb : decide ((0 : Int) < 0) = true → False:=fun h => by simp at h
  repeat' first|exact (bb (by assumption)).elim|refine Q1 ?_|refine Q2 ?_|refine Q3 hG aa bi ?_|refine Q4 hG aa bi ?_|refine Q5 hG aa ?_|refine Q6 hG aa ?_|refine Q7 hG aa ?_|refine Q8 hG aa ?_|refine Q9 rfl ?_|refine QF rfl ?_|refine QC rfl ⟨fun h => ?_,fun h => ?_⟩|((conv => whnf); first|refine anF ?_|refine anT ?_|refine anK ?_|refine And.intro (fun h => ?_) (fun h => ?_)|refine Or.inl ?_)
  exact Ends.mk (Or.inl rfl) (ac rfl)
def vB (l : List Opt) : Bool:=decide (8 < l.length)
theorem Av (l : List Opt) : CA l = (bu l).any fun x => !bE x.1 x.2:=by
 unfold CA bu
 rw [List.any_flatMap]
 congr 1
 funext o
 rw [List.any_map]; rfl
theorem rV (l : List Opt) : uD l = (vB l || m5 l || (bu l).any fun x => !bE x.1 x.2):=by
 unfold uD; rw [Av]; rfl
theorem xU : kh [] = []:=by simp [kh,dW]
theorem vp (l : List Opt) : (kQ l).length = l.length + (bu l).length:=by rw [kQ,qv]; simp [ip]
set_option maxHeartbeats 16000000 in
theorem yj (l : List Opt) (hl : l.length ≤ 1000000) (hs : fc l) (hsp : (bu l).length ≤ 900000) : ae Tryz.prog 27 [aM l] (br (aL l)):=by
 refine ae.ofBm aa Tryz.func27 rfl (by kernel_rfl) af (Nat.le_of_ble_eq_true rfl) ?_
 intro F n' w0 m0 hG hro h9 hm0
 repeat' first|refine Q1 ?_|refine Q2 ?_|refine Q3 hG aa aZ ?_|refine Q4 hG aa aZ ?_|refine Q5 hG aa ?_|refine Q6 hG aa ?_|refine Q7 hG aa ?_|refine Q8 hG aa ?_|refine Q9 rfl ?_|refine QF rfl ?_|refine QC rfl ⟨fun h => ?_,fun h => ?_⟩|((conv => whnf); first|refine anF ?_|refine anT ?_|refine anK ?_|refine And.intro (fun h => ?_) (fun h => ?_)|refine Or.inl ?_)
 have hn8 : decide (((l.map aH).length : Int) > 8) = vB l:=by rw [List.length_map]; exact decide_eq_decide.2 (by omega)
 rw [hn8]
 refine SPB.resize 3 0 1003000 3 rfl rfl ?_
 refine ar (X:=Nat) (fun i => ⟨[(14,.int .i64 i),(13,.int .i64 (l.map aH).length),(12,aM l),(4,.loc 4 0),(3,.loc 3 0),(0,aM l)],[(4,[.bool (vB l || m5 (l.take i))]),(3,[.sl (.id 1003000) 3 ((ip (l.take i)).map aD)])]⟩) (fun i => i ≤ l.length) (fun i => l.length - i) 0 (Nat.zero_le _) (ah ?_ ?_) (fun i hi => ?_)
 ·repeat' (first | exact trivial | refine And.intro rfl ?_)
 ·refine And.intro (congrArg (fun z => some [AV.bool z]) (by simp [m5])) ?_
  repeat' (first | exact trivial | refine And.intro rfl ?_)
 ·by_cases hlt : i < l.length
  ·have bbk : decide ((i : Int) < ((l.map aH).length : Int)) = false → False:=fun h => by have:=of_decide_eq_false h; simp at this; omega
   have hx:=gh hlt
   have hsA : ip (l.take (i + 1)) = ip (l.take i) ++ [⟨1,(aF l i).a,(aF l i).b⟩]:=by
    rw [List.take_add_one,List.getElem?_eq_getElem hlt,cp hlt]; exact List.map_append
   have hbA : m5 (l.take (i + 1)) = (m5 (l.take i) || (!bE (aF l i).a (aF l i).b || decide (6 < (aF l i).sl.length))):=by
    rw [List.take_add_one,List.getElem?_eq_getElem hlt,cp hlt]
    unfold m5
    rw [List.any_append]; simp
   have hln : ((ip (l.take i)).map aD).length = i:=by simp [ip]; omega
   generalize aF l i = x at hx hsA hbA
   have h6 : decide (((x.sl.map aw).length : Int) > 6) = decide (6 < x.sl.length):=by rw [List.length_map]; exact decide_eq_decide.2 (by omega)
   have hrow : (ip (l.take (i + 1))).map aD = (ip (l.take i)).map aD ++ [[.int .i64 1,.int .i64 x.a,.int .i64 x.b]]:=by rw [hsA,List.map_append]; rfl
   generalize (ip (l.take i)).map aD = row at hln hrow
   obtain ⟨wb,hwb⟩ : ∃ wb,wb = (vB l || m5 (l.take i)):=⟨_,rfl⟩
   rw [← hwb]
   have hw2 : (vB l || m5 (l.take (i + 1))) = (wb || (!bE x.a x.b || decide (6 < x.sl.length))):=by rw [hbA,hwb,Bool.or_assoc]
   repeat' first|exact (bbk (by assumption)).elim|refine Q1 ?_|refine Q2 ?_|refine Q3 hG aa aZ ?_|refine Q4 hG aa aZ ?_|refine Q5 hG aa ?_|refine Q6 hG aa ?_|refine Q7 hG aa ?_|refine Q8 hG aa ?_|refine Q9 rfl ?_|refine QF rfl ?_|refine QC rfl ⟨fun h => ?_,fun h => ?_⟩|((conv => whnf); first|refine anF ?_|refine anT ?_|refine anK ?_|refine And.intro (Int.natCast_nonneg i) (Exists.intro _ (And.intro hx ?_))|refine Exists.intro _ (And.intro (rY _ _) ?_)|refine And.intro (show (row.length + 1) * 24 ≤ 70368744177664 by omega) (And.intro (show row.length + 1 ≤ 4611686018427387904 by omega) ?_)|refine And.intro (fun h => ?_) (fun h => ?_)|refine Or.inl ?_)
   all_goals refine Exists.intro (i + 1) (And.intro hlt (And.intro (by omega) ?_))
   all_goals dsimp only
   all_goals rw [hw2,hrow]
   all_goals refine ah (And.intro (congrArg some (ap (by omega))) ?_) (And.intro (congrArg (fun z => some [AV.bool z]) ?_) ?_)
   all_goals first
    |(clear hwb hw2; simp only [h6, *,Bool.true_and,Bool.and_true,Bool.false_and,Bool.and_false,Bool.true_or,Bool.or_true,Bool.false_or,Bool.or_false,Bool.not_true,Bool.not_false]; done)
    |(repeat' (first | exact trivial | refine And.intro rfl ?_))
  ·have bbk : decide ((i : Int) < ((l.map aH).length : Int)) = true → False:=fun h => by have:=of_decide_eq_true h; simp at this; omega
   have he : l.take i = l:=List.take_of_length_le (by omega)
   rw [he]
   repeat' first|exact (bbk (by assumption)).elim|refine Q1 ?_|refine Q2 ?_|refine Q3 hG aa aZ ?_|refine Q4 hG aa aZ ?_|refine Q5 hG aa ?_|refine Q6 hG aa ?_|refine Q7 hG aa ?_|refine Q8 hG aa ?_|refine Q9 rfl ?_|refine QF rfl ?_|refine QC rfl ⟨fun h => ?_,fun h => ?_⟩|((conv => whnf); first|refine anF ?_|refine anT ?_|refine anK ?_|refine Exists.intro _ (And.intro (AE l) ?_)|refine And.intro (fun h => ?_) (fun h => ?_)|refine Or.inl ?_)
   have hAB : kQ l = ip l ++ (bu l).map (mkK 2):=by rw [kQ,qv]
   refine ⟨SP.rangeM hG hro (Nat.le_trans (by decide) h9) (α:=Int × Int) spA (f:=166) (cap:=[.ref [aM l]]) (items:=bu l) rfl (uH l hl hs) (fun _ => rfl) (fun _ => [(4,.loc 4 0),(3,.loc 3 0)]) [4,3] (fun _ => rfl)
    (fun pre => [(4,[.bool (vB l || m5 l || pre.any fun x => !bE x.1 x.2)]),(3,[.sl (.id 1003000) 3 ((ip l ++ pre.map (mkK 2)).map aD)])]) (ah ?_ ?_) (by kernel_rfl) (by decide) ?_ ?_⟩
   ·repeat' (first | exact trivial | refine And.intro rfl ?_)
   ·refine And.intro (congrArg (fun z => some [AV.bool z]) (by simp)) (And.intro (congrArg (fun z => some [AV.sl (.id 1003000) 3 z]) (by simp)) trivial)
   ·intro F' n'' m' hG' pre x rest hx
    clear hG
    have hG:=hG'
    have hpl : pre.length < 1000000:=by
     have:=congrArg List.length hx
     simp at this; omega
    have hrl : (ip l).length ≤ 1000000:=by simp [ip]; omega
    have hrow : (ip l ++ (pre ++ [x]).map (mkK 2)).map aD = (ip l ++ pre.map (mkK 2)).map aD ++ [[.int .i64 2,.int .i64 x.1,.int .i64 x.2]]:=by simp [aD,mkK]
    have hln : ((ip l ++ pre.map (mkK 2)).map aD).length ≤ 3000000:=by simp; omega
    generalize (ip l ++ pre.map (mkK 2)).map aD = row at hln hrow
    obtain ⟨wb,hwb⟩ : ∃ wb,wb = (vB l || m5 l || pre.any fun x => !bE x.1 x.2):=⟨_,rfl⟩
    rw [← hwb]
    have hw2 : (vB l || m5 l || (pre ++ [x]).any fun x => !bE x.1 x.2) = (wb || !bE x.1 x.2):=by rw [List.any_append,hwb]; simp [Bool.or_assoc]
    refine SPB.out (Q4 hG aa aZ ?_)
    conv => whnf
    refine And.intro rfl (And.intro (ah ?_ ?_) ?_)
    ·repeat' (first | exact trivial | refine And.intro rfl ?_)
    ·repeat' (first | exact trivial | refine And.intro rfl ?_)
    refine SPB.out ?_
    repeat' first|refine Q1 ?_|refine Q2 ?_|refine Q3 hG aa aZ ?_|refine Q4 hG aa aZ ?_|refine Q5 hG aa ?_|refine Q6 hG aa ?_|refine Q7 hG aa ?_|refine Q8 hG aa ?_|refine Q9 rfl ?_|refine QF rfl ?_|refine QC rfl ⟨fun h => ?_,fun h => ?_⟩|((conv => whnf); first|refine anF ?_|refine anT ?_|refine anK ?_|refine Exists.intro _ (And.intro (rY _ _) ?_)|refine And.intro (show (row.length + 1) * 24 ≤ 70368744177664 by omega) (And.intro (show row.length + 1 ≤ 4611686018427387904 by omega) ?_)|refine And.intro (fun h => ?_) (fun h => ?_)|refine Or.inl ?_)
    all_goals (refine ah ?_ ?_)
    all_goals first
     |(dsimp only; rw [hw2,hrow]; clear hwb hw2; refine And.intro (congrArg (fun z => some [AV.bool z]) ?_) (And.intro rfl trivial); simp only [*,Bool.true_and,Bool.and_true,Bool.false_and,Bool.and_false,Bool.true_or,Bool.or_true,Bool.false_or,Bool.or_false,Bool.not_true,Bool.not_false]; done)
     |(repeat' (first | exact trivial | refine And.intro rfl ?_))
   ·conv => whnf
    by_cases hne : kQ l = []
    ·rw [← hAB,hne]
     repeat' first|refine Q1 ?_|refine Q2 ?_|refine Q3 hG aa aZ ?_|refine Q4 hG aa aZ ?_|refine Q5 hG aa ?_|refine Q6 hG aa ?_|refine Q7 hG aa ?_|refine Q8 hG aa ?_|refine Q9 rfl ?_|refine QF rfl ?_|refine QC rfl ⟨fun h => ?_,fun h => ?_⟩|((conv => whnf); first|refine anF ?_|refine anT ?_|refine anK ?_|refine Exists.intro _ (And.intro (sL) ?_)|refine And.intro (fun h => ?_) (fun h => ?_)|refine Or.inl ?_)
     ·refine Ends.mk (Or.inl rfl) (ac ?_)
      rw [aL,rV,if_pos ‹_›]; rfl
     ·refine Ends.mk (Or.inl rfl) (ac ?_)
      rw [aL,hne,xU]; split <;> rfl
    ·rw [← hAB]
     repeat' first|refine SPB.oreg (id:=16) hG aa hm0 aZ 2 (by kernel_rfl) ?_|refine Q1 ?_|refine Q2 ?_|refine Q3 hG aa aZ ?_|refine Q4 hG aa aZ ?_|refine Q5 hG aa ?_|refine Q6 hG aa ?_|refine Q7 hG aa ?_|refine Q8 hG aa ?_|refine Q9 rfl ?_|refine QF rfl ?_|refine QC rfl ⟨fun h => ?_,fun h => ?_⟩|((conv => whnf); first|refine anF ?_|refine anT ?_|refine anK ?_|refine And.intro (fun h => ?_) (fun h => ?_)|refine Or.inl ?_)
     ·refine Ends.mk (Or.inl rfl) (ac ?_)
      rw [aL,rV,if_pos ‹_›]; rfl
     ·have hb : uD l = false:=by rw [rV]; assumption
      have h8 : l.length ≤ 8:=by
       have:=hb; unfold uD at this; simp at this; omega
      conv => whnf
      refine Exists.intro ((kQ l).map l3) (Exists.intro _ (And.intro (yh (kQ l) ?_ hne) (And.intro (y7 _).symm (And.intro ?_ (And.intro (by decide) (And.intro ?_ (And.intro rfl ?_)))))))
      ·rw [vp]; omega
      ·simpa using hne
      ·intro x hx; obtain ⟨y,_,rfl⟩:=List.mem_map.1 hx; rfl
      ·rintro r rows ⟨l',hp,hle,rfl⟩ _ _
       repeat' first|refine Q1 ?_|refine Q2 ?_|refine Q3 hG aa aZ ?_|refine Q4 hG aa aZ ?_|refine Q5 hG aa ?_|refine Q6 hG aa ?_|refine Q7 hG aa ?_|refine Q8 hG aa ?_|refine Q9 rfl ?_|refine QF rfl ?_|refine QC rfl ⟨fun h => ?_,fun h => ?_⟩|((conv => whnf); first|refine anF ?_|refine anT ?_|refine anK ?_|refine And.intro (fun h => ?_) (fun h => ?_)|refine Or.inl ?_)
       have hg:=rE.1 hb
       refine Ends.mk (Or.inl rfl) (ac ?_)
       rw [vJ (fun x h => (hg.raw x h).2.2.1) hp hle,← hg.loads]; rfl
end Go.Proofs
namespace Go.Proofs
open Go Go.AI
set_option maxRecDepth 10000
def p2 (x : Int × Int) : List Int:=[x.1,x.2]
def pA (x : Int × Int) : List AV:=[.int .i64 x.1,.int .i64 x.2]
def wq (x y : Int × Int) : Int:=eP x.1 y.1
theorem qA (x y : Int × Int) : ltOf wq y x = false ↔ x.1 ≤ y.1:=by
 unfold ltOf wq
 simp only [eP]
 by_cases h1 : y.1 < x.1 <;> by_cases h2 : x.1 < y.1 <;> simp [h1,h2] <;> omega
theorem En (x y : Int × Int) : ltOf wq x y = true ↔ x.1 < y.1:=by
 have:=qA y x
 cases h : ltOf wq x y
 ·simp; exact this.1 h
 ·simp
  rw [h] at this
  simp at this; exact this
theorem Cr : Sort.SWO (ltOf wq) where
 irrefl x:=by rw [qA]; omega
 trans x y z h1 h2:=by rw [En] at *; omega
 ntrans x y z h1 h2:=by rw [qA] at *; omega
theorem oC (x y : Int × Int) : ae Tryz.prog 173 [.agg (pA x),.agg (pA y)] (.int .i64 (wq x y)):=by
 refine ag aa Tryz.func173 rfl (by kernel_rfl) af (Nat.le_of_ble_eq_true rfl) ?_
 intro F n' w0 m0 hG hro h1
 repeat' first|refine Q1 ?_|refine Q2 ?_|refine Q3 hG aa nT ?_|refine Q4 hG aa nT ?_|refine Q5 hG aa ?_|refine Q6 hG aa ?_|refine Q7 hG aa ?_|refine Q8 hG aa ?_|refine Q9 rfl ?_|refine QF rfl ?_|refine QC rfl ⟨fun h => ?_,fun h => ?_⟩|((conv => whnf); first|refine anF ?_|refine anT ?_|refine anK ?_|refine Exists.intro _ (And.intro (kp _ _) ?_)|refine And.intro (fun h => ?_) (fun h => ?_)|refine Or.inl ?_)
 all_goals exact Ends.mk (Or.inl rfl) (ac rfl)
theorem rZ (l : List (Int × Int)) (hl : l.length ≤ 4000000) : dP Tryz.prog 172 2 (l.map p2) [.fn 173] (fun r rows => r = .tup [] ∧ ∃ l' : List (Int × Int),l'.Perm l ∧ l'.Pairwise (fun x y => ltOf wq y x = false) ∧ rows = l'.map p2):=
 dP.sort p2 2 wq r8 (fun _ => rfl) Tryz.isAgg241 Tryz.sizeOf241 Cr (fun x y => oC x y) (oC (0,0) (0,0)).enters (enters_of Tryz.func172 (by kernel_rfl) rfl) l (by omega)
theorem y6 (l : List (Int × Int)) : bA (l.map p2) = l.map pA:=by simp [bA,p2,pA]
def BG : List (Int × Int) → List (Nat × AV)
 | [] => [(3,.sl .full 0 [])]
 | x :: r => [(3,.me .sl 30 (x :: r).length []),(xk 30,.me .arr 30 2 ((x :: r).map pA))]
theorem xx (z : Int × Int) (o : List (Int × Int)) (a b : Int × Int) : BG (z :: o ++ [a,b]) = [(3,.me .sl 30 ((z :: o).length + 2) []),(xk 30,.me .arr 30 2 ((z :: o).map pA ++ [pA a,pA b]))]:=by
 simp [BG]
def rD : Img:=⟨0,0,0,0⟩
theorem xp {l : List Img} {i : Nat} (h : i < l.length) : du (l.take (i + 1)) = du (l.take i) ++ [((l.getD i rD).a,(l.getD i rD).u),((l.getD i rD).b,0 - (l.getD i rD).u)]:=by
 induction l generalizing i with
 | nil => simp at h
 | cons x r ih =>
  cases i with
  | zero => rfl
  | succ i => 
   have:=ih (i:=i) (by simpa using h)
   simp only [List.take_succ_cons,du,this,List.getD_cons_succ,List.cons_append]
theorem Cd {l : List Img} {i : Nat} (h : i < l.length) : (l.map fE)[(i : Int).toNat]? = some (fE (l.getD i rD)):=by simp [List.getElem?_eq_getElem h]
theorem oI : ∀ l : List Img,(du l).length = 2 * l.length
 | [] => rfl
 | x :: r => by simp only [du,List.length_cons,oI r]; omega
theorem wd (f : Int) (x y : Int × Int) (r : List (Int × Int)) : bY f (x :: y :: r) = if y.1 = x.1 then bY (f + x.2) (y :: r) else (x.1,f + x.2) :: bY (f + x.2) (y :: r):=rfl
theorem u9 : ∀ (l : List Img),(∀ x ∈ l,0 ≤ x.u ∧ x.u ≤ 1000000) → ∀ p ∈ du l,-1000000 ≤ p.2 ∧ p.2 ≤ 1000000
 | [],_,p,hp => nomatch hp
 | x :: r,h,p,hp => by
  have h1:=h x (.head _)
  simp only [du,List.mem_cons] at hp
  rcases hp with rfl | rfl | hp
  ·dsimp only; omega
  ·dsimp only; omega
  ·exact u9 r (fun y hy => h y (.tail _ hy)) p hp
theorem wm {α : Type} {l : List α} {k : Nat} {a : α} {t : List α} (h : a :: t = l.drop k) : l[k]? = some a ∧ t = l.drop (k + 1) ∧ k < l.length:=by
 have h1 : (l.drop k)[0]? = some a:=by rw [← h]; rfl
 rw [List.getElem?_drop] at h1
 refine ⟨by simpa using h1,?_,(List.getElem?_eq_some_iff.1 (by simpa using h1)).1⟩
 have:=congrArg List.tail h
 rw [List.tail_drop] at this
 exact this
theorem yn (l : List Img) : ae Tryz.prog 106 [eR l] (.clo 171 [.ref [eR l]]):=by
 refine ag aa Tryz.func106 rfl (by kernel_rfl) af (Nat.le_of_ble_eq_true rfl) ?_
 intro F n' w0 m0 hG hro h1
 repeat' first|refine Q1 ?_|refine Q2 ?_|refine Q3 hG aa oy ?_|refine Q4 hG aa oy ?_|refine Q5 hG aa ?_|refine Q6 hG aa ?_|refine Q7 hG aa ?_|refine Q8 hG aa ?_|refine Q9 rfl ?_|refine QF rfl ?_|refine QC rfl ⟨fun h => ?_,fun h => ?_⟩|((conv => whnf); first|refine anF ?_|refine anT ?_|refine anK ?_|refine And.intro (fun h => ?_) (fun h => ?_)|refine Or.inl ?_)
 all_goals exact Ends.mk (Or.inl rfl) (ac rfl)
set_option maxHeartbeats 8000000 in
theorem sQ (l : List Img) (hl : l.length ≤ 1000000) (hu : ∀ x ∈ l,0 ≤ x.u ∧ x.u ≤ 1000000) : lm Tryz.prog pA 171 [.ref [eR l]] (fF l):=by
 refine lm.of Tryz.func171 rfl (by kernel_rfl) af (Nat.le_of_ble_eq_true rfl) rfl ?_
 intro F n m y J Jx hY
 have ks:=ae.sortNil r8 (enters_of Tryz.func172 (by kernel_rfl) rfl) 0 173 (o:=.full)
 have hbd:=u9 l hu
 refine MPB.seq ?_
 refine MPB.sp (by kernel_rfl) (fun W0 m0 hG hms => ?_) hY
 refine SPB.regN hG aa aI [3] (by kernel_rfl) ?_
 conv => whnf
 refine MPB.seq ?_
 refine MPB.sp (by kernel_rfl) (fun W0 m0 hG hms => ?_) hY
 repeat' first|refine Q1 ?_|refine Q2 ?_|refine Q3 hG aa aI ?_|refine Q4 hG aa aI ?_|refine Q5 hG aa ?_|refine Q6 hG aa ?_|refine Q7 hG aa ?_|refine Q8 hG aa ?_|refine Q9 rfl ?_|refine QF rfl ?_|refine QC rfl ⟨fun h => ?_,fun h => ?_⟩|((conv => whnf); first|refine anF ?_|refine anT ?_|refine anK ?_|refine And.intro (fun h => ?_) (fun h => ?_)|refine Or.inl ?_)
 refine ar (X:=Nat) (fun i => ⟨(11,.int .i64 i) :: (10,.int .i64 (l.map fE).length) :: (9,eR l) :: (0,.lit (.func (.yield y) #[] #[])) :: BG (du (l.take i)),[]⟩) (fun i => i ≤ l.length) (fun i => l.length - i) 0 (Nat.zero_le _) (ah ?_ ?_) (fun i hi => ?_)
 ·repeat' (first | exact trivial | refine And.intro rfl ?_)
 ·repeat' (first | exact trivial | refine And.intro rfl ?_)
 ·by_cases hlt : i < l.length
  ·have bbk : decide ((i : Int) < ((l.map fE).length : Int)) = false → False:=fun h => by have:=of_decide_eq_false h; simp at this; omega
   have hx:=Cd hlt
   have hux : 0 ≤ (l.getD i rD).u ∧ (l.getD i rD).u ≤ 1000000:=hu _ (by rw [List.getD_eq_getElem?_getD,List.getElem?_eq_getElem hlt]; exact List.getElem_mem hlt)
   have hst:=xp hlt
   have hln : (du (l.take i)).length = 2 * i:=by rw [oI,List.length_take]; omega
   generalize l.getD i rD = x at hx hux hst
   have hng : IntKind.i64.wrap (0 - x.u) = 0 - x.u:=(aq (by omega) (by omega)).trans (by omega)
   generalize du (l.take i) = st at hst hln
   rcases st with _ | ⟨z,o⟩
   ·skip
    repeat' first|exact (bbk (by assumption)).elim|refine Q1 ?_|refine Q2 ?_|refine Q3 hG aa aI ?_|refine Q4 hG aa aI ?_|refine Q5 hG aa ?_|refine Q6 hG aa ?_|refine Q7 hG aa ?_|refine Q8 hG aa ?_|refine Q9 rfl ?_|refine QF rfl ?_|refine QC rfl ⟨fun h => ?_,fun h => ?_⟩|((conv => whnf); first|refine anF ?_|refine anT ?_|refine anK ?_|refine And.intro (Int.natCast_nonneg i) (Exists.intro _ (And.intro hx ?_))|refine Or.inr (And.intro rfl (And.intro (Nat.le_of_ble_eq_true rfl) (And.intro (Nat.le_of_ble_eq_true rfl) (And.intro (Nat.le_of_ble_eq_true rfl) ?_))))|refine And.intro (fun h => ?_) (fun h => ?_)|refine Or.inl ?_)
    conv => whnf
    refine Exists.intro (i + 1) (And.intro hlt (And.intro (by omega) ?_))
    rw [hst,hng]
    refine ah (And.intro (congrArg some (ap (by omega))) ?_) ?_
    ·repeat' (first | exact trivial | refine And.intro rfl ?_)
    ·repeat' (first | exact trivial | refine And.intro rfl ?_)
   ·have hml : ((z :: o).map pA).length = 2 * i:=by rw [List.length_map]; exact hln
    repeat' first|exact (bbk (by assumption)).elim|refine Q1 ?_|refine Q2 ?_|refine Q3 hG aa aI ?_|refine Q4 hG aa aI ?_|refine Q5 hG aa ?_|refine Q6 hG aa ?_|refine Q7 hG aa ?_|refine Q8 hG aa ?_|refine Q9 rfl ?_|refine QF rfl ?_|refine QC rfl ⟨fun h => ?_,fun h => ?_⟩|((conv => whnf); first|refine anF ?_|refine anT ?_|refine anK ?_|refine And.intro (Int.natCast_nonneg i) (Exists.intro _ (And.intro hx ?_))|refine And.intro (Nat.le_of_ble_eq_true rfl) (And.intro (show (((z :: o).map pA).length + 2) * 16 ≤ 70368744177664 by rw [hml]; omega) (And.intro (show ((z :: o).map pA).length + 2 ≤ 4611686018427387904 by rw [hml]; omega) ?_))|refine And.intro (fun h => ?_) (fun h => ?_)|refine Or.inl ?_)
    conv => whnf
    refine Exists.intro (i + 1) (And.intro hlt (And.intro (by omega) ?_))
    rw [hst,xx,hng]
    refine ah (And.intro (congrArg some (ap (by omega))) ?_) ?_
    ·repeat' (first | exact trivial | refine And.intro rfl ?_)
    ·repeat' (first | exact trivial | refine And.intro rfl ?_)
  ·have he : l.take i = l:=List.take_of_length_le (by omega)
   have bbk : decide ((i : Int) < ((l.map fE).length : Int)) = true → False:=fun h => by have:=of_decide_eq_true h; simp at this; omega
   rw [he]
   have hln:=oI l
   have hbd:=hbd
   have hfl:=fun (s : List (Int × Int)) (hp : s.Perm (du l)) (hs : s.Pairwise fun x y => x.1 ≤ y.1) => rM hp hs
   generalize du l = st at hln hfl hbd
   rcases st with _ | ⟨z,o⟩
   ·have hf0:=hfl [] (.refl _) .nil
    repeat' first|exact (bbk (by assumption)).elim|refine Q1 ?_|refine Q2 ?_|refine Q3 hG aa aI ?_|refine Q4 hG aa aI ?_|refine Q5 hG aa ?_|refine Q6 hG aa ?_|refine Q7 hG aa ?_|refine Q8 hG aa ?_|refine Q9 rfl ?_|refine QF rfl ?_|refine QC rfl ⟨fun h => ?_,fun h => ?_⟩|((conv => whnf); first|refine anF ?_|refine anT ?_|refine anK ?_|refine And.intro (fun h => ?_) (fun h => ?_)|refine Or.inl ?_)
    refine MPB.seq ?_
    refine MPB.sp (by kernel_rfl) (fun W0 m0 hG hms => ?_) hY
    refine Q4 hG aa aI ?_
    repeat' first|refine MPB.sp (c:=.region _ _ true) (by kernel_rfl) (fun W0 m0 hG hms => ?_) hY|refine Q3 hG aa aI ?_|refine MPB.seq ?_|refine MPB.block ?_|refine MPB.reg hY aa aI (by kernel_rfl) ?_|refine MPB.skip ?_|refine MPB.label ?_|refine MPB.ret ?_|refine MPB.exit ?_|refine MPB.condT rfl ?_|refine MPB.condF rfl ?_|refine MPB.cond rfl (And.intro (fun h => ?_) (fun h => ?_))|((conv => whnf); first|refine anF ?_|refine anT ?_|refine anK ?_|refine Exists.intro _ (And.intro (ks) ?_)|refine And.intro (fun h => ?_) (fun h => ?_)|refine Or.inl ?_)
    refine MPB.loop (X:=Unit) (fun _ => ((false,0),⟨[(36,.int .i64 0),(35,.int .i64 0),(0,.lit (.func (.yield y) #[] #[]))],[]⟩)) (fun _ => True) (fun _ => 0) () trivial rfl (ah ?_ ?_) (fun _ _ => ?_)
    ·repeat' (first | exact trivial | refine And.intro rfl ?_)
    ·repeat' (first | exact trivial | refine And.intro rfl ?_)
    ·have bb0 : decide ((0 : Int) < 0) = true → False:=fun h => by simp at h
     repeat' first|exact (bb0 (by assumption)).elim|refine MPB.seq ?_|refine MPB.block ?_|refine MPB.reg hY aa aI (by kernel_rfl) ?_|refine MPB.skip ?_|refine MPB.label ?_|refine MPB.ret ?_|refine MPB.exit ?_|refine MPB.condT rfl ?_|refine MPB.condF rfl ?_|refine MPB.cond rfl (And.intro (fun h => ?_) (fun h => ?_))|((conv => whnf); first|refine anF ?_|refine anT ?_|refine anK ?_|refine And.intro (fun h => ?_) (fun h => ?_)|refine Or.inl ?_)
     exact il.mk (Or.inr rfl) (Or.inl (congrArg (Prod.mk false) (by rw [← hf0]; rfl)))
   ·skip
    repeat' first|exact (bbk (by assumption)).elim|refine Q1 ?_|refine Q2 ?_|refine Q3 hG aa aI ?_|refine Q4 hG aa aI ?_|refine Q5 hG aa ?_|refine Q6 hG aa ?_|refine Q7 hG aa ?_|refine Q8 hG aa ?_|refine Q9 rfl ?_|refine QF rfl ?_|refine QC rfl ⟨fun h => ?_,fun h => ?_⟩|((conv => whnf); first|refine anF ?_|refine anT ?_|refine anK ?_|refine And.intro (fun h => ?_) (fun h => ?_)|refine Or.inl ?_)
    refine MPB.seq ?_
    refine MPB.sp (by kernel_rfl) (fun W0 m0 hG hms => ?_) hY
    refine SPB.oregX hG aa aI 1 (by kernel_rfl) ?_
    conv => whnf
    refine Exists.intro ((z :: o).map p2) (Exists.intro _ (And.intro (rZ (z :: o) ?_) (And.intro (y6 _).symm (And.intro ?_ ?_))))
    ·omega
    ·intro x hx; obtain ⟨y,_,rfl⟩:=List.mem_map.1 hx; rfl
    ·rintro r rows ⟨rfl,s,hp,hs,rfl⟩ _ _
     conv => whnf
     rw [y6]
     have hs' : s.Pairwise fun x y => x.1 ≤ y.1:=hs.imp fun h => (qA _ _).1 h
     have hf:=hfl s hp hs'
     have hbs : ∀ p ∈ s,-1000000 ≤ p.2 ∧ p.2 ≤ 1000000:=fun p h => hbd p (hp.mem_iff.1 h)
     have hsl : s.length ≤ 2000000:=by have:=hp.length_eq; omega
     repeat' first|refine MPB.seq ?_|refine MPB.block ?_|refine MPB.reg hY aa aI (by kernel_rfl) ?_|refine MPB.skip ?_|refine MPB.label ?_|refine MPB.ret ?_|refine MPB.exit ?_|refine MPB.condT rfl ?_|refine MPB.condF rfl ?_|refine MPB.cond rfl (And.intro (fun h => ?_) (fun h => ?_))|((conv => whnf); first|refine anF ?_|refine anT ?_|refine anK ?_|refine And.intro (fun h => ?_) (fun h => ?_)|refine Or.inl ?_)
     refine MPB.loop (X:=Nat × Int × Nat) (fun x => ((false,x.2.2),⟨[(36,.int .i64 x.1),(35,.int .i64 (s.map pA).length),(34,.sl .no 2 (s.map pA)),(3,.sl .no 2 (s.map pA)),(6,.int .i64 x.2.1),(0,.lit (.func (.yield y) #[] #[]))],[]⟩)) (fun x => x.1 ≤ s.length ∧ bY x.2.1 (s.drop x.1) = (fF l).drop x.2.2 ∧ x.2.2 ≤ (fF l).length ∧ -1000000 * (x.1 : Int) ≤ x.2.1 ∧ x.2.1 ≤ 1000000 * (x.1 : Int)) (fun x => s.length - x.1) (0,0,0) ⟨Nat.zero_le _,hf,Nat.zero_le _,by decide,by decide⟩ rfl (ah ?_ ?_) (fun x hI => ?_)
     ·repeat' (first | exact trivial | refine And.intro rfl ?_)
     ·repeat' (first | exact trivial | refine And.intro rfl ?_)
     ·obtain ⟨j,f,k⟩:=x
      obtain ⟨hj,hfr,hk,hf1,hf2⟩:=hI
      simp only at hj hfr hk hf1 hf2 ⊢
      by_cases hjl : j < s.length
      ·have bbj : decide ((j : Int) < ((s.map pA).length : Int)) = false → False:=fun h => by have:=of_decide_eq_false h; simp at this; omega
       have hx : (s.map pA)[(j : Int).toNat]? = some (pA s[j]):=by simp [List.getElem?_eq_getElem hjl]
       have hxb:=hbs s[j] (List.getElem_mem hjl)
       rw [List.drop_eq_getElem_cons hjl] at hfr
       have hw1 : IntKind.i64.wrap ((j : Int) + 1) = ((j + 1 : Nat) : Int):=(aq (by omega) (by omega)).trans (by omega)
       generalize s[j] = x at hx hxb hfr
       have hwf : IntKind.i64.wrap (f + x.2) = f + x.2:=aq (by omega) (by omega)
       by_cases hj1 : j + 1 < s.length
       ·have bb1 : decide (IntKind.i64.wrap ((j : Int) + 1) < ((s.map pA).length : Int)) = false → False:=fun h => by rw [hw1] at h; have:=of_decide_eq_false h; simp at this; omega
        have hy : (s.map pA)[(IntKind.i64.wrap ((j : Int) + 1)).toNat]? = some (pA s[j + 1]):=by rw [hw1,Int.toNat_natCast]; simp [List.getElem?_eq_getElem hj1]
        have h0 : 0 ≤ IntKind.i64.wrap ((j : Int) + 1):=by rw [hw1]; exact Int.natCast_nonneg _
        rw [List.drop_eq_getElem_cons hj1,wd,← List.drop_eq_getElem_cons hj1] at hfr
        generalize s[j + 1] = z at hy hfr
        repeat' first|exact (bbj (by assumption)).elim|exact (bb1 (by assumption)).elim|refine MPB.sp (c:=.region _ _ true) (by kernel_rfl) (fun W0 m0 hG hms => ?_) hY|refine Q3 hG aa aI ?_|refine MPB.seq ?_|refine MPB.block ?_|refine MPB.reg hY aa aI (by kernel_rfl) ?_|refine MPB.skip ?_|refine MPB.label ?_|refine MPB.ret ?_|refine MPB.exit ?_|refine MPB.condT rfl ?_|refine MPB.condF rfl ?_|refine MPB.cond rfl (And.intro (fun h => ?_) (fun h => ?_))|((conv => whnf); first|refine anF ?_|refine anT ?_|refine anK ?_|refine And.intro (Int.natCast_nonneg j) (Exists.intro _ (And.intro hx ?_))|refine And.intro h0 (Exists.intro _ (And.intro hy ?_))|refine And.intro (fun h => ?_) (fun h => ?_)|refine Or.inl ?_)
        ·have hzx:=beq_iff_eq.1 (by assumption : (z.1 == x.1) = true)
         rw [if_pos hzx] at hfr
         refine Exists.intro (j + 1,f + x.2,k) (And.intro ⟨hjl,hfr,hk,show -1000000 * ((j + 1 : Nat) : Int) ≤ f + x.2 by omega,show f + x.2 ≤ 1000000 * ((j + 1 : Nat) : Int) by omega⟩ (And.intro (show s.length - (j + 1) < s.length - j by omega) (And.intro rfl (ah ?_ ?_))))
         ·exact And.intro (congrArg some (ap (by omega))) (And.intro rfl (And.intro rfl (And.intro rfl (And.intro (congrArg (fun z => some (AV.int .i64 z)) hwf) (And.intro rfl trivial)))))
         ·repeat' (first | exact trivial | refine And.intro rfl ?_)
        ·have hzx : ¬ z.1 = x.1:=fun h => by have:=(by assumption : (z.1 == x.1) = false); rw [h] at this; simp at this
         rw [if_neg hzx] at hfr
         obtain ⟨hg1,hg2,hg3⟩:=wm hfr
         refine Exists.intro (x.1,f + x.2) (And.intro hg1 (And.intro (congrArg (fun z => [AV.int .i64 x.1,AV.int .i64 z]) hwf) (fun t ht => ?_)))
         subst ht
         refine And.intro ?_ ?_
         ·skip
          repeat' first|refine MPB.seq ?_|refine MPB.block ?_|refine MPB.reg hY aa aI (by kernel_rfl) ?_|refine MPB.skip ?_|refine MPB.label ?_|refine MPB.ret ?_|refine MPB.exit ?_|refine MPB.condT rfl ?_|refine MPB.condF rfl ?_|refine MPB.cond rfl (And.intro (fun h => ?_) (fun h => ?_))|((conv => whnf); first|refine anF ?_|refine anT ?_|refine anK ?_|refine And.intro (fun h => ?_) (fun h => ?_)|refine Or.inl ?_)
          refine Exists.intro (j + 1,f + x.2,k + 1) (And.intro ⟨hjl,hg2,hg3,show -1000000 * ((j + 1 : Nat) : Int) ≤ f + x.2 by omega,show f + x.2 ≤ 1000000 * ((j + 1 : Nat) : Int) by omega⟩ (And.intro (show s.length - (j + 1) < s.length - j by omega) (And.intro rfl (ah ?_ ?_))))
          ·exact And.intro (congrArg some (ap (by omega))) (And.intro rfl (And.intro rfl (And.intro rfl (And.intro (congrArg (fun z => some (AV.int .i64 z)) hwf) (And.intro rfl trivial)))))
          ·repeat' (first | exact trivial | refine And.intro rfl ?_)
         ·skip
          repeat' first|refine MPB.seq ?_|refine MPB.block ?_|refine MPB.reg hY aa aI (by kernel_rfl) ?_|refine MPB.skip ?_|refine MPB.label ?_|refine MPB.ret ?_|refine MPB.exit ?_|refine MPB.condT rfl ?_|refine MPB.condF rfl ?_|refine MPB.cond rfl (And.intro (fun h => ?_) (fun h => ?_))|((conv => whnf); first|refine anF ?_|refine anT ?_|refine anK ?_|refine And.intro (fun h => ?_) (fun h => ?_)|refine Or.inl ?_)
          exact il.mk (Or.inl rfl) (Or.inr rfl)
       ·have bb1 : decide (IntKind.i64.wrap ((j : Int) + 1) < ((s.map pA).length : Int)) = true → False:=fun h => by rw [hw1] at h; have:=of_decide_eq_true h; simp at this; omega
        repeat' first|exact (bbj (by assumption)).elim|exact (bb1 (by assumption)).elim|refine MPB.sp (c:=.region _ _ true) (by kernel_rfl) (fun W0 m0 hG hms => ?_) hY|refine Q3 hG aa aI ?_|refine MPB.seq ?_|refine MPB.block ?_|refine MPB.reg hY aa aI (by kernel_rfl) ?_|refine MPB.skip ?_|refine MPB.label ?_|refine MPB.ret ?_|refine MPB.exit ?_|refine MPB.condT rfl ?_|refine MPB.condF rfl ?_|refine MPB.cond rfl (And.intro (fun h => ?_) (fun h => ?_))|((conv => whnf); first|refine anF ?_|refine anT ?_|refine anK ?_|refine And.intro (Int.natCast_nonneg j) (Exists.intro _ (And.intro hx ?_))|refine And.intro (fun h => ?_) (fun h => ?_)|refine Or.inl ?_)
        have hde : s.drop (j + 1) = []:=List.drop_of_length_le (by omega)
        rw [hde] at hfr
        obtain ⟨hg1,hg2,hg3⟩:=wm (show (x.1,f + x.2) :: [] = (fF l).drop k from hfr)
        rw [← show bY (f + x.2) (s.drop (j + 1)) = [] by rw [hde]; rfl] at hg2
        refine Exists.intro (x.1,f + x.2) (And.intro hg1 (And.intro (congrArg (fun z => [AV.int .i64 x.1,AV.int .i64 z]) hwf) (fun t ht => ?_)))
        subst ht
        refine And.intro ?_ ?_
        ·skip
         repeat' first|refine MPB.seq ?_|refine MPB.block ?_|refine MPB.reg hY aa aI (by kernel_rfl) ?_|refine MPB.skip ?_|refine MPB.label ?_|refine MPB.ret ?_|refine MPB.exit ?_|refine MPB.condT rfl ?_|refine MPB.condF rfl ?_|refine MPB.cond rfl (And.intro (fun h => ?_) (fun h => ?_))|((conv => whnf); first|refine anF ?_|refine anT ?_|refine anK ?_|refine And.intro (fun h => ?_) (fun h => ?_)|refine Or.inl ?_)
         refine Exists.intro (j + 1,f + x.2,k + 1) (And.intro ⟨hjl,hg2,hg3,show -1000000 * ((j + 1 : Nat) : Int) ≤ f + x.2 by omega,show f + x.2 ≤ 1000000 * ((j + 1 : Nat) : Int) by omega⟩ (And.intro (show s.length - (j + 1) < s.length - j by omega) (And.intro rfl (ah ?_ ?_))))
         ·exact And.intro (congrArg some (ap (by omega))) (And.intro rfl (And.intro rfl (And.intro rfl (And.intro (congrArg (fun z => some (AV.int .i64 z)) hwf) (And.intro rfl trivial)))))
         ·repeat' (first | exact trivial | refine And.intro rfl ?_)
        ·skip
         repeat' first|refine MPB.seq ?_|refine MPB.block ?_|refine MPB.reg hY aa aI (by kernel_rfl) ?_|refine MPB.skip ?_|refine MPB.label ?_|refine MPB.ret ?_|refine MPB.exit ?_|refine MPB.condT rfl ?_|refine MPB.condF rfl ?_|refine MPB.cond rfl (And.intro (fun h => ?_) (fun h => ?_))|((conv => whnf); first|refine anF ?_|refine anT ?_|refine anK ?_|refine And.intro (fun h => ?_) (fun h => ?_)|refine Or.inl ?_)
         exact il.mk (Or.inl rfl) (Or.inr rfl)
      ·have bbj : decide ((j : Int) < ((s.map pA).length : Int)) = true → False:=fun h => by have:=of_decide_eq_true h; simp at this; omega
       repeat' first|exact (bbj (by assumption)).elim|refine MPB.sp (c:=.region _ _ true) (by kernel_rfl) (fun W0 m0 hG hms => ?_) hY|refine Q3 hG aa aI ?_|refine MPB.seq ?_|refine MPB.block ?_|refine MPB.reg hY aa aI (by kernel_rfl) ?_|refine MPB.skip ?_|refine MPB.label ?_|refine MPB.ret ?_|refine MPB.exit ?_|refine MPB.condT rfl ?_|refine MPB.condF rfl ?_|refine MPB.cond rfl (And.intro (fun h => ?_) (fun h => ?_))|((conv => whnf); first|refine anF ?_|refine anT ?_|refine anK ?_|refine And.intro (fun h => ?_) (fun h => ?_)|refine Or.inl ?_)
       have hke : k = (fF l).length:=by
        rw [List.drop_of_length_le (by omega)] at hfr
        have:=congrArg List.length hfr
        simp [bY] at this; omega
       exact il.mk (Or.inr rfl) (Or.inl (congrArg (Prod.mk false) hke))
end Go.Proofs
