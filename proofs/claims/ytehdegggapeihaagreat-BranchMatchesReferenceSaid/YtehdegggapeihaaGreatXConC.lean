/- Contracts of the functions and plain facts about what they reckon, part 3: called with arguments that read so, each hands back what is typed. The conditions are those typed. -/
import Derived.Test.YtehdegggapeihaaGreatXConB
set_option linter.unusedSectionVars false
set_option linter.unusedVariables false
set_option linter.unusedSimpArgs false
namespace Go.Proofs
open Go Go.AI
set_option maxRecDepth 10000
def inM (x lo hi : Int) : Bool:=decide (lo ≤ x) && decide (x ≤ hi)
def spM (a b : Int) : Bool:=decide (0 ≤ a) && (decide (a < b) && decide (b ≤ 1000001))
theorem kM (x lo hi : Int) : ae Tryz.prog 104 [.int .i64 x,.int .i64 lo,.int .i64 hi] (.bool (inM x lo hi)):=by
 refine ag aa Tryz.func104 rfl (by kernel_rfl) af (Nat.le_of_ble_eq_true rfl) ?_
 intro F n' w0 m0 hG hro h1
 repeat' first|refine Q1 ?_|refine Q2 ?_|refine Q3 hG aa gM ?_|refine Q4 hG aa gM ?_|refine Q5 hG aa ?_|refine Q6 hG aa ?_|refine Q7 hG aa ?_|refine Q8 hG aa ?_|refine Q9 rfl ?_|refine QF rfl ?_|refine QC rfl ⟨fun h => ?_,fun h => ?_⟩|((conv => whnf); first|refine anF ?_|refine anT ?_|refine anK ?_|refine And.intro (fun h => ?_) (fun h => ?_)|refine Or.inl ?_)
 all_goals refine Ends.mk (Or.inl rfl) (ac (congrArg AV.bool ?_))
 all_goals simp only [inM, *,Bool.true_and,Bool.and_true,Bool.false_and,Bool.and_false,Bool.true_or,Bool.or_true,Bool.false_or,Bool.or_false,Bool.not_true,Bool.not_false]
theorem oA (a b : Int) : ae Tryz.prog 170 [.agg [.int .i64 a,.int .i64 b]] (.bool (spM a b)):=by
 refine ag aa Tryz.func170 rfl (by kernel_rfl) af (Nat.le_of_ble_eq_true rfl) ?_
 intro F n' w0 m0 hG hro h1
 repeat' first|refine Q1 ?_|refine Q2 ?_|refine Q3 hG aa gI ?_|refine Q4 hG aa gI ?_|refine Q5 hG aa ?_|refine Q6 hG aa ?_|refine Q7 hG aa ?_|refine Q8 hG aa ?_|refine Q9 rfl ?_|refine QF rfl ?_|refine QC rfl ⟨fun h => ?_,fun h => ?_⟩|((conv => whnf); first|refine anF ?_|refine anT ?_|refine anK ?_|refine And.intro (fun h => ?_) (fun h => ?_)|refine Or.inl ?_)
 all_goals refine Ends.mk (Or.inl rfl) (ac (congrArg AV.bool ?_))
 all_goals simp only [spM, *,Bool.true_and,Bool.and_true,Bool.false_and,Bool.and_false,Bool.true_or,Bool.or_true,Bool.false_or,Bool.or_false,Bool.not_true,Bool.not_false]
def jI (l : List Img) : List Bool:=(List.range 64).map fun (k : Nat) => l.any fun x => x.i == (k : Int)
def lz (l : List Img) (i : Int) : Bool:=l.any fun x => x.i == i
def mC (pre : List Img) (x : Img) : Bool:=inM x.i 0 63 && (!lz pre x.i && (inM x.u 1 1000000 && spM x.a x.b))
def fB : List Img → List Img → Bool
 | _,[] => true
 | pre,x :: r => mC pre x && fB (pre ++ [x]) r
def fN (l : List Img) : Bool:=fB [] l && decide (l.length ≤ 24)
theorem Fr (m : List Img) (h : m = []) : (jI m).map AV.bool = List.replicate 64 (.bool false):=by
 subst h
 simp only [jI,List.map_map,List.any_nil,Function.comp_def,List.map_const',List.length_range,List.map_replicate]
theorem zY {i : TI} {cs : List AV} {n : Nat} {x : AV} {r : List AV} {K : AV → Prop} (h : cs.drop n = x :: r) (hK : (match eN i (x :: r) with | some v => K v | none => False)) : (match eN i (cs.drop n) with | some v => K v | none => False):=by rw [h]; exact hK
theorem xm {s : St} {d n : Nat} {vs : List AV} {b' : List (Nat × List AV)} {K : List (Nat × List AV) → Prop} (h : ls s.b d n vs = some b') (hK : K b') : (match ls s.b d n vs with | some b => K b | none => False):=by rw [h]; exact hK
theorem zx {bx : List (Nat × List AV)} {d n : Nat} {cs : List AV} {v : AV} (h1 : get bx d = some cs) (h2 : n < cs.length) : ls bx d n [v] = some ((d,ml cs n [v]) :: bx):=by
 unfold ls
 rw [h1]
 simp only [List.length_cons,List.length_nil,Nat.zero_add]
 rw [Nat.ble_eq_true_of_le h2]; rfl
theorem zA {l : List Img} {i : Int} (h : inM i 0 63 = true) : ∃ r,((jI l).map AV.bool).drop (0 + i.toNat * 1) = .bool (lz l i) :: r:=by
 simp only [inM,Bool.and_eq_true,decide_eq_true_eq] at h
 have hlt : 0 + i.toNat * 1 < ((jI l).map AV.bool).length:=by simp [jI]; omega
 refine ⟨_,(List.drop_eq_getElem_cons hlt).trans (congrArg (· :: _) ?_)⟩
 simp only [jI,List.map_map,List.getElem_map,List.getElem_range,Function.comp,lz]
 congr 3
 funext x
 rw [Nat.zero_add,Nat.mul_one,Int.toNat_of_nonneg h.1]
theorem BA {l : List Img} {x : Img} (h : inM x.i 0 63 = true) : ml ((jI l).map AV.bool) (0 + x.i.toNat * 1) [.bool true] = (jI (l ++ [x])).map AV.bool:=by
 simp only [inM,Bool.and_eq_true,decide_eq_true_eq] at h
 rw [jp]
 apply List.ext_getElem?
 intro j
 show (bN ((jI l).map AV.bool) (0 + x.i.toNat * 1) (.bool true))[j]? = _
 rw [cK]
 simp only [jI,List.length_map,List.length_range,List.getElem?_map,Nat.zero_add,Nat.mul_one,List.any_append,List.any_cons,List.any_nil,Bool.or_false]
 by_cases hj : j < 64
 ·rw [List.getElem?_range hj]
  simp only [Option.map_some]
  by_cases he : j = x.i.toNat
  ·rw [if_pos (by omega)]
   have : (x.i == (j : Int)) = true:=by rw [beq_iff_eq]; omega
   rw [this,Bool.or_true]
  ·rw [if_neg (by omega)]
   have : (x.i == (j : Int)) = false:=by rw [beq_eq_false_iff_ne]; omega
   rw [this,Bool.or_false]
 ·rw [if_neg (by omega),List.getElem?_eq_none (by simp; omega)]; rfl
set_option maxHeartbeats 8000000 in
theorem sM (l : List Img) (hl : l.length ≤ 1000000) : ae Tryz.prog 105 [eR l] (.bool (fN l)):=by
 refine ag aa Tryz.func105 rfl (by kernel_rfl) af (Nat.le_of_ble_eq_true rfl) ?_
 intro F n' w0 m0 hG hro h1
 repeat' first|refine Q1 ?_|refine Q2 ?_|refine Q3 hG aa dl ?_|refine Q4 hG aa dl ?_|refine Q5 hG aa ?_|refine Q6 hG aa ?_|refine Q7 hG aa ?_|refine Q8 hG aa ?_|refine Q9 rfl ?_|refine QF rfl ?_|refine QC rfl ⟨fun h => ?_,fun h => ?_⟩|((conv => whnf); first|refine anF ?_|refine anT ?_|refine anK ?_|refine And.intro (fun h => ?_) (fun h => ?_)|refine Or.inl ?_)
 refine ar (X:=Nat × List AV) (fun x => ⟨[(8,.int .i64 x.1),(7,.int .i64 (l.map fE).length),(6,eR l),(0,eR l),(3,.loc 3 0)],[(3,x.2)]⟩) (fun x => x.1 ≤ l.length ∧ fB (l.take x.1) (l.drop x.1) = fB [] l ∧ x.2 = (jI (l.take x.1)).map AV.bool) (fun x => l.length - x.1) (0,List.replicate 64 (.bool false)) ⟨Nat.zero_le _,by simp,(Fr _ rfl).symm⟩ (ah ?_ ?_) (fun x hi => ?_)
 ·repeat' (first | exact trivial | refine And.intro rfl ?_)
 ·repeat' (first | exact trivial | refine And.intro rfl ?_)
 ·obtain ⟨i,cs⟩:=x
  obtain ⟨hi,hok,hcs⟩:=hi
  simp only at hi hok hcs ⊢
  by_cases hlt : i < l.length
  ·have bbk : decide ((i : Int) < ((l.map fE).length : Int)) = false → False:=fun h => by have:=of_decide_eq_false h; simp at this; omega
   have hx:=Cd hlt
   have htk : l.take (i + 1) = l.take i ++ [l.getD i rD]:=by rw [List.take_add_one,List.getD_eq_getElem?_getD,List.getElem?_eq_getElem hlt]; rfl
   have hdr : l.drop i = l.getD i rD :: l.drop (i + 1):=by rw [List.getD_eq_getElem?_getD,List.getElem?_eq_getElem hlt]; exact List.drop_eq_getElem_cons hlt
   rw [hdr,fB,← htk] at hok
   generalize l.getD i rD = x at hx htk hok
   have hln : cs.length = 64:=by rw [hcs]; simp [jI]
   cases hin : inM x.i 0 63 with
   | false =>
    have cIn : ae Tryz.prog 104 [.int .i64 x.i,.int .i64 0,.int .i64 63] (.bool false):=by rw [← hin]; exact kM _ _ _
    clear hcs
    repeat' first|exact (bbk (by assumption)).elim|refine Q1 ?_|refine Q2 ?_|refine Q3 hG aa dl ?_|refine Q4 hG aa dl ?_|refine Q5 hG aa ?_|refine Q6 hG aa ?_|refine Q7 hG aa ?_|refine Q8 hG aa ?_|refine Q9 rfl ?_|refine QF rfl ?_|refine QC rfl ⟨fun h => ?_,fun h => ?_⟩|((conv => whnf); first|refine anF ?_|refine anT ?_|refine anK ?_|refine And.intro (Int.natCast_nonneg i) (Exists.intro _ (And.intro hx ?_))|refine Exists.intro _ (And.intro (cIn) ?_)|refine Exists.intro _ (And.intro (kM _ _ _) ?_)|refine Exists.intro _ (And.intro (oA _ _) ?_)|refine Eq.mpr (hZ cs _) ?_|refine And.intro (fun h => ?_) (fun h => ?_)|refine Or.inl ?_)
    refine Ends.mk (Or.inl rfl) (ac (congrArg AV.bool ?_))
    rw [fN,← hok,mC,hin]
    (try simp only [Bool.not_eq_true',Bool.not_eq_false'] at *)
    simp only [*,Bool.true_and,Bool.and_true,Bool.false_and,Bool.and_false,Bool.true_or,Bool.or_true,Bool.false_or,Bool.or_false,Bool.not_true,Bool.not_false]
   | true =>
    have cIn : ae Tryz.prog 104 [.int .i64 x.i,.int .i64 0,.int .i64 63] (.bool true):=by rw [← hin]; exact kM _ _ _
    have hst:=BA (l:=l.take i) hin
    rw [← htk] at hst
    obtain ⟨r,hse⟩:=zA (l:=l.take i) hin
    have hx0 : 0 ≤ x.i:=by have:=hin; simp only [inM,Bool.and_eq_true,decide_eq_true_eq] at this; exact this.1
    have hx1 : x.i < ((64 : Nat) : Int):=by have:=hin; simp only [inM,Bool.and_eq_true,decide_eq_true_eq] at this; omega
    rw [← hcs] at hst hse
    clear hcs
    obtain ⟨sb,hsb⟩ : ∃ sb,sb = lz (l.take i) x.i:=⟨_,rfl⟩
    rw [← hsb] at hse
    have hsl : 0 + x.i.toNat * 1 < cs.length:=by rw [hln]; omega
    repeat' first|exact (bbk (by assumption)).elim|refine Q1 ?_|refine Q2 ?_|refine Q3 hG aa dl ?_|refine Q4 hG aa dl ?_|refine Q5 hG aa ?_|refine Q6 hG aa ?_|refine Q7 hG aa ?_|refine Q8 hG aa ?_|refine Q9 rfl ?_|refine QF rfl ?_|refine QC rfl ⟨fun h => ?_,fun h => ?_⟩|((conv => whnf); first|refine anF ?_|refine anT ?_|refine anK ?_|refine And.intro (Int.natCast_nonneg i) (Exists.intro _ (And.intro hx ?_))|refine Exists.intro _ (And.intro (cIn) ?_)|refine Exists.intro _ (And.intro (kM _ _ _) ?_)|refine Exists.intro _ (And.intro (oA _ _) ?_)|refine zY hse ?_|refine xm (zx (cs:=cs) rfl hsl) ?_|refine Eq.mpr (hZ (ml cs _ _) _) ?_|refine And.intro hx0 (And.intro hx1 ?_)|refine Eq.mpr (hZ cs _) ?_|refine And.intro (fun h => ?_) (fun h => ?_)|refine Or.inl ?_)
    ·refine Ends.mk (Or.inl rfl) (ac (congrArg AV.bool ?_))
     subst hsb
     rw [fN,← hok,mC,hin]
     (try simp only [Bool.not_eq_true',Bool.not_eq_false'] at *)
     simp only [*,Bool.true_and,Bool.and_true,Bool.false_and,Bool.and_false,Bool.true_or,Bool.or_true,Bool.false_or,Bool.or_false,Bool.not_true,Bool.not_false]
    ·refine Ends.mk (Or.inl rfl) (ac (congrArg AV.bool ?_))
     subst hsb
     rw [fN,← hok,mC,hin]
     (try simp only [Bool.not_eq_true',Bool.not_eq_false'] at *)
     simp only [*,Bool.true_and,Bool.and_true,Bool.false_and,Bool.and_false,Bool.true_or,Bool.or_true,Bool.false_or,Bool.or_false,Bool.not_true,Bool.not_false]
    ·refine Ends.mk (Or.inl rfl) (ac (congrArg AV.bool ?_))
     subst hsb
     rw [fN,← hok,mC,hin]
     (try simp only [Bool.not_eq_true',Bool.not_eq_false'] at *)
     simp only [*,Bool.true_and,Bool.and_true,Bool.false_and,Bool.and_false,Bool.true_or,Bool.or_true,Bool.false_or,Bool.or_false,Bool.not_true,Bool.not_false]
    ·conv => whnf
     refine Exists.intro (i + 1,ml cs (0 + x.i.toNat * 1) [.bool true]) (And.intro ⟨hlt,?_,hst⟩ (And.intro (show l.length - (i + 1) < l.length - i by omega) ?_))
     ·subst hsb
      rw [← hok,mC,hin]
      (try simp only [Bool.not_eq_true',Bool.not_eq_false'] at *)
      simp only [*,Bool.true_and,Bool.and_true,Bool.false_and,Bool.and_false,Bool.true_or,Bool.or_true,Bool.false_or,Bool.or_false,Bool.not_true,Bool.not_false]
     ·refine ah (And.intro (congrArg some (ap (by omega))) ?_) ?_
      ·repeat' (first | exact trivial | refine And.intro rfl ?_)
      ·repeat' (first | exact trivial | refine And.intro rfl ?_)
  ·have bbk : decide ((i : Int) < ((l.map fE).length : Int)) = true → False:=fun h => by have:=of_decide_eq_true h; simp at this; omega
   repeat' first|exact (bbk (by assumption)).elim|refine Q1 ?_|refine Q2 ?_|refine Q3 hG aa dl ?_|refine Q4 hG aa dl ?_|refine Q5 hG aa ?_|refine Q6 hG aa ?_|refine Q7 hG aa ?_|refine Q8 hG aa ?_|refine Q9 rfl ?_|refine QF rfl ?_|refine QC rfl ⟨fun h => ?_,fun h => ?_⟩|((conv => whnf); first|refine anF ?_|refine anT ?_|refine anK ?_|refine And.intro (fun h => ?_) (fun h => ?_)|refine Or.inl ?_)
   refine Ends.mk (Or.inl rfl) (ac (congrArg AV.bool ?_))
   have hdn : l.drop i = []:=List.drop_of_length_le (by omega)
   rw [hdn,fB] at hok
   rw [fN,← hok,List.length_map,Bool.true_and]
   exact decide_eq_decide.2 (by omega)
end Go.Proofs
namespace Go.Proofs
open Go Go.AI
set_option maxRecDepth 10000
theorem o9 : ∀ (l pre : List Img),fB pre l = true → ∀ x ∈ l,0 ≤ x.u ∧ x.u ≤ 1000000
 | [],_,_,x,hx => nomatch hx
 | y :: r,pre,h,x,hx => by
  simp only [fB,Bool.and_eq_true] at h
  rcases List.mem_cons.1 hx with rfl | hx
  ·have:=h.1
   simp only [mC,inM,Bool.and_eq_true,decide_eq_true_eq] at this
   omega
  ·exact o9 r _ h.2 x hx
end Go.Proofs
namespace Go.Proofs
open Go Go.AI
set_option maxRecDepth 10000
structure sA (s : Nat → Int) (l : List Opt) (a b : Int) : Prop where
 hl : l.length ≤ 1000000
 sl : fc l
 sp : (bu l).length ≤ 900000
 val : Fn s (CF l) = true
 span : EE a b = true
 can : ∀ o ∈ l,iY o = true
 mem : fN (gg l) = true
 s10 : inM (s 10) 0 1000000 = true
 ll : (aL l).length ≤ 1000000
 bat : iG s (aL l) a b = true
end Go.Proofs
namespace Go.Proofs
open Go Go.AI
structure Fk (s : Nat → Int) (o : Opt) (b : Int) : Prop where
 id : 0 ≤ o.id ∧ o.id ≤ 63
 size : 1 ≤ o.size ∧ o.size ≤ s 10
 shot : 0 ≤ o.a ∧ o.a < o.b ∧ o.b ≤ 1000000 ∧ o.b - o.a ≤ 60
 look : inS o.look (w64 (0 - s 9)) (s 9) = true
 len : 1 ≤ o.sl.length ∧ o.sl.length ≤ 6
 slot : ∀ x ∈ o.sl,0 ≤ x.a ∧ x.a < x.b ∧ x.b ≤ ff o
 last : o.b < ff o ∧ ff o ≤ b
 can : iY o = true
def jx (t : Int) : List aU → Int
 | [] => t
 | x :: r => jx x.b r
theorem rn (t : Int) : ∀ (l : List aU),l ≠ [] → jx t l = (l.getD (l.length - 1) qQ).b
 | [],h => absurd rfl h
 | [x],_ => rfl
 | x :: y :: r,_ => by
  rw [jx,rn _ (y :: r) (by simp)]
  simp
theorem yC {s : Nat → Int} {ps : List al} {z : Int} (hps : ∀ p ∈ ps,p.sb ≤ 1000001) (hpl : ps.length ≤ 64) : ∀ (l : List aU) (t : Int),bv s ps z t l = true → 0 ≤ t →
  (∀ x ∈ l,t ≤ x.a ∧ x.a < x.b ∧ x.b ≤ jx t l) ∧ t ≤ jx t l ∧ (l ≠ [] → t < jx t l) ∧ eO t l = true
 | [],t,_,_ => ⟨fun _ h => (nomatch h),Int.le_refl _,fun h => absurd rfl h,rfl⟩
 | x :: r,t,h,ht => by
  simp only [bv,fO,Bool.and_eq_true,inS,decide_eq_true_eq,Bool.not_eq_true'] at h
  obtain ⟨⟨h01,⟨⟨⟨_,h2⟩,h3⟩,h4⟩,_⟩,h5⟩:=h
  obtain ⟨h0,h1⟩:=h01
  have hxa : t ≤ x.a:=by omega
  obtain ⟨g1,g2,_,g4⟩:=yC hps hpl r x.b h5 (by omega)
  have hp : (aA ps x.p.toNat).sb ≤ 1000001:=by
   rw [aq (by omega) (by omega)] at h1
   have hlt : x.p.toNat < ps.length:=by omega
   unfold aA
   rw [List.getD_eq_getElem?_getD,List.getElem?_eq_getElem hlt]
   exact hps _ (List.getElem_mem hlt)
  refine ⟨fun y hy => ?_,?_,fun _ => ?_,?_⟩
  ·rcases List.mem_cons.1 hy with rfl | hy
   ·exact ⟨hxa,h4,g2⟩
   ·have:=g1 y hy
    exact ⟨by omega,this.2.1,this.2.2⟩
  ·show t ≤ jx x.b r; omega
  ·show t < jx x.b r; omega
  ·simp only [eO,jz,Bool.and_eq_true,decide_eq_true_eq]
   exact ⟨⟨hxa,⟨by omega,h4⟩,by omega⟩,g4⟩
theorem qX {ps : List al} (h : bp ps = true) : (∀ p ∈ ps,p.sb ≤ 1000001) ∧ ps.length ≤ 64:=by
 simp only [bp,Bool.and_eq_true,decide_eq_true_eq,Bool.not_eq_true',List.any_eq_false] at h
 refine ⟨fun p hp => ?_,h.1.1⟩
 have:=h.1.2 p hp
 simp only [bX,inS,Bool.and_eq_true,Bool.or_eq_true,decide_eq_true_eq,Bool.not_eq_true,Bool.not_eq_true',Bool.not_eq_false,beq_iff_eq] at this
 omega
theorem EM {s : Nat → Int} {o : Opt} {ps : List al} {b : Int} (hps : bp ps = true) (hs : s 10 ≤ 1000000) (h : dp s o ps = true) (hb : ff o ≤ b) : Fk s o b:=by
 obtain ⟨hp1,hp2⟩:=qX hps
 simp only [dp,mK,ph,oH,vP,jz,Bool.and_eq_true,decide_eq_true_eq,beq_iff_eq] at h
 obtain ⟨⟨⟨⟨⟨⟨⟨hid,_⟩,_⟩,_⟩,hsz⟩,⟨⟨⟨_,hsp⟩,_⟩,hlk⟩,hob⟩,hln⟩,hsl⟩:=h
 simp only [inS,Bool.and_eq_true,decide_eq_true_eq] at hid hsz hln
 have hspan : 0 ≤ o.a ∧ o.a < o.b ∧ o.b - o.a ≤ 60:=by
  obtain ⟨⟨⟨q1,q2⟩,q3⟩,q4⟩:=hsp
  rw [aq (by omega) (by omega)] at q4
  exact ⟨q1,q2,q4⟩
 obtain ⟨g1,g2,g3,g4⟩:=yC hp1 hp2 o.sl o.b hsl (by omega)
 have hne : o.sl ≠ []:=fun e => by rw [e] at hln; simp at hln
 have hlast : jx o.b o.sl = ff o:=rn _ _ hne
 rw [hlast] at g1 g2 g3
 refine ⟨hid,hsz,⟨hspan.1,hspan.2.1,hob,hspan.2.2⟩,hlk,by omega,fun x hx => ?_,⟨g3 hne,hb⟩,?_⟩
 ·have:=g1 x hx; omega
 ·simp only [iY,Bool.and_eq_true,inS,jz,decide_eq_true_eq]
  exact ⟨g4,⟨⟨hid,by omega,by omega⟩,⟨by omega,by omega⟩,by omega⟩,by omega,by omega⟩
theorem lE {s : Nat → Int} {ps : List al} {a b : Int} : ∀ (l pre : List Opt),dA s ps a b pre l = true → ∀ o ∈ l,dp s o ps = true ∧ a ≤ o.a ∧ ff o ≤ b
 | [],_,_,o,ho => nomatch ho
 | x :: r,pre,h,o,ho => by
  simp only [dA,Bool.and_eq_true] at h
  rcases List.mem_cons.1 ho with rfl | ho
  ·have:=h.1
   simp only [iT,Bool.and_eq_true,Bool.not_eq_true',decide_eq_false_iff_not] at this
   exact ⟨this.1.1.1,by omega,by omega⟩
  ·exact lE r _ h.2 o ho
theorem yz {s : Nat → Int} {l : List Opt} {ps : List al} {a b : Int} (h : aX s l ps a b = true) : l.length ≤ 8 ∧ (0 ≤ a ∧ a < b ∧ b ≤ 1000000) ∧ b - a ≤ 3000 ∧ gt s = true ∧ bp ps = true ∧ dA s ps a b [] l = true:=by
 simp only [aX,Bool.and_eq_true,decide_eq_true_eq,Bool.not_eq_true',decide_eq_false_iff_not] at h
 obtain ⟨⟨⟨⟨⟨h1,h2⟩,h3⟩,h4⟩,h5⟩,h6⟩:=h
 have h2:=mq h2
 rw [aq (by omega) (by omega)] at h3
 exact ⟨h1,h2,by omega,h4,h5,h6⟩
theorem EZ {s : Nat → Int} (h : gt s = true) : 1 ≤ s 10 ∧ s 10 ≤ 1000000:=by
 simp only [gt,inS,Bool.and_eq_true,decide_eq_true_eq] at h
 omega
theorem Ce {s : Nat → Int} {ps : List al} {a b : Int} (hps : bp ps = true) (hs : s 10 ≤ 1000000) (hb : b ≤ 1000000) : ∀ (l pre : List Opt),dA s ps a b pre l = true → fB (gg pre) (gg l) = true
 | [],_,_ => rfl
 | x :: r,pre,h => by
  have hx:=lE (x :: r) pre h x (.head _)
  have hf:=EM hps hs hx.1 hx.2.2
  simp only [dA,Bool.and_eq_true] at h
  have ih:=Ce hps hs hb r _ h.2
  have hid:=h.1
  simp only [iT,Bool.and_eq_true,Bool.not_eq_true'] at hid
  have hid:=hid.2
  rw [show gg (x :: r) = ⟨x.id,x.size,x.a,ff x⟩ :: gg r from rfl,fB,show gg pre ++ [⟨x.id,x.size,x.a,ff x⟩] = gg (pre ++ [x]) by simp [gg],ih,Bool.and_true]
  have hse : lz (gg pre) x.id = false:=by
   rw [← hid]; unfold lz gg; rw [List.any_map]; rfl
  obtain ⟨q1,q2,q3,q4,q5,q6,q7,q8⟩:=hf
  simp only [mC,hse,inM,spM,Bool.and_eq_true,decide_eq_true_eq,Bool.not_false,true_and]
  exact ⟨q1,⟨q2.1,by omega⟩,q3.1,by omega,by omega⟩
theorem sA.of {s : Nat → Int} {l : List Opt} {ps : List al} {a b : Int} (h : aX s l ps a b = true) : sA s l a b ∧ dI l ∧ ∀ o ∈ l,Fk s o b:=by
 obtain ⟨h1,h2,h3,h4,h5,h6⟩:=yz h
 have h10:=EZ h4
 have hm : ∀ o ∈ l,Fk s o b:=fun o ho => by
  have:=lE l [] h6 o ho
  exact EM h5 h10.2 this.1 this.2.2
 have hg : dI l:=⟨h1,fun o ho => by
  obtain ⟨q1,q2,q3,q4,q5,q6,q7,q8⟩:=hm o ho
  omega,fun o ho x hx => by
  obtain ⟨q1,q2,q3,q4,q5,q6,q7,q8⟩:=hm o ho
  have:=q6 x hx
  omega⟩
 have hlen:=my hg
 have hrl:=hg.len
 refine ⟨⟨by omega,fun o ho => by have:=(hm o ho).len; omega,?_,?_,?_,fun o ho => (hm o ho).can,?_,?_,by omega,?_⟩,hg,hm⟩
 ·have:=vp l; omega
 ·rw [Fn,h4,Bool.and_true,FF,Bool.and_eq_true]
  refine ⟨List.all_eq_true.2 fun x hx => ?_,by simp [CF]; omega⟩
  obtain ⟨o,ho,rfl⟩:=List.mem_map.1 hx
  obtain ⟨q1,q2,q3,q4,q5,q6,q7,q8⟩:=hm o ho
  simp only [FG,Bool.and_eq_true,decide_eq_true_eq]
  rw [aq (by omega) (by omega)]
  exact ⟨⟨⟨⟨q3.1,q3.2.1⟩,q3.2.2.1⟩,q3.2.2.2⟩,q4⟩
 ·simp only [EE,Bool.and_eq_true,decide_eq_true_eq]
  rw [aq (by omega) (by omega)]
  omega
 ·rw [fN,show fB [] (gg l) = true from Ce h5 h10.2 h2.2.2 l [] h6,Bool.true_and]
  simp [gg]; omega
 ·simp only [inM,Bool.and_eq_true,decide_eq_true_eq]; omega
 ·rw [iG,h4,hg.proper,Bool.and_true,Bool.and_true,Bool.and_eq_true]
  refine ⟨dy.2 h2,?_⟩
  rw [aq (by omega) (by omega)]
  exact decide_eq_true (by omega)
end Go.Proofs
namespace Go.Proofs
open Go Go.AI
set_option maxRecDepth 10000
theorem si (n a b : Int) : ae Tryz.prog 99 [.int .i64 n,.int .i64 a,.int .i64 b] (.bool (inS n a b)):=by
 refine ag aa Tryz.func99 rfl (by kernel_rfl) af (Nat.le_of_ble_eq_true rfl) ?_
 intro F n' w0 m0 hG hro h1
 repeat' first|refine Q1 ?_|refine Q2 ?_|refine Q3 hG aa pL ?_|refine Q4 hG aa pL ?_|refine Q5 hG aa ?_|refine Q6 hG aa ?_|refine Q7 hG aa ?_|refine Q8 hG aa ?_|refine Q9 rfl ?_|refine QF rfl ?_|refine QC rfl ⟨fun h => ?_,fun h => ?_⟩|((conv => whnf); first|refine anF ?_|refine anT ?_|refine anK ?_|refine And.intro (fun h => ?_) (fun h => ?_)|refine Or.inl ?_)
 all_goals refine Ends.mk (Or.inl rfl) (ac (congrArg AV.bool ?_))
 all_goals (clear hG; grind [inS])
theorem BH (a b : Int) : bE a b = (decide (0 ≤ a) && decide (a < b) && decide (b ≤ 1000000)):=by
 rw [Bool.eq_iff_iff,dy]; simp [and_assoc]
theorem kl (a b : Int) : ae Tryz.prog 91 [.agg (aK a b)] (.bool (bE a b)):=by
 rw [BH]
 refine ag aa Tryz.func91 rfl (by kernel_rfl) af (Nat.le_of_ble_eq_true rfl) ?_
 intro F n' w0 m0 hG hro h1
 repeat' first|refine Q1 ?_|refine Q2 ?_|refine Q3 hG aa pQ ?_|refine Q4 hG aa pQ ?_|refine Q5 hG aa ?_|refine Q6 hG aa ?_|refine Q7 hG aa ?_|refine Q8 hG aa ?_|refine Q9 rfl ?_|refine QF rfl ?_|refine QC rfl ⟨fun h => ?_,fun h => ?_⟩|((conv => whnf); first|refine anF ?_|refine anT ?_|refine anK ?_|refine Exists.intro _ (And.intro (si _ _ _) ?_)|refine And.intro (fun h => ?_) (fun h => ?_)|refine Or.inl ?_)
 all_goals refine Ends.mk (Or.inl rfl) (ac (congrArg AV.bool ?_))
 all_goals (clear hG; grind [inS])
theorem wF (o : Nat → Int) (a b k : Int) : ae Tryz.prog 100 [.agg (kT o),.agg (aK a b),.int .i64 k] (.bool (oH o a b k)):=by
 refine ag aa Tryz.func100 rfl (by kernel_rfl) af (Nat.le_of_ble_eq_true rfl) ?_
 intro F n' w0 m0 hG hro h1
 repeat' first|refine Q1 ?_|refine Q2 ?_|refine Q3 hG aa oz ?_|refine Q4 hG aa oz ?_|refine Q5 hG aa ?_|refine Q6 hG aa ?_|refine Q7 hG aa ?_|refine Q8 hG aa ?_|refine Q9 rfl ?_|refine QF rfl ?_|refine QC rfl ⟨fun h => ?_,fun h => ?_⟩|((conv => whnf); first|refine anF ?_|refine anT ?_|refine anK ?_|refine Exists.intro _ (And.intro (wZ o) ?_)|refine And.intro (fun h => ?_) (fun h => ?_)|refine Or.inl ?_)
 all_goals refine Ends.mk (Or.inl rfl) (ac (congrArg AV.bool ?_))
 all_goals (clear hG; grind [oH,vP,jz,inS,w64])
theorem yd (a b : Int) : ae Tryz.prog 222 [.agg [.int .i64 a,.int .i64 b]] (.bool (spM a b)):=by
 refine ag aa Tryz.func222 rfl (by kernel_rfl) af (Nat.le_of_ble_eq_true rfl) ?_
 intro F n' w0 m0 hG hro h1
 repeat' first|refine Q1 ?_|refine Q2 ?_|refine Q3 hG aa nA ?_|refine Q4 hG aa nA ?_|refine Q5 hG aa ?_|refine Q6 hG aa ?_|refine Q7 hG aa ?_|refine Q8 hG aa ?_|refine Q9 rfl ?_|refine QF rfl ?_|refine QC rfl ⟨fun h => ?_,fun h => ?_⟩|((conv => whnf); first|refine anF ?_|refine anT ?_|refine anK ?_|refine And.intro (fun h => ?_) (fun h => ?_)|refine Or.inl ?_)
 all_goals refine Ends.mk (Or.inl rfl) (ac (congrArg AV.bool ?_))
 all_goals (clear hG; grind [spM])
set_option maxHeartbeats 4000000 in
theorem AH (o : Opt) (hl : o.sl.length ≤ 1000000) : ae Tryz.prog 200 [.agg (aH o)] (.bool (iY o)):=by
 have hlm : ((o.sl.map aw).length : Int) = (o.sl.length : Int):=by rw [List.length_map]
 refine ag aa Tryz.func200 rfl (by kernel_rfl) af (Nat.le_of_ble_eq_true rfl) ?_
 intro F n' w0 m0 hG hro h1
 repeat' first|refine Q1 ?_|refine Q2 ?_|refine Q3 hG aa ez ?_|refine Q4 hG aa ez ?_|refine Q5 hG aa ?_|refine Q6 hG aa ?_|refine Q7 hG aa ?_|refine Q8 hG aa ?_|refine Q9 rfl ?_|refine QF rfl ?_|refine QC rfl ⟨fun h => ?_,fun h => ?_⟩|((conv => whnf); first|refine anF ?_|refine anT ?_|refine anK ?_|refine Exists.intro _ (And.intro (yd _ _) ?_)|refine And.intro (fun h => ?_) (fun h => ?_)|refine Or.inl ?_)
 all_goals first
  |(refine Ends.mk (Or.inl rfl) (ac (congrArg AV.bool ?_))
    clear hG; rw [hlm] at *; grind [iY,inS,jz,spM])
  | skip
 have hcan : iY o = eO o.b o.sl ∧ 0 ≤ o.b:=by clear hG; rw [hlm] at *; grind [iY,inS,jz,spM]
 obtain ⟨hcan,hb0⟩:=hcan
 rw [hcan]
 refine ar (X:=Nat × Int) (fun x => ⟨[(4,.int .i64 x.1),(3,.int .i64 x.2),(1,.loc 1 0)],[(1,aH o)]⟩) (fun x => x.1 ≤ o.sl.length ∧ 0 ≤ x.2 ∧ eO x.2 (o.sl.drop x.1) = eO o.b o.sl) (fun x => o.sl.length - x.1) (0,o.b) ⟨Nat.zero_le _,hb0,rfl⟩ (ah ?_ ?_) (fun x hx => ?_)
 ·repeat' (first | exact trivial | refine And.intro rfl ?_)
 ·repeat' (first | exact trivial | refine And.intro rfl ?_)
 ·obtain ⟨i,t⟩:=x
  obtain ⟨hi,ht,hf⟩:=hx
  simp only at hi ht hf ⊢
  by_cases hlt_i : i < o.sl.length
  ·have bbk : decide ((i : Int) < ((o.sl.map aw).length : Int)) = false → False:=fun h => by have:=of_decide_eq_false h; simp at this; omega
   have hx:=cR hlt_i
   rw [pD hlt_i] at hf
   generalize o.sl.getD i ⟨0,0,0⟩ = x at hx hf
   repeat' first|exact (bbk (by assumption)).elim|refine Q1 ?_|refine Q2 ?_|refine Q3 hG aa ez ?_|refine Q4 hG aa ez ?_|refine Q5 hG aa ?_|refine Q6 hG aa ?_|refine Q7 hG aa ?_|refine Q8 hG aa ?_|refine Q9 rfl ?_|refine QF rfl ?_|refine QC rfl ⟨fun h => ?_,fun h => ?_⟩|((conv => whnf); first|refine anF ?_|refine anT ?_|refine anK ?_|refine And.intro (Int.natCast_nonneg i) (Exists.intro _ (And.intro hx ?_))|refine And.intro (fun h => ?_) (fun h => ?_)|refine Or.inl ?_)
   all_goals first
    |(refine Ends.mk (Or.inl rfl) (ac (congrArg AV.bool ?_))
      clear hG; rw [← hf]; grind [jz])
    | skip
   refine Exists.intro (i + 1,x.b) (And.intro ⟨hlt_i,by grind,by clear hG; rw [← hf]; grind [jz]⟩ (And.intro (by show o.sl.length - (i + 1) < o.sl.length - i; omega) (ah ?_ ?_)))
   ·refine And.intro (congrArg some (ap (by omega))) ?_
    repeat' (first | exact trivial | refine And.intro rfl ?_)
   ·repeat' (first | exact trivial | refine And.intro rfl ?_)
  ·have bbk : decide ((i : Int) < ((o.sl.map aw).length : Int)) = true → False:=fun h => by have:=of_decide_eq_true h; simp at this; omega
   rw [List.drop_of_length_le (by omega)] at hf
   repeat' first|exact (bbk (by assumption)).elim|refine Q1 ?_|refine Q2 ?_|refine Q3 hG aa ez ?_|refine Q4 hG aa ez ?_|refine Q5 hG aa ?_|refine Q6 hG aa ?_|refine Q7 hG aa ?_|refine Q8 hG aa ?_|refine Q9 rfl ?_|refine QF rfl ?_|refine QC rfl ⟨fun h => ?_,fun h => ?_⟩|((conv => whnf); first|refine anF ?_|refine anT ?_|refine anK ?_|refine And.intro (fun h => ?_) (fun h => ?_)|refine Or.inl ?_)
   exact Ends.mk (Or.inl rfl) (ac (congrArg AV.bool hf))
theorem wI (o : Opt) (k : Nat) (hl : o.sl.length ≤ 1000000) (hc : iY o = true) (hk : k < o.sl.length) : ae Tryz.prog 125 [.agg (aH o),.int .i64 k] (.tup [.agg (fE ⟨o.id,o.size,o.a,(o.sl.getD k ⟨0,0,0⟩).b⟩),.int .i64 0]):=by
 have cc:=AH o hl
 rw [hc] at cc
 have hx:=cR hk
 have hlm : ((o.sl.map aw).length : Int) = (o.sl.length : Int):=by rw [List.length_map]
 have b1 : decide ((k : Int) < 0) = true → False:=fun h => by have:=of_decide_eq_true h; omega
 have b2 : decide ((k : Int) ≥ ((o.sl.map aw).length : Int)) = true → False:=fun h => by have:=of_decide_eq_true h; omega
 refine ag aa Tryz.func125 rfl (by kernel_rfl) af (Nat.le_of_ble_eq_true rfl) ?_
 intro F n' w0 m0 hG hro h1
 repeat' first|exact (b1 (by assumption)).elim|exact (b2 (by assumption)).elim|refine Q1 ?_|refine Q2 ?_|refine Q3 hG aa oi ?_|refine Q4 hG aa oi ?_|refine Q5 hG aa ?_|refine Q6 hG aa ?_|refine Q7 hG aa ?_|refine Q8 hG aa ?_|refine Q9 rfl ?_|refine QF rfl ?_|refine QC rfl ⟨fun h => ?_,fun h => ?_⟩|((conv => whnf); first|refine anF ?_|refine anT ?_|refine anK ?_|refine Exists.intro _ (And.intro (cc) ?_)|refine And.intro (Int.natCast_nonneg k) (Exists.intro _ (And.intro hx ?_))|refine And.intro (fun h => ?_) (fun h => ?_)|refine Or.inl ?_)
 all_goals exact Ends.mk (Or.inl rfl) (ac rfl)
theorem dL (c n : Int) (hn : n ≠ 0) : ae Tryz.prog 143 [.int .i64 c,.int .i64 n] (.int .i64 (am c n)):=by
 refine ag aa Tryz.func143 rfl (by kernel_rfl) af (Nat.le_of_ble_eq_true rfl) ?_
 intro F n' w0 m0 hG hro h1
 repeat' first|refine Q1 ?_|refine Q2 ?_|refine Q3 hG aa oa ?_|refine Q4 hG aa oa ?_|refine Q5 hG aa ?_|refine Q6 hG aa ?_|refine Q7 hG aa ?_|refine Q8 hG aa ?_|refine Q9 rfl ?_|refine QF rfl ?_|refine QC rfl ⟨fun h => ?_,fun h => ?_⟩|((conv => whnf); first|refine anF ?_|refine anT ?_|refine anK ?_|refine And.intro hn ?_|refine And.intro (fun h => ?_) (fun h => ?_)|refine Or.inl ?_)
 all_goals refine Ends.mk (Or.inl rfl) (ac (congrArg (AV.int .i64) ?_))
 all_goals (simp_all [am,w64] <;> omega)
end Go.Proofs
namespace Go.Proofs
open Go Go.AI
set_option maxRecDepth 10000
theorem mU {a b : Int} : eP a b < 0 ↔ a < b:=by unfold eP; split <;> (try split) <;> omega
theorem uw {a b : Int} : eP a b = 0 ↔ a = b:=by unfold eP; split <;> (try split) <;> omega
theorem zi (p q : al) : decide (qq p q < 0) = if p.ca ≠ q.ca then decide (p.ca < q.ca) else if p.sat ≠ q.sat then decide (p.sat < q.sat) else if p.st ≠ q.st then decide (p.st < q.st) else if p.sa ≠ q.sa then decide (p.sa < q.sa) else decide (p.cb < q.cb):=by
 have e1:=mU (a:=p.ca) (b:=q.ca); have z1:=uw (a:=p.ca) (b:=q.ca)
 have e2:=mU (a:=p.sat) (b:=q.sat); have z2:=uw (a:=p.sat) (b:=q.sat)
 have e3:=mU (a:=p.st) (b:=q.st); have z3:=uw (a:=p.st) (b:=q.st)
 have e4:=mU (a:=p.sa) (b:=q.sa); have z4:=uw (a:=p.sa) (b:=q.sa)
 have e5:=mU (a:=p.cb) (b:=q.cb)
 unfold qq
 generalize eP p.ca q.ca = c1 at *
 generalize eP p.sat q.sat = c2 at *
 generalize eP p.st q.st = c3 at *
 generalize eP p.sa q.sa = c4 at *
 generalize eP p.cb q.cb = c5 at *
 simp only [orS]
 grind
theorem uO (p q : al) : ae Tryz.prog 165 [.agg (aG p),.agg (aG q)] (.bool (decide (qq p q < 0))):=by
 rw [zi]
 refine ag aa Tryz.func165 rfl (by kernel_rfl) af (Nat.le_of_ble_eq_true rfl) ?_
 intro F n' w0 m0 hG hro h1
 repeat' first|refine Q1 ?_|refine Q2 ?_|refine Q3 hG aa nV ?_|refine Q4 hG aa nV ?_|refine Q5 hG aa ?_|refine Q6 hG aa ?_|refine Q7 hG aa ?_|refine Q8 hG aa ?_|refine Q9 rfl ?_|refine QF rfl ?_|refine QC rfl ⟨fun h => ?_,fun h => ?_⟩|((conv => whnf); first|refine anF ?_|refine anT ?_|refine anK ?_|refine And.intro (fun h => ?_) (fun h => ?_)|refine Or.inl ?_)
 all_goals refine Ends.mk (Or.inl rfl) (ac (congrArg AV.bool ?_))
 all_goals (clear hG; grind [])
theorem ms {l : List al} {i : Nat} (h : i < l.length) : (l.map aG)[(i : Int).toNat]? = some (aG (aA l i)):=by rw [Int.toNat_natCast]; exact cn h
theorem ei {l : List al} {i : Nat} (h : i < l.length) : aA l i = l[i]:=by simp [aA,List.getElem?_eq_getElem h]
theorem iR (l : List al) : bp l = true ↔ l.length ≤ 64 ∧ (∀ j,j < l.length → bX (aA l j) = true) ∧ ∀ j,j + 1 < l.length → decide (qq (aA l (j + 1)) (aA l j) < 0) = false:=by
 simp only [bp,Br,Bool.and_eq_true,Bool.not_eq_true',List.any_eq_false,List.all_eq_true,List.mem_range,decide_eq_true_eq,Bool.not_eq_true',Bool.not_eq_false',Bool.not_eq_true,Bool.not_eq_false,and_assoc]
 refine and_congr Iff.rfl (and_congr ⟨fun h j hj => ?_,fun h x hx => ?_⟩ ⟨fun h j hj => h j (by omega),fun h j hj => h j (by omega)⟩)
 ·rw [ei hj]; exact h _ (List.getElem_mem hj)
 ·obtain ⟨j,hj,rfl⟩:=List.getElem_of_mem hx
  rw [← ei hj]; exact h j hj
set_option maxHeartbeats 8000000 in
theorem gC (l : List al) (hl : l.length ≤ 1000000) : ae Tryz.prog 90 [ak l] (.bool (bp l)):=by
 have hlm : ((l.map aG).length : Int) = (l.length : Int):=by rw [List.length_map]
 refine ag aa Tryz.func90 rfl (by kernel_rfl) af (Nat.le_of_ble_eq_true rfl) ?_
 intro F n' w0 m0 hG hro h1
 repeat' first|refine Q1 ?_|refine Q2 ?_|refine Q3 hG aa fk ?_|refine Q4 hG aa fk ?_|refine Q5 hG aa ?_|refine Q6 hG aa ?_|refine Q7 hG aa ?_|refine Q8 hG aa ?_|refine Q9 rfl ?_|refine QF rfl ?_|refine QC rfl ⟨fun h => ?_,fun h => ?_⟩|((conv => whnf); first|refine anF ?_|refine anT ?_|refine anK ?_|refine And.intro (fun h => ?_) (fun h => ?_)|refine Or.inl ?_)
 all_goals first
  |(refine Ends.mk (Or.inl rfl) (ac (congrArg AV.bool ?_))
    clear hG; rw [hlm] at *; rw [Bool.eq_iff_iff,iR]; grind)
  | skip
 have h64 : l.length ≤ 64:=by clear hG; rw [hlm] at *; grind
 refine ar (X:=Nat) (fun x => ⟨[(3,.int .i64 x),(0,ak l)],[]⟩) (fun x => x ≤ l.length ∧ (∀ j,j < x → bX (aA l j) = true) ∧ ∀ j,j + 1 < x → decide (qq (aA l (j + 1)) (aA l j) < 0) = false) (fun x => l.length - x) 0 ⟨Nat.zero_le _,fun j h => absurd h (by omega),fun j h => absurd h (by omega)⟩ (ah ?_ ?_) (fun x hx => ?_)
 ·repeat' (first | exact trivial | refine And.intro rfl ?_)
 ·repeat' (first | exact trivial | refine And.intro rfl ?_)
 ·rename Nat => i
  obtain ⟨hi,h1,h2⟩:=hx
  by_cases hlt_i : i < l.length
  ·have bbk : decide ((i : Int) < ((l.map aG).length : Int)) = false → False:=fun h => by have:=of_decide_eq_false h; simp at this; omega
   have hx:=ms hlt_i
   have hpr : decide ((i : Int) > 0) = true → 0 ≤ IntKind.i64.wrap ((i : Int) - 1) ∧ (l.map aG)[(IntKind.i64.wrap ((i : Int) - 1)).toNat]? = some (aG (aA l (i - 1))):=fun h => by
    have h:=of_decide_eq_true h
    have e : IntKind.i64.wrap ((i : Int) - 1) = ((i - 1 : Nat) : Int):=(aq (by omega) (by omega)).trans (by omega)
    rw [e]
    exact ⟨Int.natCast_nonneg _,ms (by omega)⟩
   have bad1 : bX (aA l i) = false → false = bp l:=fun h => by rw [Bool.eq_iff_iff,iR]; simp only [Bool.false_eq_true,false_iff]; exact fun ⟨_,g,_⟩ => tf (g i hlt_i) h
   have bad2 : decide ((i : Int) > 0) = true → decide (qq (aA l i) (aA l (i - 1)) < 0) = true → false = bp l:=fun g0 h => by
    rw [Bool.eq_iff_iff,iR]; simp only [Bool.false_eq_true,false_iff]
    have g0:=of_decide_eq_true g0
    exact fun ⟨_,_,g⟩ => tf h (by have:=g (i - 1) (by omega); rwa [show i - 1 + 1 = i by omega] at this)
   have hok : bX (aA l i) = true → (decide ((i : Int) > 0) = true → decide (qq (aA l i) (aA l (i - 1)) < 0) = false) → i + 1 ≤ l.length ∧ (∀ j,j < i + 1 → bX (aA l j) = true) ∧ ∀ j,j + 1 < i + 1 → decide (qq (aA l (j + 1)) (aA l j) < 0) = false:=fun g1 g2 => by
    refine ⟨hlt_i,fun j hj => ?_,fun j hj => ?_⟩
    ·rcases Nat.lt_or_ge j i with h | h
     ·exact h1 j h
     ·rw [show j = i by omega]; exact g1
    ·rcases Nat.lt_or_ge (j + 1) i with h | h
     ·exact h2 j h
     ·have e : i - 1 = j:=by omega
      have:=g2 (decide_eq_true (by omega))
      rw [e] at this
      rwa [show j + 1 = i by omega]
   generalize aA l i = p at hx bad1 bad2 hok
   generalize aA l (i - 1) = q at hpr bad2 hok
   repeat' first|exact (bbk (by assumption)).elim|refine Q1 ?_|refine Q2 ?_|refine Q3 hG aa fk ?_|refine Q4 hG aa fk ?_|refine Q5 hG aa ?_|refine Q6 hG aa ?_|refine Q7 hG aa ?_|refine Q8 hG aa ?_|refine Q9 rfl ?_|refine QF rfl ?_|refine QC rfl ⟨fun h => ?_,fun h => ?_⟩|((conv => whnf); first|refine anF ?_|refine anT ?_|refine anK ?_|refine And.intro (Int.natCast_nonneg i) (Exists.intro _ (And.intro hx ?_))|refine Exists.intro _ (And.intro (tJ _ _ _) ?_)|refine Exists.intro _ (And.intro (uO _ _) ?_)|refine And.intro (hpr (by assumption)).1 (Exists.intro _ (And.intro (hpr (by assumption)).2 ?_))|refine And.intro (fun h => ?_) (fun h => ?_)|refine Or.inl ?_)
   all_goals first
    |(refine Ends.mk (Or.inl rfl) (ac (congrArg AV.bool ?_))
      clear hG hpr hx h1 h2 hok; first | exact bad2 (by assumption) (by assumption) | (refine bad1 ?_; clear bad1 bad2; grind [bX,inS]))
    | skip
   all_goals (refine Exists.intro (i + 1) (And.intro (hok ?_ ?_) (And.intro (by omega) (ah ?_ ?_))))
   all_goals first
    |(clear hG hpr hx h1 h2 hok bad1 bad2; grind [bX,inS])
    |(refine And.intro (congrArg some (ap (by omega))) ?_; repeat' (first | exact trivial | refine And.intro rfl ?_))
    |(repeat' (first | exact trivial | refine And.intro rfl ?_))
  ·have bbk : decide ((i : Int) < ((l.map aG).length : Int)) = true → False:=fun h => by have:=of_decide_eq_true h; simp at this; omega
   have he : i = l.length:=by omega
   repeat' first|exact (bbk (by assumption)).elim|refine Q1 ?_|refine Q2 ?_|refine Q3 hG aa fk ?_|refine Q4 hG aa fk ?_|refine Q5 hG aa ?_|refine Q6 hG aa ?_|refine Q7 hG aa ?_|refine Q8 hG aa ?_|refine Q9 rfl ?_|refine QF rfl ?_|refine QC rfl ⟨fun h => ?_,fun h => ?_⟩|((conv => whnf); first|refine anF ?_|refine anT ?_|refine anK ?_|refine And.intro (fun h => ?_) (fun h => ?_)|refine Or.inl ?_)
   exact Ends.mk (Or.inl rfl) (ac (congrArg AV.bool (by symm; rw [iR,← he]; exact ⟨by omega,h1,h2⟩)))
theorem vK {a b c : Int} : decide (c ≥ max a b) = (decide (a ≤ c) && decide (b ≤ c)):=by rw [Bool.eq_iff_iff]; simp; omega
set_option maxHeartbeats 16000000 in
theorem nb (s : Nat → Int) (o : Opt) (ps : List al) (hl : o.sl.length ≤ 1000000) (hps : ps.length ≤ 1000000) : ae Tryz.prog 31 [.agg (bg s),.agg (aH o),ak ps] (.bool (gt s && bp ps && dp s o ps)):=by
 have hlm : ((o.sl.map aw).length : Int) = (o.sl.length : Int):=by rw [List.length_map]
 have hpm : ((ps.map aG).length : Int) = (ps.length : Int):=by rw [List.length_map]
 refine ag aa Tryz.func31 rfl (by kernel_rfl) af (Nat.le_of_ble_eq_true rfl) ?_
 intro F n' w0 m0 hG hro h1
 repeat' first|refine Q1 ?_|refine Q2 ?_|refine Q3 hG aa fu ?_|refine Q4 hG aa fu ?_|refine Q5 hG aa ?_|refine Q6 hG aa ?_|refine Q7 hG aa ?_|refine Q8 hG aa ?_|refine Q9 rfl ?_|refine QF rfl ?_|refine QC rfl ⟨fun h => ?_,fun h => ?_⟩|((conv => whnf); first|refine anF ?_|refine anT ?_|refine anK ?_|refine Exists.intro _ (And.intro (wA s) ?_)|refine Exists.intro _ (And.intro (gC ps hps) ?_)|refine Exists.intro _ (And.intro (si _ _ _) ?_)|refine Exists.intro _ (And.intro (wF (iS s) _ _ _) ?_)|refine And.intro (fun h => ?_) (fun h => ?_)|refine Or.inl ?_)
 all_goals first
  |(refine Ends.mk (Or.inl rfl) (ac (congrArg AV.bool ?_))
    clear hG; rw [hlm] at *; rw [Bool.eq_iff_iff]; simp only [dp,mK,ph,w64]; grind)
  | skip
 have hfit : (gt s && bp ps && dp s o ps) = bv s ps o.size o.b o.sl:=by clear hG; rw [hlm] at *; simp only [dp,mK,ph,w64]; grind
 rw [hfit]
 refine ar (X:=Nat × Int) (fun x => ⟨[(8,.int .i64 x.1),(7,.int .i64 x.2),(4,.loc 4 0),(3,.loc 3 0),(2,ak ps)],[(4,aH o),(3,bg s)]⟩) (fun x => x.1 ≤ o.sl.length ∧ bv s ps o.size x.2 (o.sl.drop x.1) = bv s ps o.size o.b o.sl) (fun x => o.sl.length - x.1) (0,o.b) ⟨Nat.zero_le _,rfl⟩ (ah ?_ ?_) (fun x hx => ?_)
 ·repeat' (first | exact trivial | refine And.intro rfl ?_)
 ·repeat' (first | exact trivial | refine And.intro rfl ?_)
 ·obtain ⟨i,t⟩:=x
  obtain ⟨hi,hf⟩:=hx
  simp only at hi hf ⊢
  by_cases hlt_i : i < o.sl.length
  ·have bbk : decide ((i : Int) < ((o.sl.map aw).length : Int)) = false → False:=fun h => by have:=of_decide_eq_false h; simp at this; omega
   have hx:=cR hlt_i
   rw [ma hlt_i] at hf
   generalize o.sl.getD i ⟨0,0,0⟩ = x at hx hf
   have hin : (!inS x.p 0 (IntKind.i64.wrap (((ps.map aG).length : Int) - 1))) = false → 0 ≤ x.p ∧ (ps.map aG)[x.p.toNat]? = some (aG (aA ps x.p.toNat)):=fun h => by
    have h:=mD h
    rw [hpm,show IntKind.i64.wrap ((ps.length : Int) - 1) = (ps.length : Int) - 1 from aq (by omega) (by omega)] at h
    simp only [inS,Bool.and_eq_true,decide_eq_true_eq] at h
    exact ⟨h.1,cn (by omega)⟩
   have hpm' : w64 ((ps.length : Int) - 1) = IntKind.i64.wrap (((ps.map aG).length : Int) - 1):=by rw [hpm]; rfl
   repeat' first|exact (bbk (by assumption)).elim|refine Q1 ?_|refine Q2 ?_|refine Q3 hG aa fu ?_|refine Q4 hG aa fu ?_|refine Q5 hG aa ?_|refine Q6 hG aa ?_|refine Q7 hG aa ?_|refine Q8 hG aa ?_|refine Q9 rfl ?_|refine QF rfl ?_|refine QC rfl ⟨fun h => ?_,fun h => ?_⟩|((conv => whnf); first|refine anF ?_|refine anT ?_|refine anK ?_|refine And.intro (Int.natCast_nonneg i) (Exists.intro _ (And.intro hx ?_))|refine Exists.intro _ (And.intro (si _ _ _) ?_)|refine And.intro (hin (by assumption)).1 (Exists.intro _ (And.intro (hin (by assumption)).2 ?_))|refine And.intro (fun h => ?_) (fun h => ?_)|refine Or.inl ?_)
   all_goals first
    |(refine Ends.mk (Or.inl rfl) (ac (congrArg AV.bool ?_))
      clear hG hx hin; rw [← hf,fO,hpm',vK]; clear hpm' hf hfit; unfold w64; grind)
    | skip
   refine Exists.intro (i + 1,x.b) (And.intro ⟨hlt_i,?_⟩ (And.intro (by show o.sl.length - (i + 1) < o.sl.length - i; omega) (ah ?_ ?_)))
   ·clear hG hx hin
    rw [← hf]
    have hk : fO s ps o.size t x = true:=by rw [fO,hpm',vK]; clear hpm' hf hfit; unfold w64; grind
    rw [hk,Bool.true_and]
   ·refine And.intro (congrArg some (ap (by omega))) ?_
    repeat' (first | exact trivial | refine And.intro rfl ?_)
   ·repeat' (first | exact trivial | refine And.intro rfl ?_)
  ·have bbk : decide ((i : Int) < ((o.sl.map aw).length : Int)) = true → False:=fun h => by have:=of_decide_eq_true h; simp at this; omega
   rw [List.drop_of_length_le (by omega)] at hf
   repeat' first|exact (bbk (by assumption)).elim|refine Q1 ?_|refine Q2 ?_|refine Q3 hG aa fu ?_|refine Q4 hG aa fu ?_|refine Q5 hG aa ?_|refine Q6 hG aa ?_|refine Q7 hG aa ?_|refine Q8 hG aa ?_|refine Q9 rfl ?_|refine QF rfl ?_|refine QC rfl ⟨fun h => ?_,fun h => ?_⟩|((conv => whnf); first|refine anF ?_|refine anT ?_|refine anK ?_|refine And.intro (fun h => ?_) (fun h => ?_)|refine Or.inl ?_)
   exact Ends.mk (Or.inl rfl) (ac (congrArg AV.bool hf))
end Go.Proofs
namespace Go.Proofs
open Go Go.AI
set_option maxRecDepth 10000
theorem ja {l : List Opt} {i : Nat} {p : Opt → Bool} (hi : i ≤ l.length) : (l.take i).any p = true ↔ ∃ j,j < i ∧ p (aF l j) = true:=by
 rw [List.any_eq_true]
 constructor
 ·rintro ⟨x,hx,h⟩
  obtain ⟨j,hj,rfl⟩:=List.getElem_of_mem hx
  rw [List.length_take] at hj
  refine ⟨j,by omega,?_⟩
  rw [cp (by omega)]
  rwa [List.getElem_take] at h
 ·rintro ⟨j,hj,h⟩
  rw [cp (by omega)] at h
  exact ⟨_,List.mem_take_iff_getElem.2 ⟨j,by omega,rfl⟩,h⟩
set_option maxHeartbeats 16000000 in
theorem wE (s : Nat → Int) (l : List Opt) (ps : List al) (a b : Int) (hl : l.length ≤ 1000000) (hs : fc l) (hps : ps.length ≤ 1000000) : ae Tryz.prog 24 [.agg (bg s),aM l,ak ps,.agg (aK a b)] (.bool (aX s l ps a b)):=by
 have hlm : ((l.map aH).length : Int) = (l.length : Int):=by rw [List.length_map]
 refine ag aa Tryz.func24 rfl (by kernel_rfl) af (Nat.le_of_ble_eq_true rfl) ?_
 intro F n' w0 m0 hG hro h1
 repeat' first|refine Q1 ?_|refine Q2 ?_|refine Q3 hG aa cg ?_|refine Q4 hG aa cg ?_|refine Q5 hG aa ?_|refine Q6 hG aa ?_|refine Q7 hG aa ?_|refine Q8 hG aa ?_|refine Q9 rfl ?_|refine QF rfl ?_|refine QC rfl ⟨fun h => ?_,fun h => ?_⟩|((conv => whnf); first|refine anF ?_|refine anT ?_|refine anK ?_|refine Exists.intro _ (And.intro (wA s) ?_)|refine Exists.intro _ (And.intro (gC ps hps) ?_)|refine Exists.intro _ (And.intro (kl _ _) ?_)|refine And.intro (fun h => ?_) (fun h => ?_)|refine Or.inl ?_)
 all_goals first
  |(refine Ends.mk (Or.inl rfl) (ac (congrArg AV.bool ?_))
    clear hG; rw [hlm] at *; simp only [aX,w64]; grind)
  | skip
 have hv : aX s l ps a b = dA s ps a b [] l ∧ gt s = true ∧ bp ps = true:=by clear hG; rw [hlm] at *; simp only [aX,w64]; grind
 obtain ⟨hv,hs1,hp1⟩:=hv
 rw [hv]
 refine ar (X:=Nat) (fun x => ⟨[(9,.int .i64 x),(7,.loc 7 0),(4,.loc 4 0),(1,aM l),(2,ak ps)],[(7,aK a b),(4,bg s)]⟩) (fun x => x ≤ l.length ∧ dA s ps a b (l.take x) (l.drop x) = dA s ps a b [] l) (fun x => l.length - x) 0 ⟨Nat.zero_le _,rfl⟩ (ah ?_ ?_) (fun x hx => ?_)
 ·repeat' (first | exact trivial | refine And.intro rfl ?_)
 ·repeat' (first | exact trivial | refine And.intro rfl ?_)
 ·rename Nat => i
  obtain ⟨hi,hok⟩:=hx
  by_cases hlt_i : i < l.length
  ·have bbk : decide ((i : Int) < ((l.map aH).length : Int)) = false → False:=fun h => by have:=of_decide_eq_false h; simp at this; omega
   have hx:=gh hlt_i
   rw [pt hlt_i] at hok
   have hsx : (aF l i).sl.length ≤ 1000000:=hs _ (by rw [cp hlt_i]; exact List.getElem_mem hlt_i)
   have ja:=@ja l i
   replace ja:=fun p => @ja p hi
   obtain ⟨x0,hxe⟩ : ∃ x,x = aF l i:=⟨_,rfl⟩
   rw [← hxe] at hx hok hsx
   have cP:=nb s x0 ps hsx hps
   rw [hs1,hp1,Bool.true_and,Bool.true_and] at cP
   have hlast : (!dp s x0 ps) = false → 0 ≤ IntKind.i64.wrap (((x0.sl.map aw).length : Int) - 1) ∧ (x0.sl.map aw)[(IntKind.i64.wrap (((x0.sl.map aw).length : Int) - 1)).toNat]? = some [.int .i64 (eh x0 (x0.sl.length - 1)).p,.int .i64 (eh x0 (x0.sl.length - 1)).a,.int .i64 (ff x0)]:=fun h => by
    have hn:=rK (mD h)
    rw [List.length_map,show IntKind.i64.wrap ((x0.sl.length : Int) - 1) = ((x0.sl.length - 1 : Nat) : Int) from (aq (by omega) (by omega)).trans (by omega)]
    exact ⟨Int.natCast_nonneg _,cR (by omega)⟩
   repeat' first|exact (bbk (by assumption)).elim|refine Q1 ?_|refine Q2 ?_|refine Q3 hG aa cg ?_|refine Q4 hG aa cg ?_|refine Q5 hG aa ?_|refine Q6 hG aa ?_|refine Q7 hG aa ?_|refine Q8 hG aa ?_|refine Q9 rfl ?_|refine QF rfl ?_|refine QC rfl ⟨fun h => ?_,fun h => ?_⟩|((conv => whnf); first|refine anF ?_|refine anT ?_|refine anK ?_|refine And.intro (Int.natCast_nonneg i) (Exists.intro _ (And.intro hx ?_))|refine Exists.intro _ (And.intro (cP) ?_)|refine And.intro (hlast (by assumption)).1 (Exists.intro _ (And.intro (hlast (by assumption)).2 ?_))|refine And.intro (fun h => ?_) (fun h => ?_)|refine Or.inl ?_)
   all_goals first
    |(refine Ends.mk (Or.inl rfl) (ac (congrArg AV.bool ?_))
      clear hG hx hlast; rw [← hok,iT]; grind)
    | skip
   refine ar (X:=Nat) (fun x => ⟨[(10,.int .i64 x),(9,.int .i64 i),(7,.loc 7 0),(4,.loc 4 0),(1,aM l),(2,ak ps)],[(7,aK a b),(4,bg s)]⟩) (fun x => x ≤ i ∧ ∀ j,j < x → ((aF l j).id == x0.id) = false) (fun x => i - x) 0 ⟨Nat.zero_le _,fun j h => absurd h (by omega)⟩ (ah ?_ ?_) (fun x hx => ?_)
   ·repeat' (first | exact trivial | refine And.intro rfl ?_)
   ·repeat' (first | exact trivial | refine And.intro rfl ?_)
   ·rename Nat => k
    obtain ⟨hk,hn⟩:=hx
    by_cases hlt_k : k < i
    ·have bbj : decide ((k : Int) < (i : Int)) = false → False:=fun h => by have:=of_decide_eq_false h; simp at this; omega
     have hy:=gh (show k < l.length by omega)
     have bad : ((aF l k).id == x0.id) = true → false = dA s ps a b [] l:=fun h => by
      have : ((l.take i).any fun p => p.id == x0.id) = true:=(ja _).2 ⟨k,hlt_k,h⟩
      rw [← hok,iT,this]; simp
     obtain ⟨y,hye⟩ : ∃ y,y = aF l k:=⟨_,rfl⟩
     rw [← hye] at hy bad
     repeat' first|exact (bbj (by assumption)).elim|refine Q1 ?_|refine Q2 ?_|refine Q3 hG aa cg ?_|refine Q4 hG aa cg ?_|refine Q5 hG aa ?_|refine Q6 hG aa ?_|refine Q7 hG aa ?_|refine Q8 hG aa ?_|refine Q9 rfl ?_|refine QF rfl ?_|refine QC rfl ⟨fun h => ?_,fun h => ?_⟩|((conv => whnf); first|refine anF ?_|refine anT ?_|refine anK ?_|refine And.intro (Int.natCast_nonneg k) (Exists.intro _ (And.intro hy ?_))|refine And.intro (Int.natCast_nonneg i) (Exists.intro _ (And.intro hx ?_))|refine And.intro (fun h => ?_) (fun h => ?_)|refine Or.inl ?_)
     all_goals first
      |(refine Ends.mk (Or.inl rfl) (ac (congrArg AV.bool ?_))
        exact bad (by assumption))
      | skip
     refine Exists.intro (k + 1) (And.intro ⟨hlt_k,fun j hj => ?_⟩ (And.intro (by omega) (ah ?_ ?_)))
     ·rcases Nat.lt_or_ge j k with h | h
      ·exact hn j h
      ·rw [show j = k by omega,← hye]; assumption
     ·refine And.intro (congrArg some (ap (by omega))) ?_
      repeat' (first | exact trivial | refine And.intro rfl ?_)
     ·repeat' (first | exact trivial | refine And.intro rfl ?_)
    ·have bbj : decide ((k : Int) < (i : Int)) = true → False:=fun h => by have:=of_decide_eq_true h; simp at this; omega
     have hany : ((l.take i).any fun p => p.id == x0.id) = false:=by
      rw [← Bool.not_eq_true,ja]
      rintro ⟨j,hj,h⟩
      exact tf h (hn j (by omega))
     repeat' first|exact (bbj (by assumption)).elim|refine Q1 ?_|refine Q2 ?_|refine Q3 hG aa cg ?_|refine Q4 hG aa cg ?_|refine Q5 hG aa ?_|refine Q6 hG aa ?_|refine Q7 hG aa ?_|refine Q8 hG aa ?_|refine Q9 rfl ?_|refine QF rfl ?_|refine QC rfl ⟨fun h => ?_,fun h => ?_⟩|((conv => whnf); first|refine anF ?_|refine anT ?_|refine anK ?_|refine And.intro (fun h => ?_) (fun h => ?_)|refine Or.inl ?_)
     refine Exists.intro (i + 1) (And.intro ⟨hlt_i,?_⟩ (And.intro (by omega) (ah ?_ ?_)))
     ·rw [← hok]
      have hb : iT s ps a b (l.take i) x0 = true:=by clear hG; rw [iT,hany]; grind
      rw [hb,Bool.true_and]
     ·refine And.intro (congrArg some (ap (by omega))) ?_
      repeat' (first | exact trivial | refine And.intro rfl ?_)
     ·repeat' (first | exact trivial | refine And.intro rfl ?_)
  ·have bbk : decide ((i : Int) < ((l.map aH).length : Int)) = true → False:=fun h => by have:=of_decide_eq_true h; simp at this; omega
   rw [List.drop_of_length_le (by omega)] at hok
   repeat' first|exact (bbk (by assumption)).elim|refine Q1 ?_|refine Q2 ?_|refine Q3 hG aa cg ?_|refine Q4 hG aa cg ?_|refine Q5 hG aa ?_|refine Q6 hG aa ?_|refine Q7 hG aa ?_|refine Q8 hG aa ?_|refine Q9 rfl ?_|refine QF rfl ?_|refine QC rfl ⟨fun h => ?_,fun h => ?_⟩|((conv => whnf); first|refine anF ?_|refine anT ?_|refine anK ?_|refine And.intro (fun h => ?_) (fun h => ?_)|refine Or.inl ?_)
   exact Ends.mk (Or.inl rfl) (ac (congrArg AV.bool hok))
end Go.Proofs
namespace Go.Proofs
open Go Go.AI
set_option maxRecDepth 10000
theorem bD {α : Type} {l : List α} {i : Nat} (d : α) (h : i < l.length) : l.take (i + 1) = l.take i ++ [l.getD i d]:=by rw [List.take_add_one,List.getD_eq_getElem?_getD,List.getElem?_eq_getElem h]; rfl
theorem fA {α : Type} {l : List α} {i : Nat} {f : α → List AV} (d : α) (h : i < l.length) : (l.map f)[(i : Int).toNat]? = some (f (l.getD i d)):=by simp [List.getElem?_eq_getElem h]
def prL (l : List aU) : List (Int × Int):=l.map fun x => (x.a,x.b)
def ld0 : ax:=⟨0,0,0⟩
set_option maxHeartbeats 4000000 in
theorem sg (l m : List ax) (hl : l.length ≤ 1000000) : ae Tryz.prog 26 [br l,br m] (.bool (decide (l = m))):=by
 have hlm : ((l.map aD).length : Int) = (l.length : Int):=by rw [List.length_map]
 have hmm : ((m.map aD).length : Int) = (m.length : Int):=by rw [List.length_map]
 refine ag aa Tryz.func26 rfl (by kernel_rfl) af (Nat.le_of_ble_eq_true rfl) ?_
 intro F n' w0 m0 hG hro h1
 repeat' first|refine Q1 ?_|refine Q2 ?_|refine Q3 hG aa fw ?_|refine Q4 hG aa fw ?_|refine Q5 hG aa ?_|refine Q6 hG aa ?_|refine Q7 hG aa ?_|refine Q8 hG aa ?_|refine Q9 rfl ?_|refine QF rfl ?_|refine QC rfl ⟨fun h => ?_,fun h => ?_⟩|((conv => whnf); first|refine anF ?_|refine anT ?_|refine anK ?_|refine And.intro (fun h => ?_) (fun h => ?_)|refine Or.inl ?_)
 all_goals first
  |(refine Ends.mk (Or.inl rfl) (ac (congrArg AV.bool ?_))
    have h:=(by assumption : (((l.map aD).length : Int) != ((m.map aD).length : Int)) = true)
    rw [hlm,hmm] at h
    exact (decide_eq_false fun e => by rw [e] at h; simp at h).symm)
  | skip
 have hll : l.length = m.length:=by
  have h:=(by assumption : (((l.map aD).length : Int) != ((m.map aD).length : Int)) = false)
  rw [hlm,hmm] at h
  simp at h; omega
 refine ar (X:=Nat) (fun x => ⟨[(5,.int .i64 x),(1,br m),(0,br l)],[]⟩) (fun x => x ≤ l.length ∧ l.take x = m.take x) (fun x => l.length - x) 0 ⟨Nat.zero_le _,rfl⟩ (ah ?_ ?_) (fun x hx => ?_)
 ·repeat' (first | exact trivial | refine And.intro rfl ?_)
 ·repeat' (first | exact trivial | refine And.intro rfl ?_)
 ·rename Nat => i
  obtain ⟨hi,ht⟩:=hx
  by_cases hlt_i : i < l.length
  ·have bbk : decide ((i : Int) < ((l.map aD).length : Int)) = false → False:=fun h => by have:=of_decide_eq_false h; simp at this; omega
   have hx:=fA (f:=aD) ld0 hlt_i
   have hy:=fA (f:=aD) ld0 (show i < m.length by omega)
   have hn1:=bD ld0 hlt_i
   have hn2:=bD ld0 (show i < m.length by omega)
   have hne : l.getD i ld0 ≠ m.getD i ld0 → decide (l = m) = false:=fun h => decide_eq_false fun e => h (by rw [e])
   generalize l.getD i ld0 = u at *
   generalize m.getD i ld0 = v at *
   repeat' first|exact (bbk (by assumption)).elim|refine Q1 ?_|refine Q2 ?_|refine Q3 hG aa fw ?_|refine Q4 hG aa fw ?_|refine Q5 hG aa ?_|refine Q6 hG aa ?_|refine Q7 hG aa ?_|refine Q8 hG aa ?_|refine Q9 rfl ?_|refine QF rfl ?_|refine QC rfl ⟨fun h => ?_,fun h => ?_⟩|((conv => whnf); first|refine anF ?_|refine anT ?_|refine anK ?_|refine And.intro (Int.natCast_nonneg i) (Exists.intro _ (And.intro hx ?_))|refine And.intro (Int.natCast_nonneg i) (Exists.intro _ (And.intro hy ?_))|refine And.intro (fun h => ?_) (fun h => ?_)|refine Or.inl ?_)
   all_goals first
    |(refine Ends.mk (Or.inl rfl) (ac (congrArg AV.bool ?_))
      exact (hne fun e => by subst e; have h:=(by assumption : (!_) = true); simp at h).symm)
    | skip
   refine Exists.intro (i + 1) (And.intro ⟨hlt_i,?_⟩ (And.intro (by omega) (ah ?_ ?_)))
   ·rw [hn1,hn2,ht]
    have e : u = v:=by
     have h:=mD (by assumption : (!_) = false)
     cases u; cases v; simp at h; simp [h]
    rw [e]
   ·refine And.intro (congrArg some (ap (by omega))) ?_
    repeat' (first | exact trivial | refine And.intro rfl ?_)
   ·repeat' (first | exact trivial | refine And.intro rfl ?_)
  ·have bbk : decide ((i : Int) < ((l.map aD).length : Int)) = true → False:=fun h => by have:=of_decide_eq_true h; simp at this; omega
   have he : l.take i = l:=List.take_of_length_le (by omega)
   have he2 : m.take i = m:=List.take_of_length_le (by omega)
   rw [he,he2] at ht
   repeat' first|exact (bbk (by assumption)).elim|refine Q1 ?_|refine Q2 ?_|refine Q3 hG aa fw ?_|refine Q4 hG aa fw ?_|refine Q5 hG aa ?_|refine Q6 hG aa ?_|refine Q7 hG aa ?_|refine Q8 hG aa ?_|refine Q9 rfl ?_|refine QF rfl ?_|refine QC rfl ⟨fun h => ?_,fun h => ?_⟩|((conv => whnf); first|refine anF ?_|refine anT ?_|refine anK ?_|refine And.intro (fun h => ?_) (fun h => ?_)|refine Or.inl ?_)
   exact Ends.mk (Or.inl rfl) (ac (congrArg AV.bool (decide_eq_true ht).symm))
def wg (o : Opt) : Opt:={ o with sl:=o.sl.take 7 }
end Go.Proofs
namespace Go.Proofs
open Go Go.AI
set_option maxRecDepth 10000
def Em (k : Nat) (s : St) : St:=⟨hU (AV.dem k) s.t,s.b⟩
theorem wo {Γ : aP} {s : St} {a : Act} {w : World} (k : Nat) (h : Inv Γ s a w) : Inv Γ (Em k s) a w:=by
 obtain ⟨⟨cx,hW,ht⟩,h2,h3,h4⟩:=h
 refine ⟨⟨cx,hW,fun d y hy => ?_⟩,h2,h3,h4⟩
 have hy : get (hU (AV.dem k) s.t) d = some y:=hy
 rw [dT] at hy
 obtain ⟨z,hz,rfl⟩:=Option.map_eq_some_iff.1 hy
 exact (ht d z hz).dem k
theorem SPB.demT {Γ : aP} {s : St} {c : Code} {K : Exit → St → Prop} (k : Nat) (h : SPB Γ (Em k s) c K) : SPB Γ s c K:=⟨fun a w hI => h.out a w (wo k hI)⟩
theorem SPB.loopD {Γ : aP} {s : St} {K : Exit → St → Prop} {c : Code} {X : Type} (k : Nat) (sh : X → St) (I : X → Prop) (μ : X → Nat) (x0 : X) (h0 : I x0) (hle : s.le (sh x0))
  (body : ∀ x,I x → SPB Γ (sh x) c fun e s' => match e with | .normal => ∃ x',I x' ∧ μ x' < μ x ∧ (Em k s').le (sh x') | e => K e s') : SPB Γ s (.loop c) K:=by
 refine ar sh I μ x0 h0 hle fun x hx => ⟨fun a w hI => wpIn_mono ((body x hx).out a w hI) ?_⟩
 rintro e a' w' ⟨hN,hF,s',hI',hK⟩
 cases e with
 | normal => exact ⟨hN,hF,Em k s',wo k hI',hK⟩
 | _ => exact ⟨hN,hF,s',hI',hK⟩
theorem xZ {α : Type} {xs ys : List α} {A B : Prop} (h : m8 xs ys = true) (hA : A) : (bif m8 xs ys then A else B):=by rw [h]; exact hA
theorem FR {α : Type} {xs ys : List α} {A B : Prop} (h : m8 xs ys = false) (h2 : j8 ys = false) (hB : B) : (bif m8 xs ys then A else bif j8 ys then False else B):=by rw [h,h2]; exact hB
def spR (x : Int × Int) : List AV:=[.int .i64 x.1,.int .i64 x.2]
theorem th : ∀ (l : List (Int × Int)) (r : List (Int × Int) × (Int × Int)),(l.foldl gm r).1.length ≤ r.1.length + l.length
 | [],r => by simp
 | x :: l,r => by
  have h:=th l (gm r x)
  have h2 : (gm r x).1.length ≤ r.1.length + 1:=by unfold gm; split <;> simp
  simp only [List.foldl_cons,List.length_cons]; omega
theorem qL {α : Type} (p : α → Bool) : ∀ (l : List α) (q : Nat),q ≤ l.length → (∀ j x,j < q → l[j]? = some x → p x = true) → (∀ x,l[q]? = some x → p x = false) → l.takeWhile p = l.take q ∧ l.dropWhile p = l.drop q
 | [],q,_,_,_ => by simp
 | x :: l,0,_,_,h => by
  have:=h x rfl
  simp [List.takeWhile_cons,List.dropWhile_cons,this]
 | x :: l,q + 1,hq,h1,h2 => by
  have h0:=h1 0 x (by omega) rfl
  obtain ⟨g1,g2⟩:=qL p l q (by simpa using hq) (fun j y hj hy => h1 (j + 1) y (by omega) hy) (fun y hy => h2 y hy)
  simp [List.takeWhile_cons,List.dropWhile_cons,h0,g1,g2]
theorem y8 {next : List (Int × Int)} {s : Int × Int} {q : Nat} (hq : q ≤ next.length) (h1 : ∀ j x,j < q → next[j]? = some x → x.1 < s.1) (h2 : ∀ x,next[q]? = some x → ¬ x.1 < s.1) : vV next s = next.take q ++ s :: next.drop q:=by
 obtain ⟨g1,g2⟩:=qL (fun x => decide (x.1 < s.1)) next q hq (fun j x hj hx => decide_eq_true (h1 j x hj hx)) (fun x hx => decide_eq_false (h2 x hx))
 rw [vV,g1,g2]
theorem sX (out : List (Int × Int)) (s : Int × Int) : (fK out s).length ≤ out.length + 1:=by
 have h:=th out ([],s)
 have h2:=congrArg List.length (List.takeWhile_append_dropWhile (p:=fun x : Int × Int => decide (x.1 < (out.foldl gm ([],s)).2.1)) (l:=(out.foldl gm ([],s)).1))
 simp only [List.length_append,List.length_nil,Nat.zero_add] at h h2
 unfold fK vV
 simp only [List.length_append,List.length_cons]
 omega
set_option maxHeartbeats 8000000 in
theorem qh (l : List (Int × Int)) (hl : l.length ≤ 900000) : ae Tryz.prog 98 [.sl .no 2 (l.map spR)] (.sl .no 2 ((gw l).map spR)):=by
 refine ag aa Tryz.func98 rfl (by kernel_rfl) af (Nat.le_of_ble_eq_true rfl) ?_
 intro F n' w0 m0 hG hro h1
 repeat' first|refine Q1 ?_|refine Q2 ?_|refine Q3 hG aa bh ?_|refine Q4 hG aa bh ?_|refine Q5 hG aa ?_|refine Q6 hG aa ?_|refine Q7 hG aa ?_|refine Q8 hG aa ?_|refine Q9 rfl ?_|refine QF rfl ?_|refine QC rfl ⟨fun h => ?_,fun h => ?_⟩|((conv => whnf); first|refine anF ?_|refine anT ?_|refine anK ?_|refine And.intro (fun h => ?_) (fun h => ?_)|refine Or.inl ?_)
 refine SPB.demT 3 ?_
 refine SPB.loopD 93 (X:=Nat × List (Int × Int)) (fun x => ⟨[(4,.int .i64 x.1),(3,.sl .no 2 (x.2.map spR)),(0,.sl .no 2 (l.map spR))],[]⟩) (fun x => x.1 ≤ l.length ∧ x.2 = (l.take x.1).foldl fK [] ∧ x.2.length ≤ x.1) (fun x => l.length - x.1) (0,[]) ⟨Nat.zero_le _,rfl,Nat.le_refl _⟩ (ah ?_ ?_) (fun x hx => ?_)
 ·repeat' (first | exact trivial | refine And.intro rfl ?_)
 ·repeat' (first | exact trivial | refine And.intro rfl ?_)
 ·obtain ⟨i,out⟩:=x
  obtain ⟨hi,ho,hol⟩:=hx
  simp only at hi ho hol ⊢
  by_cases hlt_i : i < l.length
  ·have bbk : decide ((i : Int) < ((l.map spR).length : Int)) = false → False:=fun h => by have:=of_decide_eq_false h; simp at this; omega
   have hx:=fA (f:=spR) ((0 : Int),(0 : Int)) hlt_i
   have hsn:=bD ((0 : Int),(0 : Int)) hlt_i
   have hsl : (fK out (l.getD i ((0 : Int),(0 : Int)))).length ≤ i + 1:=by have:=sX out (l.getD i ((0 : Int),(0 : Int))); omega
   generalize l.getD i ((0 : Int),(0 : Int)) = s at hx hsn hsl
   repeat' first|exact (bbk (by assumption)).elim|refine Q1 ?_|refine Q2 ?_|refine Q3 hG aa bh ?_|refine Q4 hG aa bh ?_|refine Q5 hG aa ?_|refine Q6 hG aa ?_|refine Q7 hG aa ?_|refine Q8 hG aa ?_|refine Q9 rfl ?_|refine QF rfl ?_|refine QC rfl ⟨fun h => ?_,fun h => ?_⟩|((conv => whnf); first|refine anF ?_|refine anT ?_|refine anK ?_|refine And.intro (Int.natCast_nonneg i) (Exists.intro _ (And.intro hx ?_))|refine And.intro (fun h => ?_) (fun h => ?_)|refine Or.inl ?_)
   refine ar (X:=Nat × List (Int × Int) × (Int × Int)) (fun x => ⟨[(7,.int .i64 x.1),(6,.sl (.id 6) 2 (x.2.1.map spR)),(5,.loc 5 0),(4,.int .i64 i),(3,.sl .no 2 (out.map spR)),(0,.sl .no 2 (l.map spR))],[(5,spR x.2.2)]⟩) (fun x => x.1 ≤ out.length ∧ x.2 = (out.take x.1).foldl gm ([],s) ∧ x.2.1.length ≤ x.1) (fun x => out.length - x.1) (0,[],s) ⟨Nat.zero_le _,rfl,Nat.le_refl _⟩ (ah ?_ ?_) (fun x hx => ?_)
   ·repeat' (first | exact trivial | refine And.intro rfl ?_)
   ·repeat' (first | exact trivial | refine And.intro rfl ?_)
   ·obtain ⟨k,next,s2⟩:=x
    obtain ⟨hk,hr,hnl⟩:=hx
    simp only at hk hr hnl ⊢
    by_cases hlt_k : k < out.length
    ·have bbk : decide ((k : Int) < ((out.map spR).length : Int)) = false → False:=fun h => by have:=of_decide_eq_false h; simp at this; omega
     have hy:=fA (f:=spR) ((0 : Int),(0 : Int)) hlt_k
     have hrn : (out.take (k + 1)).foldl gm ([],s) = gm (next,s2) (out.getD k ((0 : Int),(0 : Int))):=by rw [bD ((0 : Int),(0 : Int)) hlt_k,List.foldl_append,← hr]; rfl
     generalize out.getD k ((0 : Int),(0 : Int)) = y at hy hrn
     rw [show gm (next,s2) y = if y.2 < s2.1 ∨ y.1 > s2.2 then (next ++ [y],s2) else (next,(min s2.1 y.1,max s2.2 y.2)) from rfl] at hrn
     repeat' first|exact (bbk (by assumption)).elim|refine Q1 ?_|refine Q2 ?_|refine Q3 hG aa bh ?_|refine Q4 hG aa bh ?_|refine Q5 hG aa ?_|refine Q6 hG aa ?_|refine Q7 hG aa ?_|refine Q8 hG aa ?_|refine Q9 rfl ?_|refine QF rfl ?_|refine QC rfl ⟨fun h => ?_,fun h => ?_⟩|((conv => whnf); first|refine anF ?_|refine anT ?_|refine anK ?_|refine And.intro (Int.natCast_nonneg k) (Exists.intro _ (And.intro hy ?_))|refine And.intro (show ((next.map spR).length + 1) * 16 ≤ 70368744177664 by rw [List.length_map]; omega) (And.intro (show (next.map spR).length + 1 ≤ 4611686018427387904 by rw [List.length_map]; omega) ?_)|refine And.intro (fun h => ?_) (fun h => ?_)|refine Or.inl ?_)
     all_goals first
      |(refine Exists.intro (k + 1,next ++ [y],s2) (And.intro ⟨hlt_k,?_,?_⟩ (And.intro (by show out.length - (k + 1) < out.length - k; omega) (ah ?_ ?_)))
        ·clear hG; rw [hrn]; symm; apply if_pos; grind
        ·show (next ++ [y]).length ≤ k + 1
         simp; omega
        ·refine And.intro (congrArg some (ap (by omega))) (And.intro (congrArg (fun z => some (AV.sl (.id 6) 2 z)) (show next.map spR ++ [spR y] = (next ++ [y]).map spR by simp)) ?_)
         repeat' (first | exact trivial | refine And.intro rfl ?_)
        ·repeat' (first | exact trivial | refine And.intro rfl ?_))
      |(refine Exists.intro (k + 1,next,(min s2.1 y.1,max s2.2 y.2)) (And.intro ⟨hlt_k,?_,?_⟩ (And.intro (by show out.length - (k + 1) < out.length - k; omega) (ah ?_ ?_)))
        ·clear hG; rw [hrn]; symm; apply if_neg; grind
        ·show next.length ≤ k + 1
         omega
        ·refine And.intro (congrArg some (ap (by omega))) ?_
         repeat' (first | exact trivial | refine And.intro rfl ?_)
        ·repeat' (first | exact trivial | refine And.intro rfl ?_))
    ·have bbk : decide ((k : Int) < ((out.map spR).length : Int)) = true → False:=fun h => by have:=of_decide_eq_true h; simp at this; omega
     have he : out.take k = out:=List.take_of_length_le (by omega)
     rw [he] at hr
     have hst0 : fK out s = vV next s2:=by rw [fK,← hr]
     have hnl2 : next.length ≤ 1000000:=by omega
     repeat' first|exact (bbk (by assumption)).elim|refine Q1 ?_|refine Q2 ?_|refine Q3 hG aa bh ?_|refine Q4 hG aa bh ?_|refine Q5 hG aa ?_|refine Q6 hG aa ?_|refine Q7 hG aa ?_|refine Q8 hG aa ?_|refine Q9 rfl ?_|refine QF rfl ?_|refine QC rfl ⟨fun h => ?_,fun h => ?_⟩|((conv => whnf); first|refine anF ?_|refine anT ?_|refine anK ?_|refine And.intro (fun h => ?_) (fun h => ?_)|refine Or.inl ?_)
     refine ar (X:=Nat) (fun x => ⟨[(8,.int .i64 x),(6,.sl (.id 6) 2 (next.map spR)),(5,.loc 5 0),(4,.int .i64 i),(0,.sl .no 2 (l.map spR))],[(5,spR s2)]⟩) (fun x => x ≤ next.length ∧ ∀ j x0,j < x → next[j]? = some x0 → x0.1 < s2.1) (fun x => next.length - x) 0 ⟨Nat.zero_le _,fun j x0 hj => absurd hj (Nat.not_lt_zero j)⟩ (ah ?_ ?_) (fun x hx => ?_)
     ·repeat' (first | exact trivial | refine And.intro rfl ?_)
     ·repeat' (first | exact trivial | refine And.intro rfl ?_)
     ·rename Nat => q
      obtain ⟨hq,hw⟩:=hx
      have hqle : (q : Int).toNat ≤ (next.map spR).length:=by rw [List.length_map]; exact hq
      have hmap : List.drop 0 (List.take (q : Int).toNat (next.map spR)) ++ ([spR s2] ++ List.drop (q : Int).toNat (List.take (next.map spR).length (next.map spR))) = (next.take q ++ s2 :: next.drop q).map spR:=by
       rw [List.take_length,Int.toNat_natCast,List.drop_zero,List.map_append,List.map_cons,List.map_take,List.map_drop]; rfl
      by_cases hlt_q : q < next.length
      ·have bbq : decide ((q : Int) < ((next.map spR).length : Int)) = false → False:=fun h => by have:=of_decide_eq_false h; simp at this; omega
       have hy:=fA (f:=spR) ((0 : Int),(0 : Int)) hlt_q
       have hg : next[q]? = some (next.getD q ((0 : Int),(0 : Int))):=by rw [List.getD_eq_getElem?_getD,List.getElem?_eq_getElem hlt_q]; rfl
       have hap : m8 [spR s2] (List.drop (q : Int).toNat (List.take (next.map spR).length (next.map spR))) = true:=uG (by rw [List.take_length,Int.toNat_natCast,List.drop_eq_getElem_cons (by rw [List.length_map]; exact hlt_q)]; rfl)
       generalize next.getD q ((0 : Int),(0 : Int)) = y at hy hg
       repeat' first|exact (bbq (by assumption)).elim|refine Q1 ?_|refine Q2 ?_|refine Q3 hG aa bh ?_|refine Q4 hG aa bh ?_|refine Q5 hG aa ?_|refine Q6 hG aa ?_|refine Q7 hG aa ?_|refine Q8 hG aa ?_|refine Q9 rfl ?_|refine QF rfl ?_|refine QC rfl ⟨fun h => ?_,fun h => ?_⟩|((conv => whnf); first|refine anF ?_|refine anT ?_|refine anK ?_|refine And.intro (Int.natCast_nonneg q) (Exists.intro _ (And.intro hy ?_))|refine xZ hap ?_|refine xZ (uG rfl) ?_|refine And.intro (Int.natCast_nonneg q) ?_|refine And.intro (Nat.zero_le _) ?_|refine And.intro hqle ?_|refine And.intro (Nat.le_refl _) ?_|refine And.intro (show _ * 16 ≤ 70368744177664 by simp only [List.length_append,List.length_cons,List.length_nil,List.length_drop,List.length_take,List.length_map]; omega) ?_|refine And.intro (show _ ≤ 4611686018427387904 by simp only [List.length_append,List.length_cons,List.length_nil,List.length_drop,List.length_take,List.length_map]; omega) ?_|refine And.intro (fun h => ?_) (fun h => ?_)|refine Or.inl ?_)
       all_goals first
        |(refine Exists.intro (q + 1) (And.intro ⟨hlt_q,fun j x0 hj hx0 => ?_⟩ (And.intro (by omega) (ah ?_ ?_)))
          ·rcases Nat.lt_or_ge j q with h | h
           ·exact hw j x0 h hx0
           ·have e : j = q:=by omega
            rw [e,hg] at hx0
            cases hx0
            exact of_decide_eq_true (by assumption)
          ·refine And.intro (congrArg some (ap (by omega))) ?_
           repeat' (first | exact trivial | refine And.intro rfl ?_)
          ·repeat' (first | exact trivial | refine And.intro rfl ?_))
        |(have hst : fK out s = next.take q ++ s2 :: next.drop q:=by
           rw [hst0]
           refine y8 hq hw fun x0 hx0 => ?_
           rw [hg] at hx0
           cases hx0
           exact of_decide_eq_false (by assumption)
          conv => whnf
          refine Exists.intro (i + 1,next.take q ++ s2 :: next.drop q) (And.intro ⟨hlt_i,?_,?_⟩ (And.intro (by show l.length - (i + 1) < l.length - i; omega) (ah ?_ ?_)))
          ·rw [hsn,List.foldl_append,← ho]; exact hst.symm
          ·rw [← hst]; exact hsl
          ·refine And.intro (congrArg some (ap (by omega))) (And.intro (congrArg (fun z => some (AV.sl .no 2 z)) hmap) ?_)
           repeat' (first | exact trivial | refine And.intro rfl ?_)
          ·repeat' (first | exact trivial | refine And.intro rfl ?_))
      ·have bbq : decide ((q : Int) < ((next.map spR).length : Int)) = true → False:=fun h => by have:=of_decide_eq_true h; simp at this; omega
       have hdr : List.drop (q : Int).toNat (List.take (next.map spR).length (next.map spR)) = []:=by rw [List.take_length,Int.toNat_natCast,List.drop_of_length_le (by rw [List.length_map]; omega)]
       have hap : m8 [spR s2] (List.drop (q : Int).toNat (List.take (next.map spR).length (next.map spR))) = false:=by rw [hdr]; rfl
       have hnn : j8 (List.drop (q : Int).toNat (List.take (next.map spR).length (next.map spR))) = false:=by rw [hdr]; rfl
       rw [hdr,List.append_nil] at hmap
       repeat' first|exact (bbq (by assumption)).elim|refine Q1 ?_|refine Q2 ?_|refine Q3 hG aa bh ?_|refine Q4 hG aa bh ?_|refine Q5 hG aa ?_|refine Q6 hG aa ?_|refine Q7 hG aa ?_|refine Q8 hG aa ?_|refine Q9 rfl ?_|refine QF rfl ?_|refine QC rfl ⟨fun h => ?_,fun h => ?_⟩|((conv => whnf); first|refine anF ?_|refine anT ?_|refine anK ?_|refine FR hap hnn ?_|refine xZ (uG rfl) ?_|refine And.intro (Int.natCast_nonneg q) ?_|refine And.intro (Nat.zero_le _) ?_|refine And.intro hqle ?_|refine And.intro (Nat.le_refl _) ?_|refine And.intro (show _ * 16 ≤ 70368744177664 by simp only [List.length_append,List.length_cons,List.length_nil,List.length_drop,List.length_take,List.length_map]; omega) ?_|refine And.intro (show _ ≤ 4611686018427387904 by simp only [List.length_append,List.length_cons,List.length_nil,List.length_drop,List.length_take,List.length_map]; omega) ?_|refine And.intro (fun h => ?_) (fun h => ?_)|refine Or.inl ?_)
       have hst : fK out s = next.take q ++ s2 :: next.drop q:=by
        rw [hst0]
        refine y8 hq hw fun x0 hx0 => ?_
        rw [List.getElem?_eq_none (by omega)] at hx0
        cases hx0
       conv => whnf
       refine Exists.intro (i + 1,next.take q ++ s2 :: next.drop q) (And.intro ⟨hlt_i,?_,?_⟩ (And.intro (by show l.length - (i + 1) < l.length - i; omega) (ah ?_ ?_)))
       ·rw [hsn,List.foldl_append,← ho]; exact hst.symm
       ·rw [← hst]; exact hsl
       ·refine And.intro (congrArg some (ap (by omega))) (And.intro (congrArg (fun z => some (AV.sl .no 2 z)) hmap) ?_)
        repeat' (first | exact trivial | refine And.intro rfl ?_)
       ·repeat' (first | exact trivial | refine And.intro rfl ?_)
  ·have bbk : decide ((i : Int) < ((l.map spR).length : Int)) = true → False:=fun h => by have:=of_decide_eq_true h; simp at this; omega
   have he : l.take i = l:=List.take_of_length_le (by omega)
   rw [he] at ho
   repeat' first|exact (bbk (by assumption)).elim|refine Q1 ?_|refine Q2 ?_|refine Q3 hG aa bh ?_|refine Q4 hG aa bh ?_|refine Q5 hG aa ?_|refine Q6 hG aa ?_|refine Q7 hG aa ?_|refine Q8 hG aa ?_|refine Q9 rfl ?_|refine QF rfl ?_|refine QC rfl ⟨fun h => ?_,fun h => ?_⟩|((conv => whnf); first|refine anF ?_|refine anT ?_|refine anK ?_|refine And.intro (fun h => ?_) (fun h => ?_)|refine Or.inl ?_)
   exact Ends.mk (Or.inl rfl) (ac (by rw [ho]; rfl))
end Go.Proofs
namespace Go.Proofs
open Go Go.AI
set_option maxRecDepth 10000
theorem kA {l : List Opt} (h : ¬ dI l) : aL l = []:=by
 unfold aL
 rw [if_pos]
 cases hb : uD l with
 | true => rfl
 | false => exact absurd (rE.1 hb) h
def okO (o : Opt) : Prop:=(0 ≤ o.a ∧ o.a < o.b ∧ o.b ≤ 1000000 ∧ o.sl.length ≤ 6) ∧ ∀ x ∈ o.sl,0 ≤ x.a ∧ x.a < x.b ∧ x.b ≤ 1000000
theorem xt (l : List Opt) (x : Opt) : bu (l ++ [x]) = bu l ++ prL x.sl:=by simp [bu,prL]
theorem xq (l : List Opt) (x : Opt) : fL (l ++ [x]) = fL l ++ [(x.a,x.b)]:=by simp [fL]
theorem pB (l : List (Int × Int)) : (gw l).length ≤ l.length:=by
 have : ∀ (l out : List (Int × Int)),(l.foldl fK out).length ≤ out.length + l.length:=fun l => by
  induction l with
  | nil => intro out; simp
  | cons x l ih =>
   intro out
   have h1:=ih (fK out x)
   have h2:=sX out x
   simp only [List.foldl_cons,List.length_cons]; omega
 show (l.foldl fK []).length ≤ l.length
 simpa using this l []
set_option maxHeartbeats 8000000 in
theorem wG (l : List Opt) (hl : l.length ≤ 1000000) (hs : fc l) : ae Tryz.prog 28 [aM l] (br (aL l)):=by
 have hlm : ((l.map aH).length : Int) = (l.length : Int):=by rw [List.length_map]
 refine ag aa Tryz.func28 rfl (by kernel_rfl) af (Nat.le_of_ble_eq_true rfl) ?_
 intro F n' w0 m0 hG hro h1
 repeat' first|refine Q1 ?_|refine Q2 ?_|refine Q3 hG aa aV ?_|refine Q4 hG aa aV ?_|refine Q5 hG aa ?_|refine Q6 hG aa ?_|refine Q7 hG aa ?_|refine Q8 hG aa ?_|refine Q9 rfl ?_|refine QF rfl ?_|refine QC rfl ⟨fun h => ?_,fun h => ?_⟩|((conv => whnf); first|refine anF ?_|refine anT ?_|refine anK ?_|refine And.intro (fun h => ?_) (fun h => ?_)|refine Or.inl ?_)
 ·have h:=of_decide_eq_true (by assumption : decide (((l.map aH).length : Int) > 8) = true)
  refine Ends.mk (Or.inl rfl) (ac ?_)
  rw [kA fun g => by have:=g.n; omega]
  rfl
 have h8 : l.length ≤ 8:=by
  have h:=of_decide_eq_false (by assumption : decide (((l.map aH).length : Int) > 8) = false)
  omega
 refine ar (X:=Nat) (fun x => ⟨[(5,.int .i64 x),(4,.sl (.id 4) 2 ((bu (l.take x)).map spR)),(3,.sl (.id 3) 2 ((fL (l.take x)).map spR)),(0,aM l)],[]⟩) (fun x => x ≤ l.length ∧ ∀ z ∈ l.take x,okO z) (fun x => l.length - x) 0 ⟨Nat.zero_le _,by simp⟩ (ah ?_ ?_) (fun x hx => ?_)
 ·repeat' (first | exact trivial | refine And.intro rfl ?_)
 ·repeat' (first | exact trivial | refine And.intro rfl ?_)
 ·rename Nat => i
  obtain ⟨hi,hgi⟩:=hx
  have hsl : (bu (l.take i)).length ≤ 48:=by
   have:=rJ 6 (l.take i) fun o ho => (hgi o ho).1.2.2.2
   rw [qv,List.length_map,List.length_take] at this
   omega
  have hpl : (fL (l.take i)).length ≤ 8:=by simp [fL]; omega
  by_cases hlt_i : i < l.length
  ·have bbk : decide ((i : Int) < ((l.map aH).length : Int)) = false → False:=fun h => by have:=of_decide_eq_false h; simp at this; omega
   have hx:=gh hlt_i
   have hxm : aF l i ∈ l:=by rw [cp hlt_i]; exact List.getElem_mem hlt_i
   have hsn : l.take (i + 1) = l.take i ++ [aF l i]:=bD lG hlt_i
   obtain ⟨x0,hx0⟩ : ∃ x,x = aF l i:=⟨_,rfl⟩
   rw [← hx0] at hx hxm hsn
   have hrow : (fL (l.take i)).map spR ++ [spR (x0.a,x0.b)] = (fL (l.take (i + 1))).map spR:=by rw [hsn,xq]; simp
   repeat' first|exact (bbk (by assumption)).elim|refine Q1 ?_|refine Q2 ?_|refine Q3 hG aa aV ?_|refine Q4 hG aa aV ?_|refine Q5 hG aa ?_|refine Q6 hG aa ?_|refine Q7 hG aa ?_|refine Q8 hG aa ?_|refine Q9 rfl ?_|refine QF rfl ?_|refine QC rfl ⟨fun h => ?_,fun h => ?_⟩|((conv => whnf); first|refine anF ?_|refine anT ?_|refine anK ?_|refine And.intro (Int.natCast_nonneg i) (Exists.intro _ (And.intro hx ?_))|refine Exists.intro _ (And.intro (kl _ _) ?_)|refine And.intro (show (((fL (l.take i)).map spR).length + 1) * 16 ≤ 70368744177664 by rw [List.length_map]; omega) (And.intro (show ((fL (l.take i)).map spR).length + 1 ≤ 4611686018427387904 by rw [List.length_map]; omega) ?_)|refine And.intro (fun h => ?_) (fun h => ?_)|refine Or.inl ?_)
   all_goals first
    |(have hb:=zO (by assumption : (!bE x0.a x0.b) = true)
      refine Ends.mk (Or.inl rfl) (ac ?_)
      rw [kA fun g => by have:=g.shot x0 hxm; rw [dy.2 ⟨this.1,this.2.1,this.2.2.1⟩] at hb; cases hb]
      rfl)
    |(have hb:=of_decide_eq_true (by assumption : decide (((x0.sl.map aw).length : Int) > 6) = true)
      rw [List.length_map] at hb
      refine Ends.mk (Or.inl rfl) (ac ?_)
      rw [kA fun g => by have:=g.shot x0 hxm; omega]
      rfl)
    | skip
   have hb:=dy.1 (mD (by assumption : (!bE x0.a x0.b) = false))
   have hb2:=of_decide_eq_false (by assumption : decide (((x0.sl.map aw).length : Int) > 6) = false)
   rw [List.length_map] at hb2
   have hshot : 0 ≤ x0.a ∧ x0.a < x0.b ∧ x0.b ≤ 1000000 ∧ x0.sl.length ≤ 6:=by omega
   refine ar (X:=Nat) (fun x => ⟨[(6,.int .i64 x),(5,.int .i64 i),(4,.sl (.id 4) 2 ((bu (l.take i) ++ prL (x0.sl.take x)).map spR)),(3,.sl (.id 3) 2 ((fL (l.take (i + 1))).map spR)),(0,aM l)],[]⟩) (fun x => x ≤ x0.sl.length ∧ ∀ y ∈ x0.sl.take x,0 ≤ y.a ∧ y.a < y.b ∧ y.b ≤ 1000000) (fun x => x0.sl.length - x) 0 ⟨Nat.zero_le _,by simp⟩ (ah ?_ ?_) (fun x hx => ?_)
   ·refine And.intro rfl (And.intro rfl (And.intro (congrArg (fun z => some (AV.sl (.id 4) 2 z)) (by simp [prL])) (And.intro (congrArg (fun z => some (AV.sl (.id 3) 2 z)) hrow) ?_)))
    repeat' (first | exact trivial | refine And.intro rfl ?_)
   ·repeat' (first | exact trivial | refine And.intro rfl ?_)
   ·rename Nat => k
    obtain ⟨hk,hgk⟩:=hx
    by_cases hlt_k : k < x0.sl.length
    ·have bbk : decide ((k : Int) < ((x0.sl.map aw).length : Int)) = false → False:=fun h => by have:=of_decide_eq_false h; simp at this; omega
     have hy : (x0.sl.map aw)[(k : Int).toNat]? = some (aw (x0.sl.getD k qQ)):=cR hlt_k
     have hym : x0.sl.getD k qQ ∈ x0.sl:=by rw [List.getD_eq_getElem?_getD,List.getElem?_eq_getElem hlt_k]; exact List.getElem_mem hlt_k
     have hkn:=bD qQ hlt_k
     have hln : (bu (l.take i) ++ prL (x0.sl.take k)).length ≤ 1000:=by
      have : (prL (x0.sl.take k)).length ≤ 6:=by simp [prL]; omega
      rw [List.length_append]; omega
     generalize x0.sl.getD k qQ = y at hy hym hkn
     repeat' first|exact (bbk (by assumption)).elim|refine Q1 ?_|refine Q2 ?_|refine Q3 hG aa aV ?_|refine Q4 hG aa aV ?_|refine Q5 hG aa ?_|refine Q6 hG aa ?_|refine Q7 hG aa ?_|refine Q8 hG aa ?_|refine Q9 rfl ?_|refine QF rfl ?_|refine QC rfl ⟨fun h => ?_,fun h => ?_⟩|((conv => whnf); first|refine anF ?_|refine anT ?_|refine anK ?_|refine And.intro (Int.natCast_nonneg k) (Exists.intro _ (And.intro hy ?_))|refine And.intro (Int.natCast_nonneg i) (Exists.intro _ (And.intro hx ?_))|refine Exists.intro _ (And.intro (kl _ _) ?_)|refine And.intro (show (((bu (l.take i) ++ prL (x0.sl.take k)).map spR).length + 1) * 16 ≤ 70368744177664 by rw [List.length_map]; omega) (And.intro (show ((bu (l.take i) ++ prL (x0.sl.take k)).map spR).length + 1 ≤ 4611686018427387904 by rw [List.length_map]; omega) ?_)|refine And.intro (fun h => ?_) (fun h => ?_)|refine Or.inl ?_)
     all_goals first
      |(have hb:=zO (by assumption : (!bE y.a y.b) = true)
        refine Ends.mk (Or.inl rfl) (ac ?_)
        rw [kA fun g => by have:=g.slot x0 hxm y hym; rw [dy.2 this] at hb; cases hb]
        rfl)
      | skip
     have hb:=dy.1 (mD (by assumption : (!bE y.a y.b) = false))
     refine Exists.intro (k + 1) (And.intro ⟨hlt_k,?_⟩ (And.intro (by omega) (ah ?_ ?_)))
     ·rw [hkn]; intro z hz
      rcases List.mem_append.1 hz with hz | hz
      ·exact hgk z hz
      ·rw [List.mem_singleton.1 hz]; exact hb
     ·refine And.intro (congrArg some (ap (by omega))) (And.intro rfl (And.intro (congrArg (fun z => some (AV.sl (.id 4) 2 z)) (show (bu (l.take i) ++ prL (x0.sl.take k)).map spR ++ [spR (y.a,y.b)] = _ by rw [hkn]; simp [prL])) ?_))
      repeat' (first | exact trivial | refine And.intro rfl ?_)
     ·repeat' (first | exact trivial | refine And.intro rfl ?_)
    ·have bbk : decide ((k : Int) < ((x0.sl.map aw).length : Int)) = true → False:=fun h => by have:=of_decide_eq_true h; simp at this; omega
     have he : x0.sl.take k = x0.sl:=List.take_of_length_le (by omega)
     rw [he] at hgk
     repeat' first|exact (bbk (by assumption)).elim|refine Q1 ?_|refine Q2 ?_|refine Q3 hG aa aV ?_|refine Q4 hG aa aV ?_|refine Q5 hG aa ?_|refine Q6 hG aa ?_|refine Q7 hG aa ?_|refine Q8 hG aa ?_|refine Q9 rfl ?_|refine QF rfl ?_|refine QC rfl ⟨fun h => ?_,fun h => ?_⟩|((conv => whnf); first|refine anF ?_|refine anT ?_|refine anK ?_|refine And.intro (Int.natCast_nonneg i) (Exists.intro _ (And.intro hx ?_))|refine And.intro (fun h => ?_) (fun h => ?_)|refine Or.inl ?_)
     conv => whnf
     refine Exists.intro (i + 1) (And.intro ⟨hlt_i,?_⟩ (And.intro (by omega) (ah ?_ ?_)))
     ·rw [hsn]; intro z hz
      rcases List.mem_append.1 hz with hz | hz
      ·exact hgi z hz
      ·rw [List.mem_singleton.1 hz]; exact ⟨hshot,hgk⟩
     ·refine And.intro (congrArg some (ap (by omega))) (And.intro (congrArg (fun z => some (AV.sl (.id 4) 2 z)) (by rw [he,hsn,xt])) ?_)
      repeat' (first | exact trivial | refine And.intro rfl ?_)
     ·repeat' (first | exact trivial | refine And.intro rfl ?_)
  ·have bbk : decide ((i : Int) < ((l.map aH).length : Int)) = true → False:=fun h => by have:=of_decide_eq_true h; simp at this; omega
   have he : l.take i = l:=List.take_of_length_le (by omega)
   rw [he] at hgi
   have hgood : dI l:=⟨h8,fun o ho => (hgi o ho).1,fun o ho => (hgi o ho).2⟩
   rw [he] at hsl hpl
   rw [he]
   obtain ⟨xs,hxs⟩ : ∃ xs,xs = gw (fL l):=⟨_,rfl⟩
   obtain ⟨ys,hys⟩ : ∃ ys,ys = gw (bu l):=⟨_,rfl⟩
   have hxl : xs.length ≤ 8:=by rw [hxs]; exact Nat.le_trans (pB _) hpl
   have hyl : ys.length ≤ 48:=by rw [hys]; exact Nat.le_trans (pB _) hsl
   have c1:=qh (fL l) (by omega)
   have c2:=qh (bu l) (by omega)
   have hjl : (gw (fL l)).length ≤ 8:=by rw [← hxs]; exact hxl
   rw [← hxs] at c1
   rw [← hys] at c2
   repeat' first|exact (bbk (by assumption)).elim|refine Q1 ?_|refine Q2 ?_|refine Q3 hG aa aV ?_|refine Q4 hG aa aV ?_|refine Q5 hG aa ?_|refine Q6 hG aa ?_|refine Q7 hG aa ?_|refine Q8 hG aa ?_|refine Q9 rfl ?_|refine QF rfl ?_|refine QC rfl ⟨fun h => ?_,fun h => ?_⟩|((conv => whnf); first|refine anF ?_|refine anT ?_|refine anK ?_|refine Exists.intro _ (And.intro (c1) ?_)|refine Exists.intro _ (And.intro (c2) ?_)|refine And.intro (fun h => ?_) (fun h => ?_)|refine Or.inl ?_)
   refine ar (X:=Nat) (fun x => ⟨[(8,.int .i64 x),(7,.sl (.id 7) 3 (((xs.take x).map (mkK 1)).map aD)),(4,.sl .no 2 (ys.map spR)),(3,.sl .no 2 (xs.map spR))],[]⟩) (fun x => x ≤ xs.length) (fun x => xs.length - x) 0 (Nat.zero_le _) (ah ?_ ?_) (fun x hx => ?_)
   ·repeat' (first | exact trivial | refine And.intro rfl ?_)
   ·repeat' (first | exact trivial | refine And.intro rfl ?_)
   ·rename Nat => i
    have hi:=hx
    by_cases hlt_i : i < xs.length
    ·have bbk : decide ((i : Int) < ((xs.map spR).length : Int)) = false → False:=fun h => by have:=of_decide_eq_false h; simp at this; omega
     have hx:=fA (f:=spR) ((0 : Int),(0 : Int)) hlt_i
     have hsn:=bD ((0 : Int),(0 : Int)) hlt_i
     have hln : ((xs.take i).map (mkK 1)).length ≤ 1000:=by simp; omega
     generalize xs.getD i ((0 : Int),(0 : Int)) = s at hx hsn
     repeat' first|exact (bbk (by assumption)).elim|refine Q1 ?_|refine Q2 ?_|refine Q3 hG aa aV ?_|refine Q4 hG aa aV ?_|refine Q5 hG aa ?_|refine Q6 hG aa ?_|refine Q7 hG aa ?_|refine Q8 hG aa ?_|refine Q9 rfl ?_|refine QF rfl ?_|refine QC rfl ⟨fun h => ?_,fun h => ?_⟩|((conv => whnf); first|refine anF ?_|refine anT ?_|refine anK ?_|refine And.intro (Int.natCast_nonneg i) (Exists.intro _ (And.intro hx ?_))|refine And.intro (show ((((xs.take i).map (mkK 1)).map aD).length + 1) * 24 ≤ 70368744177664 by rw [List.length_map]; omega) (And.intro (show (((xs.take i).map (mkK 1)).map aD).length + 1 ≤ 4611686018427387904 by rw [List.length_map]; omega) ?_)|refine And.intro (fun h => ?_) (fun h => ?_)|refine Or.inl ?_)
     refine Exists.intro (i + 1) (And.intro hlt_i (And.intro (by omega) (ah ?_ ?_)))
     ·refine And.intro (congrArg some (ap (by omega))) (And.intro (congrArg (fun z => some (AV.sl (.id 7) 3 z)) (show ((xs.take i).map (mkK 1)).map aD ++ [aD (mkK 1 s)] = _ by rw [hsn]; simp)) ?_)
      repeat' (first | exact trivial | refine And.intro rfl ?_)
     ·repeat' (first | exact trivial | refine And.intro rfl ?_)
    ·have bbk : decide ((i : Int) < ((xs.map spR).length : Int)) = true → False:=fun h => by have:=of_decide_eq_true h; simp at this; omega
     have he : xs.take i = xs:=List.take_of_length_le (by omega)
     rw [he]
     repeat' first|exact (bbk (by assumption)).elim|refine Q1 ?_|refine Q2 ?_|refine Q3 hG aa aV ?_|refine Q4 hG aa aV ?_|refine Q5 hG aa ?_|refine Q6 hG aa ?_|refine Q7 hG aa ?_|refine Q8 hG aa ?_|refine Q9 rfl ?_|refine QF rfl ?_|refine QC rfl ⟨fun h => ?_,fun h => ?_⟩|((conv => whnf); first|refine anF ?_|refine anT ?_|refine anK ?_|refine And.intro (fun h => ?_) (fun h => ?_)|refine Or.inl ?_)
     refine ar (X:=Nat) (fun x => ⟨[(9,.int .i64 x),(7,.sl (.id 7) 3 ((xs.map (mkK 1) ++ (ys.take x).map (mkK 2)).map aD)),(4,.sl .no 2 (ys.map spR))],[]⟩) (fun x => x ≤ ys.length) (fun x => ys.length - x) 0 (Nat.zero_le _) (ah (And.intro rfl (And.intro (congrArg (fun z => some (AV.sl (.id 7) 3 z)) (by simp)) ?_)) ?_) (fun x hx => ?_)
     ·repeat' (first | exact trivial | refine And.intro rfl ?_)
     ·repeat' (first | exact trivial | refine And.intro rfl ?_)
     ·rename Nat => i
      have hi:=hx
      by_cases hlt_i : i < ys.length
      ·have bbk : decide ((i : Int) < ((ys.map spR).length : Int)) = false → False:=fun h => by have:=of_decide_eq_false h; simp at this; omega
       have hx:=fA (f:=spR) ((0 : Int),(0 : Int)) hlt_i
       have hsn:=bD ((0 : Int),(0 : Int)) hlt_i
       have hln : (xs.map (mkK 1) ++ (ys.take i).map (mkK 2)).length ≤ 1000:=by simp; omega
       generalize ys.getD i ((0 : Int),(0 : Int)) = s at hx hsn
       repeat' first|exact (bbk (by assumption)).elim|refine Q1 ?_|refine Q2 ?_|refine Q3 hG aa aV ?_|refine Q4 hG aa aV ?_|refine Q5 hG aa ?_|refine Q6 hG aa ?_|refine Q7 hG aa ?_|refine Q8 hG aa ?_|refine Q9 rfl ?_|refine QF rfl ?_|refine QC rfl ⟨fun h => ?_,fun h => ?_⟩|((conv => whnf); first|refine anF ?_|refine anT ?_|refine anK ?_|refine And.intro (Int.natCast_nonneg i) (Exists.intro _ (And.intro hx ?_))|refine And.intro (show (((xs.map (mkK 1) ++ (ys.take i).map (mkK 2)).map aD).length + 1) * 24 ≤ 70368744177664 by rw [List.length_map]; omega) (And.intro (show ((xs.map (mkK 1) ++ (ys.take i).map (mkK 2)).map aD).length + 1 ≤ 4611686018427387904 by rw [List.length_map]; omega) ?_)|refine And.intro (fun h => ?_) (fun h => ?_)|refine Or.inl ?_)
       refine Exists.intro (i + 1) (And.intro hlt_i (And.intro (by omega) (ah ?_ ?_)))
       ·refine And.intro (congrArg some (ap (by omega))) (And.intro (congrArg (fun z => some (AV.sl (.id 7) 3 z)) (show (xs.map (mkK 1) ++ (ys.take i).map (mkK 2)).map aD ++ [aD (mkK 2 s)] = _ by rw [hsn]; simp)) ?_)
        repeat' (first | exact trivial | refine And.intro rfl ?_)
       ·repeat' (first | exact trivial | refine And.intro rfl ?_)
      ·have bbk : decide ((i : Int) < ((ys.map spR).length : Int)) = true → False:=fun h => by have:=of_decide_eq_true h; simp at this; omega
       have he : ys.take i = ys:=List.take_of_length_le (by omega)
       repeat' first|exact (bbk (by assumption)).elim|refine Q1 ?_|refine Q2 ?_|refine Q3 hG aa aV ?_|refine Q4 hG aa aV ?_|refine Q5 hG aa ?_|refine Q6 hG aa ?_|refine Q7 hG aa ?_|refine Q8 hG aa ?_|refine Q9 rfl ?_|refine QF rfl ?_|refine QC rfl ⟨fun h => ?_,fun h => ?_⟩|((conv => whnf); first|refine anF ?_|refine anT ?_|refine anK ?_|refine And.intro (fun h => ?_) (fun h => ?_)|refine Or.inl ?_)
       rw [he,hxs,hys,hgood.ref]
       exact Ends.mk (Or.inl rfl) (ac rfl)
end Go.Proofs
namespace Go.Proofs
open Go Go.AI
set_option maxRecDepth 10000
def gV (sat : Int) (r : Int × List al) (x : Int × Int × Int) : Int × List al:=
 let cf:=r.1 + 4 + am x.1 12
 let sf:=cf + am (w64 (x.2.2.tdiv 3)) 2
 let st:=sf + 3 + am x.2.1 12
 let ct:=st + am (w64 (x.2.2.tdiv 3)) 2
 (ct,r.2 ++ [⟨sat,am x.2.2 3,sf,st,cf,ct⟩])
def iw (sat from_ : Int) (z : List (Int × Int × Int)) : Int × List al:=z.foldl (gV sat) (from_,[])
def gu (sat from_ : Int) (z : List (Int × Int × Int)) : List al:=(iw sat from_ (z.take 6)).2
structure oF (sat from_ : Int) (n : Nat) (r : Int × List al) : Prop where
 at_ : from_ ≤ r.1 ∧ r.1 ≤ from_ + 31 * (n : Int)
 len : r.2.length = n
 all : ∀ p ∈ r.2,bX p = true ∧ from_ ≤ p.sa ∧ p.sa < p.sb ∧ p.sb ≤ r.1 ∧ p.ca < r.1
 srt : r.2.Pairwise fun p q => p.ca < q.ca
theorem oF.step {sat from_ : Int} {n : Nat} {r : Int × List al} {x : Int × Int × Int} (h : oF sat from_ n r) (hs : 0 ≤ sat ∧ sat ≤ 23) (hf : 0 ≤ from_ ∧ from_ ≤ 900000) (hn : n ≤ 100) (hx : rC x) : oF sat from_ (n + 1) (gV sat r x):=by
 obtain ⟨h1,h2,h3,h4⟩:=h
 have p1:=aN hx.1 (n:=12) (by omega)
 have p2:=aN (lW (x.2.2.tdiv 3)) (n:=2) (by omega)
 have p3:=aN hx.2.1 (n:=12) (by omega)
 have p4:=aN hx.2.2 (n:=3) (by omega)
 unfold gV
 simp only
 generalize am x.1 12 = q1 at *
 generalize am (w64 (x.2.2.tdiv 3)) 2 = q2 at *
 generalize am x.2.1 12 = q3 at *
 generalize am x.2.2 3 = q4 at *
 refine ⟨by simp only; omega,by simp [h2],fun p hp => ?_,List.pairwise_append.2 ⟨h4,by simp,fun p hp q hq => ?_⟩⟩
 ·rcases List.mem_append.1 hp with hp | hp
  ·have:=h3 p hp
   refine ⟨this.1,this.2.1,this.2.2.1,?_,?_⟩ <;> (simp only; omega)
  ·rw [List.mem_singleton.1 hp]
   simp only [bX,inS,Bool.and_eq_true,Bool.or_eq_true,decide_eq_true_eq]
   refine ⟨⟨⟨by omega,⟨by omega,by omega⟩,trivial⟩,⟨⟨by omega,by omega⟩,by omega⟩,.inr ⟨⟨by omega,by omega⟩,by omega⟩⟩,by omega,by omega,by omega,by omega⟩
 ·rw [List.mem_singleton.1 hq]
  have:=h3 p hp
  simp only
  omega
theorem oF.run {sat from_ : Int} (hs : 0 ≤ sat ∧ sat ≤ 23) (hf : 0 ≤ from_ ∧ from_ ≤ 900000) : ∀ (z : List (Int × Int × Int)) (n : Nat) (r : Int × List al),n + z.length ≤ 100 → (∀ x ∈ z,rC x) → oF sat from_ n r → oF sat from_ (n + z.length) (z.foldl (gV sat) r)
 | [],n,r,_,_,h => h
 | x :: z,n,r,hn,hz,h => by
  rw [List.length_cons] at hn ⊢
  have:=oF.run hs hf z (n + 1) (gV sat r x) (by omega) (fun y hy => hz y (.tail _ hy)) (h.step hs hf (by omega) (hz x (.head _)))
  rwa [show n + (z.length + 1) = n + 1 + z.length by omega]
theorem oF.of {sat from_ : Int} (hs : 0 ≤ sat ∧ sat ≤ 23) (hf : 0 ≤ from_ ∧ from_ ≤ 900000) {z : List (Int × Int × Int)} (hz : ∀ x ∈ z,rC x) (hl : z.length ≤ 100) : oF sat from_ z.length (iw sat from_ z):=by
 have:=oF.run hs hf z 0 (from_,[]) (by omega) hz ⟨by simp,rfl,by simp,by simp⟩
 simpa [iw] using this
theorem uh (sat from_ : Int) (z : List (Int × Int × Int)) (x : Int × Int × Int) : iw sat from_ (z ++ [x]) = gV sat (iw sat from_ z) x:=by simp [iw,List.foldl_append]
theorem oF.proper {sat from_ : Int} {n : Nat} {r : Int × List al} (h : oF sat from_ n r) (hn : n ≤ 64) : bp r.2 = true:=by
 rw [iR]
 have hl:=h.len
 refine ⟨by omega,fun j hj => ?_,fun j hj => ?_⟩
 ·rw [ei hj]; exact (h.all _ (List.getElem_mem hj)).1
 ·rw [zi,ei hj,ei (show j < r.2.length by omega)]
  have:=(List.pairwise_iff_getElem.1 h.srt) j (j + 1) (by omega) hj (by omega)
  rw [if_pos (by omega)]
  exact decide_eq_false (by omega)
theorem zH {sat from_ : Int} (hs : 0 ≤ sat ∧ sat ≤ 23) (hf : 0 ≤ from_ ∧ from_ ≤ 900000) {z : List (Int × Int × Int)} (hz : ∀ x ∈ z,rC x) : bp (gu sat from_ z) = true ∧ (gu sat from_ z).length ≤ 6 ∧ ∀ p ∈ gu sat from_ z,from_ ≤ p.sa ∧ p.sa < p.sb ∧ p.sb ≤ from_ + 186:=by
 have hl : (z.take 6).length ≤ 6:=List.length_take_le _ _
 have h:=oF.of hs hf (z:=z.take 6) (fun x hx => hz x (List.mem_of_mem_take hx)) (by omega)
 refine ⟨h.proper (by omega),by rw [gu,h.len]; exact hl,fun p hp => ?_⟩
 have h1:=h.all p hp
 have h2:=h.at_
 omega
set_option maxHeartbeats 8000000 in
theorem wK (sat from_ : Int) (z : List (Int × Int × Int)) (hs : 0 ≤ sat ∧ sat ≤ 23) (hf : 0 ≤ from_ ∧ from_ ≤ 900000) (hz : ∀ x ∈ z,rC x) : ae Tryz.prog 70 [.int .i64 sat,.int .i64 from_,.sl .no 3 (z.map jL)] (ak (gu sat from_ z)):=by
 have hlm : ((z.map jL).length : Int) = (z.length : Int):=by rw [List.length_map]
 refine ag aa Tryz.func70 rfl (by kernel_rfl) af (Nat.le_of_ble_eq_true rfl) ?_
 intro F n' w0 m0 hG hro h1
 repeat' first|refine Q1 ?_|refine Q2 ?_|refine Q3 hG aa dE ?_|refine Q4 hG aa dE ?_|refine Q5 hG aa ?_|refine Q6 hG aa ?_|refine Q7 hG aa ?_|refine Q8 hG aa ?_|refine Q9 rfl ?_|refine QF rfl ?_|refine QC rfl ⟨fun h => ?_,fun h => ?_⟩|((conv => whnf); first|refine anF ?_|refine anT ?_|refine anK ?_|refine And.intro (fun h => ?_) (fun h => ?_)|refine Or.inl ?_)
 refine ar (X:=Nat × Int × List al) (fun x => ⟨[(9,.int .i64 x.1),(8,.int .i64 x.2.1),(7,.sl (.id 7) 6 (x.2.2.map aG)),(2,.sl .no 3 (z.map jL)),(0,.int .i64 sat)],[]⟩) (fun x => x.1 ≤ z.length ∧ x.1 ≤ 6 ∧ x.2 = iw sat from_ (z.take x.1)) (fun x => z.length - x.1) (0,from_,[]) ⟨Nat.zero_le _,Nat.zero_le _,rfl⟩ (ah ?_ ?_) (fun x hx => ?_)
 ·repeat' (first | exact trivial | refine And.intro rfl ?_)
 ·repeat' (first | exact trivial | refine And.intro rfl ?_)
 ·obtain ⟨i,at_,out⟩:=x
  obtain ⟨hi,h6,hr⟩:=hx
  simp only at hi h6 hr ⊢
  have hP:=oF.of hs hf (z:=z.take i) (fun x hx => hz x (List.mem_of_mem_take hx)) (by rw [List.length_take]; omega)
  rw [← hr,List.length_take,Nat.min_eq_left hi] at hP
  have hat:=hP.at_
  have hol:=hP.len
  simp only at hat hol
  by_cases hlt_i : i < z.length
  ·by_cases h5 : i < 6
   ·have b1 : decide ((i : Int) < ((z.map jL).length : Int)) = false → False:=fun h => by have:=of_decide_eq_false h; omega
    have b2 : decide ((i : Int) < 6) = false → False:=fun h => by have:=of_decide_eq_false h; omega
    have hx:=fA (f:=jL) ((0 : Int),(0 : Int),(0 : Int)) hlt_i
    have hsn:=uh sat from_ (z.take i) (z.getD i ((0 : Int),(0 : Int),(0 : Int)))
    rw [← bD ((0 : Int),(0 : Int),(0 : Int)) hlt_i,← hr] at hsn
    have hxi : rC (z.getD i ((0 : Int),(0 : Int),(0 : Int))):=hz _ (by rw [List.getD_eq_getElem?_getD,List.getElem?_eq_getElem hlt_i]; exact List.getElem_mem hlt_i)
    generalize z.getD i ((0 : Int),(0 : Int),(0 : Int)) = x at hx hsn hxi
    have p1:=aN hxi.1 (n:=12) (by omega)
    have p2:=aN (lW (x.2.2.tdiv 3)) (n:=2) (by omega)
    have p3:=aN hxi.2.1 (n:=12) (by omega)
    have c2:=dL (w64 (x.2.2.tdiv 3)) 2 (by decide)
    have hol2 : (out.map aG).length ≤ 6:=by rw [List.length_map]; omega
    simp only [gV] at hsn
    obtain ⟨q2,hq2⟩ : ∃ q,q = am (w64 (x.2.2.tdiv 3)) 2:=⟨_,rfl⟩
    rw [← hq2] at c2 p2 hsn
    have w1 : IntKind.i64.wrap (at_ + 4) = at_ + 4:=aq (by omega) (by omega)
    have w2 : IntKind.i64.wrap (at_ + 4 + am x.1 12) = at_ + 4 + am x.1 12:=aq (by omega) (by omega)
    have w3 : IntKind.i64.wrap (at_ + 4 + am x.1 12 + q2) = at_ + 4 + am x.1 12 + q2:=aq (by omega) (by omega)
    have w4 : IntKind.i64.wrap (at_ + 4 + am x.1 12 + q2 + 3) = at_ + 4 + am x.1 12 + q2 + 3:=aq (by omega) (by omega)
    have w5 : IntKind.i64.wrap (at_ + 4 + am x.1 12 + q2 + 3 + am x.2.1 12) = at_ + 4 + am x.1 12 + q2 + 3 + am x.2.1 12:=aq (by omega) (by omega)
    have w6 : IntKind.i64.wrap (at_ + 4 + am x.1 12 + q2 + 3 + am x.2.1 12 + q2) = at_ + 4 + am x.1 12 + q2 + 3 + am x.2.1 12 + q2:=aq (by omega) (by omega)
    repeat' first|exact (b1 (by assumption)).elim|exact (b2 (by assumption)).elim|refine Q1 ?_|refine Q2 ?_|refine Q3 hG aa dE ?_|refine Q4 hG aa dE ?_|refine Q5 hG aa ?_|refine Q6 hG aa ?_|refine Q7 hG aa ?_|refine Q8 hG aa ?_|refine Q9 rfl ?_|refine QF rfl ?_|refine QC rfl ⟨fun h => ?_,fun h => ?_⟩|((conv => whnf); first|refine anF ?_|refine anT ?_|refine anK ?_|refine And.intro (Int.natCast_nonneg i) (Exists.intro _ (And.intro hx ?_))|refine Exists.intro _ (And.intro (c2) ?_)|refine Exists.intro _ (And.intro (dL _ _ (by decide)) ?_)|refine And.intro (by decide) ?_|refine And.intro (show ((out.map aG).length + 1) * 48 ≤ 70368744177664 by omega) (And.intro (show (out.map aG).length + 1 ≤ 4611686018427387904 by omega) ?_)|refine And.intro (fun h => ?_) (fun h => ?_)|refine Or.inl ?_)
    refine Exists.intro (i + 1,iw sat from_ (z.take (i + 1))) (And.intro ⟨hlt_i,h5,rfl⟩ (And.intro (by show z.length - (i + 1) < z.length - i; omega) ?_))
    rw [hsn]
    refine ah (And.intro (congrArg some (ap (by omega))) (And.intro (congrArg (fun z => some (AV.int .i64 z)) ?_) (And.intro (congrArg (fun z => some (AV.sl (.id 7) 6 z)) ?_) ?_))) ?_
    ·rw [w1,w2,w3,w4,w5,w6]
    ·rw [List.map_append]
     refine congrArg (out.map aG ++ ·) ?_
     rw [w1,w2,w3,w4,w5,w6]; rfl
    ·repeat' (first | exact trivial | refine And.intro rfl ?_)
    ·repeat' (first | exact trivial | refine And.intro rfl ?_)
   ·have b2 : decide ((i : Int) < 6) = true → False:=fun h => by have:=of_decide_eq_true h; omega
    have b1 : decide ((i : Int) < ((z.map jL).length : Int)) = false → False:=fun h => by have:=of_decide_eq_false h; omega
    have he : i = 6:=by omega
    subst he
    repeat' first|exact (b1 (by assumption)).elim|exact (b2 (by assumption)).elim|refine Q1 ?_|refine Q2 ?_|refine Q3 hG aa dE ?_|refine Q4 hG aa dE ?_|refine Q5 hG aa ?_|refine Q6 hG aa ?_|refine Q7 hG aa ?_|refine Q8 hG aa ?_|refine Q9 rfl ?_|refine QF rfl ?_|refine QC rfl ⟨fun h => ?_,fun h => ?_⟩|((conv => whnf); first|refine anF ?_|refine anT ?_|refine anK ?_|refine And.intro (fun h => ?_) (fun h => ?_)|refine Or.inl ?_)
    exact Ends.mk (Or.inl rfl) (ac (by rw [gu,← hr]; rfl))
  ·have b1 : decide ((i : Int) < ((z.map jL).length : Int)) = true → False:=fun h => by have:=of_decide_eq_true h; omega
   rw [List.take_of_length_le (by omega)] at hr
   repeat' first|exact (b1 (by assumption)).elim|refine Q1 ?_|refine Q2 ?_|refine Q3 hG aa dE ?_|refine Q4 hG aa dE ?_|refine Q5 hG aa ?_|refine Q6 hG aa ?_|refine Q7 hG aa ?_|refine Q8 hG aa ?_|refine Q9 rfl ?_|refine QF rfl ?_|refine QC rfl ⟨fun h => ?_,fun h => ?_⟩|((conv => whnf); first|refine anF ?_|refine anT ?_|refine anK ?_|refine And.intro (fun h => ?_) (fun h => ?_)|refine Or.inl ?_)
   exact Ends.mk (Or.inl rfl) (ac (by rw [gu,List.take_of_length_le (by omega),← hr]; rfl))
end Go.Proofs
namespace Go.Proofs
open Go Go.AI
set_option maxRecDepth 10000
structure R5 where
 a : Int
 b : Int
 c : Int
 d : Int
 e : Int
def jK (x : R5) : List AV:=[.int .i64 x.a,.int .i64 x.b,.int .i64 x.c,.int .i64 x.d,.int .i64 x.e]
def r50 : R5:=⟨0,0,0,0,0⟩
def vW (x : R5) : Prop:=inI x.a ∧ inI x.b ∧ inI x.c ∧ inI x.d ∧ inI x.e
def mb (s0 m d n : Int) (ps : List al) (r : Int × List aU) (k : Nat) : Int × List aU:=
 if (r.2.length : Int) < n ∧ (aA ps k).sat = s0 ∧ max r.1 ((aA ps k).sa + d) + m ≤ (aA ps k).sb then
  (max r.1 ((aA ps k).sa + d) + m,r.2 ++ [⟨(k : Int),max r.1 ((aA ps k).sa + d),max r.1 ((aA ps k).sa + d) + m⟩]) else r
def eU (s0 m d n : Int) (ps : List al) (t0 : Int) (k : Nat) : Int × List aU:=(List.range k).foldl (mb s0 m d n ps) (t0,[])
theorem jn (s0 m d n : Int) (ps : List al) (t0 : Int) (k : Nat) : eU s0 m d n ps t0 (k + 1) = mb s0 m d n ps (eU s0 m d n ps t0 k) k:=by simp [eU,List.range_succ,List.foldl_append]
theorem mg {s0 m d n : Int} {ps : List al} {t0 : Int} {k : Nat} (h : ¬ ((eU s0 m d n ps t0 k).2.length : Int) < n) : ∀ j,eU s0 m d n ps t0 (k + j) = eU s0 m d n ps t0 k
 | 0 => rfl
 | j + 1 => by
  rw [show k + (j + 1) = (k + j) + 1 from rfl,jn,mg h j]
  exact if_neg fun g => h g.1
theorem mf {s0 m d n : Int} {ps : List al} {t0 : Int} {k : Nat} (hk : k ≤ ps.length) (h : ¬ ((eU s0 m d n ps t0 k).2.length : Int) < n) : eU s0 m d n ps t0 ps.length = eU s0 m d n ps t0 k:=by
 have:=mg h (ps.length - k)
 rwa [show k + (ps.length - k) = ps.length by omega] at this
def mz (s : Nat → Int) (ps : List al) (from_ id : Int) (x : R5) : Opt:=
 ⟨id,am x.e 4,0,s 0,from_ + am x.a 40,from_ + am x.a 40 + 1 + am x.b 5,am x.c (2 * s 9 + 1) - s 9,min (s 10) ((1 + am x.d 4) * s 20),
  (eU (s 0) (1 + am x.d 4) (am (w64 (x.d.tdiv 4)) 3) (1 + am (w64 (x.e.tdiv 4)) 3) ps (from_ + am x.a 40 + 1 + am x.b 5) ps.length).2⟩
def f8 (s : Nat → Int) (ps : List al) (o : Opt) : Bool:=gt s && bp ps && dp s o ps
def dz (s : Nat → Int) (ps : List al) (from_ id : Int) (z : List R5) : Nat → List Opt
 | 0 => []
 | i + 1 => dz s ps from_ id z i ++ if f8 s ps (mz s ps from_ (id + i) (z.getD i r50)) then [mz s ps from_ (id + i) (z.getD i r50)] else []
def yS (s : Nat → Int) (ps : List al) (from_ id : Int) (z : List R5) : List Opt:=dz s ps from_ id z (min z.length 5)
theorem lD (s : Nat → Int) (ps : List al) (from_ id : Int) (z : List R5) : ∀ i,(dz s ps from_ id z i).length ≤ i
 | 0 => Nat.le_refl _
 | i + 1 => by
  have:=lD s ps from_ id z i
  simp only [dz,List.length_append]
  split <;> simp <;> omega
theorem AV.weak.agg {cs ds : List AV} (h : iC cs ds) (hd : ∀ x ∈ ds,x.isCell = true) : (AV.agg cs).weak (.agg ds):=by
 intro m v hv
 cases hv with
 | agg _ vs hl hc hr =>
  obtain ⟨h1,h2⟩:=h.spec
  refine .agg ds vs (by omega) hd fun i x u g1 g2 => ?_
  have hi : i < cs.length:=by rw [h1]; exact (List.getElem?_eq_some_iff.1 g1).1
  exact h2 i _ x (List.getElem?_eq_getElem hi) g1 m u (hr i _ u (List.getElem?_eq_getElem hi) g2)
structure FJ (s : Nat → Int) (ps : List al) (from_ id : Int) : Prop where
 w : 0 ≤ s 9 ∧ s 9 ≤ 4
 st : 1 ≤ s 10 ∧ s 10 ≤ 1000000
 rt : 1 ≤ s 20 ∧ s 20 ≤ 1000
 f : 0 ≤ from_ ∧ from_ ≤ 900000
 id : 0 ≤ id ∧ id ≤ 50
 pl : ps.length ≤ 64
 p : ∀ p ∈ ps,0 ≤ p.sa ∧ p.sa ≤ 1000001 ∧ 0 ≤ p.sb ∧ p.sb ≤ 1000001
theorem vt {s : Nat → Int} {ps : List al} {p : Int} {a b c d e f g : Int} : f8 s ps ⟨p,a,b,c,d,e,f,g,[]⟩ = false:=by
 have : inS (([] : List aU).length : Int) 1 6 = false:=by decide
 simp only [f8,dp,this,Bool.and_false,Bool.false_and]
set_option maxHeartbeats 16000000 in
theorem uP (s : Nat → Int) (ps : List al) (from_ id : Int) (z : List R5) (hH : FJ s ps from_ id) (hz : ∀ x ∈ z,vW x) : ae Tryz.prog 71 [.agg (bg s),ak ps,.int .i64 from_,.int .i64 id,.sl .no 5 (z.map jK)] (aM (yS s ps from_ id z)):=by
 have hlm : ((z.map jK).length : Int) = (z.length : Int):=by rw [List.length_map]
 have hw:=hH.w; have hst:=hH.st; have hrt:=hH.rt; have hf:=hH.f; have hid:=hH.id; have hpl:=hH.pl
 refine ag aa Tryz.func71 rfl (by kernel_rfl) af (Nat.le_of_ble_eq_true rfl) ?_
 intro F n' w0 m0 hG hro h1
 repeat' first|refine Q1 ?_|refine Q2 ?_|refine Q3 hG aa aY ?_|refine Q4 hG aa aY ?_|refine Q5 hG aa ?_|refine Q6 hG aa ?_|refine Q7 hG aa ?_|refine Q8 hG aa ?_|refine Q9 rfl ?_|refine QF rfl ?_|refine QC rfl ⟨fun h => ?_,fun h => ?_⟩|((conv => whnf); first|refine anF ?_|refine anT ?_|refine anK ?_|refine And.intro (fun h => ?_) (fun h => ?_)|refine Or.inl ?_)
 refine ar (X:=Nat) (fun i => ⟨[(12,.int .i64 i),(11,(.sl (.id 11) 9 ((dz s ps from_ id z i).map aH))),(5,.loc 5 0),(4,.sl .no 5 (z.map jK)),(3,.int .i64 id),(2,.int .i64 from_),(1,ak ps)],[(5,bg s)]⟩) (fun i => i ≤ z.length ∧ i ≤ 5) (fun i => z.length - i) 0 ⟨Nat.zero_le _,Nat.zero_le _⟩ (ah ?_ ?_) (fun i hx => ?_)
 ·repeat' (first | exact trivial | refine And.intro rfl ?_)
 ·repeat' (first | exact trivial | refine And.intro rfl ?_)
 ·obtain ⟨hi,h6⟩:=hx
  have hol:=lD s ps from_ id z i
  by_cases hlt_i : i < z.length
  ·by_cases h5 : i < 5
   ·have b1 : decide ((i : Int) < ((z.map jK).length : Int)) = false → False:=fun h => by have:=of_decide_eq_false h; omega
    have b2 : decide ((i : Int) < 5) = false → False:=fun h => by have:=of_decide_eq_false h; omega
    have hx:=fA (f:=jK) r50 hlt_i
    have hxi : vW (z.getD i r50):=hz _ (by rw [List.getD_eq_getElem?_getD,List.getElem?_eq_getElem hlt_i]; exact List.getElem_mem hlt_i)
    have hon : dz s ps from_ id z (i + 1) = dz s ps from_ id z i ++ if f8 s ps (mz s ps from_ (id + i) (z.getD i r50)) then [mz s ps from_ (id + i) (z.getD i r50)] else []:=rfl
    generalize z.getD i r50 = x at hx hxi hon
    have p1:=aN hxi.1 (n:=40) (by omega)
    have p2:=aN hxi.2.1 (n:=5) (by omega)
    have p3:=aN hxi.2.2.1 (n:=2 * s 9 + 1) (by omega)
    have p4:=aN hxi.2.2.2.1 (n:=4) (by omega)
    have p5:=aN (lW (x.d.tdiv 4)) (n:=3) (by omega)
    have p6:=aN (lW (x.e.tdiv 4)) (n:=3) (by omega)
    have cE:=dL (w64 (x.e.tdiv 4)) 3 (by decide)
    have cD:=dL (w64 (x.d.tdiv 4)) 3 (by decide)
    have wc : IntKind.i64.wrap (IntKind.i64.wrap (2 * s 9) + 1) = 2 * s 9 + 1:=by rw [show IntKind.i64.wrap (2 * s 9) = 2 * s 9 from aq (by omega) (by omega)]; exact aq (by omega) (by omega)
    have cC : ae Tryz.prog 143 [.int .i64 x.c,.int .i64 (IntKind.i64.wrap (IntKind.i64.wrap (2 * s 9) + 1))] (.int .i64 (am x.c (2 * s 9 + 1))):=by
     have h:=dL x.c (IntKind.i64.wrap (IntKind.i64.wrap (2 * s 9) + 1)) (by rw [wc]; omega)
     rw [wc] at h ⊢
     exact h
    have c1:=dL x.a 40 (by decide)
    have c2:=dL x.b 5 (by decide)
    have c4:=dL x.d 4 (by decide)
    have hmkv : mz s ps from_ (id + i) x = ⟨id + i,am x.e 4,0,s 0,from_ + am x.a 40,from_ + am x.a 40 + 1 + am x.b 5,am x.c (2 * s 9 + 1) - s 9,min (s 10) ((1 + am x.d 4) * s 20),
  (eU (s 0) (1 + am x.d 4) (am (w64 (x.d.tdiv 4)) 3) (1 + am (w64 (x.e.tdiv 4)) 3) ps (from_ + am x.a 40 + 1 + am x.b 5) ps.length).2⟩:=rfl
    generalize am x.a 40 = pa at *
    generalize am x.b 5 = pb at *
    generalize am x.c (2 * s 9 + 1) = pc at *
    generalize am x.d 4 = pd at *
    generalize am (w64 (x.d.tdiv 4)) 3 = dd at *
    generalize am (w64 (x.e.tdiv 4)) 3 = nn at *
    have hm0 : 0 ≤ (1 + pd) * s 20:=Int.mul_nonneg (by omega) (by omega)
    have hm1 : (1 + pd) * s 20 ≤ 4 * 1000:=Int.mul_le_mul (by omega) (by omega) (by omega) (by omega)
    have w1 : IntKind.i64.wrap (id + (i : Int)) = id + i:=aq (by omega) (by omega)
    have w2 : IntKind.i64.wrap (from_ + pa) = from_ + pa:=aq (by omega) (by omega)
    have w3 : IntKind.i64.wrap (from_ + pa + 1) = from_ + pa + 1:=aq (by omega) (by omega)
    have w4 : IntKind.i64.wrap (from_ + pa + 1 + pb) = from_ + pa + 1 + pb:=aq (by omega) (by omega)
    have w5 : IntKind.i64.wrap (pc - s 9) = pc - s 9:=aq (by omega) (by omega)
    have w6 : IntKind.i64.wrap (1 + pd) = 1 + pd:=aq (by omega) (by omega)
    have w7 : IntKind.i64.wrap ((1 + pd) * s 20) = (1 + pd) * s 20:=aq (by omega) (by omega)
    have w8 : IntKind.i64.wrap (1 + nn) = 1 + nn:=aq (by omega) (by omega)
    have hcell : ([.int .i64 (IntKind.i64.wrap (id + (i : Int))),.int .i64 (am x.e 4),.int .i64 0,.int .i64 (s 0),.int .i64 (IntKind.i64.wrap (from_ + pa)),.int .i64 (IntKind.i64.wrap (IntKind.i64.wrap (IntKind.i64.wrap (from_ + pa) + 1) + pb)),.int .i64 (IntKind.i64.wrap (pc - s 9)),.int .i64 (min (s 10) (IntKind.i64.wrap (IntKind.i64.wrap (1 + pd) * s 20))),.sl .full 0 []] : List AV) = [.int .i64 (id + (i : Int)),.int .i64 (am x.e 4),.int .i64 0,.int .i64 (s 0),.int .i64 (from_ + pa),.int .i64 (from_ + pa + 1 + pb),.int .i64 (pc - s 9),.int .i64 (min (s 10) ((1 + pd) * s 20)),.sl .full 0 []]:=by rw [w1,w2,w3,w4,w5,w6,w7]
    have h15 : 0 ≤ from_ + pa + 1 + pb ∧ from_ + pa + 1 + pb ≤ 1900000:=by omega
    have he15 : IntKind.i64.wrap (IntKind.i64.wrap (IntKind.i64.wrap (from_ + pa) + 1) + pb) = from_ + pa + 1 + pb:=by rw [w2,w3,w4]
    repeat' first|exact (b1 (by assumption)).elim|exact (b2 (by assumption)).elim|refine Q1 ?_|refine Q2 ?_|refine Q3 hG aa aY ?_|refine Q4 hG aa aY ?_|refine Q5 hG aa ?_|refine Q6 hG aa ?_|refine Q7 hG aa ?_|refine Q8 hG aa ?_|refine Q9 rfl ?_|refine QF rfl ?_|refine QC rfl ⟨fun h => ?_,fun h => ?_⟩|((conv => whnf); first|refine anF ?_|refine anT ?_|refine anK ?_|refine And.intro (Int.natCast_nonneg i) (Exists.intro _ (And.intro hx ?_))|refine Exists.intro _ (And.intro (cC) ?_)|refine Exists.intro _ (And.intro (c1) ?_)|refine Exists.intro _ (And.intro (c2) ?_)|refine Exists.intro _ (And.intro (c4) ?_)|refine Exists.intro _ (And.intro (dL _ _ (by decide)) ?_)|refine And.intro (by decide) ?_|refine And.intro (fun h => ?_) (fun h => ?_)|refine Or.inl ?_)
    have cPf : ∀ sl : List aU,sl.length ≤ 64 → ae Tryz.prog 31 [.agg (bg s),.agg [.int .i64 (id + (i : Int)),.int .i64 (am x.e 4),.int .i64 0,.int .i64 (s 0),.int .i64 (from_ + pa),.int .i64 (from_ + pa + 1 + pb),.int .i64 (pc - s 9),.int .i64 (min (s 10) ((1 + pd) * s 20)),ua sl],ak ps] (.bool (f8 s ps ⟨id + i,am x.e 4,0,s 0,from_ + pa,from_ + pa + 1 + pb,pc - s 9,min (s 10) ((1 + pd) * s 20),sl⟩)):=fun sl h => nb s ⟨id + (i : Int),am x.e 4,0,s 0,from_ + pa,from_ + pa + 1 + pb,pc - s 9,min (s 10) ((1 + pd) * s 20),sl⟩ ps (Nat.le_trans h (by decide)) (by omega)
    refine ar (X:=Nat × Int × List aU × AV) (fun y => ⟨[(16,.int .i64 y.1),(15,.int .i64 y.2.1),(14,.int .i64 (1 + pd)),(13,.loc 13 0),(12,.int .i64 i),(11,(.sl (.id 11) 9 ((dz s ps from_ id z i).map aH))),(5,.loc 5 0),(4,.sl .no 5 (z.map jK)),(3,.int .i64 id),(2,.int .i64 from_),(1,ak ps)],[(13,[.int .i64 (id + (i : Int)),.int .i64 (am x.e 4),.int .i64 0,.int .i64 (s 0),.int .i64 (from_ + pa),.int .i64 (from_ + pa + 1 + pb),.int .i64 (pc - s 9),.int .i64 (min (s 10) ((1 + pd) * s 20)),y.2.2.2]),(5,bg s)]⟩) (fun y => y.1 ≤ ps.length ∧ (y.2.1,y.2.2.1) = eU (s 0) (1 + pd) dd (1 + nn) ps (from_ + pa + 1 + pb) y.1 ∧ (0 ≤ y.2.1 ∧ y.2.1 ≤ 1900000) ∧ y.2.2.1.length ≤ y.1 ∧ ((y.2.2.1 = [] ∧ y.2.2.2 = .sl .full 0 []) ∨ y.2.2.2 = .sl (.id 160) 3 (y.2.2.1.map aw))) (fun y => ps.length - y.1) (0,from_ + pa + 1 + pb,[],.sl .full 0 []) ⟨Nat.zero_le _,rfl,h15,Nat.le_refl _,.inl ⟨rfl,rfl⟩⟩ (ah ?_ ?_) (fun y hy => ?_)
    ·refine And.intro rfl (And.intro (congrArg (fun z => some (AV.int .i64 z)) he15) (And.intro (congrArg (fun z => some (AV.int .i64 z)) w6) ?_))
     repeat' (first | exact trivial | refine And.intro rfl ?_)
    ·refine And.intro (congrArg some hcell) ?_
     repeat' (first | exact trivial | refine And.intro rfl ?_)
    ·obtain ⟨k,en,sl,cell⟩:=y
     obtain ⟨hk,hr,hen,hsl,hc⟩:=hy
     simp only at hk hr hen hsl hc ⊢
     rcases hc with ⟨rfl,rfl⟩ | rfl
     ·have cP : ae Tryz.prog 31 [.agg (bg s),.agg [.int .i64 (id + (i : Int)),.int .i64 (am x.e 4),.int .i64 0,.int .i64 (s 0),.int .i64 (from_ + pa),.int .i64 (from_ + pa + 1 + pb),.int .i64 (pc - s 9),.int .i64 (min (s 10) ((1 + pd) * s 20)),.sl .full 0 []],ak ps] (.bool (f8 s ps ⟨id + (i : Int),am x.e 4,0,s 0,from_ + pa,from_ + pa + 1 + pb,pc - s 9,min (s 10) ((1 + pd) * s 20),([] : List aU)⟩)):=(cPf [] (by simp)).weak (.cons (.refl _) (.cons (AV.weak.agg (.cons (.refl _) (.cons (.refl _) (.cons (.refl _) (.cons (.refl _) (.cons (.refl _) (.cons (.refl _) (.cons (.refl _) (.cons (.refl _) (.cons AV.weak.slnil .nil))))))))) (by intro y hy; simp at hy; rcases hy with rfl | rfl | rfl | rfl | rfl | rfl | rfl | rfl | rfl <;> rfl)) (.refl _)))
      by_cases hlt_k : k < ps.length
      ·have bbk : decide ((k : Int) < ((ps.map aG).length : Int)) = false → False:=fun h => by have:=of_decide_eq_false h; simp at this; omega
       have hy:=ms hlt_k
       have hqb:=hH.p (aA ps k) (by rw [ei hlt_k]; exact List.getElem_mem hlt_k)
       have hrn:=jn (s 0) (1 + pd) dd (1 + nn) ps (from_ + pa + 1 + pb) k
       rw [← hr,mb] at hrn
       simp only at hrn
       have hstop : ¬ ((([] : List aU) : List aU).length : Int) < 1 + nn → mz s ps from_ (id + i) x = ⟨id + (i : Int),am x.e 4,0,s 0,from_ + pa,from_ + pa + 1 + pb,pc - s 9,min (s 10) ((1 + pd) * s 20),([] : List aU)⟩:=fun h => by
        have h2:=mf hk (s0:=s 0) (m:=1 + pd) (d:=dd) (n:=1 + nn) (t0:=from_ + pa + 1 + pb) (by rw [← hr]; exact h)
        rw [hmkv,h2,← hr]
       generalize aA ps k = q at hy hqb hrn
       have v1 : IntKind.i64.wrap (q.sa + dd) = q.sa + dd:=aq (by omega) (by omega)
       have v2 : IntKind.i64.wrap (max en (q.sa + dd) + (1 + pd)) = max en (q.sa + dd) + (1 + pd):=aq (by omega) (by omega)
       have e15 : IntKind.i64.wrap (max en (IntKind.i64.wrap (q.sa + dd)) + (1 + pd)) = max en (q.sa + dd) + (1 + pd):=by rw [v1,v2]
       have e13 : ([] : List (List AV)) ++ [[.int .i64 (k : Int),.int .i64 (max en (IntKind.i64.wrap (q.sa + dd))),.int .i64 (IntKind.i64.wrap (max en (IntKind.i64.wrap (q.sa + dd)) + (1 + pd)))]] = (([] : List aU) ++ [(⟨(k : Int),max en (q.sa + dd),max en (q.sa + dd) + (1 + pd)⟩ : aU)]).map aw:=by rw [v1,v2]; simp [aw]
       repeat' first|exact (bbk (by assumption)).elim|refine Q1 ?_|refine Q2 ?_|refine Q3 hG aa aY ?_|refine Q4 hG aa aY ?_|refine Q5 hG aa ?_|refine Q6 hG aa ?_|refine Q7 hG aa ?_|refine Q8 hG aa ?_|refine Q9 rfl ?_|refine QF rfl ?_|refine QC rfl ⟨fun h => ?_,fun h => ?_⟩|((conv => whnf); first|refine anF ?_|refine anT ?_|refine anK ?_|refine And.intro (Int.natCast_nonneg k) (Exists.intro _ (And.intro hy ?_))|refine And.intro (Int.natCast_nonneg i) (Exists.intro _ (And.intro hx ?_))|refine Exists.intro _ (And.intro (cE) ?_)|refine Exists.intro _ (And.intro (cD) ?_)|refine And.intro (by decide) ?_|refine And.intro (Nat.le_of_ble_eq_true rfl) (And.intro (Nat.le_of_ble_eq_true rfl) ?_)|refine Exists.intro _ (And.intro (cP) ?_)|refine And.intro (show (((dz s ps from_ id z i).map aH).length + 1) * 88 ≤ 70368744177664 by rw [List.length_map]; omega) (And.intro (show ((dz s ps from_ id z i).map aH).length + 1 ≤ 4611686018427387904 by rw [List.length_map]; omega) ?_)|refine And.intro (fun h => ?_) (fun h => ?_)|refine Or.inl ?_)
       all_goals first
        |(conv => whnf
          refine Exists.intro (k + 1,max en (q.sa + dd) + (1 + pd),([] : List aU) ++ [(⟨(k : Int),max en (q.sa + dd),max en (q.sa + dd) + (1 + pd)⟩ : aU)],AV.sl (.id 160) 3 ((([] : List aU) ++ [(⟨(k : Int),max en (q.sa + dd),max en (q.sa + dd) + (1 + pd)⟩ : aU)]).map aw)) (And.intro ⟨hlt_k,?_,?_,?_,.inr rfl⟩ (And.intro (by show ps.length - (k + 1) < ps.length - k; omega) (ah ?_ ?_)))
          ·rw [hrn]; symm; apply if_pos; clear hG hcell hmkv hon hx hy cP cPf hstop e13 cE cD cC c1 c2 c4 w1 w2 w3 w4 w5 w6 w7 wc he15 hm0 hm1 hH hz hxi hlm; (try simp only [cond_true,cond_false] at *); grind
          ·clear hG hcell hmkv hon hx hy cP cPf hstop e13 cE cD cC c1 c2 c4 w1 w2 w3 w4 w5 w6 w7 wc he15 hm0 hm1 hH hz hxi hlm; (try simp only [cond_true,cond_false] at *); grind
          ·simp <;> omega
          ·refine And.intro (congrArg some (ap (by omega))) (And.intro (congrArg (fun z => some (AV.int .i64 z)) e15) ?_)
           repeat' (first | exact trivial | refine And.intro rfl ?_)
          ·refine And.intro (congrArg (fun z => some ([.int .i64 (id + (i : Int)),.int .i64 (am x.e 4),.int .i64 0,.int .i64 (s 0),.int .i64 (from_ + pa),.int .i64 (from_ + pa + 1 + pb),.int .i64 (pc - s 9),.int .i64 (min (s 10) ((1 + pd) * s 20)),AV.sl (.id 160) 3 z] : List AV)) e13) ?_
           repeat' (first | exact trivial | refine And.intro rfl ?_))
        |(conv => whnf
          refine Exists.intro (k + 1,en,([] : List aU),.sl .full 0 []) (And.intro ⟨hlt_k,?_,hen,?_,.inl ⟨rfl,rfl⟩⟩ (And.intro (by show ps.length - (k + 1) < ps.length - k; omega) (ah ?_ ?_)))
          ·rw [hrn]; symm; apply if_neg; clear hG hcell hmkv hon hx hy cP cPf hstop e13 cE cD cC c1 c2 c4 w1 w2 w3 w4 w5 w6 w7 wc he15 hm0 hm1 hH hz hxi hlm; (try simp only [cond_true,cond_false] at *); grind
          ·exact Nat.le_succ_of_le hsl
          ·refine And.intro (congrArg some (ap (by omega))) ?_
           repeat' (first | exact trivial | refine And.intro rfl ?_)
          ·repeat' (first | exact trivial | refine And.intro rfl ?_))
        | skip
       all_goals have hmk:=hstop (by clear hG hcell hmkv hon hx hy cP cPf hstop e13 cE cD cC c1 c2 c4 w1 w2 w3 w4 w5 w6 w7 wc he15 hm0 hm1 hH hz hxi hlm; (try simp only [cond_true,cond_false] at *); grind)
       all_goals first
        |(exact absurd (by assumption : f8 s ps _ = true) (by rw [vt]; simp))
        |(have hpr:=(by assumption : f8 s ps _ = false)
          conv => whnf
          refine Exists.intro (i + 1) (And.intro ⟨hlt_i,h5⟩ (And.intro (by omega) (ah ?_ ?_)))
          ·refine And.intro (congrArg some (ap (by omega))) (And.intro (congrArg (fun z => some (AV.sl (.id 11) 9 z)) ?_) ?_)
           ·rw [hon,hmk,if_neg (by rw [hpr]; simp),List.append_nil]
           ·repeat' (first | exact trivial | refine And.intro rfl ?_)
          ·repeat' (first | exact trivial | refine And.intro rfl ?_))
      ·have bbk : decide ((k : Int) < ((ps.map aG).length : Int)) = true → False:=fun h => by have:=of_decide_eq_true h; simp at this; omega
       have he : k = ps.length:=by omega
       have hmk : mz s ps from_ (id + i) x = ⟨id + (i : Int),am x.e 4,0,s 0,from_ + pa,from_ + pa + 1 + pb,pc - s 9,min (s 10) ((1 + pd) * s 20),([] : List aU)⟩:=by rw [hmkv,← he,← hr]
       repeat' first|exact (bbk (by assumption)).elim|refine Q1 ?_|refine Q2 ?_|refine Q3 hG aa aY ?_|refine Q4 hG aa aY ?_|refine Q5 hG aa ?_|refine Q6 hG aa ?_|refine Q7 hG aa ?_|refine Q8 hG aa ?_|refine Q9 rfl ?_|refine QF rfl ?_|refine QC rfl ⟨fun h => ?_,fun h => ?_⟩|((conv => whnf); first|refine anF ?_|refine anT ?_|refine anK ?_|refine Exists.intro _ (And.intro (cP) ?_)|refine And.intro (show (((dz s ps from_ id z i).map aH).length + 1) * 88 ≤ 70368744177664 by rw [List.length_map]; omega) (And.intro (show ((dz s ps from_ id z i).map aH).length + 1 ≤ 4611686018427387904 by rw [List.length_map]; omega) ?_)|refine And.intro (fun h => ?_) (fun h => ?_)|refine Or.inl ?_)
       all_goals first
        |(exact absurd (by assumption : f8 s ps _ = true) (by rw [vt]; simp))
        |(have hpr:=(by assumption : f8 s ps _ = false)
          conv => whnf
          refine Exists.intro (i + 1) (And.intro ⟨hlt_i,h5⟩ (And.intro (by omega) (ah ?_ ?_)))
          ·refine And.intro (congrArg some (ap (by omega))) (And.intro (congrArg (fun z => some (AV.sl (.id 11) 9 z)) ?_) ?_)
           ·rw [hon,hmk,if_neg (by rw [hpr]; simp),List.append_nil]
           ·repeat' (first | exact trivial | refine And.intro rfl ?_)
          ·repeat' (first | exact trivial | refine And.intro rfl ?_))
     ·have cP : ae Tryz.prog 31 [.agg (bg s),.agg [.int .i64 (id + (i : Int)),.int .i64 (am x.e 4),.int .i64 0,.int .i64 (s 0),.int .i64 (from_ + pa),.int .i64 (from_ + pa + 1 + pb),.int .i64 (pc - s 9),.int .i64 (min (s 10) ((1 + pd) * s 20)),.sl .no 3 (sl.map aw)],ak ps] (.bool (f8 s ps ⟨id + (i : Int),am x.e 4,0,s 0,from_ + pa,from_ + pa + 1 + pb,pc - s 9,min (s 10) ((1 + pd) * s 20),sl⟩)):=cPf sl (by omega)
      by_cases hlt_k : k < ps.length
      ·have bbk : decide ((k : Int) < ((ps.map aG).length : Int)) = false → False:=fun h => by have:=of_decide_eq_false h; simp at this; omega
       have hy:=ms hlt_k
       have hqb:=hH.p (aA ps k) (by rw [ei hlt_k]; exact List.getElem_mem hlt_k)
       have hrn:=jn (s 0) (1 + pd) dd (1 + nn) ps (from_ + pa + 1 + pb) k
       rw [← hr,mb] at hrn
       simp only at hrn
       have hstop : ¬ ((sl : List aU).length : Int) < 1 + nn → mz s ps from_ (id + i) x = ⟨id + (i : Int),am x.e 4,0,s 0,from_ + pa,from_ + pa + 1 + pb,pc - s 9,min (s 10) ((1 + pd) * s 20),sl⟩:=fun h => by
        have h2:=mf hk (s0:=s 0) (m:=1 + pd) (d:=dd) (n:=1 + nn) (t0:=from_ + pa + 1 + pb) (by rw [← hr]; exact h)
        rw [hmkv,h2,← hr]
       generalize aA ps k = q at hy hqb hrn
       have v1 : IntKind.i64.wrap (q.sa + dd) = q.sa + dd:=aq (by omega) (by omega)
       have v2 : IntKind.i64.wrap (max en (q.sa + dd) + (1 + pd)) = max en (q.sa + dd) + (1 + pd):=aq (by omega) (by omega)
       have e15 : IntKind.i64.wrap (max en (IntKind.i64.wrap (q.sa + dd)) + (1 + pd)) = max en (q.sa + dd) + (1 + pd):=by rw [v1,v2]
       have e13 : sl.map aw ++ [[.int .i64 (k : Int),.int .i64 (max en (IntKind.i64.wrap (q.sa + dd))),.int .i64 (IntKind.i64.wrap (max en (IntKind.i64.wrap (q.sa + dd)) + (1 + pd)))]] = (sl ++ [(⟨(k : Int),max en (q.sa + dd),max en (q.sa + dd) + (1 + pd)⟩ : aU)]).map aw:=by rw [v1,v2]; simp [aw]
       repeat' first|exact (bbk (by assumption)).elim|refine Q1 ?_|refine Q2 ?_|refine Q3 hG aa aY ?_|refine Q4 hG aa aY ?_|refine Q5 hG aa ?_|refine Q6 hG aa ?_|refine Q7 hG aa ?_|refine Q8 hG aa ?_|refine Q9 rfl ?_|refine QF rfl ?_|refine QC rfl ⟨fun h => ?_,fun h => ?_⟩|((conv => whnf); first|refine anF ?_|refine anT ?_|refine anK ?_|refine And.intro (Int.natCast_nonneg k) (Exists.intro _ (And.intro hy ?_))|refine And.intro (Int.natCast_nonneg i) (Exists.intro _ (And.intro hx ?_))|refine Exists.intro _ (And.intro (cE) ?_)|refine Exists.intro _ (And.intro (cD) ?_)|refine And.intro (by decide) ?_|refine And.intro (show ((sl.map aw).length + 1) * 24 ≤ 70368744177664 by rw [List.length_map]; omega) (And.intro (show (sl.map aw).length + 1 ≤ 4611686018427387904 by rw [List.length_map]; omega) ?_)|refine Exists.intro _ (And.intro (cP) ?_)|refine And.intro (show (((dz s ps from_ id z i).map aH).length + 1) * 88 ≤ 70368744177664 by rw [List.length_map]; omega) (And.intro (show ((dz s ps from_ id z i).map aH).length + 1 ≤ 4611686018427387904 by rw [List.length_map]; omega) ?_)|refine And.intro (fun h => ?_) (fun h => ?_)|refine Or.inl ?_)
       all_goals first
        |(conv => whnf
          refine Exists.intro (k + 1,max en (q.sa + dd) + (1 + pd),sl ++ [(⟨(k : Int),max en (q.sa + dd),max en (q.sa + dd) + (1 + pd)⟩ : aU)],AV.sl (.id 160) 3 ((sl ++ [(⟨(k : Int),max en (q.sa + dd),max en (q.sa + dd) + (1 + pd)⟩ : aU)]).map aw)) (And.intro ⟨hlt_k,?_,?_,?_,.inr rfl⟩ (And.intro (by show ps.length - (k + 1) < ps.length - k; omega) (ah ?_ ?_)))
          ·rw [hrn]; symm; apply if_pos; clear hG hcell hmkv hon hx hy cP cPf hstop e13 cE cD cC c1 c2 c4 w1 w2 w3 w4 w5 w6 w7 wc he15 hm0 hm1 hH hz hxi hlm; (try simp only [cond_true,cond_false] at *); grind
          ·clear hG hcell hmkv hon hx hy cP cPf hstop e13 cE cD cC c1 c2 c4 w1 w2 w3 w4 w5 w6 w7 wc he15 hm0 hm1 hH hz hxi hlm; (try simp only [cond_true,cond_false] at *); grind
          ·simp <;> omega
          ·refine And.intro (congrArg some (ap (by omega))) (And.intro (congrArg (fun z => some (AV.int .i64 z)) e15) ?_)
           repeat' (first | exact trivial | refine And.intro rfl ?_)
          ·refine And.intro (congrArg (fun z => some ([.int .i64 (id + (i : Int)),.int .i64 (am x.e 4),.int .i64 0,.int .i64 (s 0),.int .i64 (from_ + pa),.int .i64 (from_ + pa + 1 + pb),.int .i64 (pc - s 9),.int .i64 (min (s 10) ((1 + pd) * s 20)),AV.sl (.id 160) 3 z] : List AV)) e13) ?_
           repeat' (first | exact trivial | refine And.intro rfl ?_))
        |(conv => whnf
          refine Exists.intro (k + 1,en,sl,.sl (.id 160) 3 (sl.map aw)) (And.intro ⟨hlt_k,?_,hen,?_,.inr rfl⟩ (And.intro (by show ps.length - (k + 1) < ps.length - k; omega) (ah ?_ ?_)))
          ·rw [hrn]; symm; apply if_neg; clear hG hcell hmkv hon hx hy cP cPf hstop e13 cE cD cC c1 c2 c4 w1 w2 w3 w4 w5 w6 w7 wc he15 hm0 hm1 hH hz hxi hlm; (try simp only [cond_true,cond_false] at *); grind
          ·exact Nat.le_succ_of_le hsl
          ·refine And.intro (congrArg some (ap (by omega))) ?_
           repeat' (first | exact trivial | refine And.intro rfl ?_)
          ·repeat' (first | exact trivial | refine And.intro rfl ?_))
        | skip
       all_goals have hmk:=hstop (by clear hG hcell hmkv hon hx hy cP cPf hstop e13 cE cD cC c1 c2 c4 w1 w2 w3 w4 w5 w6 w7 wc he15 hm0 hm1 hH hz hxi hlm; (try simp only [cond_true,cond_false] at *); grind)
       all_goals first
        |(have hpr:=(by assumption : f8 s ps ⟨id + (i : Int),am x.e 4,0,s 0,from_ + pa,from_ + pa + 1 + pb,pc - s 9,min (s 10) ((1 + pd) * s 20),sl⟩ = true)
          conv => whnf
          refine Exists.intro (i + 1) (And.intro ⟨hlt_i,h5⟩ (And.intro (by omega) (ah ?_ ?_)))
          ·refine And.intro (congrArg some (ap (by omega))) (And.intro (congrArg (fun z => some (AV.sl (.id 11) 9 z)) ?_) ?_)
           ·rw [hon,hmk,if_pos hpr,List.map_append]; rfl
           ·repeat' (first | exact trivial | refine And.intro rfl ?_)
          ·repeat' (first | exact trivial | refine And.intro rfl ?_))
        |(have hpr:=(by assumption : f8 s ps _ = false)
          conv => whnf
          refine Exists.intro (i + 1) (And.intro ⟨hlt_i,h5⟩ (And.intro (by omega) (ah ?_ ?_)))
          ·refine And.intro (congrArg some (ap (by omega))) (And.intro (congrArg (fun z => some (AV.sl (.id 11) 9 z)) ?_) ?_)
           ·rw [hon,hmk,if_neg (by rw [hpr]; simp),List.append_nil]
           ·repeat' (first | exact trivial | refine And.intro rfl ?_)
          ·repeat' (first | exact trivial | refine And.intro rfl ?_))
      ·have bbk : decide ((k : Int) < ((ps.map aG).length : Int)) = true → False:=fun h => by have:=of_decide_eq_true h; simp at this; omega
       have he : k = ps.length:=by omega
       have hmk : mz s ps from_ (id + i) x = ⟨id + (i : Int),am x.e 4,0,s 0,from_ + pa,from_ + pa + 1 + pb,pc - s 9,min (s 10) ((1 + pd) * s 20),sl⟩:=by rw [hmkv,← he,← hr]
       repeat' first|exact (bbk (by assumption)).elim|refine Q1 ?_|refine Q2 ?_|refine Q3 hG aa aY ?_|refine Q4 hG aa aY ?_|refine Q5 hG aa ?_|refine Q6 hG aa ?_|refine Q7 hG aa ?_|refine Q8 hG aa ?_|refine Q9 rfl ?_|refine QF rfl ?_|refine QC rfl ⟨fun h => ?_,fun h => ?_⟩|((conv => whnf); first|refine anF ?_|refine anT ?_|refine anK ?_|refine Exists.intro _ (And.intro (cP) ?_)|refine And.intro (show (((dz s ps from_ id z i).map aH).length + 1) * 88 ≤ 70368744177664 by rw [List.length_map]; omega) (And.intro (show ((dz s ps from_ id z i).map aH).length + 1 ≤ 4611686018427387904 by rw [List.length_map]; omega) ?_)|refine And.intro (fun h => ?_) (fun h => ?_)|refine Or.inl ?_)
       all_goals first
        |(have hpr:=(by assumption : f8 s ps ⟨id + (i : Int),am x.e 4,0,s 0,from_ + pa,from_ + pa + 1 + pb,pc - s 9,min (s 10) ((1 + pd) * s 20),sl⟩ = true)
          conv => whnf
          refine Exists.intro (i + 1) (And.intro ⟨hlt_i,h5⟩ (And.intro (by omega) (ah ?_ ?_)))
          ·refine And.intro (congrArg some (ap (by omega))) (And.intro (congrArg (fun z => some (AV.sl (.id 11) 9 z)) ?_) ?_)
           ·rw [hon,hmk,if_pos hpr,List.map_append]; rfl
           ·repeat' (first | exact trivial | refine And.intro rfl ?_)
          ·repeat' (first | exact trivial | refine And.intro rfl ?_))
        |(have hpr:=(by assumption : f8 s ps _ = false)
          conv => whnf
          refine Exists.intro (i + 1) (And.intro ⟨hlt_i,h5⟩ (And.intro (by omega) (ah ?_ ?_)))
          ·refine And.intro (congrArg some (ap (by omega))) (And.intro (congrArg (fun z => some (AV.sl (.id 11) 9 z)) ?_) ?_)
           ·rw [hon,hmk,if_neg (by rw [hpr]; simp),List.append_nil]
           ·repeat' (first | exact trivial | refine And.intro rfl ?_)
          ·repeat' (first | exact trivial | refine And.intro rfl ?_))
   ·have b2 : decide ((i : Int) < 5) = true → False:=fun h => by have:=of_decide_eq_true h; omega
    have b1 : decide ((i : Int) < ((z.map jK).length : Int)) = false → False:=fun h => by have:=of_decide_eq_false h; omega
    have he : i = 5:=by omega
    subst he
    repeat' first|exact (b1 (by assumption)).elim|exact (b2 (by assumption)).elim|refine Q1 ?_|refine Q2 ?_|refine Q3 hG aa aY ?_|refine Q4 hG aa aY ?_|refine Q5 hG aa ?_|refine Q6 hG aa ?_|refine Q7 hG aa ?_|refine Q8 hG aa ?_|refine Q9 rfl ?_|refine QF rfl ?_|refine QC rfl ⟨fun h => ?_,fun h => ?_⟩|((conv => whnf); first|refine anF ?_|refine anT ?_|refine anK ?_|refine And.intro (fun h => ?_) (fun h => ?_)|refine Or.inl ?_)
    exact Ends.mk (Or.inl rfl) (ac (by rw [yS,Nat.min_eq_right (by omega)]; rfl))
  ·have b1 : decide ((i : Int) < ((z.map jK).length : Int)) = true → False:=fun h => by have:=of_decide_eq_true h; omega
   have he : i = z.length:=by omega
   repeat' first|exact (b1 (by assumption)).elim|refine Q1 ?_|refine Q2 ?_|refine Q3 hG aa aY ?_|refine Q4 hG aa aY ?_|refine Q5 hG aa ?_|refine Q6 hG aa ?_|refine Q7 hG aa ?_|refine Q8 hG aa ?_|refine Q9 rfl ?_|refine QF rfl ?_|refine QC rfl ⟨fun h => ?_,fun h => ?_⟩|((conv => whnf); first|refine anF ?_|refine anT ?_|refine anK ?_|refine And.intro (fun h => ?_) (fun h => ?_)|refine Or.inl ?_)
   exact Ends.mk (Or.inl rfl) (ac (by rw [yS,Nat.min_eq_left (by omega),← he]; rfl))
end Go.Proofs
namespace Go.Proofs
open Go Go.AI
structure bQ where
 x : Nat → Int
 y : Nat → Int
 z : List (Int × Int × Int)
 v : List R5
 from_ : Int
 hx : ∀ i,inI (x i)
 hy : ∀ i,inI (y i)
 hz : ∀ r ∈ z,rC r
 hv : ∀ r ∈ v,vW r
 hf : inI from_
namespace bQ
def s (c : bQ) : Nat → Int:=E0 c.x c.y
def bc (c : bQ) : jN:=⟨c.x,c.y,[],c.from_,0,c.hx,c.hy,by simp,c.hf,by unfold inI; omega⟩
end bQ
theorem bQ.sat (c : bQ) : gt c.s = true:=c.bc.sat
theorem bQ.s0 (c : bQ) : c.s 0 = 3:=by show am 3 24 = 3; decide
theorem yH {s : Nat → Int} (h : gt s = true) : (0 ≤ s 9 ∧ s 9 ≤ 4) ∧ (1 ≤ s 10 ∧ s 10 ≤ 1000000) ∧ (1 ≤ s 20 ∧ s 20 ≤ 1000) ∧ (0 ≤ s 19 ∧ s 19 ≤ 60) ∧ (1 ≤ s 11 ∧ s 11 ≤ 1000000) ∧ (1 ≤ s 18 ∧ s 18 ≤ 1000000) ∧ (0 ≤ s 17 ∧ s 17 ≤ 10000) ∧ (0 ≤ s 16 ∧ s 16 ≤ 10000):=by
 simp only [gt,inS,Bool.and_eq_true,decide_eq_true_eq] at h
 omega
theorem lF {s : Nat → Int} {ps : List al} {a b : Int} : ∀ (l pre : List Opt),dA s ps a b pre l = true ↔ (∀ o ∈ l,dp s o ps = true ∧ a ≤ o.a ∧ ff o ≤ b) ∧ l.Pairwise (fun x y => x.id ≠ y.id) ∧ ∀ p ∈ pre,∀ o ∈ l,p.id ≠ o.id
 | [],pre => by simp [dA]
 | x :: r,pre => by
  rw [dA,Bool.and_eq_true,lF r (pre ++ [x]),iT]
  simp only [Bool.and_eq_true,Bool.not_eq_true',decide_eq_false_iff_not,List.any_eq_false,beq_iff_eq,List.mem_cons,List.pairwise_cons,forall_eq_or_imp,List.mem_append,List.not_mem_nil,or_false]
  constructor
  ·rintro ⟨⟨⟨⟨g1,g2⟩,g3⟩,g4⟩,g5,g6,g7⟩
   exact ⟨⟨⟨g1,by omega,by omega⟩,g5⟩,⟨fun y hy => g7 x (.inr rfl) y hy,g6⟩,fun p hp => ⟨fun e => g4 p hp e,fun y hy => g7 p (.inl hp) y hy⟩⟩
  ·rintro ⟨⟨⟨g1,g2,g3⟩,g5⟩,⟨g6,g7⟩,g8⟩
   refine ⟨⟨⟨⟨g1,by omega⟩,by omega⟩,fun p hp e => (g8 p hp).1 e⟩,g5,g7,fun p hp y hy => ?_⟩
   rcases hp with hp | rfl
   ·exact (g8 p hp).2 y hy
   ·exact g6 y hy
theorem bC {s : Nat → Int} {l : List Opt} {ps : List al} {a b : Int} : aX s l ps a b = true ↔ l.length ≤ 8 ∧ (0 ≤ a ∧ a < b ∧ b ≤ 1000000) ∧ b - a ≤ 3000 ∧ gt s = true ∧ bp ps = true ∧ (∀ o ∈ l,dp s o ps = true ∧ a ≤ o.a ∧ ff o ≤ b) ∧ l.Pairwise fun x y => x.id ≠ y.id:=by
 constructor
 ·intro h
  obtain ⟨h1,h2,h3,h4,h5,h6⟩:=yz h
  obtain ⟨g1,g2,_⟩:=(lF l []).1 h6
  exact ⟨h1,h2,h3,h4,h5,g1,g2⟩
 ·rintro ⟨h1,h2,h3,h4,h5,h6,h7⟩
  simp only [aX,Bool.and_eq_true,decide_eq_true_eq,Bool.not_eq_true',decide_eq_false_iff_not]
  rw [aq (by omega) (by omega)]
  exact ⟨⟨⟨⟨⟨h1,dy.2 h2⟩,by omega⟩,h4⟩,h5⟩,(lF l []).2 ⟨h6,h7,fun p hp => nomatch hp⟩⟩
theorem qP {s : Nat → Int} {ps : List al} {z m : Int} (hp : ∀ p ∈ ps,p.sb ≤ m) (hl : ps.length ≤ 64) : ∀ (l : List aU) (t : Int),bv s ps z t l = true → ∀ x ∈ l,x.b ≤ m
 | [],_,_,x,hx => nomatch hx
 | y :: r,t,h,x,hx => by
  simp only [bv,fO,Bool.and_eq_true,inS,decide_eq_true_eq] at h
  rcases List.mem_cons.1 hx with rfl | hx
  ·have h1:=h.1.1
   rw [aq (by omega) (by omega)] at h1
   have hlt : x.p.toNat < ps.length:=by omega
   have h2:=h.1.2.1.1.2
   rw [ei hlt] at h2
   have:=hp _ (List.getElem_mem hlt)
   omega
  ·exact qP hp hl r _ h.2 x hx
theorem Am {s : Nat → Int} {o : Opt} {ps : List al} {m : Int} (hp : ∀ p ∈ ps,p.sb ≤ m) (hl : ps.length ≤ 64) (h : dp s o ps = true) : ff o ≤ m:=by
 have hn:=rK h
 have hs : bv s ps o.size o.b o.sl = true:=by simp only [dp,Bool.and_eq_true] at h; exact h.2
 refine qP hp hl o.sl _ hs _ ?_
 unfold eh
 rw [List.getD_eq_getElem?_getD,List.getElem?_eq_getElem (by omega)]
 exact List.getElem_mem _
theorem lC {s : Nat → Int} {ps : List al} {from_ id : Int} {z : List R5} (hz : ∀ x ∈ z,vW x) : ∀ i,i ≤ z.length → ∀ o ∈ dz s ps from_ id z i,f8 s ps o = true ∧ from_ ≤ o.a ∧ id ≤ o.id ∧ o.id < id + i
 | 0,_,o,ho => nomatch ho
 | i + 1,hi,o,ho => by
  rw [dz,List.mem_append] at ho
  rcases ho with ho | ho
  ·have:=lC hz i (by omega) o ho
   exact ⟨this.1,this.2.1,this.2.2.1,by omega⟩
  ·split at ho
   ·rename_i hp
    rw [List.mem_singleton.1 ho]
    have hx : vW (z.getD i r50):=hz _ (by rw [List.getD_eq_getElem?_getD,List.getElem?_eq_getElem (show i < z.length by omega)]; exact List.getElem_mem _)
    have p1:=aN hx.1 (n:=40) (by omega)
    exact ⟨hp,by show from_ ≤ from_ + _; omega,by show id ≤ id + (i : Int); omega,by show id + (i : Int) < _; omega⟩
   ·cases ho
theorem qY {s : Nat → Int} {ps : List al} {from_ id : Int} {z : List R5} (hz : ∀ x ∈ z,vW x) : ∀ i,i ≤ z.length → (dz s ps from_ id z i).Pairwise fun x y => x.id ≠ y.id
 | 0,_ => .nil
 | i + 1,hi => by
  rw [dz,List.pairwise_append]
  refine ⟨qY hz i (by omega),by split <;> simp,fun x hx y hy => ?_⟩
  have:=lC hz i (by omega) x hx
  split at hy
  ·rw [List.mem_singleton.1 hy]
   show x.id ≠ id + (i : Int)
   omega
  ·cases hy
end Go.Proofs
namespace Go.Proofs
open Go Go.AI
set_option maxRecDepth 10000
def wt (c : bQ) : List AV:=[.int .i64 (c.x 0),.int .i64 (c.x 1),.int .i64 (c.x 2),.int .i64 (c.x 3),.int .i64 (c.x 4),.int .i64 (c.x 5),.int .i64 (c.x 6),.int .i64 (c.y 0),.int .i64 (c.y 1),.int .i64 (c.y 2),.int .i64 (c.y 3),.sl .no 3 (c.z.map jL),.sl .no 5 (c.v.map jK),.int .i64 c.from_]
theorem AV.weak.tup {cs ds : List AV} (h : iC cs ds) : (AV.tup cs).weak (.tup ds):=by
 intro m v hv
 cases hv with
 | tup _ vs hl hr =>
  obtain ⟨h1,h2⟩:=h.spec
  refine .tup ds vs (by omega) fun i x u g1 g2 => ?_
  have hi : i < cs.length:=by rw [h1]; exact (List.getElem?_eq_some_iff.1 g1).1
  exact h2 i _ x (List.getElem?_eq_getElem hi) g1 m u (hr i _ u (List.getElem?_eq_getElem hi) g2)
inductive tH : List (List AV) → List (List AV) → Prop
 | nil : tH [] []
 | cons {x y : List AV} {xs ys : List (List AV)} (h : iC x y) (t : tH xs ys) : tH (x :: xs) (y :: ys)
theorem tH.spec {xs ys : List (List AV)} (h : tH xs ys) : xs.length = ys.length ∧ ∀ (i : Nat) (y : List AV),ys[i]? = some y → ∃ x,xs[i]? = some x ∧ iC x y:=by
 induction h with
 | nil => exact ⟨rfl,by simp⟩
 | cons h t ih =>
  refine ⟨by simp [ih.1],fun i y hy => ?_⟩
  cases i with
  | zero => simp at hy; subst hy; exact ⟨_,rfl,h⟩
  | succ i => obtain ⟨x,h1,h2⟩:=ih.2 i y (by simpa using hy); exact ⟨x,by simpa using h1,h2⟩
theorem AV.weak.rows {o : Go.AI.Own} {sz : Nat} {xs ys : List (List AV)} (h : tH xs ys) (hc : ∀ y ∈ ys,∀ c ∈ y,AV.isCell c = true) : (AV.sl o sz xs).weak (.sl .no sz ys):=by
 intro m v hv
 cases hv with
 | sl _ _ _ base len cap ho hf hl hcap hsz hcell b off hb g hm hr =>
  obtain ⟨e1,e2⟩:=h.spec
  have key : ∀ {i : Nat} {y : List AV} {j : Nat} {c : AV},ys[i]? = some y → y[j]? = some c → ∃ x d,xs[i]? = some x ∧ x[j]? = some d ∧ d.weak c:=by
   intro i y j c h1 h2
   obtain ⟨x,h3,h4⟩:=e2 i y h1
   obtain ⟨q1,q2⟩:=h4.spec
   have hj : j < x.length:=by rw [q1]; exact (List.getElem?_eq_some_iff.1 h2).1
   exact ⟨x,_,h3,List.getElem?_eq_getElem hj,q2 j _ c (List.getElem?_eq_getElem hj) h2⟩
  refine .sl _ _ _ base len cap (by intro k hk; cases hk) (by intro hk; cases hk) (by omega) hcap (fun y hy => ?_) hc b off hb g (fun i y j c h1 h2 => ?_) (fun i y j c h1 h2 => ?_)
  ·obtain ⟨i,hi⟩:=List.mem_iff_getElem?.1 hy
   obtain ⟨x,h3,h4⟩:=e2 i y hi
   rw [← h4.spec.1]
   exact hsz x (List.mem_of_getElem? h3)
  ·obtain ⟨x,d,h3,h4,_⟩:=key h1 h2
   exact hm i x j d h3 h4
  ·obtain ⟨x,d,h3,h4,h5⟩:=key h1 h2
   exact h5 m _ (hr i x j d h3 h4)
end Go.Proofs
