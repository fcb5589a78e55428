/- Contracts of the functions and plain facts about what they reckon, part 3: called with arguments that read so, each hands back what is typed. The conditions are those typed. -/
import Derived.Test.YtnbgjinkghhdoaaGreatTConB
set_option linter.unusedSectionVars false
set_option linter.unusedVariables false
set_option linter.unusedSimpArgs false
namespace Go.Proofs
open Go Go.AI
set_option maxRecDepth 10000
def inM (x lo hi:Int):Bool:=decide (lo≤x)&&decide (x≤hi)
def spM (a b:Int):Bool:=decide (0≤a)&&(decide (a<b)&&decide (b≤1000001))
theorem lO (x lo hi:Int):ae Tryz.prog 99 [.int .i64 x,.int .i64 lo,.int .i64 hi] (.bool (inM x lo hi)):=by
 refine ah aa Tryz.func99 rfl (by kernel_rfl) af (Nat.le_of_ble_eq_true rfl) ?_
 intro F n' w0 m0 hG hro h1
 repeat' first|refine QS rfl hG aa pW ?_|((conv=>whnf); first|refine anF ?_|refine anT ?_|refine anK ?_|refine And.intro (fun h=>?_) (fun h=>?_)|refine Or.inl ?_)
 all_goals refine Ends.mk (Or.inl rfl) (ac (congrArg AV.bool ?_))
 all_goals simp only [inM, *,Bool.true_and,Bool.and_true,Bool.false_and,Bool.and_false,Bool.true_or,Bool.or_true,Bool.false_or,Bool.or_false,Bool.not_true,Bool.not_false]
theorem oy (a b:Int):ae Tryz.prog 131 [.agg [.int .i64 a,.int .i64 b]] (.bool (spM a b)):=by
 refine ah aa Tryz.func131 rfl (by kernel_rfl) af (Nat.le_of_ble_eq_true rfl) ?_
 intro F n' w0 m0 hG hro h1
 repeat' first|refine QS rfl hG aa ou ?_|((conv=>whnf); first|refine anF ?_|refine anT ?_|refine anK ?_|refine And.intro (fun h=>?_) (fun h=>?_)|refine Or.inl ?_)
 all_goals refine Ends.mk (Or.inl rfl) (ac (congrArg AV.bool ?_))
 all_goals simp only [spM, *,Bool.true_and,Bool.and_true,Bool.false_and,Bool.and_false,Bool.true_or,Bool.or_true,Bool.false_or,Bool.or_false,Bool.not_true,Bool.not_false]
def j7 (l:List Img):List Bool:=(List.range 64).map fun (k:Nat)=>l.any fun x=>x.i==(k:Int)
def mH (l:List Img) (i:Int):Bool:=l.any fun x=>x.i==i
def nK (pre:List Img) (x:Img):Bool:=inM x.i 0 63&&(!mH pre x.i&&(inM x.u 1 1000000&&spM x.a x.b))
def eU:List Img→List Img→Bool
 | _,[]=>true
 | pre,x::r=>nK pre x&&eU (pre++[x]) r
def fq (l:List Img):Bool:=eU [] l&&decide (l.length≤24)
theorem IU (m:List Img) (h:m=[]):(j7 m).map AV.bool=List.replicate 64 (.bool false):=by
 subst h
 simp only [j7,List.map_map,List.any_nil,Function.comp_def,List.map_const',List.length_range,List.map_replicate]
theorem C5 {i:TI} {cs:List AV} {n:Nat} {x:AV} {r:List AV} {K:AV→Prop} (h:cs.drop n=x::r) (hK:(match dz i (x::r) with | some v=>K v | none=>False)):(match dz i (cs.drop n) with | some v=>K v | none=>False):=by rw [h]; exact hK
theorem Ag {s:St} {d n:Nat} {vs:List AV} {b':List (Nat×List AV)} {K:List (Nat×List AV)→Prop} (h:mC s.b d n vs=some b') (hK:K b'):(match mC s.b d n vs with | some b=>K b | none=>False):=by rw [h]; exact hK
theorem CA {bx:List (Nat×List AV)} {d n:Nat} {cs:List AV} {v:AV} (h1:get bx d=some cs) (h2:n<cs.length):mC bx d n [v]=some ((d,mF cs n [v])::bx):=by
 unfold mC
 rw [h1]
 simp only [List.length_cons,List.length_nil,Nat.zero_add]
 rw [Nat.ble_eq_true_of_le h2]; rfl
theorem CC {l:List Img} {i:Int} (h:inM i 0 63=true):∃ r,((j7 l).map AV.bool).drop (0+i.toNat*1) = .bool (mH l i)::r:=by
 simp only [inM,Bool.and_eq_true,decide_eq_true_eq] at h
 have hlt:0+i.toNat*1<((j7 l).map AV.bool).length:=by simp [j7]; omega
 refine ⟨_,(List.drop_eq_getElem_cons hlt).trans (congrArg (·::_) ?_)⟩
 simp only [j7,List.map_map,List.getElem_map,List.getElem_range,Function.comp,mH]
 congr 3
 funext x
 rw [Nat.zero_add,Nat.mul_one,Int.toNat_of_nonneg h.1]
theorem EA {l:List Img} {x:Img} (h:inM x.i 0 63=true):mF ((j7 l).map AV.bool) (0+x.i.toNat*1) [.bool true]=(j7 (l++[x])).map AV.bool:=by
 simp only [inM,Bool.and_eq_true,decide_eq_true_eq] at h
 rw [fF]
 apply List.ext_getElem?
 intro j
 show (bB ((j7 l).map AV.bool) (0+x.i.toNat*1) (.bool true))[j]?=_
 rw [cR]
 simp only [j7,List.length_map,List.length_range,List.getElem?_map,Nat.zero_add,Nat.mul_one,List.any_append,List.any_cons,List.any_nil,Bool.or_false]
 by_cases hj:j<64
 ·rw [List.getElem?_range hj]
  simp only [Option.map_some]
  by_cases he:j=x.i.toNat
  ·rw [if_pos (by omega)]
   have:(x.i==(j:Int))=true:=by rw [beq_iff_eq]; omega
   rw [this,Bool.or_true]
  ·rw [if_neg (by omega)]
   have:(x.i==(j:Int))=false:=by rw [beq_eq_false_iff_ne]; omega
   rw [this,Bool.or_false]
 ·rw [if_neg (by omega),List.getElem?_eq_none (by simp; omega)]; rfl
set_option maxHeartbeats 8000000 in
theorem tg (l:List Img) (hl:l.length≤1000000):ae Tryz.prog 115 [kQ l] (.bool (fq l)):=by
 refine ah aa Tryz.func115 rfl (by kernel_rfl) af (Nat.le_of_ble_eq_true rfl) ?_
 intro F n' w0 m0 hG hro h1
 repeat' first|refine QS rfl hG aa gz ?_|((conv=>whnf); first|refine anF ?_|refine anT ?_|refine anK ?_|refine And.intro (fun h=>?_) (fun h=>?_)|refine Or.inl ?_)
 refine ar (X:=Nat×List AV) (fun x=>⟨[(8,.int .i64 x.1),(7,.int .i64 (l.map kR).length),(6,kQ l),(0,kQ l),(3,.loc 3 0)],[(3,x.2)]⟩) (fun x=>x.1≤l.length∧eU (l.take x.1) (l.drop x.1)=eU [] l∧x.2=(j7 (l.take x.1)).map AV.bool) (fun x=>l.length - x.1) (0,List.replicate 64 (.bool false)) ⟨Nat.zero_le _,by simp,(IU _ rfl).symm⟩ (ai ?_ ?_) (fun x hi=>?_)
 ·repeat' (first | exact trivial | refine And.intro rfl ?_)
 ·repeat' (first | exact trivial | refine And.intro rfl ?_)
 ·obtain ⟨i,cs⟩:=x
  obtain ⟨hi,hok,hcs⟩:=hi
  simp only at hi hok hcs ⊢
  by_cases hlt:i<l.length
  ·have bbk:decide ((i:Int)<((l.map kR).length:Int))=false→False:=fun h=>by have:=of_decide_eq_false h; simp at this; omega
   have hx:=Fl hlt
   have htk:l.take (i+1)=l.take i++[l.getD i rO]:=by rw [List.take_add_one,List.getD_eq_getElem?_getD,List.getElem?_eq_getElem hlt]; rfl
   have hdr:l.drop i=l.getD i rO::l.drop (i+1):=by rw [List.getD_eq_getElem?_getD,List.getElem?_eq_getElem hlt]; exact List.drop_eq_getElem_cons hlt
   rw [hdr,eU,← htk] at hok
   generalize l.getD i rO=x at hx htk hok
   have hln:cs.length=64:=by rw [hcs]; simp [j7]
   cases hin:inM x.i 0 63 with
   | false=>
    have cIn:ae Tryz.prog 99 [.int .i64 x.i,.int .i64 0,.int .i64 63] (.bool false):=by rw [← hin]; exact lO _ _ _
    clear hcs
    repeat' first|exact (bbk (by assumption)).elim|refine QS rfl hG aa gz ?_|((conv=>whnf); first|refine anF ?_|refine anT ?_|refine anK ?_|refine And.intro (Int.natCast_nonneg i) (Exists.intro _ (And.intro hx ?_))|refine Exists.intro _ (And.intro (cIn) ?_)|refine Exists.intro _ (And.intro (lO _ _ _) ?_)|refine Exists.intro _ (And.intro (oy _ _) ?_)|refine Eq.mpr (eY cs _) ?_|refine And.intro (fun h=>?_) (fun h=>?_)|refine Or.inl ?_)
    refine Ends.mk (Or.inl rfl) (ac (congrArg AV.bool ?_))
    rw [fq,← hok,nK,hin]
    (try simp only [Bool.not_eq_true',Bool.not_eq_false'] at *)
    simp only [*,Bool.true_and,Bool.and_true,Bool.false_and,Bool.and_false,Bool.true_or,Bool.or_true,Bool.false_or,Bool.or_false,Bool.not_true,Bool.not_false]
   | true=>
    have cIn:ae Tryz.prog 99 [.int .i64 x.i,.int .i64 0,.int .i64 63] (.bool true):=by rw [← hin]; exact lO _ _ _
    have hst:=EA (l:=l.take i) hin
    rw [← htk] at hst
    obtain ⟨r,hse⟩:=CC (l:=l.take i) hin
    have hx0:0≤x.i:=by have:=hin; simp only [inM,Bool.and_eq_true,decide_eq_true_eq] at this; exact this.1
    have hx1:x.i<((64:Nat):Int):=by have:=hin; simp only [inM,Bool.and_eq_true,decide_eq_true_eq] at this; omega
    rw [← hcs] at hst hse
    clear hcs
    obtain ⟨sb,hsb⟩:∃ sb,sb=mH (l.take i) x.i:=⟨_,rfl⟩
    rw [← hsb] at hse
    have hsl:0+x.i.toNat*1<cs.length:=by rw [hln]; omega
    repeat' first|exact (bbk (by assumption)).elim|refine QS rfl hG aa gz ?_|((conv=>whnf); first|refine anF ?_|refine anT ?_|refine anK ?_|refine And.intro (Int.natCast_nonneg i) (Exists.intro _ (And.intro hx ?_))|refine Exists.intro _ (And.intro (cIn) ?_)|refine Exists.intro _ (And.intro (lO _ _ _) ?_)|refine Exists.intro _ (And.intro (oy _ _) ?_)|refine C5 hse ?_|refine Ag (CA (cs:=cs) rfl hsl) ?_|refine Eq.mpr (eY (mF cs _ _) _) ?_|refine And.intro hx0 (And.intro hx1 ?_)|refine Eq.mpr (eY cs _) ?_|refine And.intro (fun h=>?_) (fun h=>?_)|refine Or.inl ?_)
    ·refine Ends.mk (Or.inl rfl) (ac (congrArg AV.bool ?_))
     subst hsb
     rw [fq,← hok,nK,hin]
     (try simp only [Bool.not_eq_true',Bool.not_eq_false'] at *)
     simp only [*,Bool.true_and,Bool.and_true,Bool.false_and,Bool.and_false,Bool.true_or,Bool.or_true,Bool.false_or,Bool.or_false,Bool.not_true,Bool.not_false]
    ·refine Ends.mk (Or.inl rfl) (ac (congrArg AV.bool ?_))
     subst hsb
     rw [fq,← hok,nK,hin]
     (try simp only [Bool.not_eq_true',Bool.not_eq_false'] at *)
     simp only [*,Bool.true_and,Bool.and_true,Bool.false_and,Bool.and_false,Bool.true_or,Bool.or_true,Bool.false_or,Bool.or_false,Bool.not_true,Bool.not_false]
    ·refine Ends.mk (Or.inl rfl) (ac (congrArg AV.bool ?_))
     subst hsb
     rw [fq,← hok,nK,hin]
     (try simp only [Bool.not_eq_true',Bool.not_eq_false'] at *)
     simp only [*,Bool.true_and,Bool.and_true,Bool.false_and,Bool.and_false,Bool.true_or,Bool.or_true,Bool.false_or,Bool.or_false,Bool.not_true,Bool.not_false]
    ·conv=>whnf
     refine Exists.intro (i+1,mF cs (0+x.i.toNat*1) [.bool true]) (And.intro ⟨hlt,?_,hst⟩ (And.intro (show l.length - (i+1)<l.length - i by omega) ?_))
     ·subst hsb
      rw [← hok,nK,hin]
      (try simp only [Bool.not_eq_true',Bool.not_eq_false'] at *)
      simp only [*,Bool.true_and,Bool.and_true,Bool.false_and,Bool.and_false,Bool.true_or,Bool.or_true,Bool.false_or,Bool.or_false,Bool.not_true,Bool.not_false]
     ·refine ai (And.intro (congrArg some (aq (by omega))) ?_) ?_
      ·repeat' (first | exact trivial | refine And.intro rfl ?_)
      ·repeat' (first | exact trivial | refine And.intro rfl ?_)
  ·have bbk:decide ((i:Int)<((l.map kR).length:Int))=true→False:=fun h=>by have:=of_decide_eq_true h; simp at this; omega
   repeat' first|exact (bbk (by assumption)).elim|refine QS rfl hG aa gz ?_|((conv=>whnf); first|refine anF ?_|refine anT ?_|refine anK ?_|refine And.intro (fun h=>?_) (fun h=>?_)|refine Or.inl ?_)
   refine Ends.mk (Or.inl rfl) (ac (congrArg AV.bool ?_))
   have hdn:l.drop i=[]:=List.drop_of_length_le (by omega)
   rw [hdn,eU] at hok
   rw [fq,← hok,List.length_map,Bool.true_and]
   exact decide_eq_decide.2 (by omega)
end Go.Proofs
namespace Go.Proofs
open Go Go.AI
set_option maxRecDepth 10000
theorem pr:∀ (l pre:List Img),eU pre l=true→∀ x∈l,0≤x.u∧x.u≤1000000
 | [],_,_,x,hx=>nomatch hx
 | y::r,pre,h,x,hx=>by
  simp only [eU,Bool.and_eq_true] at h
  rcases List.mem_cons.1 hx with rfl | hx
  ·have:=h.1
   simp only [nK,inM,Bool.and_eq_true,decide_eq_true_eq] at this
   omega
  ·exact pr r _ h.2 x hx
end Go.Proofs
namespace Go.Proofs
open Go Go.AI
set_option maxRecDepth 10000
def mIn (x:Int×Int) (ys:List (Int×Int)) (f:Int):Int:=ys.foldl (fun f y=>fO f x y) f
def Ix (xs ys:List (Int×Int)) (f:Int):Int:=xs.foldl (fun f x=>mIn x ys f) f
end Go.Proofs
namespace Go.Proofs
open Go Go.AI
set_option maxRecDepth 10000
structure qq (s:Nat→Int) (l:List Opt) (a b:Int):Prop where
 hl:l.length≤1000000
 sl:ku l
 sp:(dn l).length≤900000
 val:IR s (FR l)=true
 span:HT a b=true
 can:∀ o∈l,na o=true
 mem:fq (fW l)=true
 s10:inM (s 10) 0 1000000=true
 ll:(aF l).length≤1000000
 bat:iP s (aF l) a b=true
end Go.Proofs
namespace Go.Proofs
open Go Go.AI
structure IM (s:Nat→Int) (o:Opt) (b:Int):Prop where
 id:0≤o.id∧o.id≤63
 size:1≤o.size∧o.size≤s 10
 shot:0≤o.a∧o.a<o.b∧o.b≤1000000∧o.b - o.a≤60
 look:inS o.look (w64 (0 - s 9)) (s 9)=true
 len:1≤o.sl.length∧o.sl.length≤6
 slot:∀ x∈o.sl,0≤x.a∧x.a<x.b∧x.b≤fk o
 last:o.b<fk o∧fk o≤b
 can:na o=true
def jK (t:Int):List aS→Int
 | []=>t
 | x::r=>jK x.b r
theorem rC (t:Int):∀ (l:List aS),l≠[]→jK t l=(l.getD (l.length - 1) gH).b
 | [],h=>absurd rfl h
 | [x],_=>rfl
 | x::y::r,_=>by
  rw [jK,rC _ (y::r) (by simp)]
  simp
theorem Bz {s:Nat→Int} {ps:List ao} {z:Int} (hps:∀ p∈ps,p.sb≤1000001) (hpl:ps.length≤64):∀ (l:List aS) (t:Int),bj s ps z t l=true→0≤t →
  (∀ x∈l,t≤x.a∧x.a<x.b∧x.b≤jK t l)∧t≤jK t l∧(l≠[]→t<jK t l)∧eH t l=true
 | [],t,_,_=>⟨fun _ h=>(nomatch h),Int.le_refl _,fun h=>absurd rfl h,rfl⟩
 | x::r,t,h,ht=>by
  simp only [bj,ez,Bool.and_eq_true,inS,decide_eq_true_eq,Bool.not_eq_true'] at h
  obtain ⟨⟨h01,⟨⟨⟨_,h2⟩,h3⟩,h4⟩,_⟩,h5⟩:=h
  obtain ⟨h0,h1⟩:=h01
  have hxa:t≤x.a:=by omega
  obtain ⟨g1,g2,_,g4⟩:=Bz hps hpl r x.b h5 (by omega)
  have hp:(aD ps x.p.toNat).sb≤1000001:=by
   rw [am (by omega) (by omega)] at h1
   have hlt:x.p.toNat<ps.length:=by omega
   unfold aD
   rw [List.getD_eq_getElem?_getD,List.getElem?_eq_getElem hlt]
   exact hps _ (List.getElem_mem hlt)
  refine ⟨fun y hy=>?_,?_,fun _=>?_,?_⟩
  ·rcases List.mem_cons.1 hy with rfl | hy
   ·exact ⟨hxa,h4,g2⟩
   ·have:=g1 y hy
    exact ⟨by omega,this.2.1,this.2.2⟩
  ·show t≤jK x.b r; omega
  ·show t<jK x.b r; omega
  ·simp only [eH,lS,Bool.and_eq_true,decide_eq_true_eq]
   exact ⟨⟨hxa,⟨by omega,h4⟩,by omega⟩,g4⟩
theorem qZ {ps:List ao} (h:cH ps=true):(∀ p∈ps,p.sb≤1000001)∧ps.length≤64:=by
 simp only [cH,Bool.and_eq_true,decide_eq_true_eq,Bool.not_eq_true',List.any_eq_false] at h
 refine ⟨fun p hp=>?_,h.1.1⟩
 have:=h.1.2 p hp
 simp only [cU,inS,Bool.and_eq_true,Bool.or_eq_true,decide_eq_true_eq,Bool.not_eq_true,Bool.not_eq_true',Bool.not_eq_false,beq_iff_eq] at this
 omega
theorem H4 {s:Nat→Int} {o:Opt} {ps:List ao} {b:Int} (hps:cH ps=true) (hs:s 10≤1000000) (h:cY s o ps=true) (hb:fk o≤b):IM s o b:=by
 obtain ⟨hp1,hp2⟩:=qZ hps
 simp only [cY,mm,pz,oG,xV,lS,Bool.and_eq_true,decide_eq_true_eq,beq_iff_eq] at h
 obtain ⟨⟨⟨⟨⟨⟨⟨hid,_⟩,_⟩,_⟩,hsz⟩,⟨⟨⟨_,hsp⟩,_⟩,hlk⟩,hob⟩,hln⟩,hsl⟩:=h
 simp only [inS,Bool.and_eq_true,decide_eq_true_eq] at hid hsz hln
 have hspan:0≤o.a∧o.a<o.b∧o.b - o.a≤60:=by
  obtain ⟨⟨⟨q1,q2⟩,q3⟩,q4⟩:=hsp
  rw [am (by omega) (by omega)] at q4
  exact ⟨q1,q2,q4⟩
 obtain ⟨g1,g2,g3,g4⟩:=Bz hp1 hp2 o.sl o.b hsl (by omega)
 have hne:o.sl≠[]:=fun e=>by rw [e] at hln; simp at hln
 have hlast:jK o.b o.sl=fk o:=rC _ _ hne
 rw [hlast] at g1 g2 g3
 refine ⟨hid,hsz,⟨hspan.1,hspan.2.1,hob,hspan.2.2⟩,hlk,by omega,fun x hx=>?_,⟨g3 hne,hb⟩,?_⟩
 ·have:=g1 x hx; omega
 ·simp only [na,Bool.and_eq_true,inS,lS,decide_eq_true_eq]
  exact ⟨g4,⟨⟨hid,by omega,by omega⟩,⟨by omega,by omega⟩,by omega⟩,by omega,by omega⟩
theorem mR {s:Nat→Int} {ps:List ao} {a b:Int}:∀ (l pre:List Opt),eo s ps a b pre l=true→∀ o∈l,cY s o ps=true∧a≤o.a∧fk o≤b
 | [],_,_,o,ho=>nomatch ho
 | x::r,pre,h,o,ho=>by
  simp only [eo,Bool.and_eq_true] at h
  rcases List.mem_cons.1 ho with rfl | ho
  ·have:=h.1
   simp only [nI,Bool.and_eq_true,Bool.not_eq_true',decide_eq_false_iff_not] at this
   exact ⟨this.1.1.1,by omega,by omega⟩
  ·exact mR r _ h.2 o ho
theorem Bv {s:Nat→Int} {l:List Opt} {ps:List ao} {a b:Int} (h:a8 s l ps a b=true):l.length≤8∧(0≤a∧a<b∧b≤1000000)∧b - a≤3000∧gI s=true∧cH ps=true∧eo s ps a b [] l=true:=by
 simp only [a8,Bool.and_eq_true,decide_eq_true_eq,Bool.not_eq_true',decide_eq_false_iff_not] at h
 obtain ⟨⟨⟨⟨⟨h1,h2⟩,h3⟩,h4⟩,h5⟩,h6⟩:=h
 have h2:=ny h2
 rw [am (by omega) (by omega)] at h3
 exact ⟨h1,h2,by omega,h4,h5,h6⟩
theorem Ik {s:Nat→Int} (h:gI s=true):1≤s 10∧s 10≤1000000:=by
 simp only [gI,inS,Bool.and_eq_true,decide_eq_true_eq] at h
 omega
theorem Fm {s:Nat→Int} {ps:List ao} {a b:Int} (hps:cH ps=true) (hs:s 10≤1000000) (hb:b≤1000000):∀ (l pre:List Opt),eo s ps a b pre l=true→eU (fW pre) (fW l)=true
 | [],_,_=>rfl
 | x::r,pre,h=>by
  have hx:=mR (x::r) pre h x (.head _)
  have hf:=H4 hps hs hx.1 hx.2.2
  simp only [eo,Bool.and_eq_true] at h
  have ih:=Fm hps hs hb r _ h.2
  have hid:=h.1
  simp only [nI,Bool.and_eq_true,Bool.not_eq_true'] at hid
  have hid:=hid.2
  rw [show fW (x::r)=⟨x.id,x.size,x.a,fk x⟩::fW r from rfl,eU,show fW pre++[⟨x.id,x.size,x.a,fk x⟩]=fW (pre++[x]) by simp [fW],ih,Bool.and_true]
  have hse:mH (fW pre) x.id=false:=by
   rw [← hid]; unfold mH fW; rw [List.any_map]; rfl
  obtain ⟨q1,q2,q3,q4,q5,q6,q7,q8⟩:=hf
  simp only [nK,hse,inM,spM,Bool.and_eq_true,decide_eq_true_eq,Bool.not_false,true_and]
  exact ⟨q1,⟨q2.1,by omega⟩,q3.1,by omega,by omega⟩
theorem qq.of {s:Nat→Int} {l:List Opt} {ps:List ao} {a b:Int} (h:a8 s l ps a b=true):qq s l a b∧ew l∧∀ o∈l,IM s o b:=by
 obtain ⟨h1,h2,h3,h4,h5,h6⟩:=Bv h
 have h10:=Ik h4
 have hm:∀ o∈l,IM s o b:=fun o ho=>by
  have:=mR l [] h6 o ho
  exact H4 h5 h10.2 this.1 this.2.2
 have hg:ew l:=⟨h1,fun o ho=>by
  obtain ⟨q1,q2,q3,q4,q5,q6,q7,q8⟩:=hm o ho
  omega,fun o ho x hx=>by
  obtain ⟨q1,q2,q3,q4,q5,q6,q7,q8⟩:=hm o ho
  have:=q6 x hx
  omega⟩
 have hlen:=qu hg
 have hrl:=hg.len
 refine ⟨⟨by omega,fun o ho=>by have:=(hm o ho).len; omega,?_,?_,?_,fun o ho=>(hm o ho).can,?_,?_,by omega,?_⟩,hg,hm⟩
 ·have:=xm l; omega
 ·rw [IR,h4,Bool.and_true,Jb,Bool.and_eq_true]
  refine ⟨List.all_eq_true.2 fun x hx=>?_,by simp [FR]; omega⟩
  obtain ⟨o,ho,rfl⟩:=List.mem_map.1 hx
  obtain ⟨q1,q2,q3,q4,q5,q6,q7,q8⟩:=hm o ho
  simp only [Jc,Bool.and_eq_true,decide_eq_true_eq]
  rw [am (by omega) (by omega)]
  exact ⟨⟨⟨⟨q3.1,q3.2.1⟩,q3.2.2.1⟩,q3.2.2.2⟩,q4⟩
 ·simp only [HT,Bool.and_eq_true,decide_eq_true_eq]
  rw [am (by omega) (by omega)]
  omega
 ·rw [fq,show eU [] (fW l)=true from Fm h5 h10.2 h2.2.2 l [] h6,Bool.true_and]
  simp [fW]; omega
 ·simp only [inM,Bool.and_eq_true,decide_eq_true_eq]; omega
 ·rw [iP,h4,hg.proper,Bool.and_true,Bool.and_true,Bool.and_eq_true]
  refine ⟨gD.2 h2,?_⟩
  rw [am (by omega) (by omega)]
  exact decide_eq_true (by omega)
end Go.Proofs
namespace Go.Proofs
open Go Go.AI
set_option maxRecDepth 10000
theorem yL (n a b:Int):ae Tryz.prog 82 [.int .i64 n,.int .i64 a,.int .i64 b] (.bool (inS n a b)):=by
 refine ah aa Tryz.func82 rfl (by kernel_rfl) af (Nat.le_of_ble_eq_true rfl) ?_
 intro F n' w0 m0 hG hro h1
 repeat' first|refine QS rfl hG aa yS ?_|((conv=>whnf); first|refine anF ?_|refine anT ?_|refine anK ?_|refine And.intro (fun h=>?_) (fun h=>?_)|refine Or.inl ?_)
 all_goals refine Ends.mk (Or.inl rfl) (ac (congrArg AV.bool ?_))
 all_goals (clear hG; grind [inS])
theorem yK (o:Nat→Int) (a b k:Int):ae Tryz.prog 83 [.agg (lR o),.agg (bp a b),.int .i64 k] (.bool (oG o a b k)):=by
 refine ah aa Tryz.func83 rfl (by kernel_rfl) af (Nat.le_of_ble_eq_true rfl) ?_
 intro F n' w0 m0 hG hro h1
 repeat' first|refine QS rfl hG aa yR ?_|((conv=>whnf); first|refine anF ?_|refine anT ?_|refine anK ?_|refine Exists.intro _ (And.intro (zO o) ?_)|refine And.intro (fun h=>?_) (fun h=>?_)|refine Or.inl ?_)
 all_goals refine Ends.mk (Or.inl rfl) (ac (congrArg AV.bool ?_))
 all_goals (clear hG; grind [oG,xV,lS,inS,w64])
theorem dG (c n:Int) (hn:n≠0):ae Tryz.prog 48 [.int .i64 c,.int .i64 n] (.int .i64 (al c n)):=by
 refine ah aa Tryz.func48 rfl (by kernel_rfl) af (Nat.le_of_ble_eq_true rfl) ?_
 intro F n' w0 m0 hG hro h1
 repeat' first|refine QS rfl hG aa zd ?_|((conv=>whnf); first|refine anF ?_|refine anT ?_|refine anK ?_|refine And.intro hn ?_|refine And.intro (fun h=>?_) (fun h=>?_)|refine Or.inl ?_)
 all_goals refine Ends.mk (Or.inl rfl) (ac (congrArg (AV.int .i64) ?_))
 all_goals (simp_all [al,w64] <;> omega)
end Go.Proofs
namespace Go.Proofs
open Go Go.AI
set_option maxRecDepth 10000
theorem n4 {a b:Int}:dN a b<0↔a<b:=by unfold dN; split <;> (try split) <;> omega
theorem vd {a b:Int}:dN a b=0↔a=b:=by unfold dN; split <;> (try split) <;> omega
theorem Cf (p q:ao):decide (qm p q<0)=if p.ca≠q.ca then decide (p.ca<q.ca) else if p.sat≠q.sat then decide (p.sat<q.sat) else if p.st≠q.st then decide (p.st<q.st) else if p.sa≠q.sa then decide (p.sa<q.sa) else decide (p.cb<q.cb):=by
 have e1:=n4 (a:=p.ca) (b:=q.ca); have z1:=vd (a:=p.ca) (b:=q.ca)
 have e2:=n4 (a:=p.sat) (b:=q.sat); have z2:=vd (a:=p.sat) (b:=q.sat)
 have e3:=n4 (a:=p.st) (b:=q.st); have z3:=vd (a:=p.st) (b:=q.st)
 have e4:=n4 (a:=p.sa) (b:=q.sa); have z4:=vd (a:=p.sa) (b:=q.sa)
 have e5:=n4 (a:=p.cb) (b:=q.cb)
 unfold qm
 generalize dN p.ca q.ca=c1 at *
 generalize dN p.sat q.sat=c2 at *
 generalize dN p.st q.st=c3 at *
 generalize dN p.sa q.sa=c4 at *
 generalize dN p.cb q.cb=c5 at *
 simp only [orS]
 grind
theorem vq (p q:ao):ae Tryz.prog 124 [.agg (aO p),.agg (aO q)] (.bool (decide (qm p q<0))):=by
 rw [Cf]
 refine ah aa Tryz.func124 rfl (by kernel_rfl) af (Nat.le_of_ble_eq_true rfl) ?_
 intro F n' w0 m0 hG hro h1
 repeat' first|refine QS rfl hG aa wj ?_|((conv=>whnf); first|refine anF ?_|refine anT ?_|refine anK ?_|refine And.intro (fun h=>?_) (fun h=>?_)|refine Or.inl ?_)
 all_goals refine Ends.mk (Or.inl rfl) (ac (congrArg AV.bool ?_))
 all_goals (clear hG; grind [])
theorem nC {l:List ao} {i:Nat} (h:i<l.length):(l.map aO)[(i:Int).toNat]?=some (aO (aD l i)):=by rw [Int.toNat_natCast]; exact eB h
theorem d4 {l:List ao} {i:Nat} (h:i<l.length):aD l i=l[i]:=by simp [aD,List.getElem?_eq_getElem h]
theorem ja (l:List ao):cH l=true↔l.length≤64∧(∀ j,j<l.length→cU (aD l j)=true)∧∀ j,j+1<l.length→decide (qm (aD l (j+1)) (aD l j)<0)=false:=by
 simp only [cH,Er,Bool.and_eq_true,Bool.not_eq_true',List.any_eq_false,List.all_eq_true,List.mem_range,decide_eq_true_eq,Bool.not_eq_true',Bool.not_eq_false',Bool.not_eq_true,Bool.not_eq_false,and_assoc]
 refine and_congr Iff.rfl (and_congr ⟨fun h j hj=>?_,fun h x hx=>?_⟩ ⟨fun h j hj=>h j (by omega),fun h j hj=>h j (by omega)⟩)
 ·rw [d4 hj]; exact h _ (List.getElem_mem hj)
 ·obtain ⟨j,hj,rfl⟩:=List.getElem_of_mem hx
  rw [← d4 hj]; exact h j hj
set_option maxHeartbeats 8000000 in
theorem vo (l:List ao) (hl:l.length≤1000000):ae Tryz.prog 81 [ay l] (.bool (cH l)):=by
 have hlm:((l.map aO).length:Int)=(l.length:Int):=by rw [List.length_map]
 refine ah aa Tryz.func81 rfl (by kernel_rfl) af (Nat.le_of_ble_eq_true rfl) ?_
 intro F n' w0 m0 hG hro h1
 repeat' first|refine QS rfl hG aa ld ?_|((conv=>whnf); first|refine anF ?_|refine anT ?_|refine anK ?_|refine And.intro (fun h=>?_) (fun h=>?_)|refine Or.inl ?_)
 all_goals first
  |(refine Ends.mk (Or.inl rfl) (ac (congrArg AV.bool ?_))
    clear hG; rw [hlm] at *; rw [Bool.eq_iff_iff,ja]; grind)
  | skip
 have h64:l.length≤64:=by clear hG; rw [hlm] at *; grind
 refine ar (X:=Nat) (fun x=>⟨[(3,.int .i64 x),(0,ay l)],[]⟩) (fun x=>x≤l.length∧(∀ j,j<x→cU (aD l j)=true)∧∀ j,j+1<x→decide (qm (aD l (j+1)) (aD l j)<0)=false) (fun x=>l.length - x) 0 ⟨Nat.zero_le _,fun j h=>absurd h (by omega),fun j h=>absurd h (by omega)⟩ (ai ?_ ?_) (fun x hx=>?_)
 ·repeat' (first | exact trivial | refine And.intro rfl ?_)
 ·repeat' (first | exact trivial | refine And.intro rfl ?_)
 ·rename Nat=>i
  obtain ⟨hi,h1,h2⟩:=hx
  by_cases hlt_i:i<l.length
  ·have bbk:decide ((i:Int)<((l.map aO).length:Int))=false→False:=fun h=>by have:=of_decide_eq_false h; simp at this; omega
   have hx:=nC hlt_i
   have hpr:decide ((i:Int)>0)=true→0≤IntKind.i64.wrap ((i:Int) - 1)∧(l.map aO)[(IntKind.i64.wrap ((i:Int) - 1)).toNat]?=some (aO (aD l (i - 1))):=fun h=>by
    have h:=of_decide_eq_true h
    have e:IntKind.i64.wrap ((i:Int) - 1)=((i - 1:Nat):Int):=(am (by omega) (by omega)).trans (by omega)
    rw [e]
    exact ⟨Int.natCast_nonneg _,nC (by omega)⟩
   have bad1:cU (aD l i)=false→false=cH l:=fun h=>by rw [Bool.eq_iff_iff,ja]; simp only [Bool.false_eq_true,false_iff]; exact fun ⟨_,g,_⟩=>tf (g i hlt_i) h
   have bad2:decide ((i:Int)>0)=true→decide (qm (aD l i) (aD l (i - 1))<0)=true→false=cH l:=fun g0 h=>by
    rw [Bool.eq_iff_iff,ja]; simp only [Bool.false_eq_true,false_iff]
    have g0:=of_decide_eq_true g0
    exact fun ⟨_,_,g⟩=>tf h (by have:=g (i - 1) (by omega); rwa [show i - 1+1=i by omega] at this)
   have hok:cU (aD l i)=true→(decide ((i:Int)>0)=true→decide (qm (aD l i) (aD l (i - 1))<0)=false)→i+1≤l.length∧(∀ j,j<i+1→cU (aD l j)=true)∧∀ j,j+1<i+1→decide (qm (aD l (j+1)) (aD l j)<0)=false:=fun g1 g2=>by
    refine ⟨hlt_i,fun j hj=>?_,fun j hj=>?_⟩
    ·rcases Nat.lt_or_ge j i with h | h
     ·exact h1 j h
     ·rw [show j=i by omega]; exact g1
    ·rcases Nat.lt_or_ge (j+1) i with h | h
     ·exact h2 j h
     ·have e:i - 1=j:=by omega
      have:=g2 (decide_eq_true (by omega))
      rw [e] at this
      rwa [show j+1=i by omega]
   generalize aD l i=p at hx bad1 bad2 hok
   generalize aD l (i - 1)=q at hpr bad2 hok
   repeat' first|exact (bbk (by assumption)).elim|refine QS rfl hG aa ld ?_|((conv=>whnf); first|refine anF ?_|refine anT ?_|refine anK ?_|refine And.intro (Int.natCast_nonneg i) (Exists.intro _ (And.intro hx ?_))|refine Exists.intro _ (And.intro (ur _ _ _) ?_)|refine Exists.intro _ (And.intro (vq _ _) ?_)|refine And.intro (hpr (by assumption)).1 (Exists.intro _ (And.intro (hpr (by assumption)).2 ?_))|refine And.intro (fun h=>?_) (fun h=>?_)|refine Or.inl ?_)
   all_goals first
    |(refine Ends.mk (Or.inl rfl) (ac (congrArg AV.bool ?_))
      clear hG hpr hx h1 h2 hok; first | exact bad2 (by assumption) (by assumption) | (refine bad1 ?_; clear bad1 bad2; grind [cU,inS]))
    | skip
   all_goals (refine Exists.intro (i+1) (And.intro (hok ?_ ?_) (And.intro (by omega) (ai ?_ ?_))))
   all_goals first
    |(clear hG hpr hx h1 h2 hok bad1 bad2; grind [cU,inS])
    |(refine And.intro (congrArg some (aq (by omega))) ?_; repeat' (first | exact trivial | refine And.intro rfl ?_))
    |(repeat' (first | exact trivial | refine And.intro rfl ?_))
  ·have bbk:decide ((i:Int)<((l.map aO).length:Int))=true→False:=fun h=>by have:=of_decide_eq_true h; simp at this; omega
   have he:i=l.length:=by omega
   repeat' first|exact (bbk (by assumption)).elim|refine QS rfl hG aa ld ?_|((conv=>whnf); first|refine anF ?_|refine anT ?_|refine anK ?_|refine And.intro (fun h=>?_) (fun h=>?_)|refine Or.inl ?_)
   exact Ends.mk (Or.inl rfl) (ac (congrArg AV.bool (by symm; rw [ja,← he]; exact ⟨by omega,h1,h2⟩)))
theorem xP {a b c:Int}:decide (c≥max a b)=(decide (a≤c)&&decide (b≤c)):=by rw [Bool.eq_iff_iff]; simp; omega
set_option maxHeartbeats 16000000 in
theorem vn (s:Nat→Int) (o:Opt) (ps:List ao) (hl:o.sl.length≤1000000) (hps:ps.length≤1000000):ae Tryz.prog 49 [.agg (cJ s),.agg (aA o),ay ps] (.bool (gI s&&cH ps&&cY s o ps)):=by
 have hlm:((o.sl.map ax).length:Int)=(o.sl.length:Int):=by rw [List.length_map]
 have hpm:((ps.map aO).length:Int)=(ps.length:Int):=by rw [List.length_map]
 refine ah aa Tryz.func49 rfl (by kernel_rfl) af (Nat.le_of_ble_eq_true rfl) ?_
 intro F n' w0 m0 hG hro h1
 repeat' first|refine QS rfl hG aa lj ?_|((conv=>whnf); first|refine anF ?_|refine anT ?_|refine anK ?_|refine Exists.intro _ (And.intro (FS s) ?_)|refine Exists.intro _ (And.intro (vo ps hps) ?_)|refine Exists.intro _ (And.intro (yL _ _ _) ?_)|refine Exists.intro _ (And.intro (yK (jb s) _ _ _) ?_)|refine And.intro (fun h=>?_) (fun h=>?_)|refine Or.inl ?_)
 all_goals first
  |(refine Ends.mk (Or.inl rfl) (ac (congrArg AV.bool ?_))
    clear hG; rw [hlm] at *; rw [Bool.eq_iff_iff]; simp only [cY,mm,pz,w64]; grind)
  | skip
 have hfit:(gI s&&cH ps&&cY s o ps)=bj s ps o.size o.b o.sl:=by clear hG; rw [hlm] at *; simp only [cY,mm,pz,w64]; grind
 rw [hfit]
 refine ar (X:=Nat×Int) (fun x=>⟨[(8,.int .i64 x.1),(7,.int .i64 x.2),(4,.loc 4 0),(3,.loc 3 0),(2,ay ps)],[(4,aA o),(3,cJ s)]⟩) (fun x=>x.1≤o.sl.length∧bj s ps o.size x.2 (o.sl.drop x.1)=bj s ps o.size o.b o.sl) (fun x=>o.sl.length - x.1) (0,o.b) ⟨Nat.zero_le _,rfl⟩ (ai ?_ ?_) (fun x hx=>?_)
 ·repeat' (first | exact trivial | refine And.intro rfl ?_)
 ·repeat' (first | exact trivial | refine And.intro rfl ?_)
 ·obtain ⟨i,t⟩:=x
  obtain ⟨hi,hf⟩:=hx
  simp only at hi hf ⊢
  by_cases hlt_i:i<o.sl.length
  ·have bbk:decide ((i:Int)<((o.sl.map ax).length:Int))=false→False:=fun h=>by have:=of_decide_eq_false h; simp at this; omega
   have hx:=eR hlt_i
   rw [nl hlt_i] at hf
   generalize o.sl.getD i ⟨0,0,0⟩=x at hx hf
   have hin:(!inS x.p 0 (IntKind.i64.wrap (((ps.map aO).length:Int) - 1)))=false→0≤x.p∧(ps.map aO)[x.p.toNat]?=some (aO (aD ps x.p.toNat)):=fun h=>by
    have h:=sZ h
    rw [hpm,show IntKind.i64.wrap ((ps.length:Int) - 1)=(ps.length:Int) - 1 from am (by omega) (by omega)] at h
    simp only [inS,Bool.and_eq_true,decide_eq_true_eq] at h
    exact ⟨h.1,eB (by omega)⟩
   have hpm':w64 ((ps.length:Int) - 1)=IntKind.i64.wrap (((ps.map aO).length:Int) - 1):=by rw [hpm]; rfl
   repeat' first|exact (bbk (by assumption)).elim|refine QS rfl hG aa lj ?_|((conv=>whnf); first|refine anF ?_|refine anT ?_|refine anK ?_|refine And.intro (Int.natCast_nonneg i) (Exists.intro _ (And.intro hx ?_))|refine Exists.intro _ (And.intro (yL _ _ _) ?_)|refine And.intro (hin (by assumption)).1 (Exists.intro _ (And.intro (hin (by assumption)).2 ?_))|refine And.intro (fun h=>?_) (fun h=>?_)|refine Or.inl ?_)
   all_goals first
    |(refine Ends.mk (Or.inl rfl) (ac (congrArg AV.bool ?_))
      clear hG hx hin; rw [← hf,ez,hpm',xP]; clear hpm' hf hfit; unfold w64; grind)
    | skip
   refine Exists.intro (i+1,x.b) (And.intro ⟨hlt_i,?_⟩ (And.intro (by show o.sl.length - (i+1)<o.sl.length - i; omega) (ai ?_ ?_)))
   ·clear hG hx hin
    rw [← hf]
    have hk:ez s ps o.size t x=true:=by rw [ez,hpm',xP]; clear hpm' hf hfit; unfold w64; grind
    rw [hk,Bool.true_and]
   ·refine And.intro (congrArg some (aq (by omega))) ?_
    repeat' (first | exact trivial | refine And.intro rfl ?_)
   ·repeat' (first | exact trivial | refine And.intro rfl ?_)
  ·have bbk:decide ((i:Int)<((o.sl.map ax).length:Int))=true→False:=fun h=>by have:=of_decide_eq_true h; simp at this; omega
   rw [List.drop_of_length_le (by omega)] at hf
   repeat' first|exact (bbk (by assumption)).elim|refine QS rfl hG aa lj ?_|((conv=>whnf); first|refine anF ?_|refine anT ?_|refine anK ?_|refine And.intro (fun h=>?_) (fun h=>?_)|refine Or.inl ?_)
   exact Ends.mk (Or.inl rfl) (ac (congrArg AV.bool hf))
end Go.Proofs
namespace Go.Proofs
open Go Go.AI
set_option maxRecDepth 10000
theorem fw {α:Type} {l:List α} {i:Nat} (d:α) (h:i<l.length):l.take (i+1)=l.take i++[l.getD i d]:=by rw [List.take_add_one,List.getD_eq_getElem?_getD,List.getElem?_eq_getElem h]; rfl
theorem oN {α:Type} {l:List α} {i:Nat} {f:α→List AV} (d:α) (h:i<l.length):(l.map f)[(i:Int).toNat]?=some (f (l.getD i d)):=by simp [List.getElem?_eq_getElem h]
def prL (l:List aS):List (Int×Int):=l.map fun x=>(x.a,x.b)
theorem E5 (a b:Opt):rr a b=Ix (prL a.sl) (prL b.sl) (-1):=rfl
set_option maxHeartbeats 8000000 in
theorem A2 (a b:Opt) (ha:a.sl.length≤1000000) (hb:b.sl.length≤1000000):ae Tryz.prog 6 [.agg (aA a),.agg (aA b)] (.int .i64 (rr a b)):=by
 rw [E5]
 refine ah aa Tryz.func6 rfl (by kernel_rfl) af (Nat.le_of_ble_eq_true rfl) ?_
 intro F n' w0 m0 hG hro h1
 repeat' first|refine QS rfl hG aa gZ ?_|((conv=>whnf); first|refine anF ?_|refine anT ?_|refine anK ?_|refine And.intro (fun h=>?_) (fun h=>?_)|refine Or.inl ?_)
 refine ar (X:=Nat×Int) (fun x=>⟨[(6,.int .i64 x.1),(5,.int .i64 x.2),(3,.loc 3 0),(2,.loc 2 0)],[(3,aA b),(2,aA a)]⟩) (fun x=>x.1≤a.sl.length∧x.2=Ix (prL (a.sl.take x.1)) (prL b.sl) (-1)) (fun x=>a.sl.length - x.1) (0,-1) ⟨Nat.zero_le _,rfl⟩ (ai ?_ ?_) (fun x hx=>?_)
 ·repeat' (first | exact trivial | refine And.intro rfl ?_)
 ·repeat' (first | exact trivial | refine And.intro rfl ?_)
 ·obtain ⟨i,f⟩:=x
  obtain ⟨hi,hf⟩:=hx
  simp only at hi hf ⊢
  by_cases hlt_i:i<a.sl.length
  ·have bbk:decide ((i:Int)<((a.sl.map ax).length:Int))=false→False:=fun h=>by have:=of_decide_eq_false h; simp at this; omega
   have hx:=eR hlt_i
   have hx:(a.sl.map ax)[(i:Int).toNat]?=some (ax (a.sl.getD i gH)):=hx
   obtain ⟨u,hu⟩:∃ u,u=a.sl.getD i gH:=⟨_,rfl⟩
   rw [← hu] at hx
   repeat' first|exact (bbk (by assumption)).elim|refine QS rfl hG aa gZ ?_|((conv=>whnf); first|refine anF ?_|refine anT ?_|refine anK ?_|refine And.intro (Int.natCast_nonneg i) (Exists.intro _ (And.intro hx ?_))|refine And.intro (fun h=>?_) (fun h=>?_)|refine Or.inl ?_)
   refine ar (X:=Nat×Int) (fun x=>⟨[(7,.int .i64 x.1),(6,.int .i64 i),(5,.int .i64 x.2),(3,.loc 3 0),(2,.loc 2 0)],[(3,aA b),(2,aA a)]⟩) (fun x=>x.1≤b.sl.length∧x.2=mIn (u.a,u.b) (prL (b.sl.take x.1)) f) (fun x=>b.sl.length - x.1) (0,f) ⟨Nat.zero_le _,rfl⟩ (ai ?_ ?_) (fun x hx=>?_)
   ·repeat' (first | exact trivial | refine And.intro rfl ?_)
   ·repeat' (first | exact trivial | refine And.intro rfl ?_)
   ·obtain ⟨k,g⟩:=x
    obtain ⟨hk,hg⟩:=hx
    simp only at hk hg ⊢
    by_cases hlt_k:k<b.sl.length
    ·have bbj:decide ((k:Int)<((b.sl.map ax).length:Int))=false→False:=fun h=>by have:=of_decide_eq_false h; simp at this; omega
     have hy:=eR hlt_k
     have hsn:mIn (u.a,u.b) (prL (b.sl.take (k+1))) f=fO g (u.a,u.b) ((b.sl.getD k gH).a,(b.sl.getD k gH).b):=by rw [fw gH hlt_k,hg]; simp [mIn,prL]
     have hy:(b.sl.map ax)[(k:Int).toNat]?=some (ax (b.sl.getD k gH)):=hy
     generalize b.sl.getD k gH=v at hy hsn
     simp only [fO] at hsn
     repeat' first|exact (bbj (by assumption)).elim|refine QS rfl hG aa gZ ?_|((conv=>whnf); first|refine anF ?_|refine anT ?_|refine anK ?_|refine And.intro (Int.natCast_nonneg i) (Exists.intro _ (And.intro hx ?_))|refine And.intro (Int.natCast_nonneg k) (Exists.intro _ (And.intro hy ?_))|refine And.intro (fun h=>?_) (fun h=>?_)|refine Or.inl ?_)
     all_goals first
      |(refine Exists.intro (k+1,max u.a v.a) (And.intro ⟨hlt_k,?_⟩ (And.intro (by show b.sl.length - (k+1)<b.sl.length - k; omega) (ai ?_ ?_)))
        ·clear hG; rw [hsn]; symm; apply if_pos; grind
        ·refine And.intro (congrArg some (aq (by omega))) ?_
         repeat' (first | exact trivial | refine And.intro rfl ?_)
        ·repeat' (first | exact trivial | refine And.intro rfl ?_))
      |(refine Exists.intro (k+1,g) (And.intro ⟨hlt_k,?_⟩ (And.intro (by show b.sl.length - (k+1)<b.sl.length - k; omega) (ai ?_ ?_)))
        ·clear hG; rw [hsn]; symm; apply if_neg; grind
        ·refine And.intro (congrArg some (aq (by omega))) ?_
         repeat' (first | exact trivial | refine And.intro rfl ?_)
        ·repeat' (first | exact trivial | refine And.intro rfl ?_))
    ·have bbj:decide ((k:Int)<((b.sl.map ax).length:Int))=true→False:=fun h=>by have:=of_decide_eq_true h; simp at this; omega
     have he:b.sl.take k=b.sl:=List.take_of_length_le (by omega)
     rw [he] at hg
     repeat' first|exact (bbj (by assumption)).elim|refine QS rfl hG aa gZ ?_|((conv=>whnf); first|refine anF ?_|refine anT ?_|refine anK ?_|refine And.intro (fun h=>?_) (fun h=>?_)|refine Or.inl ?_)
     refine Exists.intro (i+1,g) (And.intro ⟨hlt_i,?_⟩ (And.intro (by show a.sl.length - (i+1)<a.sl.length - i; omega) (ai ?_ ?_)))
     ·rw [fw gH hlt_i,← hu,hg,hf]; simp [Ix,prL]
     ·refine And.intro (congrArg some (aq (by omega))) ?_
      repeat' (first | exact trivial | refine And.intro rfl ?_)
     ·repeat' (first | exact trivial | refine And.intro rfl ?_)
  ·have bbk:decide ((i:Int)<((a.sl.map ax).length:Int))=true→False:=fun h=>by have:=of_decide_eq_true h; simp at this; omega
   have he:a.sl.take i=a.sl:=List.take_of_length_le (by omega)
   rw [he] at hf
   repeat' first|exact (bbk (by assumption)).elim|refine QS rfl hG aa gZ ?_|((conv=>whnf); first|refine anF ?_|refine anT ?_|refine anK ?_|refine And.intro (fun h=>?_) (fun h=>?_)|refine Or.inl ?_)
   exact Ends.mk (Or.inl rfl) (ac (congrArg (AV.int .i64) hf))
end Go.Proofs
namespace Go.Proofs
open Go Go.AI
set_option maxRecDepth 10000
def gO (sat:Int) (r:Int×List ao) (x:Int×Int×Int):Int×List ao:=
 let cf:=r.1+4+al x.1 12
 let sf:=cf+al (w64 (x.2.2.tdiv 3)) 2
 let st:=sf+3+al x.2.1 12
 let ct:=st+al (w64 (x.2.2.tdiv 3)) 2
 (ct,r.2++[⟨sat,al x.2.2 3,sf,st,cf,ct⟩])
def iu (sat from_:Int) (z:List (Int×Int×Int)):Int×List ao:=z.foldl (gO sat) (from_,[])
def gf (sat from_:Int) (z:List (Int×Int×Int)):List ao:=(iu sat from_ (z.take 6)).2
structure oD (sat from_:Int) (n:Nat) (r:Int×List ao):Prop where
 at_:from_≤r.1∧r.1≤from_+31*(n:Int)
 len:r.2.length=n
 all:∀ p∈r.2,cU p=true∧from_≤p.sa∧p.sa<p.sb∧p.sb≤r.1∧p.ca<r.1
 srt:r.2.Pairwise fun p q=>p.ca<q.ca
theorem oD.step {sat from_:Int} {n:Nat} {r:Int×List ao} {x:Int×Int×Int} (h:oD sat from_ n r) (hs:0≤sat∧sat≤23) (hf:0≤from_∧from_≤900000) (hn:n≤100) (hx:rM x):oD sat from_ (n+1) (gO sat r x):=by
 obtain ⟨h1,h2,h3,h4⟩:=h
 have p1:=aJ hx.1 (n:=12) (by omega)
 have p2:=aJ (lu (x.2.2.tdiv 3)) (n:=2) (by omega)
 have p3:=aJ hx.2.1 (n:=12) (by omega)
 have p4:=aJ hx.2.2 (n:=3) (by omega)
 unfold gO
 simp only
 generalize al x.1 12=q1 at *
 generalize al (w64 (x.2.2.tdiv 3)) 2=q2 at *
 generalize al x.2.1 12=q3 at *
 generalize al x.2.2 3=q4 at *
 refine ⟨by simp only; omega,by simp [h2],fun p hp=>?_,List.pairwise_append.2 ⟨h4,by simp,fun p hp q hq=>?_⟩⟩
 ·rcases List.mem_append.1 hp with hp | hp
  ·have:=h3 p hp
   refine ⟨this.1,this.2.1,this.2.2.1,?_,?_⟩ <;> (simp only; omega)
  ·rw [List.mem_singleton.1 hp]
   simp only [cU,inS,Bool.and_eq_true,Bool.or_eq_true,decide_eq_true_eq]
   refine ⟨⟨⟨by omega,⟨by omega,by omega⟩,trivial⟩,⟨⟨by omega,by omega⟩,by omega⟩,.inr ⟨⟨by omega,by omega⟩,by omega⟩⟩,by omega,by omega,by omega,by omega⟩
 ·rw [List.mem_singleton.1 hq]
  have:=h3 p hp
  simp only
  omega
theorem oD.run {sat from_:Int} (hs:0≤sat∧sat≤23) (hf:0≤from_∧from_≤900000):∀ (z:List (Int×Int×Int)) (n:Nat) (r:Int×List ao),n+z.length≤100→(∀ x∈z,rM x)→oD sat from_ n r→oD sat from_ (n+z.length) (z.foldl (gO sat) r)
 | [],n,r,_,_,h=>h
 | x::z,n,r,hn,hz,h=>by
  rw [List.length_cons] at hn ⊢
  have:=oD.run hs hf z (n+1) (gO sat r x) (by omega) (fun y hy=>hz y (.tail _ hy)) (h.step hs hf (by omega) (hz x (.head _)))
  rwa [show n+(z.length+1)=n+1+z.length by omega]
theorem oD.of {sat from_:Int} (hs:0≤sat∧sat≤23) (hf:0≤from_∧from_≤900000) {z:List (Int×Int×Int)} (hz:∀ x∈z,rM x) (hl:z.length≤100):oD sat from_ z.length (iu sat from_ z):=by
 have:=oD.run hs hf z 0 (from_,[]) (by omega) hz ⟨by simp,rfl,by simp,by simp⟩
 simpa [iu] using this
theorem uQ (sat from_:Int) (z:List (Int×Int×Int)) (x:Int×Int×Int):iu sat from_ (z++[x])=gO sat (iu sat from_ z) x:=by simp [iu,List.foldl_append]
theorem oD.proper {sat from_:Int} {n:Nat} {r:Int×List ao} (h:oD sat from_ n r) (hn:n≤64):cH r.2=true:=by
 rw [ja]
 have hl:=h.len
 refine ⟨by omega,fun j hj=>?_,fun j hj=>?_⟩
 ·rw [d4 hj]; exact (h.all _ (List.getElem_mem hj)).1
 ·rw [Cf,d4 hj,d4 (show j<r.2.length by omega)]
  have:=(List.pairwise_iff_getElem.1 h.srt) j (j+1) (by omega) hj (by omega)
  rw [if_pos (by omega)]
  exact decide_eq_false (by omega)
theorem CJ {sat from_:Int} (hs:0≤sat∧sat≤23) (hf:0≤from_∧from_≤900000) {z:List (Int×Int×Int)} (hz:∀ x∈z,rM x):cH (gf sat from_ z)=true∧(gf sat from_ z).length≤6∧∀ p∈gf sat from_ z,from_≤p.sa∧p.sa<p.sb∧p.sb≤from_+186:=by
 have hl:(z.take 6).length≤6:=List.length_take_le _ _
 have h:=oD.of hs hf (z:=z.take 6) (fun x hx=>hz x (List.mem_of_mem_take hx)) (by omega)
 refine ⟨h.proper (by omega),by rw [gf,h.len]; exact hl,fun p hp=>?_⟩
 have h1:=h.all p hp
 have h2:=h.at_
 omega
set_option maxHeartbeats 8000000 in
theorem yO (sat from_:Int) (z:List (Int×Int×Int)) (hs:0≤sat∧sat≤23) (hf:0≤from_∧from_≤900000) (hz:∀ x∈z,rM x):ae Tryz.prog 21 [.int .i64 sat,.int .i64 from_,.sl .no 3 (z.map ka)] (ay (gf sat from_ z)):=by
 have hlm:((z.map ka).length:Int)=(z.length:Int):=by rw [List.length_map]
 refine ah aa Tryz.func21 rfl (by kernel_rfl) af (Nat.le_of_ble_eq_true rfl) ?_
 intro F n' w0 m0 hG hro h1
 repeat' first|refine QS rfl hG aa iL ?_|((conv=>whnf); first|refine anF ?_|refine anT ?_|refine anK ?_|refine And.intro (fun h=>?_) (fun h=>?_)|refine Or.inl ?_)
 refine ar (X:=Nat×Int×List ao) (fun x=>⟨[(9,.int .i64 x.1),(8,.int .i64 x.2.1),(7,.sl (.id 7) 6 (x.2.2.map aO)),(2,.sl .no 3 (z.map ka)),(0,.int .i64 sat)],[]⟩) (fun x=>x.1≤z.length∧x.1≤6∧x.2=iu sat from_ (z.take x.1)) (fun x=>z.length - x.1) (0,from_,[]) ⟨Nat.zero_le _,Nat.zero_le _,rfl⟩ (ai ?_ ?_) (fun x hx=>?_)
 ·repeat' (first | exact trivial | refine And.intro rfl ?_)
 ·repeat' (first | exact trivial | refine And.intro rfl ?_)
 ·obtain ⟨i,at_,out⟩:=x
  obtain ⟨hi,h6,hr⟩:=hx
  simp only at hi h6 hr ⊢
  have hP:=oD.of hs hf (z:=z.take i) (fun x hx=>hz x (List.mem_of_mem_take hx)) (by rw [List.length_take]; omega)
  rw [← hr,List.length_take,Nat.min_eq_left hi] at hP
  have hat:=hP.at_
  have hol:=hP.len
  simp only at hat hol
  by_cases hlt_i:i<z.length
  ·by_cases h5:i<6
   ·have b1:decide ((i:Int)<((z.map ka).length:Int))=false→False:=fun h=>by have:=of_decide_eq_false h; omega
    have b2:decide ((i:Int)<6)=false→False:=fun h=>by have:=of_decide_eq_false h; omega
    have hx:=oN (f:=ka) ((0:Int),(0:Int),(0:Int)) hlt_i
    have hsn:=uQ sat from_ (z.take i) (z.getD i ((0:Int),(0:Int),(0:Int)))
    rw [← fw ((0:Int),(0:Int),(0:Int)) hlt_i,← hr] at hsn
    have hxi:rM (z.getD i ((0:Int),(0:Int),(0:Int))):=hz _ (by rw [List.getD_eq_getElem?_getD,List.getElem?_eq_getElem hlt_i]; exact List.getElem_mem hlt_i)
    generalize z.getD i ((0:Int),(0:Int),(0:Int))=x at hx hsn hxi
    have p1:=aJ hxi.1 (n:=12) (by omega)
    have p2:=aJ (lu (x.2.2.tdiv 3)) (n:=2) (by omega)
    have p3:=aJ hxi.2.1 (n:=12) (by omega)
    have c2:=dG (w64 (x.2.2.tdiv 3)) 2 (by decide)
    have hol2:(out.map aO).length≤6:=by rw [List.length_map]; omega
    simp only [gO] at hsn
    obtain ⟨q2,hq2⟩:∃ q,q=al (w64 (x.2.2.tdiv 3)) 2:=⟨_,rfl⟩
    rw [← hq2] at c2 p2 hsn
    have w1:IntKind.i64.wrap (at_+4)=at_+4:=am (by omega) (by omega)
    have w2:IntKind.i64.wrap (at_+4+al x.1 12)=at_+4+al x.1 12:=am (by omega) (by omega)
    have w3:IntKind.i64.wrap (at_+4+al x.1 12+q2)=at_+4+al x.1 12+q2:=am (by omega) (by omega)
    have w4:IntKind.i64.wrap (at_+4+al x.1 12+q2+3)=at_+4+al x.1 12+q2+3:=am (by omega) (by omega)
    have w5:IntKind.i64.wrap (at_+4+al x.1 12+q2+3+al x.2.1 12)=at_+4+al x.1 12+q2+3+al x.2.1 12:=am (by omega) (by omega)
    have w6:IntKind.i64.wrap (at_+4+al x.1 12+q2+3+al x.2.1 12+q2)=at_+4+al x.1 12+q2+3+al x.2.1 12+q2:=am (by omega) (by omega)
    repeat' first|exact (b1 (by assumption)).elim|exact (b2 (by assumption)).elim|refine QS rfl hG aa iL ?_|((conv=>whnf); first|refine anF ?_|refine anT ?_|refine anK ?_|refine And.intro (Int.natCast_nonneg i) (Exists.intro _ (And.intro hx ?_))|refine Exists.intro _ (And.intro (c2) ?_)|refine Exists.intro _ (And.intro (dG _ _ (by decide)) ?_)|refine And.intro (by decide) ?_|refine And.intro (show ((out.map aO).length+1)*48≤70368744177664 by omega) (And.intro (show (out.map aO).length+1≤4611686018427387904 by omega) ?_)|refine And.intro (fun h=>?_) (fun h=>?_)|refine Or.inl ?_)
    refine Exists.intro (i+1,iu sat from_ (z.take (i+1))) (And.intro ⟨hlt_i,h5,rfl⟩ (And.intro (by show z.length - (i+1)<z.length - i; omega) ?_))
    rw [hsn]
    refine ai (And.intro (congrArg some (aq (by omega))) (And.intro (congrArg (fun z=>some (AV.int .i64 z)) ?_) (And.intro (congrArg (fun z=>some (AV.sl (.id 7) 6 z)) ?_) ?_))) ?_
    ·rw [w1,w2,w3,w4,w5,w6]
    ·rw [List.map_append]
     refine congrArg (out.map aO++·) ?_
     rw [w1,w2,w3,w4,w5,w6]; rfl
    ·repeat' (first | exact trivial | refine And.intro rfl ?_)
    ·repeat' (first | exact trivial | refine And.intro rfl ?_)
   ·have b2:decide ((i:Int)<6)=true→False:=fun h=>by have:=of_decide_eq_true h; omega
    have b1:decide ((i:Int)<((z.map ka).length:Int))=false→False:=fun h=>by have:=of_decide_eq_false h; omega
    have he:i=6:=by omega
    subst he
    repeat' first|exact (b1 (by assumption)).elim|exact (b2 (by assumption)).elim|refine QS rfl hG aa iL ?_|((conv=>whnf); first|refine anF ?_|refine anT ?_|refine anK ?_|refine And.intro (fun h=>?_) (fun h=>?_)|refine Or.inl ?_)
    exact Ends.mk (Or.inl rfl) (ac (by rw [gf,← hr]; rfl))
  ·have b1:decide ((i:Int)<((z.map ka).length:Int))=true→False:=fun h=>by have:=of_decide_eq_true h; omega
   rw [List.take_of_length_le (by omega)] at hr
   repeat' first|exact (b1 (by assumption)).elim|refine QS rfl hG aa iL ?_|((conv=>whnf); first|refine anF ?_|refine anT ?_|refine anK ?_|refine And.intro (fun h=>?_) (fun h=>?_)|refine Or.inl ?_)
   exact Ends.mk (Or.inl rfl) (ac (by rw [gf,List.take_of_length_le (by omega),← hr]; rfl))
end Go.Proofs
namespace Go.Proofs
open Go Go.AI
set_option maxRecDepth 10000
structure R5 where
 a:Int
 b:Int
 c:Int
 d:Int
 e:Int
def j9 (x:R5):List AV:=[.int .i64 x.a,.int .i64 x.b,.int .i64 x.c,.int .i64 x.d,.int .i64 x.e]
def r50:R5:=⟨0,0,0,0,0⟩
def s8 (x:R5):Prop:=inI x.a∧inI x.b∧inI x.c∧inI x.d∧inI x.e
def kr (s0 m d n:Int) (ps:List ao) (r:Int×List aS) (k:Nat):Int×List aS:=
 if (r.2.length:Int)<n∧(aD ps k).sat=s0∧max r.1 ((aD ps k).sa+d)+m≤(aD ps k).sb then
  (max r.1 ((aD ps k).sa+d)+m,r.2++[⟨(k:Int),max r.1 ((aD ps k).sa+d),max r.1 ((aD ps k).sa+d)+m⟩]) else r
def dw (s0 m d n:Int) (ps:List ao) (t0:Int) (k:Nat):Int×List aS:=(List.range k).foldl (kr s0 m d n ps) (t0,[])
theorem gd (s0 m d n:Int) (ps:List ao) (t0:Int) (k:Nat):dw s0 m d n ps t0 (k+1)=kr s0 m d n ps (dw s0 m d n ps t0 k) k:=by simp [dw,List.range_succ,List.foldl_append]
theorem np {s0 m d n:Int} {ps:List ao} {t0:Int} {k:Nat} (h:¬ ((dw s0 m d n ps t0 k).2.length:Int)<n):∀ j,dw s0 m d n ps t0 (k+j)=dw s0 m d n ps t0 k
 | 0=>rfl
 | j+1=>by
  rw [show k+(j+1)=(k+j)+1 from rfl,gd,np h j]
  exact if_neg fun g=>h g.1
theorem nm {s0 m d n:Int} {ps:List ao} {t0:Int} {k:Nat} (hk:k≤ps.length) (h:¬ ((dw s0 m d n ps t0 k).2.length:Int)<n):dw s0 m d n ps t0 ps.length=dw s0 m d n ps t0 k:=by
 have:=np h (ps.length - k)
 rwa [show k+(ps.length - k)=ps.length by omega] at this
def nG (s:Nat→Int) (ps:List ao) (from_ id:Int) (x:R5):Opt:=
 ⟨id,al x.e 4,0,s 0,from_+al x.a 40,from_+al x.a 40+1+al x.b 5,al x.c (2*s 9+1) - s 9,min (s 10) ((1+al x.d 4)*s 20),
  (dw (s 0) (1+al x.d 4) (al (w64 (x.d.tdiv 4)) 3) (1+al (w64 (x.e.tdiv 4)) 3) ps (from_+al x.a 40+1+al x.b 5) ps.length).2⟩
def fK (s:Nat→Int) (ps:List ao) (o:Opt):Bool:=gI s&&cH ps&&cY s o ps
def cN (s:Nat→Int) (ps:List ao) (from_ id:Int) (z:List R5):Nat→List Opt
 | 0=>[]
 | i+1=>cN s ps from_ id z i++if fK s ps (nG s ps from_ (id+i) (z.getD i r50)) then [nG s ps from_ (id+i) (z.getD i r50)] else []
def BO (s:Nat→Int) (ps:List ao) (from_ id:Int) (z:List R5):List Opt:=cN s ps from_ id z (min z.length 5)
theorem mQ (s:Nat→Int) (ps:List ao) (from_ id:Int) (z:List R5):∀ i,(cN s ps from_ id z i).length≤i
 | 0=>Nat.le_refl _
 | i+1=>by
  have:=mQ s ps from_ id z i
  simp only [cN,List.length_append]
  split <;> simp <;> omega
theorem AV.weak.agg {cs ds:List AV} (h:iD cs ds) (hd:∀ x∈ds,x.isCell=true):(AV.agg cs).weak (.agg ds):=by
 intro m v hv
 cases hv with
 | agg _ vs hl hc hr=>
  obtain ⟨h1,h2⟩:=h.spec
  refine .agg ds vs (by omega) hd fun i x u g1 g2=>?_
  have hi:i<cs.length:=by rw [h1]; exact (List.getElem?_eq_some_iff.1 g1).1
  exact h2 i _ x (List.getElem?_eq_getElem hi) g1 m u (hr i _ u (List.getElem?_eq_getElem hi) g2)
structure Jh (s:Nat→Int) (ps:List ao) (from_ id:Int):Prop where
 w:0≤s 9∧s 9≤4
 st:1≤s 10∧s 10≤1000000
 rt:1≤s 20∧s 20≤1000
 f:0≤from_∧from_≤900000
 id:0≤id∧id≤50
 pl:ps.length≤64
 p:∀ p∈ps,0≤p.sa∧p.sa≤1000001∧0≤p.sb∧p.sb≤1000001
theorem xr {s:Nat→Int} {ps:List ao} {p:Int} {a b c d e f g:Int}:fK s ps ⟨p,a,b,c,d,e,f,g,[]⟩=false:=by
 have:inS (([]:List aS).length:Int) 1 6=false:=by decide
 simp only [fK,cY,this,Bool.and_false,Bool.false_and]
set_option maxHeartbeats 16000000 in
theorem vt (s:Nat→Int) (ps:List ao) (from_ id:Int) (z:List R5) (hH:Jh s ps from_ id) (hz:∀ x∈z,s8 x):ae Tryz.prog 22 [.agg (cJ s),ay ps,.int .i64 from_,.int .i64 id,.sl .no 5 (z.map j9)] (aZ (BO s ps from_ id z)):=by
 have hlm:((z.map j9).length:Int)=(z.length:Int):=by rw [List.length_map]
 have hw:=hH.w; have hst:=hH.st; have hrt:=hH.rt; have hf:=hH.f; have hid:=hH.id; have hpl:=hH.pl
 refine ah aa Tryz.func22 rfl (by kernel_rfl) af (Nat.le_of_ble_eq_true rfl) ?_
 intro F n' w0 m0 hG hro h1
 repeat' first|refine QS rfl hG aa dv ?_|((conv=>whnf); first|refine anF ?_|refine anT ?_|refine anK ?_|refine And.intro (fun h=>?_) (fun h=>?_)|refine Or.inl ?_)
 refine ar (X:=Nat) (fun i=>⟨[(12,.int .i64 i),(11,(.sl (.id 11) 9 ((cN s ps from_ id z i).map aA))),(5,.loc 5 0),(4,.sl .no 5 (z.map j9)),(3,.int .i64 id),(2,.int .i64 from_),(1,ay ps)],[(5,cJ s)]⟩) (fun i=>i≤z.length∧i≤5) (fun i=>z.length - i) 0 ⟨Nat.zero_le _,Nat.zero_le _⟩ (ai ?_ ?_) (fun i hx=>?_)
 ·repeat' (first | exact trivial | refine And.intro rfl ?_)
 ·repeat' (first | exact trivial | refine And.intro rfl ?_)
 ·obtain ⟨hi,h6⟩:=hx
  have hol:=mQ s ps from_ id z i
  by_cases hlt_i:i<z.length
  ·by_cases h5:i<5
   ·have b1:decide ((i:Int)<((z.map j9).length:Int))=false→False:=fun h=>by have:=of_decide_eq_false h; omega
    have b2:decide ((i:Int)<5)=false→False:=fun h=>by have:=of_decide_eq_false h; omega
    have hx:=oN (f:=j9) r50 hlt_i
    have hxi:s8 (z.getD i r50):=hz _ (by rw [List.getD_eq_getElem?_getD,List.getElem?_eq_getElem hlt_i]; exact List.getElem_mem hlt_i)
    have hon:cN s ps from_ id z (i+1)=cN s ps from_ id z i++if fK s ps (nG s ps from_ (id+i) (z.getD i r50)) then [nG s ps from_ (id+i) (z.getD i r50)] else []:=rfl
    generalize z.getD i r50=x at hx hxi hon
    have p1:=aJ hxi.1 (n:=40) (by omega)
    have p2:=aJ hxi.2.1 (n:=5) (by omega)
    have p3:=aJ hxi.2.2.1 (n:=2*s 9+1) (by omega)
    have p4:=aJ hxi.2.2.2.1 (n:=4) (by omega)
    have p5:=aJ (lu (x.d.tdiv 4)) (n:=3) (by omega)
    have p6:=aJ (lu (x.e.tdiv 4)) (n:=3) (by omega)
    have cE:=dG (w64 (x.e.tdiv 4)) 3 (by decide)
    have cD:=dG (w64 (x.d.tdiv 4)) 3 (by decide)
    have wc:IntKind.i64.wrap (IntKind.i64.wrap (2*s 9)+1)=2*s 9+1:=by rw [show IntKind.i64.wrap (2*s 9)=2*s 9 from am (by omega) (by omega)]; exact am (by omega) (by omega)
    have cC:ae Tryz.prog 48 [.int .i64 x.c,.int .i64 (IntKind.i64.wrap (IntKind.i64.wrap (2*s 9)+1))] (.int .i64 (al x.c (2*s 9+1))):=by
     have h:=dG x.c (IntKind.i64.wrap (IntKind.i64.wrap (2*s 9)+1)) (by rw [wc]; omega)
     rw [wc] at h ⊢
     exact h
    have c1:=dG x.a 40 (by decide)
    have c2:=dG x.b 5 (by decide)
    have c4:=dG x.d 4 (by decide)
    have hmkv:nG s ps from_ (id+i) x=⟨id+i,al x.e 4,0,s 0,from_+al x.a 40,from_+al x.a 40+1+al x.b 5,al x.c (2*s 9+1) - s 9,min (s 10) ((1+al x.d 4)*s 20),
  (dw (s 0) (1+al x.d 4) (al (w64 (x.d.tdiv 4)) 3) (1+al (w64 (x.e.tdiv 4)) 3) ps (from_+al x.a 40+1+al x.b 5) ps.length).2⟩:=rfl
    generalize al x.a 40=pa at *
    generalize al x.b 5=pb at *
    generalize al x.c (2*s 9+1)=pc at *
    generalize al x.d 4=pd at *
    generalize al (w64 (x.d.tdiv 4)) 3=dd at *
    generalize al (w64 (x.e.tdiv 4)) 3=nn at *
    have hm0:0≤(1+pd)*s 20:=Int.mul_nonneg (by omega) (by omega)
    have hm1:(1+pd)*s 20≤4*1000:=Int.mul_le_mul (by omega) (by omega) (by omega) (by omega)
    have w1:IntKind.i64.wrap (id+(i:Int))=id+i:=am (by omega) (by omega)
    have w2:IntKind.i64.wrap (from_+pa)=from_+pa:=am (by omega) (by omega)
    have w3:IntKind.i64.wrap (from_+pa+1)=from_+pa+1:=am (by omega) (by omega)
    have w4:IntKind.i64.wrap (from_+pa+1+pb)=from_+pa+1+pb:=am (by omega) (by omega)
    have w5:IntKind.i64.wrap (pc - s 9)=pc - s 9:=am (by omega) (by omega)
    have w6:IntKind.i64.wrap (1+pd)=1+pd:=am (by omega) (by omega)
    have w7:IntKind.i64.wrap ((1+pd)*s 20)=(1+pd)*s 20:=am (by omega) (by omega)
    have w8:IntKind.i64.wrap (1+nn)=1+nn:=am (by omega) (by omega)
    have hcell:([.int .i64 (IntKind.i64.wrap (id+(i:Int))),.int .i64 (al x.e 4),.int .i64 0,.int .i64 (s 0),.int .i64 (IntKind.i64.wrap (from_+pa)),.int .i64 (IntKind.i64.wrap (IntKind.i64.wrap (IntKind.i64.wrap (from_+pa)+1)+pb)),.int .i64 (IntKind.i64.wrap (pc - s 9)),.int .i64 (min (s 10) (IntKind.i64.wrap (IntKind.i64.wrap (1+pd)*s 20))),.sl .full 0 []]:List AV)=[.int .i64 (id+(i:Int)),.int .i64 (al x.e 4),.int .i64 0,.int .i64 (s 0),.int .i64 (from_+pa),.int .i64 (from_+pa+1+pb),.int .i64 (pc - s 9),.int .i64 (min (s 10) ((1+pd)*s 20)),.sl .full 0 []]:=by rw [w1,w2,w3,w4,w5,w6,w7]
    have h15:0≤from_+pa+1+pb∧from_+pa+1+pb≤1900000:=by omega
    have he15:IntKind.i64.wrap (IntKind.i64.wrap (IntKind.i64.wrap (from_+pa)+1)+pb)=from_+pa+1+pb:=by rw [w2,w3,w4]
    repeat' first|exact (b1 (by assumption)).elim|exact (b2 (by assumption)).elim|refine QS rfl hG aa dv ?_|((conv=>whnf); first|refine anF ?_|refine anT ?_|refine anK ?_|refine And.intro (Int.natCast_nonneg i) (Exists.intro _ (And.intro hx ?_))|refine Exists.intro _ (And.intro (cC) ?_)|refine Exists.intro _ (And.intro (c1) ?_)|refine Exists.intro _ (And.intro (c2) ?_)|refine Exists.intro _ (And.intro (c4) ?_)|refine Exists.intro _ (And.intro (dG _ _ (by decide)) ?_)|refine And.intro (by decide) ?_|refine And.intro (fun h=>?_) (fun h=>?_)|refine Or.inl ?_)
    have cPf:∀ sl:List aS,sl.length≤64→ae Tryz.prog 49 [.agg (cJ s),.agg [.int .i64 (id+(i:Int)),.int .i64 (al x.e 4),.int .i64 0,.int .i64 (s 0),.int .i64 (from_+pa),.int .i64 (from_+pa+1+pb),.int .i64 (pc - s 9),.int .i64 (min (s 10) ((1+pd)*s 20)),mD sl],ay ps] (.bool (fK s ps ⟨id+i,al x.e 4,0,s 0,from_+pa,from_+pa+1+pb,pc - s 9,min (s 10) ((1+pd)*s 20),sl⟩)):=fun sl h=>vn s ⟨id+(i:Int),al x.e 4,0,s 0,from_+pa,from_+pa+1+pb,pc - s 9,min (s 10) ((1+pd)*s 20),sl⟩ ps (Nat.le_trans h (by decide)) (by omega)
    refine ar (X:=Nat×Int×List aS×AV) (fun y=>⟨[(16,.int .i64 y.1),(15,.int .i64 y.2.1),(14,.int .i64 (1+pd)),(13,.loc 13 0),(12,.int .i64 i),(11,(.sl (.id 11) 9 ((cN s ps from_ id z i).map aA))),(5,.loc 5 0),(4,.sl .no 5 (z.map j9)),(3,.int .i64 id),(2,.int .i64 from_),(1,ay ps)],[(13,[.int .i64 (id+(i:Int)),.int .i64 (al x.e 4),.int .i64 0,.int .i64 (s 0),.int .i64 (from_+pa),.int .i64 (from_+pa+1+pb),.int .i64 (pc - s 9),.int .i64 (min (s 10) ((1+pd)*s 20)),y.2.2.2]),(5,cJ s)]⟩) (fun y=>y.1≤ps.length∧(y.2.1,y.2.2.1)=dw (s 0) (1+pd) dd (1+nn) ps (from_+pa+1+pb) y.1∧(0≤y.2.1∧y.2.1≤1900000)∧y.2.2.1.length≤y.1∧((y.2.2.1=[]∧y.2.2.2 = .sl .full 0 [])∨y.2.2.2 = .sl (.id 160) 3 (y.2.2.1.map ax))) (fun y=>ps.length - y.1) (0,from_+pa+1+pb,[],.sl .full 0 []) ⟨Nat.zero_le _,rfl,h15,Nat.le_refl _,.inl ⟨rfl,rfl⟩⟩ (ai ?_ ?_) (fun y hy=>?_)
    ·refine And.intro rfl (And.intro (congrArg (fun z=>some (AV.int .i64 z)) he15) (And.intro (congrArg (fun z=>some (AV.int .i64 z)) w6) ?_))
     repeat' (first | exact trivial | refine And.intro rfl ?_)
    ·refine And.intro (congrArg some hcell) ?_
     repeat' (first | exact trivial | refine And.intro rfl ?_)
    ·obtain ⟨k,en,sl,cell⟩:=y
     obtain ⟨hk,hr,hen,hsl,hc⟩:=hy
     simp only at hk hr hen hsl hc ⊢
     rcases hc with ⟨rfl,rfl⟩ | rfl
     ·have cP:ae Tryz.prog 49 [.agg (cJ s),.agg [.int .i64 (id+(i:Int)),.int .i64 (al x.e 4),.int .i64 0,.int .i64 (s 0),.int .i64 (from_+pa),.int .i64 (from_+pa+1+pb),.int .i64 (pc - s 9),.int .i64 (min (s 10) ((1+pd)*s 20)),.sl .full 0 []],ay ps] (.bool (fK s ps ⟨id+(i:Int),al x.e 4,0,s 0,from_+pa,from_+pa+1+pb,pc - s 9,min (s 10) ((1+pd)*s 20),([]:List aS)⟩)):=(cPf [] (by simp)).weak (.cons (.refl _) (.cons (AV.weak.agg (.cons (.refl _) (.cons (.refl _) (.cons (.refl _) (.cons (.refl _) (.cons (.refl _) (.cons (.refl _) (.cons (.refl _) (.cons (.refl _) (.cons AV.weak.slnil .nil))))))))) (by intro y hy; simp at hy; rcases hy with rfl | rfl | rfl | rfl | rfl | rfl | rfl | rfl | rfl <;> rfl)) (.refl _)))
      by_cases hlt_k:k<ps.length
      ·have bbk:decide ((k:Int)<((ps.map aO).length:Int))=false→False:=fun h=>by have:=of_decide_eq_false h; simp at this; omega
       have hy:=nC hlt_k
       have hqb:=hH.p (aD ps k) (by rw [d4 hlt_k]; exact List.getElem_mem hlt_k)
       have hrn:=gd (s 0) (1+pd) dd (1+nn) ps (from_+pa+1+pb) k
       rw [← hr,kr] at hrn
       simp only at hrn
       have hstop:¬ ((([]:List aS):List aS).length:Int)<1+nn→nG s ps from_ (id+i) x=⟨id+(i:Int),al x.e 4,0,s 0,from_+pa,from_+pa+1+pb,pc - s 9,min (s 10) ((1+pd)*s 20),([]:List aS)⟩:=fun h=>by
        have h2:=nm hk (s0:=s 0) (m:=1+pd) (d:=dd) (n:=1+nn) (t0:=from_+pa+1+pb) (by rw [← hr]; exact h)
        rw [hmkv,h2,← hr]
       generalize aD ps k=q at hy hqb hrn
       have v1:IntKind.i64.wrap (q.sa+dd)=q.sa+dd:=am (by omega) (by omega)
       have v2:IntKind.i64.wrap (max en (q.sa+dd)+(1+pd))=max en (q.sa+dd)+(1+pd):=am (by omega) (by omega)
       have e15:IntKind.i64.wrap (max en (IntKind.i64.wrap (q.sa+dd))+(1+pd))=max en (q.sa+dd)+(1+pd):=by rw [v1,v2]
       have e13:([]:List (List AV))++[[.int .i64 (k:Int),.int .i64 (max en (IntKind.i64.wrap (q.sa+dd))),.int .i64 (IntKind.i64.wrap (max en (IntKind.i64.wrap (q.sa+dd))+(1+pd)))]]=(([]:List aS)++[(⟨(k:Int),max en (q.sa+dd),max en (q.sa+dd)+(1+pd)⟩:aS)]).map ax:=by rw [v1,v2]; simp [ax]
       repeat' first|exact (bbk (by assumption)).elim|refine QS rfl hG aa dv ?_|((conv=>whnf); first|refine anF ?_|refine anT ?_|refine anK ?_|refine And.intro (Int.natCast_nonneg k) (Exists.intro _ (And.intro hy ?_))|refine And.intro (Int.natCast_nonneg i) (Exists.intro _ (And.intro hx ?_))|refine Exists.intro _ (And.intro (cE) ?_)|refine Exists.intro _ (And.intro (cD) ?_)|refine And.intro (by decide) ?_|refine And.intro (Nat.le_of_ble_eq_true rfl) (And.intro (Nat.le_of_ble_eq_true rfl) ?_)|refine Exists.intro _ (And.intro (cP) ?_)|refine And.intro (show (((cN s ps from_ id z i).map aA).length+1)*88≤70368744177664 by rw [List.length_map]; omega) (And.intro (show ((cN s ps from_ id z i).map aA).length+1≤4611686018427387904 by rw [List.length_map]; omega) ?_)|refine And.intro (fun h=>?_) (fun h=>?_)|refine Or.inl ?_)
       all_goals first
        |(conv=>whnf
          refine Exists.intro (k+1,max en (q.sa+dd)+(1+pd),([]:List aS)++[(⟨(k:Int),max en (q.sa+dd),max en (q.sa+dd)+(1+pd)⟩:aS)],AV.sl (.id 160) 3 ((([]:List aS)++[(⟨(k:Int),max en (q.sa+dd),max en (q.sa+dd)+(1+pd)⟩:aS)]).map ax)) (And.intro ⟨hlt_k,?_,?_,?_,.inr rfl⟩ (And.intro (by show ps.length - (k+1)<ps.length - k; omega) (ai ?_ ?_)))
          ·rw [hrn]; symm; apply if_pos; clear hG hcell hmkv hon hx hy cP cPf hstop e13 cE cD cC c1 c2 c4 w1 w2 w3 w4 w5 w6 w7 wc he15 hm0 hm1 hH hz hxi hlm; (try simp only [cond_true,cond_false] at *); grind
          ·clear hG hcell hmkv hon hx hy cP cPf hstop e13 cE cD cC c1 c2 c4 w1 w2 w3 w4 w5 w6 w7 wc he15 hm0 hm1 hH hz hxi hlm; (try simp only [cond_true,cond_false] at *); grind
          ·simp <;> omega
          ·refine And.intro (congrArg some (aq (by omega))) (And.intro (congrArg (fun z=>some (AV.int .i64 z)) e15) ?_)
           repeat' (first | exact trivial | refine And.intro rfl ?_)
          ·refine And.intro (congrArg (fun z=>some ([.int .i64 (id+(i:Int)),.int .i64 (al x.e 4),.int .i64 0,.int .i64 (s 0),.int .i64 (from_+pa),.int .i64 (from_+pa+1+pb),.int .i64 (pc - s 9),.int .i64 (min (s 10) ((1+pd)*s 20)),AV.sl (.id 160) 3 z]:List AV)) e13) ?_
           repeat' (first | exact trivial | refine And.intro rfl ?_))
        |(conv=>whnf
          refine Exists.intro (k+1,en,([]:List aS),.sl .full 0 []) (And.intro ⟨hlt_k,?_,hen,?_,.inl ⟨rfl,rfl⟩⟩ (And.intro (by show ps.length - (k+1)<ps.length - k; omega) (ai ?_ ?_)))
          ·rw [hrn]; symm; apply if_neg; clear hG hcell hmkv hon hx hy cP cPf hstop e13 cE cD cC c1 c2 c4 w1 w2 w3 w4 w5 w6 w7 wc he15 hm0 hm1 hH hz hxi hlm; (try simp only [cond_true,cond_false] at *); grind
          ·exact Nat.le_succ_of_le hsl
          ·refine And.intro (congrArg some (aq (by omega))) ?_
           repeat' (first | exact trivial | refine And.intro rfl ?_)
          ·repeat' (first | exact trivial | refine And.intro rfl ?_))
        | skip
       all_goals have hmk:=hstop (by clear hG hcell hmkv hon hx hy cP cPf hstop e13 cE cD cC c1 c2 c4 w1 w2 w3 w4 w5 w6 w7 wc he15 hm0 hm1 hH hz hxi hlm; (try simp only [cond_true,cond_false] at *); grind)
       all_goals first
        |(exact absurd (by assumption:fK s ps _=true) (by rw [xr]; simp))
        |(have hpr:=(by assumption:fK s ps _=false)
          conv=>whnf
          refine Exists.intro (i+1) (And.intro ⟨hlt_i,h5⟩ (And.intro (by omega) (ai ?_ ?_)))
          ·refine And.intro (congrArg some (aq (by omega))) (And.intro (congrArg (fun z=>some (AV.sl (.id 11) 9 z)) ?_) ?_)
           ·rw [hon,hmk,if_neg (by rw [hpr]; simp),List.append_nil]
           ·repeat' (first | exact trivial | refine And.intro rfl ?_)
          ·repeat' (first | exact trivial | refine And.intro rfl ?_))
      ·have bbk:decide ((k:Int)<((ps.map aO).length:Int))=true→False:=fun h=>by have:=of_decide_eq_true h; simp at this; omega
       have he:k=ps.length:=by omega
       have hmk:nG s ps from_ (id+i) x=⟨id+(i:Int),al x.e 4,0,s 0,from_+pa,from_+pa+1+pb,pc - s 9,min (s 10) ((1+pd)*s 20),([]:List aS)⟩:=by rw [hmkv,← he,← hr]
       repeat' first|exact (bbk (by assumption)).elim|refine QS rfl hG aa dv ?_|((conv=>whnf); first|refine anF ?_|refine anT ?_|refine anK ?_|refine Exists.intro _ (And.intro (cP) ?_)|refine And.intro (show (((cN s ps from_ id z i).map aA).length+1)*88≤70368744177664 by rw [List.length_map]; omega) (And.intro (show ((cN s ps from_ id z i).map aA).length+1≤4611686018427387904 by rw [List.length_map]; omega) ?_)|refine And.intro (fun h=>?_) (fun h=>?_)|refine Or.inl ?_)
       all_goals first
        |(exact absurd (by assumption:fK s ps _=true) (by rw [xr]; simp))
        |(have hpr:=(by assumption:fK s ps _=false)
          conv=>whnf
          refine Exists.intro (i+1) (And.intro ⟨hlt_i,h5⟩ (And.intro (by omega) (ai ?_ ?_)))
          ·refine And.intro (congrArg some (aq (by omega))) (And.intro (congrArg (fun z=>some (AV.sl (.id 11) 9 z)) ?_) ?_)
           ·rw [hon,hmk,if_neg (by rw [hpr]; simp),List.append_nil]
           ·repeat' (first | exact trivial | refine And.intro rfl ?_)
          ·repeat' (first | exact trivial | refine And.intro rfl ?_))
     ·have cP:ae Tryz.prog 49 [.agg (cJ s),.agg [.int .i64 (id+(i:Int)),.int .i64 (al x.e 4),.int .i64 0,.int .i64 (s 0),.int .i64 (from_+pa),.int .i64 (from_+pa+1+pb),.int .i64 (pc - s 9),.int .i64 (min (s 10) ((1+pd)*s 20)),.sl .no 3 (sl.map ax)],ay ps] (.bool (fK s ps ⟨id+(i:Int),al x.e 4,0,s 0,from_+pa,from_+pa+1+pb,pc - s 9,min (s 10) ((1+pd)*s 20),sl⟩)):=cPf sl (by omega)
      by_cases hlt_k:k<ps.length
      ·have bbk:decide ((k:Int)<((ps.map aO).length:Int))=false→False:=fun h=>by have:=of_decide_eq_false h; simp at this; omega
       have hy:=nC hlt_k
       have hqb:=hH.p (aD ps k) (by rw [d4 hlt_k]; exact List.getElem_mem hlt_k)
       have hrn:=gd (s 0) (1+pd) dd (1+nn) ps (from_+pa+1+pb) k
       rw [← hr,kr] at hrn
       simp only at hrn
       have hstop:¬ ((sl:List aS).length:Int)<1+nn→nG s ps from_ (id+i) x=⟨id+(i:Int),al x.e 4,0,s 0,from_+pa,from_+pa+1+pb,pc - s 9,min (s 10) ((1+pd)*s 20),sl⟩:=fun h=>by
        have h2:=nm hk (s0:=s 0) (m:=1+pd) (d:=dd) (n:=1+nn) (t0:=from_+pa+1+pb) (by rw [← hr]; exact h)
        rw [hmkv,h2,← hr]
       generalize aD ps k=q at hy hqb hrn
       have v1:IntKind.i64.wrap (q.sa+dd)=q.sa+dd:=am (by omega) (by omega)
       have v2:IntKind.i64.wrap (max en (q.sa+dd)+(1+pd))=max en (q.sa+dd)+(1+pd):=am (by omega) (by omega)
       have e15:IntKind.i64.wrap (max en (IntKind.i64.wrap (q.sa+dd))+(1+pd))=max en (q.sa+dd)+(1+pd):=by rw [v1,v2]
       have e13:sl.map ax++[[.int .i64 (k:Int),.int .i64 (max en (IntKind.i64.wrap (q.sa+dd))),.int .i64 (IntKind.i64.wrap (max en (IntKind.i64.wrap (q.sa+dd))+(1+pd)))]]=(sl++[(⟨(k:Int),max en (q.sa+dd),max en (q.sa+dd)+(1+pd)⟩:aS)]).map ax:=by rw [v1,v2]; simp [ax]
       repeat' first|exact (bbk (by assumption)).elim|refine QS rfl hG aa dv ?_|((conv=>whnf); first|refine anF ?_|refine anT ?_|refine anK ?_|refine And.intro (Int.natCast_nonneg k) (Exists.intro _ (And.intro hy ?_))|refine And.intro (Int.natCast_nonneg i) (Exists.intro _ (And.intro hx ?_))|refine Exists.intro _ (And.intro (cE) ?_)|refine Exists.intro _ (And.intro (cD) ?_)|refine And.intro (by decide) ?_|refine And.intro (show ((sl.map ax).length+1)*24≤70368744177664 by rw [List.length_map]; omega) (And.intro (show (sl.map ax).length+1≤4611686018427387904 by rw [List.length_map]; omega) ?_)|refine Exists.intro _ (And.intro (cP) ?_)|refine And.intro (show (((cN s ps from_ id z i).map aA).length+1)*88≤70368744177664 by rw [List.length_map]; omega) (And.intro (show ((cN s ps from_ id z i).map aA).length+1≤4611686018427387904 by rw [List.length_map]; omega) ?_)|refine And.intro (fun h=>?_) (fun h=>?_)|refine Or.inl ?_)
       all_goals first
        |(conv=>whnf
          refine Exists.intro (k+1,max en (q.sa+dd)+(1+pd),sl++[(⟨(k:Int),max en (q.sa+dd),max en (q.sa+dd)+(1+pd)⟩:aS)],AV.sl (.id 160) 3 ((sl++[(⟨(k:Int),max en (q.sa+dd),max en (q.sa+dd)+(1+pd)⟩:aS)]).map ax)) (And.intro ⟨hlt_k,?_,?_,?_,.inr rfl⟩ (And.intro (by show ps.length - (k+1)<ps.length - k; omega) (ai ?_ ?_)))
          ·rw [hrn]; symm; apply if_pos; clear hG hcell hmkv hon hx hy cP cPf hstop e13 cE cD cC c1 c2 c4 w1 w2 w3 w4 w5 w6 w7 wc he15 hm0 hm1 hH hz hxi hlm; (try simp only [cond_true,cond_false] at *); grind
          ·clear hG hcell hmkv hon hx hy cP cPf hstop e13 cE cD cC c1 c2 c4 w1 w2 w3 w4 w5 w6 w7 wc he15 hm0 hm1 hH hz hxi hlm; (try simp only [cond_true,cond_false] at *); grind
          ·simp <;> omega
          ·refine And.intro (congrArg some (aq (by omega))) (And.intro (congrArg (fun z=>some (AV.int .i64 z)) e15) ?_)
           repeat' (first | exact trivial | refine And.intro rfl ?_)
          ·refine And.intro (congrArg (fun z=>some ([.int .i64 (id+(i:Int)),.int .i64 (al x.e 4),.int .i64 0,.int .i64 (s 0),.int .i64 (from_+pa),.int .i64 (from_+pa+1+pb),.int .i64 (pc - s 9),.int .i64 (min (s 10) ((1+pd)*s 20)),AV.sl (.id 160) 3 z]:List AV)) e13) ?_
           repeat' (first | exact trivial | refine And.intro rfl ?_))
        |(conv=>whnf
          refine Exists.intro (k+1,en,sl,.sl (.id 160) 3 (sl.map ax)) (And.intro ⟨hlt_k,?_,hen,?_,.inr rfl⟩ (And.intro (by show ps.length - (k+1)<ps.length - k; omega) (ai ?_ ?_)))
          ·rw [hrn]; symm; apply if_neg; clear hG hcell hmkv hon hx hy cP cPf hstop e13 cE cD cC c1 c2 c4 w1 w2 w3 w4 w5 w6 w7 wc he15 hm0 hm1 hH hz hxi hlm; (try simp only [cond_true,cond_false] at *); grind
          ·exact Nat.le_succ_of_le hsl
          ·refine And.intro (congrArg some (aq (by omega))) ?_
           repeat' (first | exact trivial | refine And.intro rfl ?_)
          ·repeat' (first | exact trivial | refine And.intro rfl ?_))
        | skip
       all_goals have hmk:=hstop (by clear hG hcell hmkv hon hx hy cP cPf hstop e13 cE cD cC c1 c2 c4 w1 w2 w3 w4 w5 w6 w7 wc he15 hm0 hm1 hH hz hxi hlm; (try simp only [cond_true,cond_false] at *); grind)
       all_goals first
        |(have hpr:=(by assumption:fK s ps ⟨id+(i:Int),al x.e 4,0,s 0,from_+pa,from_+pa+1+pb,pc - s 9,min (s 10) ((1+pd)*s 20),sl⟩=true)
          conv=>whnf
          refine Exists.intro (i+1) (And.intro ⟨hlt_i,h5⟩ (And.intro (by omega) (ai ?_ ?_)))
          ·refine And.intro (congrArg some (aq (by omega))) (And.intro (congrArg (fun z=>some (AV.sl (.id 11) 9 z)) ?_) ?_)
           ·rw [hon,hmk,if_pos hpr,List.map_append]; rfl
           ·repeat' (first | exact trivial | refine And.intro rfl ?_)
          ·repeat' (first | exact trivial | refine And.intro rfl ?_))
        |(have hpr:=(by assumption:fK s ps _=false)
          conv=>whnf
          refine Exists.intro (i+1) (And.intro ⟨hlt_i,h5⟩ (And.intro (by omega) (ai ?_ ?_)))
          ·refine And.intro (congrArg some (aq (by omega))) (And.intro (congrArg (fun z=>some (AV.sl (.id 11) 9 z)) ?_) ?_)
           ·rw [hon,hmk,if_neg (by rw [hpr]; simp),List.append_nil]
           ·repeat' (first | exact trivial | refine And.intro rfl ?_)
          ·repeat' (first | exact trivial | refine And.intro rfl ?_))
      ·have bbk:decide ((k:Int)<((ps.map aO).length:Int))=true→False:=fun h=>by have:=of_decide_eq_true h; simp at this; omega
       have he:k=ps.length:=by omega
       have hmk:nG s ps from_ (id+i) x=⟨id+(i:Int),al x.e 4,0,s 0,from_+pa,from_+pa+1+pb,pc - s 9,min (s 10) ((1+pd)*s 20),sl⟩:=by rw [hmkv,← he,← hr]
       repeat' first|exact (bbk (by assumption)).elim|refine QS rfl hG aa dv ?_|((conv=>whnf); first|refine anF ?_|refine anT ?_|refine anK ?_|refine Exists.intro _ (And.intro (cP) ?_)|refine And.intro (show (((cN s ps from_ id z i).map aA).length+1)*88≤70368744177664 by rw [List.length_map]; omega) (And.intro (show ((cN s ps from_ id z i).map aA).length+1≤4611686018427387904 by rw [List.length_map]; omega) ?_)|refine And.intro (fun h=>?_) (fun h=>?_)|refine Or.inl ?_)
       all_goals first
        |(have hpr:=(by assumption:fK s ps ⟨id+(i:Int),al x.e 4,0,s 0,from_+pa,from_+pa+1+pb,pc - s 9,min (s 10) ((1+pd)*s 20),sl⟩=true)
          conv=>whnf
          refine Exists.intro (i+1) (And.intro ⟨hlt_i,h5⟩ (And.intro (by omega) (ai ?_ ?_)))
          ·refine And.intro (congrArg some (aq (by omega))) (And.intro (congrArg (fun z=>some (AV.sl (.id 11) 9 z)) ?_) ?_)
           ·rw [hon,hmk,if_pos hpr,List.map_append]; rfl
           ·repeat' (first | exact trivial | refine And.intro rfl ?_)
          ·repeat' (first | exact trivial | refine And.intro rfl ?_))
        |(have hpr:=(by assumption:fK s ps _=false)
          conv=>whnf
          refine Exists.intro (i+1) (And.intro ⟨hlt_i,h5⟩ (And.intro (by omega) (ai ?_ ?_)))
          ·refine And.intro (congrArg some (aq (by omega))) (And.intro (congrArg (fun z=>some (AV.sl (.id 11) 9 z)) ?_) ?_)
           ·rw [hon,hmk,if_neg (by rw [hpr]; simp),List.append_nil]
           ·repeat' (first | exact trivial | refine And.intro rfl ?_)
          ·repeat' (first | exact trivial | refine And.intro rfl ?_))
   ·have b2:decide ((i:Int)<5)=true→False:=fun h=>by have:=of_decide_eq_true h; omega
    have b1:decide ((i:Int)<((z.map j9).length:Int))=false→False:=fun h=>by have:=of_decide_eq_false h; omega
    have he:i=5:=by omega
    subst he
    repeat' first|exact (b1 (by assumption)).elim|exact (b2 (by assumption)).elim|refine QS rfl hG aa dv ?_|((conv=>whnf); first|refine anF ?_|refine anT ?_|refine anK ?_|refine And.intro (fun h=>?_) (fun h=>?_)|refine Or.inl ?_)
    exact Ends.mk (Or.inl rfl) (ac (by rw [BO,Nat.min_eq_right (by omega)]; rfl))
  ·have b1:decide ((i:Int)<((z.map j9).length:Int))=true→False:=fun h=>by have:=of_decide_eq_true h; omega
   have he:i=z.length:=by omega
   repeat' first|exact (b1 (by assumption)).elim|refine QS rfl hG aa dv ?_|((conv=>whnf); first|refine anF ?_|refine anT ?_|refine anK ?_|refine And.intro (fun h=>?_) (fun h=>?_)|refine Or.inl ?_)
   exact Ends.mk (Or.inl rfl) (ac (by rw [BO,Nat.min_eq_left (by omega),← he]; rfl))
end Go.Proofs
namespace Go.Proofs
open Go Go.AI
structure bS where
 x:Nat→Int
 y:Nat→Int
 z:List (Int×Int×Int)
 v:List R5
 from_:Int
 hx:∀ i,inI (x i)
 hy:∀ i,inI (y i)
 hz:∀ r∈z,rM r
 hv:∀ r∈v,s8 r
 hf:inI from_
namespace bS
def s (c:bS):Nat→Int:=Il c.x c.y
def bc (c:bS):ke:=⟨c.x,c.y,[],c.from_,0,c.hx,c.hy,by simp,c.hf,by unfold inI; omega⟩
end bS
theorem bS.sat (c:bS):gI c.s=true:=c.bc.sat
theorem bS.s0 (c:bS):c.s 0=3:=by show al 3 24=3; decide
theorem BF {s:Nat→Int} (h:gI s=true):(0≤s 9∧s 9≤4)∧(1≤s 10∧s 10≤1000000)∧(1≤s 20∧s 20≤1000)∧(0≤s 19∧s 19≤60)∧(1≤s 11∧s 11≤1000000)∧(1≤s 18∧s 18≤1000000)∧(0≤s 17∧s 17≤10000)∧(0≤s 16∧s 16≤10000):=by
 simp only [gI,inS,Bool.and_eq_true,decide_eq_true_eq] at h
 omega
theorem mS {s:Nat→Int} {ps:List ao} {a b:Int}:∀ (l pre:List Opt),eo s ps a b pre l=true↔(∀ o∈l,cY s o ps=true∧a≤o.a∧fk o≤b)∧l.Pairwise (fun x y=>x.id≠y.id)∧∀ p∈pre,∀ o∈l,p.id≠o.id
 | [],pre=>by simp [eo]
 | x::r,pre=>by
  rw [eo,Bool.and_eq_true,mS r (pre++[x]),nI]
  simp only [Bool.and_eq_true,Bool.not_eq_true',decide_eq_false_iff_not,List.any_eq_false,beq_iff_eq,List.mem_cons,List.pairwise_cons,forall_eq_or_imp,List.mem_append,List.not_mem_nil,or_false]
  constructor
  ·rintro ⟨⟨⟨⟨g1,g2⟩,g3⟩,g4⟩,g5,g6,g7⟩
   exact ⟨⟨⟨g1,by omega,by omega⟩,g5⟩,⟨fun y hy=>g7 x (.inr rfl) y hy,g6⟩,fun p hp=>⟨fun e=>g4 p hp e,fun y hy=>g7 p (.inl hp) y hy⟩⟩
  ·rintro ⟨⟨⟨g1,g2,g3⟩,g5⟩,⟨g6,g7⟩,g8⟩
   refine ⟨⟨⟨⟨g1,by omega⟩,by omega⟩,fun p hp e=>(g8 p hp).1 e⟩,g5,g7,fun p hp y hy=>?_⟩
   rcases hp with hp | rfl
   ·exact (g8 p hp).2 y hy
   ·exact g6 y hy
theorem bz {s:Nat→Int} {l:List Opt} {ps:List ao} {a b:Int}:a8 s l ps a b=true↔l.length≤8∧(0≤a∧a<b∧b≤1000000)∧b - a≤3000∧gI s=true∧cH ps=true∧(∀ o∈l,cY s o ps=true∧a≤o.a∧fk o≤b)∧l.Pairwise fun x y=>x.id≠y.id:=by
 constructor
 ·intro h
  obtain ⟨h1,h2,h3,h4,h5,h6⟩:=Bv h
  obtain ⟨g1,g2,_⟩:=(mS l []).1 h6
  exact ⟨h1,h2,h3,h4,h5,g1,g2⟩
 ·rintro ⟨h1,h2,h3,h4,h5,h6,h7⟩
  simp only [a8,Bool.and_eq_true,decide_eq_true_eq,Bool.not_eq_true',decide_eq_false_iff_not]
  rw [am (by omega) (by omega)]
  exact ⟨⟨⟨⟨⟨h1,gD.2 h2⟩,by omega⟩,h4⟩,h5⟩,(mS l []).2 ⟨h6,h7,fun p hp=>nomatch hp⟩⟩
theorem Cw {s:Nat→Int} {l l':List Opt} {ps:List ao} {a b:Int} (h:a8 s l ps a b=true) (hs:l'.Sublist l):a8 s l' ps a b=true:=by
 rw [bz] at *
 exact ⟨Nat.le_trans hs.length_le h.1,h.2.1,h.2.2.1,h.2.2.2.1,h.2.2.2.2.1,fun o ho=>h.2.2.2.2.2.1 o (hs.subset ho),h.2.2.2.2.2.2.sublist hs⟩
theorem qN {s:Nat→Int} {ps:List ao} {z m:Int} (hp:∀ p∈ps,p.sb≤m) (hl:ps.length≤64):∀ (l:List aS) (t:Int),bj s ps z t l=true→∀ x∈l,x.b≤m
 | [],_,_,x,hx=>nomatch hx
 | y::r,t,h,x,hx=>by
  simp only [bj,ez,Bool.and_eq_true,inS,decide_eq_true_eq] at h
  rcases List.mem_cons.1 hx with rfl | hx
  ·have h1:=h.1.1
   rw [am (by omega) (by omega)] at h1
   have hlt:x.p.toNat<ps.length:=by omega
   have h2:=h.1.2.1.1.2
   rw [d4 hlt] at h2
   have:=hp _ (List.getElem_mem hlt)
   omega
  ·exact qN hp hl r _ h.2 x hx
theorem Dg {s:Nat→Int} {o:Opt} {ps:List ao} {m:Int} (hp:∀ p∈ps,p.sb≤m) (hl:ps.length≤64) (h:cY s o ps=true):fk o≤m:=by
 have hn:=yf h
 have hs:bj s ps o.size o.b o.sl=true:=by simp only [cY,Bool.and_eq_true] at h; exact h.2
 refine qN hp hl o.sl _ hs _ ?_
 unfold aN
 rw [List.getD_eq_getElem?_getD,List.getElem?_eq_getElem (by omega)]
 exact List.getElem_mem _
theorem mP {s:Nat→Int} {ps:List ao} {from_ id:Int} {z:List R5} (hz:∀ x∈z,s8 x):∀ i,i≤z.length→∀ o∈cN s ps from_ id z i,fK s ps o=true∧from_≤o.a∧id≤o.id∧o.id<id+i
 | 0,_,o,ho=>nomatch ho
 | i+1,hi,o,ho=>by
  rw [cN,List.mem_append] at ho
  rcases ho with ho | ho
  ·have:=mP hz i (by omega) o ho
   exact ⟨this.1,this.2.1,this.2.2.1,by omega⟩
  ·split at ho
   ·rename_i hp
    rw [List.mem_singleton.1 ho]
    have hx:s8 (z.getD i r50):=hz _ (by rw [List.getD_eq_getElem?_getD,List.getElem?_eq_getElem (show i<z.length by omega)]; exact List.getElem_mem _)
    have p1:=aJ hx.1 (n:=40) (by omega)
    exact ⟨hp,by show from_≤from_+_; omega,by show id≤id+(i:Int); omega,by show id+(i:Int)<_; omega⟩
   ·cases ho
theorem ri {s:Nat→Int} {ps:List ao} {from_ id:Int} {z:List R5} (hz:∀ x∈z,s8 x):∀ i,i≤z.length→(cN s ps from_ id z i).Pairwise fun x y=>x.id≠y.id
 | 0,_ => .nil
 | i+1,hi=>by
  rw [cN,List.pairwise_append]
  refine ⟨ri hz i (by omega),by split <;> simp,fun x hx y hy=>?_⟩
  have:=mP hz i (by omega) x hx
  split at hy
  ·rw [List.mem_singleton.1 hy]
   show x.id≠id+(i:Int)
   omega
  ·cases hy
end Go.Proofs
namespace Go.Proofs
open Go Go.AI
set_option maxRecDepth 10000
def FG (c:bS):List AV:=[.int .i64 (c.x 0),.int .i64 (c.x 1),.int .i64 (c.x 2),.int .i64 (c.x 3),.int .i64 (c.x 4),.int .i64 (c.x 5),.int .i64 (c.x 6),.int .i64 (c.y 0),.int .i64 (c.y 1),.int .i64 (c.y 2),.int .i64 (c.y 3),.sl .no 3 (c.z.map ka),.sl .no 5 (c.v.map j9),.int .i64 c.from_]
theorem AV.weak.tup {cs ds:List AV} (h:iD cs ds):(AV.tup cs).weak (.tup ds):=by
 intro m v hv
 cases hv with
 | tup _ vs hl hr=>
  obtain ⟨h1,h2⟩:=h.spec
  refine .tup ds vs (by omega) fun i x u g1 g2=>?_
  have hi:i<cs.length:=by rw [h1]; exact (List.getElem?_eq_some_iff.1 g1).1
  exact h2 i _ x (List.getElem?_eq_getElem hi) g1 m u (hr i _ u (List.getElem?_eq_getElem hi) g2)
inductive uo:List (List AV)→List (List AV)→Prop
 | nil:uo [] []
 | cons {x y:List AV} {xs ys:List (List AV)} (h:iD x y) (t:uo xs ys):uo (x::xs) (y::ys)
theorem uo.spec {xs ys:List (List AV)} (h:uo xs ys):xs.length=ys.length∧∀ (i:Nat) (y:List AV),ys[i]?=some y→∃ x,xs[i]?=some x∧iD x y:=by
 induction h with
 | nil=>exact ⟨rfl,by simp⟩
 | cons h t ih=>
  refine ⟨by simp [ih.1],fun i y hy=>?_⟩
  cases i with
  | zero=>simp at hy; subst hy; exact ⟨_,rfl,h⟩
  | succ i=>obtain ⟨x,h1,h2⟩:=ih.2 i y (by simpa using hy); exact ⟨x,by simpa using h1,h2⟩
theorem AV.weak.rows {o:Go.AI.Own} {sz:Nat} {xs ys:List (List AV)} (h:uo xs ys) (hc:∀ y∈ys,∀ c∈y,AV.isCell c=true):(AV.sl o sz xs).weak (.sl .no sz ys):=by
 intro m v hv
 cases hv with
 | sl _ _ _ base len cap ho hf hl hcap hsz hcell b off hb g hm hr=>
  obtain ⟨e1,e2⟩:=h.spec
  have key:∀ {i:Nat} {y:List AV} {j:Nat} {c:AV},ys[i]?=some y→y[j]?=some c→∃ x d,xs[i]?=some x∧x[j]?=some d∧d.weak c:=by
   intro i y j c h1 h2
   obtain ⟨x,h3,h4⟩:=e2 i y h1
   obtain ⟨q1,q2⟩:=h4.spec
   have hj:j<x.length:=by rw [q1]; exact (List.getElem?_eq_some_iff.1 h2).1
   exact ⟨x,_,h3,List.getElem?_eq_getElem hj,q2 j _ c (List.getElem?_eq_getElem hj) h2⟩
  refine .sl _ _ _ base len cap (by intro k hk; cases hk) (by intro hk; cases hk) (by omega) hcap (fun y hy=>?_) hc b off hb g (fun i y j c h1 h2=>?_) (fun i y j c h1 h2=>?_)
  ·obtain ⟨i,hi⟩:=List.mem_iff_getElem?.1 hy
   obtain ⟨x,h3,h4⟩:=e2 i y hi
   rw [← h4.spec.1]
   exact hsz x (List.mem_of_getElem? h3)
  ·obtain ⟨x,d,h3,h4,_⟩:=key h1 h2
   exact hm i x j d h3 h4
  ·obtain ⟨x,d,h3,h4,h5⟩:=key h1 h2
   exact h5 m _ (hr i x j d h3 h4)
end Go.Proofs
