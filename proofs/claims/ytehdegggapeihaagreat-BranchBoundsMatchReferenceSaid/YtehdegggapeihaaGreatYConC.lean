/- Contracts of the functions and plain facts about what they reckon, part 3: called with arguments that read so, each hands back what is typed. The conditions are those typed. -/
import Derived.Test.YtehdegggapeihaaGreatYConB
set_option linter.unusedSectionVars false
set_option linter.unusedVariables false
set_option linter.unusedSimpArgs false
namespace Go.Proofs
open Go Go.AI
set_option maxRecDepth 10000
def inM (x lo hi:Int):Bool:=decide (lo≤x)&&decide (x≤hi)
def spM (a b:Int):Bool:=decide (0≤a)&&(decide (a<b)&&decide (b≤1000001))
theorem lx (x lo hi:Int):ae Tryz.prog 104 [.int .i64 x,.int .i64 lo,.int .i64 hi] (.bool (inM x lo hi)):=by
 refine ag aa Tryz.func104 rfl (by kernel_rfl) af (Nat.le_of_ble_eq_true rfl) ?_
 intro F n' w0 m0 hG hro h1
 repeat' first|refine Q1 ?_|refine Q2 ?_|refine Q3 hG aa hU ?_|refine Q4 hG aa hU ?_|refine Q5 hG aa ?_|refine Q6 hG aa ?_|refine Q7 hG aa ?_|refine Q8 hG aa ?_|refine Q9 rfl ?_|refine QF rfl ?_|refine QC rfl ⟨fun h=>?_,fun h=>?_⟩|((conv=>whnf); first|refine anF ?_|refine anT ?_|refine anK ?_|refine And.intro (fun h=>?_) (fun h=>?_)|refine Or.inl ?_)
 all_goals refine Ends.mk (Or.inl rfl) (ac (congrArg AV.bool ?_))
 all_goals simp only [inM, *,Bool.true_and,Bool.and_true,Bool.false_and,Bool.and_false,Bool.true_or,Bool.or_true,Bool.false_or,Bool.or_false,Bool.not_true,Bool.not_false]
theorem pn (a b:Int):ae Tryz.prog 170 [.agg [.int .i64 a,.int .i64 b]] (.bool (spM a b)):=by
 refine ag aa Tryz.func170 rfl (by kernel_rfl) af (Nat.le_of_ble_eq_true rfl) ?_
 intro F n' w0 m0 hG hro h1
 repeat' first|refine Q1 ?_|refine Q2 ?_|refine Q3 hG aa gY ?_|refine Q4 hG aa gY ?_|refine Q5 hG aa ?_|refine Q6 hG aa ?_|refine Q7 hG aa ?_|refine Q8 hG aa ?_|refine Q9 rfl ?_|refine QF rfl ?_|refine QC rfl ⟨fun h=>?_,fun h=>?_⟩|((conv=>whnf); first|refine anF ?_|refine anT ?_|refine anK ?_|refine And.intro (fun h=>?_) (fun h=>?_)|refine Or.inl ?_)
 all_goals refine Ends.mk (Or.inl rfl) (ac (congrArg AV.bool ?_))
 all_goals simp only [spM, *,Bool.true_and,Bool.and_true,Bool.false_and,Bool.and_false,Bool.true_or,Bool.or_true,Bool.false_or,Bool.or_false,Bool.not_true,Bool.not_false]
def kb (l:List Img):List Bool:=(List.range 64).map fun (k:Nat)=>l.any fun x=>x.i==(k:Int)
def ij (l:List Img) (i:Int):Bool:=l.any fun x=>x.i==i
def js (pre:List Img) (x:Img):Bool:=inM x.i 0 63&&(!ij pre x.i&&(inM x.u 1 1000000&&spM x.a x.b))
def ef:List Img→List Img→Bool
 | _,[]=>true
 | pre,x::r=>js pre x&&ef (pre++[x]) r
def dB (l:List Img):Bool:=ef [] l&&decide (l.length≤24)
theorem GY (m:List Img) (h:m=[]):(kb m).map AV.bool=List.replicate 64 (.bool false):=by
 subst h
 simp only [kb,List.map_map,List.any_nil,Function.comp_def,List.map_const',List.length_range,List.map_replicate]
theorem Bo {i:TI} {cs:List AV} {n:Nat} {x:AV} {r:List AV} {K:AV→Prop} (h:cs.drop n=x::r) (hK:(match e7 i (x::r) with | some v=>K v | none=>False)):(match e7 i (cs.drop n) with | some v=>K v | none=>False):=by rw [h]; exact hK
theorem yL {s:St} {d n:Nat} {vs:List AV} {b':List (Nat×List AV)} {K:List (Nat×List AV)→Prop} (h:lY s.b d n vs=some b') (hK:K b'):(match lY s.b d n vs with | some b=>K b | none=>False):=by rw [h]; exact hK
theorem AY {bx:List (Nat×List AV)} {d n:Nat} {cs:List AV} {v:AV} (h1:get bx d=some cs) (h2:n<cs.length):lY bx d n [v]=some ((d,mT cs n [v])::bx):=by
 unfold lY
 rw [h1]
 simp only [List.length_cons,List.length_nil,Nat.zero_add]
 rw [Nat.ble_eq_true_of_le h2]; rfl
theorem A1 {l:List Img} {i:Int} (h:inM i 0 63=true):∃ r,((kb l).map AV.bool).drop (0+i.toNat*1) = .bool (ij l i)::r:=by
 simp only [inM,Bool.and_eq_true,decide_eq_true_eq] at h
 have hlt:0+i.toNat*1<((kb l).map AV.bool).length:=by simp [kb]; omega
 refine ⟨_,(List.drop_eq_getElem_cons hlt).trans (congrArg (·::_) ?_)⟩
 simp only [kb,List.map_map,List.getElem_map,List.getElem_range,Function.comp,ij]
 congr 3
 funext x
 rw [Nat.zero_add,Nat.mul_one,Int.toNat_of_nonneg h.1]
theorem CU {l:List Img} {x:Img} (h:inM x.i 0 63=true):mT ((kb l).map AV.bool) (0+x.i.toNat*1) [.bool true]=(kb (l++[x])).map AV.bool:=by
 simp only [inM,Bool.and_eq_true,decide_eq_true_eq] at h
 rw [jN]
 apply List.ext_getElem?
 intro j
 show (bZ ((kb l).map AV.bool) (0+x.i.toNat*1) (.bool true))[j]?=_
 rw [da]
 simp only [kb,List.length_map,List.length_range,List.getElem?_map,Nat.zero_add,Nat.mul_one,List.any_append,List.any_cons,List.any_nil,Bool.or_false]
 by_cases hj:j<64
 ·rw [List.getElem?_range hj]
  simp only [Option.map_some]
  by_cases he:j=x.i.toNat
  ·rw [if_pos (by omega)]
   have:(x.i==(j:Int))=true:=by rw [beq_iff_eq]; omega
   rw [this,Bool.or_true]
  ·rw [if_neg (by omega)]
   have:(x.i==(j:Int))=false:=by rw [beq_eq_false_iff_ne]; omega
   rw [this,Bool.or_false]
 ·rw [if_neg (by omega),List.getElem?_eq_none (by simp; omega)]; rfl
set_option maxHeartbeats 8000000 in
theorem tS (l:List Img) (hl:l.length≤1000000):ae Tryz.prog 105 [fe l] (.bool (dB l)):=by
 refine ag aa Tryz.func105 rfl (by kernel_rfl) af (Nat.le_of_ble_eq_true rfl) ?_
 intro F n' w0 m0 hG hro h1
 repeat' first|refine Q1 ?_|refine Q2 ?_|refine Q3 hG aa dA ?_|refine Q4 hG aa dA ?_|refine Q5 hG aa ?_|refine Q6 hG aa ?_|refine Q7 hG aa ?_|refine Q8 hG aa ?_|refine Q9 rfl ?_|refine QF rfl ?_|refine QC rfl ⟨fun h=>?_,fun h=>?_⟩|((conv=>whnf); first|refine anF ?_|refine anT ?_|refine anK ?_|refine And.intro (fun h=>?_) (fun h=>?_)|refine Or.inl ?_)
 refine ap (X:=Nat×List AV) (fun x=>⟨[(8,.int .i64 x.1),(7,.int .i64 (l.map e9).length),(6,fe l),(0,fe l),(3,.loc 3 0)],[(3,x.2)]⟩) (fun x=>x.1≤l.length∧ef (l.take x.1) (l.drop x.1)=ef [] l∧x.2=(kb (l.take x.1)).map AV.bool) (fun x=>l.length - x.1) (0,List.replicate 64 (.bool false)) ⟨Nat.zero_le _,by simp,(GY _ rfl).symm⟩ (ah ?_ ?_) (fun x hi=>?_)
 ·repeat' (first | exact trivial | refine And.intro rfl ?_)
 ·repeat' (first | exact trivial | refine And.intro rfl ?_)
 ·obtain ⟨i,cs⟩:=x
  obtain ⟨hi,hok,hcs⟩:=hi
  simp only at hi hok hcs ⊢
  by_cases hlt:i<l.length
  ·have bbk:decide ((i:Int)<((l.map e9).length:Int))=false→False:=fun h=>by have:=of_decide_eq_false h; simp at this; omega
   have hx:=sE hlt
   have htk:l.take (i+1)=l.take i++[l.getD i jd]:=by rw [List.take_add_one,List.getD_eq_getElem?_getD,List.getElem?_eq_getElem hlt]; rfl
   have hdr:l.drop i=l.getD i jd::l.drop (i+1):=by rw [List.getD_eq_getElem?_getD,List.getElem?_eq_getElem hlt]; exact List.drop_eq_getElem_cons hlt
   rw [hdr,ef,← htk] at hok
   generalize l.getD i jd=x at hx htk hok
   have hln:cs.length=64:=by rw [hcs]; simp [kb]
   cases hin:inM x.i 0 63 with
   | false=>
    have cIn:ae Tryz.prog 104 [.int .i64 x.i,.int .i64 0,.int .i64 63] (.bool false):=by rw [← hin]; exact lx _ _ _
    clear hcs
    repeat' first|exact (bbk (by assumption)).elim|refine Q1 ?_|refine Q2 ?_|refine Q3 hG aa dA ?_|refine Q4 hG aa dA ?_|refine Q5 hG aa ?_|refine Q6 hG aa ?_|refine Q7 hG aa ?_|refine Q8 hG aa ?_|refine Q9 rfl ?_|refine QF rfl ?_|refine QC rfl ⟨fun h=>?_,fun h=>?_⟩|((conv=>whnf); first|refine anF ?_|refine anT ?_|refine anK ?_|refine And.intro (Int.natCast_nonneg i) (Exists.intro _ (And.intro hx ?_))|refine Exists.intro _ (And.intro (cIn) ?_)|refine Exists.intro _ (And.intro (lx _ _ _) ?_)|refine Exists.intro _ (And.intro (pn _ _) ?_)|refine Eq.mpr (iC cs _) ?_|refine And.intro (fun h=>?_) (fun h=>?_)|refine Or.inl ?_)
    refine Ends.mk (Or.inl rfl) (ac (congrArg AV.bool ?_))
    rw [dB,← hok,js,hin]
    (try simp only [Bool.not_eq_true',Bool.not_eq_false'] at *)
    simp only [*,Bool.true_and,Bool.and_true,Bool.false_and,Bool.and_false,Bool.true_or,Bool.or_true,Bool.false_or,Bool.or_false,Bool.not_true,Bool.not_false]
   | true=>
    have cIn:ae Tryz.prog 104 [.int .i64 x.i,.int .i64 0,.int .i64 63] (.bool true):=by rw [← hin]; exact lx _ _ _
    have hst:=CU (l:=l.take i) hin
    rw [← htk] at hst
    obtain ⟨r,hse⟩:=A1 (l:=l.take i) hin
    have hx0:0≤x.i:=by have:=hin; simp only [inM,Bool.and_eq_true,decide_eq_true_eq] at this; exact this.1
    have hx1:x.i<((64:Nat):Int):=by have:=hin; simp only [inM,Bool.and_eq_true,decide_eq_true_eq] at this; omega
    rw [← hcs] at hst hse
    clear hcs
    obtain ⟨sb,hsb⟩:∃ sb,sb=ij (l.take i) x.i:=⟨_,rfl⟩
    rw [← hsb] at hse
    have hsl:0+x.i.toNat*1<cs.length:=by rw [hln]; omega
    repeat' first|exact (bbk (by assumption)).elim|refine Q1 ?_|refine Q2 ?_|refine Q3 hG aa dA ?_|refine Q4 hG aa dA ?_|refine Q5 hG aa ?_|refine Q6 hG aa ?_|refine Q7 hG aa ?_|refine Q8 hG aa ?_|refine Q9 rfl ?_|refine QF rfl ?_|refine QC rfl ⟨fun h=>?_,fun h=>?_⟩|((conv=>whnf); first|refine anF ?_|refine anT ?_|refine anK ?_|refine And.intro (Int.natCast_nonneg i) (Exists.intro _ (And.intro hx ?_))|refine Exists.intro _ (And.intro (cIn) ?_)|refine Exists.intro _ (And.intro (lx _ _ _) ?_)|refine Exists.intro _ (And.intro (pn _ _) ?_)|refine Bo hse ?_|refine yL (AY (cs:=cs) rfl hsl) ?_|refine Eq.mpr (iC (mT cs _ _) _) ?_|refine And.intro hx0 (And.intro hx1 ?_)|refine Eq.mpr (iC cs _) ?_|refine And.intro (fun h=>?_) (fun h=>?_)|refine Or.inl ?_)
    ·refine Ends.mk (Or.inl rfl) (ac (congrArg AV.bool ?_))
     subst hsb
     rw [dB,← hok,js,hin]
     (try simp only [Bool.not_eq_true',Bool.not_eq_false'] at *)
     simp only [*,Bool.true_and,Bool.and_true,Bool.false_and,Bool.and_false,Bool.true_or,Bool.or_true,Bool.false_or,Bool.or_false,Bool.not_true,Bool.not_false]
    ·refine Ends.mk (Or.inl rfl) (ac (congrArg AV.bool ?_))
     subst hsb
     rw [dB,← hok,js,hin]
     (try simp only [Bool.not_eq_true',Bool.not_eq_false'] at *)
     simp only [*,Bool.true_and,Bool.and_true,Bool.false_and,Bool.and_false,Bool.true_or,Bool.or_true,Bool.false_or,Bool.or_false,Bool.not_true,Bool.not_false]
    ·refine Ends.mk (Or.inl rfl) (ac (congrArg AV.bool ?_))
     subst hsb
     rw [dB,← hok,js,hin]
     (try simp only [Bool.not_eq_true',Bool.not_eq_false'] at *)
     simp only [*,Bool.true_and,Bool.and_true,Bool.false_and,Bool.and_false,Bool.true_or,Bool.or_true,Bool.false_or,Bool.or_false,Bool.not_true,Bool.not_false]
    ·conv=>whnf
     refine Exists.intro (i+1,mT cs (0+x.i.toNat*1) [.bool true]) (And.intro ⟨hlt,?_,hst⟩ (And.intro (show l.length - (i+1)<l.length - i by omega) ?_))
     ·subst hsb
      rw [← hok,js,hin]
      (try simp only [Bool.not_eq_true',Bool.not_eq_false'] at *)
      simp only [*,Bool.true_and,Bool.and_true,Bool.false_and,Bool.and_false,Bool.true_or,Bool.or_true,Bool.false_or,Bool.or_false,Bool.not_true,Bool.not_false]
     ·refine ah (And.intro (congrArg some (ao (by omega))) ?_) ?_
      ·repeat' (first | exact trivial | refine And.intro rfl ?_)
      ·repeat' (first | exact trivial | refine And.intro rfl ?_)
  ·have bbk:decide ((i:Int)<((l.map e9).length:Int))=true→False:=fun h=>by have:=of_decide_eq_true h; simp at this; omega
   repeat' first|exact (bbk (by assumption)).elim|refine Q1 ?_|refine Q2 ?_|refine Q3 hG aa dA ?_|refine Q4 hG aa dA ?_|refine Q5 hG aa ?_|refine Q6 hG aa ?_|refine Q7 hG aa ?_|refine Q8 hG aa ?_|refine Q9 rfl ?_|refine QF rfl ?_|refine QC rfl ⟨fun h=>?_,fun h=>?_⟩|((conv=>whnf); first|refine anF ?_|refine anT ?_|refine anK ?_|refine And.intro (fun h=>?_) (fun h=>?_)|refine Or.inl ?_)
   refine Ends.mk (Or.inl rfl) (ac (congrArg AV.bool ?_))
   have hdn:l.drop i=[]:=List.drop_of_length_le (by omega)
   rw [hdn,ef] at hok
   rw [dB,← hok,List.length_map,Bool.true_and]
   exact decide_eq_decide.2 (by omega)
end Go.Proofs
namespace Go.Proofs
open Go Go.AI
set_option maxRecDepth 10000
theorem kp:∀ (l pre:List Img),ef pre l=true→∀ x∈l,0≤x.u∧x.u≤1000000
 | [],_,_,x,hx=>nomatch hx
 | y::r,pre,h,x,hx=>by
  simp only [ef,Bool.and_eq_true] at h
  rcases List.mem_cons.1 hx with rfl | hx
  ·have:=h.1
   simp only [js,inM,Bool.and_eq_true,decide_eq_true_eq] at this
   omega
  ·exact kp r _ h.2 x hx
end Go.Proofs
namespace Go.Proofs
open Go Go.AI
set_option maxRecDepth 10000
structure pY (s:Nat→Int) (l:List Opt) (a b:Int):Prop where
 hl:l.length≤1000000
 sl:dQ l
 sp:(bD l).length≤900000
 val:GU s (DZ l)=true
 span:F5 a b=true
 can:∀ o∈l,jw o=true
 mem:dB (gA l)=true
 s10:inM (s 10) 0 1000000=true
 ll:(aA l).length≤1000000
 bat:fN s (aA l) a b=true
end Go.Proofs
namespace Go.Proofs
open Go Go.AI
structure GR (s:Nat→Int) (o:Opt) (b:Int):Prop where
 id:0≤o.id∧o.id≤63
 size:1≤o.size∧o.size≤s 10
 shot:0≤o.a∧o.a<o.b∧o.b≤1000000∧o.b - o.a≤60
 look:inS o.look (w64 (0 - s 9)) (s 9)=true
 len:1≤o.sl.length∧o.sl.length≤6
 slot:∀ x∈o.sl,0≤x.a∧x.a<x.b∧x.b≤fE o
 last:o.b<fE o∧fE o≤b
 can:jw o=true
def jV (t:Int):List aV→Int
 | []=>t
 | x::r=>jV x.b r
theorem si (t:Int):∀ (l:List aV),l≠[]→jV t l=(l.getD (l.length - 1) rJ).b
 | [],h=>absurd rfl h
 | [x],_=>rfl
 | x::y::r,_=>by
  rw [jV,si _ (y::r) (by simp)]
  simp
theorem zX {s:Nat→Int} {ps:List am} {z:Int} (hps:∀ p∈ps,p.sb≤1000001) (hpl:ps.length≤64):∀ (l:List aV) (t:Int),bE s ps z t l=true→0≤t →
  (∀ x∈l,t≤x.a∧x.a<x.b∧x.b≤jV t l)∧t≤jV t l∧(l≠[]→t<jV t l)∧fa t l=true
 | [],t,_,_=>⟨fun _ h=>(nomatch h),Int.le_refl _,fun h=>absurd rfl h,rfl⟩
 | x::r,t,h,ht=>by
  simp only [bE,gc,Bool.and_eq_true,inS,decide_eq_true_eq,Bool.not_eq_true'] at h
  obtain ⟨⟨h01,⟨⟨⟨_,h2⟩,h3⟩,h4⟩,_⟩,h5⟩:=h
  obtain ⟨h0,h1⟩:=h01
  have hxa:t≤x.a:=by omega
  obtain ⟨g1,g2,_,g4⟩:=zX hps hpl r x.b h5 (by omega)
  have hp:(aB ps x.p.toNat).sb≤1000001:=by
   rw [ai (by omega) (by omega)] at h1
   have hlt:x.p.toNat<ps.length:=by omega
   unfold aB
   rw [List.getD_eq_getElem?_getD,List.getElem?_eq_getElem hlt]
   exact hps _ (List.getElem_mem hlt)
  refine ⟨fun y hy=>?_,?_,fun _=>?_,?_⟩
  ·rcases List.mem_cons.1 hy with rfl | hy
   ·exact ⟨hxa,h4,g2⟩
   ·have:=g1 y hy
    exact ⟨by omega,this.2.1,this.2.2⟩
  ·show t≤jV x.b r; omega
  ·show t<jV x.b r; omega
  ·simp only [fa,jX,Bool.and_eq_true,decide_eq_true_eq]
   exact ⟨⟨hxa,⟨by omega,h4⟩,by omega⟩,g4⟩
theorem rV {ps:List am} (h:bz ps=true):(∀ p∈ps,p.sb≤1000001)∧ps.length≤64:=by
 simp only [bz,Bool.and_eq_true,decide_eq_true_eq,Bool.not_eq_true',List.any_eq_false] at h
 refine ⟨fun p hp=>?_,h.1.1⟩
 have:=h.1.2 p hp
 simp only [co,inS,Bool.and_eq_true,Bool.or_eq_true,decide_eq_true_eq,Bool.not_eq_true,Bool.not_eq_true',Bool.not_eq_false,beq_iff_eq] at this
 omega
theorem Gc {s:Nat→Int} {o:Opt} {ps:List am} {b:Int} (hps:bz ps=true) (hs:s 10≤1000000) (h:dG s o ps=true) (hb:fE o≤b):GR s o b:=by
 obtain ⟨hp1,hp2⟩:=rV hps
 simp only [dG,ng,qd,px,xf,jX,Bool.and_eq_true,decide_eq_true_eq,beq_iff_eq] at h
 obtain ⟨⟨⟨⟨⟨⟨⟨hid,_⟩,_⟩,_⟩,hsz⟩,⟨⟨⟨_,hsp⟩,_⟩,hlk⟩,hob⟩,hln⟩,hsl⟩:=h
 simp only [inS,Bool.and_eq_true,decide_eq_true_eq] at hid hsz hln
 have hspan:0≤o.a∧o.a<o.b∧o.b - o.a≤60:=by
  obtain ⟨⟨⟨q1,q2⟩,q3⟩,q4⟩:=hsp
  rw [ai (by omega) (by omega)] at q4
  exact ⟨q1,q2,q4⟩
 obtain ⟨g1,g2,g3,g4⟩:=zX hp1 hp2 o.sl o.b hsl (by omega)
 have hne:o.sl≠[]:=fun e=>by rw [e] at hln; simp at hln
 have hlast:jV o.b o.sl=fE o:=si _ _ hne
 rw [hlast] at g1 g2 g3
 refine ⟨hid,hsz,⟨hspan.1,hspan.2.1,hob,hspan.2.2⟩,hlk,by omega,fun x hx=>?_,⟨g3 hne,hb⟩,?_⟩
 ·have:=g1 x hx; omega
 ·simp only [jw,Bool.and_eq_true,inS,jX,decide_eq_true_eq]
  exact ⟨g4,⟨⟨hid,by omega,by omega⟩,⟨by omega,by omega⟩,by omega⟩,by omega,by omega⟩
theorem mg {s:Nat→Int} {ps:List am} {a b:Int}:∀ (l pre:List Opt),dM s ps a b pre l=true→∀ o∈l,dG s o ps=true∧a≤o.a∧fE o≤b
 | [],_,_,o,ho=>nomatch ho
 | x::r,pre,h,o,ho=>by
  simp only [dM,Bool.and_eq_true] at h
  rcases List.mem_cons.1 ho with rfl | ho
  ·have:=h.1
   simp only [jr,Bool.and_eq_true,Bool.not_eq_true',decide_eq_false_iff_not] at this
   exact ⟨this.1.1.1,by omega,by omega⟩
  ·exact mg r _ h.2 o ho
theorem zV {s:Nat→Int} {l:List Opt} {ps:List am} {a b:Int} (h:aY s l ps a b=true):l.length≤8∧(0≤a∧a<b∧b≤1000000)∧b - a≤3000∧gq s=true∧bz ps=true∧dM s ps a b [] l=true:=by
 simp only [aY,Bool.and_eq_true,decide_eq_true_eq,Bool.not_eq_true',decide_eq_false_iff_not] at h
 obtain ⟨⟨⟨⟨⟨h1,h2⟩,h3⟩,h4⟩,h5⟩,h6⟩:=h
 have h2:=mX h2
 rw [ai (by omega) (by omega)] at h3
 exact ⟨h1,h2,by omega,h4,h5,h6⟩
theorem Gt {s:Nat→Int} (h:gq s=true):1≤s 10∧s 10≤1000000:=by
 simp only [gq,inS,Bool.and_eq_true,decide_eq_true_eq] at h
 omega
theorem Dw {s:Nat→Int} {ps:List am} {a b:Int} (hps:bz ps=true) (hs:s 10≤1000000) (hb:b≤1000000):∀ (l pre:List Opt),dM s ps a b pre l=true→ef (gA pre) (gA l)=true
 | [],_,_=>rfl
 | x::r,pre,h=>by
  have hx:=mg (x::r) pre h x (.head _)
  have hf:=Gc hps hs hx.1 hx.2.2
  simp only [dM,Bool.and_eq_true] at h
  have ih:=Dw hps hs hb r _ h.2
  have hid:=h.1
  simp only [jr,Bool.and_eq_true,Bool.not_eq_true'] at hid
  have hid:=hid.2
  rw [show gA (x::r)=⟨x.id,x.size,x.a,fE x⟩::gA r from rfl,ef,show gA pre++[⟨x.id,x.size,x.a,fE x⟩]=gA (pre++[x]) by simp [gA],ih,Bool.and_true]
  have hse:ij (gA pre) x.id=false:=by
   rw [← hid]; unfold ij gA; rw [List.any_map]; rfl
  obtain ⟨q1,q2,q3,q4,q5,q6,q7,q8⟩:=hf
  simp only [js,hse,inM,spM,Bool.and_eq_true,decide_eq_true_eq,Bool.not_false,true_and]
  exact ⟨q1,⟨q2.1,by omega⟩,q3.1,by omega,by omega⟩
theorem pY.of {s:Nat→Int} {l:List Opt} {ps:List am} {a b:Int} (h:aY s l ps a b=true):pY s l a b∧dW l∧∀ o∈l,GR s o b:=by
 obtain ⟨h1,h2,h3,h4,h5,h6⟩:=zV h
 have h10:=Gt h4
 have hm:∀ o∈l,GR s o b:=fun o ho=>by
  have:=mg l [] h6 o ho
  exact Gc h5 h10.2 this.1 this.2.2
 have hg:dW l:=⟨h1,fun o ho=>by
  obtain ⟨q1,q2,q3,q4,q5,q6,q7,q8⟩:=hm o ho
  omega,fun o ho x hx=>by
  obtain ⟨q1,q2,q3,q4,q5,q6,q7,q8⟩:=hm o ho
  have:=q6 x hx
  omega⟩
 have hlen:=m6 hg
 have hrl:=hg.len
 refine ⟨⟨by omega,fun o ho=>by have:=(hm o ho).len; omega,?_,?_,?_,fun o ho=>(hm o ho).can,?_,?_,by omega,?_⟩,hg,hm⟩
 ·have:=wI l; omega
 ·rw [GU,h4,Bool.and_true,Hf,Bool.and_eq_true]
  refine ⟨List.all_eq_true.2 fun x hx=>?_,by simp [DZ]; omega⟩
  obtain ⟨o,ho,rfl⟩:=List.mem_map.1 hx
  obtain ⟨q1,q2,q3,q4,q5,q6,q7,q8⟩:=hm o ho
  simp only [Hg,Bool.and_eq_true,decide_eq_true_eq]
  rw [ai (by omega) (by omega)]
  exact ⟨⟨⟨⟨q3.1,q3.2.1⟩,q3.2.2.1⟩,q3.2.2.2⟩,q4⟩
 ·simp only [F5,Bool.and_eq_true,decide_eq_true_eq]
  rw [ai (by omega) (by omega)]
  omega
 ·rw [dB,show ef [] (gA l)=true from Dw h5 h10.2 h2.2.2 l [] h6,Bool.true_and]
  simp [gA]; omega
 ·simp only [inM,Bool.and_eq_true,decide_eq_true_eq]; omega
 ·rw [fN,h4,hg.proper,Bool.and_true,Bool.and_true,Bool.and_eq_true]
  refine ⟨dK.2 h2,?_⟩
  rw [ai (by omega) (by omega)]
  exact decide_eq_true (by omega)
end Go.Proofs
namespace Go.Proofs
open Go Go.AI
set_option maxRecDepth 10000
theorem tq (n a b:Int):ae Tryz.prog 99 [.int .i64 n,.int .i64 a,.int .i64 b] (.bool (inS n a b)):=by
 refine ag aa Tryz.func99 rfl (by kernel_rfl) af (Nat.le_of_ble_eq_true rfl) ?_
 intro F n' w0 m0 hG hro h1
 repeat' first|refine Q1 ?_|refine Q2 ?_|refine Q3 hG aa qD ?_|refine Q4 hG aa qD ?_|refine Q5 hG aa ?_|refine Q6 hG aa ?_|refine Q7 hG aa ?_|refine Q8 hG aa ?_|refine Q9 rfl ?_|refine QF rfl ?_|refine QC rfl ⟨fun h=>?_,fun h=>?_⟩|((conv=>whnf); first|refine anF ?_|refine anT ?_|refine anK ?_|refine And.intro (fun h=>?_) (fun h=>?_)|refine Or.inl ?_)
 all_goals refine Ends.mk (Or.inl rfl) (ac (congrArg AV.bool ?_))
 all_goals (clear hG; grind [inS])
theorem C1 (a b:Int):bt a b=(decide (0≤a)&&decide (a<b)&&decide (b≤1000000)):=by
 rw [Bool.eq_iff_iff,dK]; simp [and_assoc]
theorem kV (a b:Int):ae Tryz.prog 91 [.agg (aD a b)] (.bool (bt a b)):=by
 rw [C1]
 refine ag aa Tryz.func91 rfl (by kernel_rfl) af (Nat.le_of_ble_eq_true rfl) ?_
 intro F n' w0 m0 hG hro h1
 repeat' first|refine Q1 ?_|refine Q2 ?_|refine Q3 hG aa qI ?_|refine Q4 hG aa qI ?_|refine Q5 hG aa ?_|refine Q6 hG aa ?_|refine Q7 hG aa ?_|refine Q8 hG aa ?_|refine Q9 rfl ?_|refine QF rfl ?_|refine QC rfl ⟨fun h=>?_,fun h=>?_⟩|((conv=>whnf); first|refine anF ?_|refine anT ?_|refine anK ?_|refine Exists.intro _ (And.intro (tq _ _ _) ?_)|refine And.intro (fun h=>?_) (fun h=>?_)|refine Or.inl ?_)
 all_goals refine Ends.mk (Or.inl rfl) (ac (congrArg AV.bool ?_))
 all_goals (clear hG; grind [inS])
theorem x6 (o:Nat→Int) (a b k:Int):ae Tryz.prog 100 [.agg (jb o),.agg (aD a b),.int .i64 k] (.bool (px o a b k)):=by
 refine ag aa Tryz.func100 rfl (by kernel_rfl) af (Nat.le_of_ble_eq_true rfl) ?_
 intro F n' w0 m0 hG hro h1
 repeat' first|refine Q1 ?_|refine Q2 ?_|refine Q3 hG aa pm ?_|refine Q4 hG aa pm ?_|refine Q5 hG aa ?_|refine Q6 hG aa ?_|refine Q7 hG aa ?_|refine Q8 hG aa ?_|refine Q9 rfl ?_|refine QF rfl ?_|refine QC rfl ⟨fun h=>?_,fun h=>?_⟩|((conv=>whnf); first|refine anF ?_|refine anT ?_|refine anK ?_|refine Exists.intro _ (And.intro (tC o) ?_)|refine And.intro (fun h=>?_) (fun h=>?_)|refine Or.inl ?_)
 all_goals refine Ends.mk (Or.inl rfl) (ac (congrArg AV.bool ?_))
 all_goals (clear hG; grind [px,xf,jX,inS,w64])
theorem tj (a b:Int):ae Tryz.prog 222 [.agg [.int .i64 a,.int .i64 b]] (.bool (spM a b)):=by
 refine ag aa Tryz.func222 rfl (by kernel_rfl) af (Nat.le_of_ble_eq_true rfl) ?_
 intro F n' w0 m0 hG hro h1
 repeat' first|refine Q1 ?_|refine Q2 ?_|refine Q3 hG aa ol ?_|refine Q4 hG aa ol ?_|refine Q5 hG aa ?_|refine Q6 hG aa ?_|refine Q7 hG aa ?_|refine Q8 hG aa ?_|refine Q9 rfl ?_|refine QF rfl ?_|refine QC rfl ⟨fun h=>?_,fun h=>?_⟩|((conv=>whnf); first|refine anF ?_|refine anT ?_|refine anK ?_|refine And.intro (fun h=>?_) (fun h=>?_)|refine Or.inl ?_)
 all_goals refine Ends.mk (Or.inl rfl) (ac (congrArg AV.bool ?_))
 all_goals (clear hG; grind [spM])
set_option maxHeartbeats 4000000 in
theorem B1 (o:Opt) (hl:o.sl.length≤1000000):ae Tryz.prog 200 [.agg (aH o)] (.bool (jw o)):=by
 have hlm:((o.sl.map ay).length:Int)=(o.sl.length:Int):=by rw [List.length_map]
 refine ag aa Tryz.func200 rfl (by kernel_rfl) af (Nat.le_of_ble_eq_true rfl) ?_
 intro F n' w0 m0 hG hro h1
 repeat' first|refine Q1 ?_|refine Q2 ?_|refine Q3 hG aa eN ?_|refine Q4 hG aa eN ?_|refine Q5 hG aa ?_|refine Q6 hG aa ?_|refine Q7 hG aa ?_|refine Q8 hG aa ?_|refine Q9 rfl ?_|refine QF rfl ?_|refine QC rfl ⟨fun h=>?_,fun h=>?_⟩|((conv=>whnf); first|refine anF ?_|refine anT ?_|refine anK ?_|refine Exists.intro _ (And.intro (tj _ _) ?_)|refine And.intro (fun h=>?_) (fun h=>?_)|refine Or.inl ?_)
 all_goals first
  |(refine Ends.mk (Or.inl rfl) (ac (congrArg AV.bool ?_))
    clear hG; rw [hlm] at *; grind [jw,inS,jX,spM])
  | skip
 have hcan:jw o=fa o.b o.sl∧0≤o.b:=by clear hG; rw [hlm] at *; grind [jw,inS,jX,spM]
 obtain ⟨hcan,hb0⟩:=hcan
 rw [hcan]
 refine ap (X:=Nat×Int) (fun x=>⟨[(4,.int .i64 x.1),(3,.int .i64 x.2),(1,.loc 1 0)],[(1,aH o)]⟩) (fun x=>x.1≤o.sl.length∧0≤x.2∧fa x.2 (o.sl.drop x.1)=fa o.b o.sl) (fun x=>o.sl.length - x.1) (0,o.b) ⟨Nat.zero_le _,hb0,rfl⟩ (ah ?_ ?_) (fun x hx=>?_)
 ·repeat' (first | exact trivial | refine And.intro rfl ?_)
 ·repeat' (first | exact trivial | refine And.intro rfl ?_)
 ·obtain ⟨i,t⟩:=x
  obtain ⟨hi,ht,hf⟩:=hx
  simp only at hi ht hf ⊢
  by_cases hlt_i:i<o.sl.length
  ·have bbk:decide ((i:Int)<((o.sl.map ay).length:Int))=false→False:=fun h=>by have:=of_decide_eq_false h; simp at this; omega
   have hx:=dc hlt_i
   rw [qt hlt_i] at hf
   generalize o.sl.getD i ⟨0,0,0⟩=x at hx hf
   repeat' first|exact (bbk (by assumption)).elim|refine Q1 ?_|refine Q2 ?_|refine Q3 hG aa eN ?_|refine Q4 hG aa eN ?_|refine Q5 hG aa ?_|refine Q6 hG aa ?_|refine Q7 hG aa ?_|refine Q8 hG aa ?_|refine Q9 rfl ?_|refine QF rfl ?_|refine QC rfl ⟨fun h=>?_,fun h=>?_⟩|((conv=>whnf); first|refine anF ?_|refine anT ?_|refine anK ?_|refine And.intro (Int.natCast_nonneg i) (Exists.intro _ (And.intro hx ?_))|refine And.intro (fun h=>?_) (fun h=>?_)|refine Or.inl ?_)
   all_goals first
    |(refine Ends.mk (Or.inl rfl) (ac (congrArg AV.bool ?_))
      clear hG; rw [← hf]; grind [jX])
    | skip
   refine Exists.intro (i+1,x.b) (And.intro ⟨hlt_i,by grind,by clear hG; rw [← hf]; grind [jX]⟩ (And.intro (by show o.sl.length - (i+1)<o.sl.length - i; omega) (ah ?_ ?_)))
   ·refine And.intro (congrArg some (ao (by omega))) ?_
    repeat' (first | exact trivial | refine And.intro rfl ?_)
   ·repeat' (first | exact trivial | refine And.intro rfl ?_)
  ·have bbk:decide ((i:Int)<((o.sl.map ay).length:Int))=true→False:=fun h=>by have:=of_decide_eq_true h; simp at this; omega
   rw [List.drop_of_length_le (by omega)] at hf
   repeat' first|exact (bbk (by assumption)).elim|refine Q1 ?_|refine Q2 ?_|refine Q3 hG aa eN ?_|refine Q4 hG aa eN ?_|refine Q5 hG aa ?_|refine Q6 hG aa ?_|refine Q7 hG aa ?_|refine Q8 hG aa ?_|refine Q9 rfl ?_|refine QF rfl ?_|refine QC rfl ⟨fun h=>?_,fun h=>?_⟩|((conv=>whnf); first|refine anF ?_|refine anT ?_|refine anK ?_|refine And.intro (fun h=>?_) (fun h=>?_)|refine Or.inl ?_)
   exact Ends.mk (Or.inl rfl) (ac (congrArg AV.bool hf))
theorem yc (o:Opt) (k:Nat) (hl:o.sl.length≤1000000) (hc:jw o=true) (hk:k<o.sl.length):ae Tryz.prog 125 [.agg (aH o),.int .i64 k] (.tup [.agg (e9 ⟨o.id,o.size,o.a,(o.sl.getD k ⟨0,0,0⟩).b⟩),.int .i64 0]):=by
 have cc:=B1 o hl
 rw [hc] at cc
 have hx:=dc hk
 have hlm:((o.sl.map ay).length:Int)=(o.sl.length:Int):=by rw [List.length_map]
 have b1:decide ((k:Int)<0)=true→False:=fun h=>by have:=of_decide_eq_true h; omega
 have b2:decide ((k:Int)≥((o.sl.map ay).length:Int))=true→False:=fun h=>by have:=of_decide_eq_true h; omega
 refine ag aa Tryz.func125 rfl (by kernel_rfl) af (Nat.le_of_ble_eq_true rfl) ?_
 intro F n' w0 m0 hG hro h1
 repeat' first|exact (b1 (by assumption)).elim|exact (b2 (by assumption)).elim|refine Q1 ?_|refine Q2 ?_|refine Q3 hG aa o4 ?_|refine Q4 hG aa o4 ?_|refine Q5 hG aa ?_|refine Q6 hG aa ?_|refine Q7 hG aa ?_|refine Q8 hG aa ?_|refine Q9 rfl ?_|refine QF rfl ?_|refine QC rfl ⟨fun h=>?_,fun h=>?_⟩|((conv=>whnf); first|refine anF ?_|refine anT ?_|refine anK ?_|refine Exists.intro _ (And.intro (cc) ?_)|refine And.intro (Int.natCast_nonneg k) (Exists.intro _ (And.intro hx ?_))|refine And.intro (fun h=>?_) (fun h=>?_)|refine Or.inl ?_)
 all_goals exact Ends.mk (Or.inl rfl) (ac rfl)
theorem d4 (c n:Int) (hn:n≠0):ae Tryz.prog 143 [.int .i64 c,.int .i64 n] (.int .i64 (ar c n)):=by
 refine ag aa Tryz.func143 rfl (by kernel_rfl) af (Nat.le_of_ble_eq_true rfl) ?_
 intro F n' w0 m0 hG hro h1
 repeat' first|refine Q1 ?_|refine Q2 ?_|refine Q3 hG aa oW ?_|refine Q4 hG aa oW ?_|refine Q5 hG aa ?_|refine Q6 hG aa ?_|refine Q7 hG aa ?_|refine Q8 hG aa ?_|refine Q9 rfl ?_|refine QF rfl ?_|refine QC rfl ⟨fun h=>?_,fun h=>?_⟩|((conv=>whnf); first|refine anF ?_|refine anT ?_|refine anK ?_|refine And.intro hn ?_|refine And.intro (fun h=>?_) (fun h=>?_)|refine Or.inl ?_)
 all_goals refine Ends.mk (Or.inl rfl) (ac (congrArg (AV.int .i64) ?_))
 all_goals (simp_all [ar,w64] <;> omega)
end Go.Proofs
namespace Go.Proofs
open Go Go.AI
set_option maxRecDepth 10000
theorem nv {a b:Int}:fb a b<0↔a<b:=by unfold fb; split <;> (try split) <;> omega
theorem vG {a b:Int}:fb a b=0↔a=b:=by unfold fb; split <;> (try split) <;> omega
theorem AE (p q:am):decide (rj p q<0)=if p.ca≠q.ca then decide (p.ca<q.ca) else if p.sat≠q.sat then decide (p.sat<q.sat) else if p.st≠q.st then decide (p.st<q.st) else if p.sa≠q.sa then decide (p.sa<q.sa) else decide (p.cb<q.cb):=by
 have e1:=nv (a:=p.ca) (b:=q.ca); have z1:=vG (a:=p.ca) (b:=q.ca)
 have e2:=nv (a:=p.sat) (b:=q.sat); have z2:=vG (a:=p.sat) (b:=q.sat)
 have e3:=nv (a:=p.st) (b:=q.st); have z3:=vG (a:=p.st) (b:=q.st)
 have e4:=nv (a:=p.sa) (b:=q.sa); have z4:=vG (a:=p.sa) (b:=q.sa)
 have e5:=nv (a:=p.cb) (b:=q.cb)
 unfold rj
 generalize fb p.ca q.ca=c1 at *
 generalize fb p.sat q.sat=c2 at *
 generalize fb p.st q.st=c3 at *
 generalize fb p.sa q.sa=c4 at *
 generalize fb p.cb q.cb=c5 at *
 simp only [orS]
 grind
theorem vW (p q:am):ae Tryz.prog 165 [.agg (aL p),.agg (aL q)] (.bool (decide (rj p q<0))):=by
 rw [AE]
 refine ag aa Tryz.func165 rfl (by kernel_rfl) af (Nat.le_of_ble_eq_true rfl) ?_
 intro F n' w0 m0 hG hro h1
 repeat' first|refine Q1 ?_|refine Q2 ?_|refine Q3 hG aa oM ?_|refine Q4 hG aa oM ?_|refine Q5 hG aa ?_|refine Q6 hG aa ?_|refine Q7 hG aa ?_|refine Q8 hG aa ?_|refine Q9 rfl ?_|refine QF rfl ?_|refine QC rfl ⟨fun h=>?_,fun h=>?_⟩|((conv=>whnf); first|refine anF ?_|refine anT ?_|refine anK ?_|refine And.intro (fun h=>?_) (fun h=>?_)|refine Or.inl ?_)
 all_goals refine Ends.mk (Or.inl rfl) (ac (congrArg AV.bool ?_))
 all_goals (clear hG; grind [])
theorem mZ {l:List am} {i:Nat} (h:i<l.length):(l.map aL)[(i:Int).toNat]?=some (aL (aB l i)):=by rw [Int.toNat_natCast]; exact dD h
theorem eu {l:List am} {i:Nat} (h:i<l.length):aB l i=l[i]:=by simp [aB,List.getElem?_eq_getElem h]
theorem jq (l:List am):bz l=true↔l.length≤64∧(∀ j,j<l.length→co (aB l j)=true)∧∀ j,j+1<l.length→decide (rj (aB l (j+1)) (aB l j)<0)=false:=by
 simp only [bz,CK,Bool.and_eq_true,Bool.not_eq_true',List.any_eq_false,List.all_eq_true,List.mem_range,decide_eq_true_eq,Bool.not_eq_true',Bool.not_eq_false',Bool.not_eq_true,Bool.not_eq_false,and_assoc]
 refine and_congr Iff.rfl (and_congr ⟨fun h j hj=>?_,fun h x hx=>?_⟩ ⟨fun h j hj=>h j (by omega),fun h j hj=>h j (by omega)⟩)
 ·rw [eu hj]; exact h _ (List.getElem_mem hj)
 ·obtain ⟨j,hj,rfl⟩:=List.getElem_of_mem hx
  rw [← eu hj]; exact h j hj
set_option maxHeartbeats 8000000 in
theorem gP (l:List am) (hl:l.length≤1000000):ae Tryz.prog 90 [al l] (.bool (bz l)):=by
 have hlm:((l.map aL).length:Int)=(l.length:Int):=by rw [List.length_map]
 refine ag aa Tryz.func90 rfl (by kernel_rfl) af (Nat.le_of_ble_eq_true rfl) ?_
 intro F n' w0 m0 hG hro h1
 repeat' first|refine Q1 ?_|refine Q2 ?_|refine Q3 hG aa fI ?_|refine Q4 hG aa fI ?_|refine Q5 hG aa ?_|refine Q6 hG aa ?_|refine Q7 hG aa ?_|refine Q8 hG aa ?_|refine Q9 rfl ?_|refine QF rfl ?_|refine QC rfl ⟨fun h=>?_,fun h=>?_⟩|((conv=>whnf); first|refine anF ?_|refine anT ?_|refine anK ?_|refine And.intro (fun h=>?_) (fun h=>?_)|refine Or.inl ?_)
 all_goals first
  |(refine Ends.mk (Or.inl rfl) (ac (congrArg AV.bool ?_))
    clear hG; rw [hlm] at *; rw [Bool.eq_iff_iff,jq]; grind)
  | skip
 have h64:l.length≤64:=by clear hG; rw [hlm] at *; grind
 refine ap (X:=Nat) (fun x=>⟨[(3,.int .i64 x),(0,al l)],[]⟩) (fun x=>x≤l.length∧(∀ j,j<x→co (aB l j)=true)∧∀ j,j+1<x→decide (rj (aB l (j+1)) (aB l j)<0)=false) (fun x=>l.length - x) 0 ⟨Nat.zero_le _,fun j h=>absurd h (by omega),fun j h=>absurd h (by omega)⟩ (ah ?_ ?_) (fun x hx=>?_)
 ·repeat' (first | exact trivial | refine And.intro rfl ?_)
 ·repeat' (first | exact trivial | refine And.intro rfl ?_)
 ·rename Nat=>i
  obtain ⟨hi,h1,h2⟩:=hx
  by_cases hlt_i:i<l.length
  ·have bbk:decide ((i:Int)<((l.map aL).length:Int))=false→False:=fun h=>by have:=of_decide_eq_false h; simp at this; omega
   have hx:=mZ hlt_i
   have hpr:decide ((i:Int)>0)=true→0≤IntKind.i64.wrap ((i:Int) - 1)∧(l.map aL)[(IntKind.i64.wrap ((i:Int) - 1)).toNat]?=some (aL (aB l (i - 1))):=fun h=>by
    have h:=of_decide_eq_true h
    have e:IntKind.i64.wrap ((i:Int) - 1)=((i - 1:Nat):Int):=(ai (by omega) (by omega)).trans (by omega)
    rw [e]
    exact ⟨Int.natCast_nonneg _,mZ (by omega)⟩
   have bad1:co (aB l i)=false→false=bz l:=fun h=>by rw [Bool.eq_iff_iff,jq]; simp only [Bool.false_eq_true,false_iff]; exact fun ⟨_,g,_⟩=>tf (g i hlt_i) h
   have bad2:decide ((i:Int)>0)=true→decide (rj (aB l i) (aB l (i - 1))<0)=true→false=bz l:=fun g0 h=>by
    rw [Bool.eq_iff_iff,jq]; simp only [Bool.false_eq_true,false_iff]
    have g0:=of_decide_eq_true g0
    exact fun ⟨_,_,g⟩=>tf h (by have:=g (i - 1) (by omega); rwa [show i - 1+1=i by omega] at this)
   have hok:co (aB l i)=true→(decide ((i:Int)>0)=true→decide (rj (aB l i) (aB l (i - 1))<0)=false)→i+1≤l.length∧(∀ j,j<i+1→co (aB l j)=true)∧∀ j,j+1<i+1→decide (rj (aB l (j+1)) (aB l j)<0)=false:=fun g1 g2=>by
    refine ⟨hlt_i,fun j hj=>?_,fun j hj=>?_⟩
    ·rcases Nat.lt_or_ge j i with h | h
     ·exact h1 j h
     ·rw [show j=i by omega]; exact g1
    ·rcases Nat.lt_or_ge (j+1) i with h | h
     ·exact h2 j h
     ·have e:i - 1=j:=by omega
      have:=g2 (decide_eq_true (by omega))
      rw [e] at this
      rwa [show j+1=i by omega]
   generalize aB l i=p at hx bad1 bad2 hok
   generalize aB l (i - 1)=q at hpr bad2 hok
   repeat' first|exact (bbk (by assumption)).elim|refine Q1 ?_|refine Q2 ?_|refine Q3 hG aa fI ?_|refine Q4 hG aa fI ?_|refine Q5 hG aa ?_|refine Q6 hG aa ?_|refine Q7 hG aa ?_|refine Q8 hG aa ?_|refine Q9 rfl ?_|refine QF rfl ?_|refine QC rfl ⟨fun h=>?_,fun h=>?_⟩|((conv=>whnf); first|refine anF ?_|refine anT ?_|refine anK ?_|refine And.intro (Int.natCast_nonneg i) (Exists.intro _ (And.intro hx ?_))|refine Exists.intro _ (And.intro (uT _ _ _) ?_)|refine Exists.intro _ (And.intro (vW _ _) ?_)|refine And.intro (hpr (by assumption)).1 (Exists.intro _ (And.intro (hpr (by assumption)).2 ?_))|refine And.intro (fun h=>?_) (fun h=>?_)|refine Or.inl ?_)
   all_goals first
    |(refine Ends.mk (Or.inl rfl) (ac (congrArg AV.bool ?_))
      clear hG hpr hx h1 h2 hok; first | exact bad2 (by assumption) (by assumption) | (refine bad1 ?_; clear bad1 bad2; grind [co,inS]))
    | skip
   all_goals (refine Exists.intro (i+1) (And.intro (hok ?_ ?_) (And.intro (by omega) (ah ?_ ?_))))
   all_goals first
    |(clear hG hpr hx h1 h2 hok bad1 bad2; grind [co,inS])
    |(refine And.intro (congrArg some (ao (by omega))) ?_; repeat' (first | exact trivial | refine And.intro rfl ?_))
    |(repeat' (first | exact trivial | refine And.intro rfl ?_))
  ·have bbk:decide ((i:Int)<((l.map aL).length:Int))=true→False:=fun h=>by have:=of_decide_eq_true h; simp at this; omega
   have he:i=l.length:=by omega
   repeat' first|exact (bbk (by assumption)).elim|refine Q1 ?_|refine Q2 ?_|refine Q3 hG aa fI ?_|refine Q4 hG aa fI ?_|refine Q5 hG aa ?_|refine Q6 hG aa ?_|refine Q7 hG aa ?_|refine Q8 hG aa ?_|refine Q9 rfl ?_|refine QF rfl ?_|refine QC rfl ⟨fun h=>?_,fun h=>?_⟩|((conv=>whnf); first|refine anF ?_|refine anT ?_|refine anK ?_|refine And.intro (fun h=>?_) (fun h=>?_)|refine Or.inl ?_)
   exact Ends.mk (Or.inl rfl) (ac (congrArg AV.bool (by symm; rw [jq,← he]; exact ⟨by omega,h1,h2⟩)))
theorem xc {a b c:Int}:decide (c≥max a b)=(decide (a≤c)&&decide (b≤c)):=by rw [Bool.eq_iff_iff]; simp; omega
set_option maxHeartbeats 16000000 in
theorem nI (s:Nat→Int) (o:Opt) (ps:List am) (hl:o.sl.length≤1000000) (hps:ps.length≤1000000):ae Tryz.prog 31 [.agg (aU s),.agg (aH o),al ps] (.bool (gq s&&bz ps&&dG s o ps)):=by
 have hlm:((o.sl.map ay).length:Int)=(o.sl.length:Int):=by rw [List.length_map]
 have hpm:((ps.map aL).length:Int)=(ps.length:Int):=by rw [List.length_map]
 refine ag aa Tryz.func31 rfl (by kernel_rfl) af (Nat.le_of_ble_eq_true rfl) ?_
 intro F n' w0 m0 hG hro h1
 repeat' first|refine Q1 ?_|refine Q2 ?_|refine Q3 hG aa fL ?_|refine Q4 hG aa fL ?_|refine Q5 hG aa ?_|refine Q6 hG aa ?_|refine Q7 hG aa ?_|refine Q8 hG aa ?_|refine Q9 rfl ?_|refine QF rfl ?_|refine QC rfl ⟨fun h=>?_,fun h=>?_⟩|((conv=>whnf); first|refine anF ?_|refine anT ?_|refine anK ?_|refine Exists.intro _ (And.intro (s7 s) ?_)|refine Exists.intro _ (And.intro (gP ps hps) ?_)|refine Exists.intro _ (And.intro (tq _ _ _) ?_)|refine Exists.intro _ (And.intro (x6 (ew s) _ _ _) ?_)|refine And.intro (fun h=>?_) (fun h=>?_)|refine Or.inl ?_)
 all_goals first
  |(refine Ends.mk (Or.inl rfl) (ac (congrArg AV.bool ?_))
    clear hG; rw [hlm] at *; rw [Bool.eq_iff_iff]; simp only [dG,ng,qd,w64]; grind)
  | skip
 have hfit:(gq s&&bz ps&&dG s o ps)=bE s ps o.size o.b o.sl:=by clear hG; rw [hlm] at *; simp only [dG,ng,qd,w64]; grind
 rw [hfit]
 refine ap (X:=Nat×Int) (fun x=>⟨[(8,.int .i64 x.1),(7,.int .i64 x.2),(4,.loc 4 0),(3,.loc 3 0),(2,al ps)],[(4,aH o),(3,aU s)]⟩) (fun x=>x.1≤o.sl.length∧bE s ps o.size x.2 (o.sl.drop x.1)=bE s ps o.size o.b o.sl) (fun x=>o.sl.length - x.1) (0,o.b) ⟨Nat.zero_le _,rfl⟩ (ah ?_ ?_) (fun x hx=>?_)
 ·repeat' (first | exact trivial | refine And.intro rfl ?_)
 ·repeat' (first | exact trivial | refine And.intro rfl ?_)
 ·obtain ⟨i,t⟩:=x
  obtain ⟨hi,hf⟩:=hx
  simp only at hi hf ⊢
  by_cases hlt_i:i<o.sl.length
  ·have bbk:decide ((i:Int)<((o.sl.map ay).length:Int))=false→False:=fun h=>by have:=of_decide_eq_false h; simp at this; omega
   have hx:=dc hlt_i
   rw [mP hlt_i] at hf
   generalize o.sl.getD i ⟨0,0,0⟩=x at hx hf
   have hin:(!inS x.p 0 (IntKind.i64.wrap (((ps.map aL).length:Int) - 1)))=false→0≤x.p∧(ps.map aL)[x.p.toNat]?=some (aL (aB ps x.p.toNat)):=fun h=>by
    have h:=mm h
    rw [hpm,show IntKind.i64.wrap ((ps.length:Int) - 1)=(ps.length:Int) - 1 from ai (by omega) (by omega)] at h
    simp only [inS,Bool.and_eq_true,decide_eq_true_eq] at h
    exact ⟨h.1,dD (by omega)⟩
   have hpm':w64 ((ps.length:Int) - 1)=IntKind.i64.wrap (((ps.map aL).length:Int) - 1):=by rw [hpm]; rfl
   repeat' first|exact (bbk (by assumption)).elim|refine Q1 ?_|refine Q2 ?_|refine Q3 hG aa fL ?_|refine Q4 hG aa fL ?_|refine Q5 hG aa ?_|refine Q6 hG aa ?_|refine Q7 hG aa ?_|refine Q8 hG aa ?_|refine Q9 rfl ?_|refine QF rfl ?_|refine QC rfl ⟨fun h=>?_,fun h=>?_⟩|((conv=>whnf); first|refine anF ?_|refine anT ?_|refine anK ?_|refine And.intro (Int.natCast_nonneg i) (Exists.intro _ (And.intro hx ?_))|refine Exists.intro _ (And.intro (tq _ _ _) ?_)|refine And.intro (hin (by assumption)).1 (Exists.intro _ (And.intro (hin (by assumption)).2 ?_))|refine And.intro (fun h=>?_) (fun h=>?_)|refine Or.inl ?_)
   all_goals first
    |(refine Ends.mk (Or.inl rfl) (ac (congrArg AV.bool ?_))
      clear hG hx hin; rw [← hf,gc,hpm',xc]; clear hpm' hf hfit; unfold w64; grind)
    | skip
   refine Exists.intro (i+1,x.b) (And.intro ⟨hlt_i,?_⟩ (And.intro (by show o.sl.length - (i+1)<o.sl.length - i; omega) (ah ?_ ?_)))
   ·clear hG hx hin
    rw [← hf]
    have hk:gc s ps o.size t x=true:=by rw [gc,hpm',xc]; clear hpm' hf hfit; unfold w64; grind
    rw [hk,Bool.true_and]
   ·refine And.intro (congrArg some (ao (by omega))) ?_
    repeat' (first | exact trivial | refine And.intro rfl ?_)
   ·repeat' (first | exact trivial | refine And.intro rfl ?_)
  ·have bbk:decide ((i:Int)<((o.sl.map ay).length:Int))=true→False:=fun h=>by have:=of_decide_eq_true h; simp at this; omega
   rw [List.drop_of_length_le (by omega)] at hf
   repeat' first|exact (bbk (by assumption)).elim|refine Q1 ?_|refine Q2 ?_|refine Q3 hG aa fL ?_|refine Q4 hG aa fL ?_|refine Q5 hG aa ?_|refine Q6 hG aa ?_|refine Q7 hG aa ?_|refine Q8 hG aa ?_|refine Q9 rfl ?_|refine QF rfl ?_|refine QC rfl ⟨fun h=>?_,fun h=>?_⟩|((conv=>whnf); first|refine anF ?_|refine anT ?_|refine anK ?_|refine And.intro (fun h=>?_) (fun h=>?_)|refine Or.inl ?_)
   exact Ends.mk (Or.inl rfl) (ac (congrArg AV.bool hf))
end Go.Proofs
namespace Go.Proofs
open Go Go.AI
set_option maxRecDepth 10000
theorem jy {l:List Opt} {i:Nat} {p:Opt→Bool} (hi:i≤l.length):(l.take i).any p=true↔∃ j,j<i∧p (aG l j)=true:=by
 rw [List.any_eq_true]
 constructor
 ·rintro ⟨x,hx,h⟩
  obtain ⟨j,hj,rfl⟩:=List.getElem_of_mem hx
  rw [List.length_take] at hj
  refine ⟨j,by omega,?_⟩
  rw [cK (by omega)]
  rwa [List.getElem_take] at h
 ·rintro ⟨j,hj,h⟩
  rw [cK (by omega)] at h
  exact ⟨_,List.mem_take_iff_getElem.2 ⟨j,by omega,rfl⟩,h⟩
set_option maxHeartbeats 16000000 in
theorem x5 (s:Nat→Int) (l:List Opt) (ps:List am) (a b:Int) (hl:l.length≤1000000) (hs:dQ l) (hps:ps.length≤1000000):ae Tryz.prog 24 [.agg (aU s),aK l,al ps,.agg (aD a b)] (.bool (aY s l ps a b)):=by
 have hlm:((l.map aH).length:Int)=(l.length:Int):=by rw [List.length_map]
 refine ag aa Tryz.func24 rfl (by kernel_rfl) af (Nat.le_of_ble_eq_true rfl) ?_
 intro F n' w0 m0 hG hro h1
 repeat' first|refine Q1 ?_|refine Q2 ?_|refine Q3 hG aa cw ?_|refine Q4 hG aa cw ?_|refine Q5 hG aa ?_|refine Q6 hG aa ?_|refine Q7 hG aa ?_|refine Q8 hG aa ?_|refine Q9 rfl ?_|refine QF rfl ?_|refine QC rfl ⟨fun h=>?_,fun h=>?_⟩|((conv=>whnf); first|refine anF ?_|refine anT ?_|refine anK ?_|refine Exists.intro _ (And.intro (s7 s) ?_)|refine Exists.intro _ (And.intro (gP ps hps) ?_)|refine Exists.intro _ (And.intro (kV _ _) ?_)|refine And.intro (fun h=>?_) (fun h=>?_)|refine Or.inl ?_)
 all_goals first
  |(refine Ends.mk (Or.inl rfl) (ac (congrArg AV.bool ?_))
    clear hG; rw [hlm] at *; simp only [aY,w64]; grind)
  | skip
 have hv:aY s l ps a b=dM s ps a b [] l∧gq s=true∧bz ps=true:=by clear hG; rw [hlm] at *; simp only [aY,w64]; grind
 obtain ⟨hv,hs1,hp1⟩:=hv
 rw [hv]
 refine ap (X:=Nat) (fun x=>⟨[(9,.int .i64 x),(7,.loc 7 0),(4,.loc 4 0),(1,aK l),(2,al ps)],[(7,aD a b),(4,aU s)]⟩) (fun x=>x≤l.length∧dM s ps a b (l.take x) (l.drop x)=dM s ps a b [] l) (fun x=>l.length - x) 0 ⟨Nat.zero_le _,rfl⟩ (ah ?_ ?_) (fun x hx=>?_)
 ·repeat' (first | exact trivial | refine And.intro rfl ?_)
 ·repeat' (first | exact trivial | refine And.intro rfl ?_)
 ·rename Nat=>i
  obtain ⟨hi,hok⟩:=hx
  by_cases hlt_i:i<l.length
  ·have bbk:decide ((i:Int)<((l.map aH).length:Int))=false→False:=fun h=>by have:=of_decide_eq_false h; simp at this; omega
   have hx:=gB hlt_i
   rw [qj hlt_i] at hok
   have hsx:(aG l i).sl.length≤1000000:=hs _ (by rw [cK hlt_i]; exact List.getElem_mem hlt_i)
   have jy:=@jy l i
   replace jy:=fun p=>@jy p hi
   obtain ⟨x0,hxe⟩:∃ x,x=aG l i:=⟨_,rfl⟩
   rw [← hxe] at hx hok hsx
   have cP:=nI s x0 ps hsx hps
   rw [hs1,hp1,Bool.true_and,Bool.true_and] at cP
   have hlast:(!dG s x0 ps)=false→0≤IntKind.i64.wrap (((x0.sl.map ay).length:Int) - 1)∧(x0.sl.map ay)[(IntKind.i64.wrap (((x0.sl.map ay).length:Int) - 1)).toNat]?=some [.int .i64 (er x0 (x0.sl.length - 1)).p,.int .i64 (er x0 (x0.sl.length - 1)).a,.int .i64 (fE x0)]:=fun h=>by
    have hn:=sM (mm h)
    rw [List.length_map,show IntKind.i64.wrap ((x0.sl.length:Int) - 1)=((x0.sl.length - 1:Nat):Int) from (ai (by omega) (by omega)).trans (by omega)]
    exact ⟨Int.natCast_nonneg _,dc (by omega)⟩
   repeat' first|exact (bbk (by assumption)).elim|refine Q1 ?_|refine Q2 ?_|refine Q3 hG aa cw ?_|refine Q4 hG aa cw ?_|refine Q5 hG aa ?_|refine Q6 hG aa ?_|refine Q7 hG aa ?_|refine Q8 hG aa ?_|refine Q9 rfl ?_|refine QF rfl ?_|refine QC rfl ⟨fun h=>?_,fun h=>?_⟩|((conv=>whnf); first|refine anF ?_|refine anT ?_|refine anK ?_|refine And.intro (Int.natCast_nonneg i) (Exists.intro _ (And.intro hx ?_))|refine Exists.intro _ (And.intro (cP) ?_)|refine And.intro (hlast (by assumption)).1 (Exists.intro _ (And.intro (hlast (by assumption)).2 ?_))|refine And.intro (fun h=>?_) (fun h=>?_)|refine Or.inl ?_)
   all_goals first
    |(refine Ends.mk (Or.inl rfl) (ac (congrArg AV.bool ?_))
      clear hG hx hlast; rw [← hok,jr]; grind)
    | skip
   refine ap (X:=Nat) (fun x=>⟨[(10,.int .i64 x),(9,.int .i64 i),(7,.loc 7 0),(4,.loc 4 0),(1,aK l),(2,al ps)],[(7,aD a b),(4,aU s)]⟩) (fun x=>x≤i∧∀ j,j<x→((aG l j).id==x0.id)=false) (fun x=>i - x) 0 ⟨Nat.zero_le _,fun j h=>absurd h (by omega)⟩ (ah ?_ ?_) (fun x hx=>?_)
   ·repeat' (first | exact trivial | refine And.intro rfl ?_)
   ·repeat' (first | exact trivial | refine And.intro rfl ?_)
   ·rename Nat=>k
    obtain ⟨hk,hn⟩:=hx
    by_cases hlt_k:k<i
    ·have bbj:decide ((k:Int)<(i:Int))=false→False:=fun h=>by have:=of_decide_eq_false h; simp at this; omega
     have hy:=gB (show k<l.length by omega)
     have bad:((aG l k).id==x0.id)=true→false=dM s ps a b [] l:=fun h=>by
      have:((l.take i).any fun p=>p.id==x0.id)=true:=(jy _).2 ⟨k,hlt_k,h⟩
      rw [← hok,jr,this]; simp
     obtain ⟨y,hye⟩:∃ y,y=aG l k:=⟨_,rfl⟩
     rw [← hye] at hy bad
     repeat' first|exact (bbj (by assumption)).elim|refine Q1 ?_|refine Q2 ?_|refine Q3 hG aa cw ?_|refine Q4 hG aa cw ?_|refine Q5 hG aa ?_|refine Q6 hG aa ?_|refine Q7 hG aa ?_|refine Q8 hG aa ?_|refine Q9 rfl ?_|refine QF rfl ?_|refine QC rfl ⟨fun h=>?_,fun h=>?_⟩|((conv=>whnf); first|refine anF ?_|refine anT ?_|refine anK ?_|refine And.intro (Int.natCast_nonneg k) (Exists.intro _ (And.intro hy ?_))|refine And.intro (Int.natCast_nonneg i) (Exists.intro _ (And.intro hx ?_))|refine And.intro (fun h=>?_) (fun h=>?_)|refine Or.inl ?_)
     all_goals first
      |(refine Ends.mk (Or.inl rfl) (ac (congrArg AV.bool ?_))
        exact bad (by assumption))
      | skip
     refine Exists.intro (k+1) (And.intro ⟨hlt_k,fun j hj=>?_⟩ (And.intro (by omega) (ah ?_ ?_)))
     ·rcases Nat.lt_or_ge j k with h | h
      ·exact hn j h
      ·rw [show j=k by omega,← hye]; assumption
     ·refine And.intro (congrArg some (ao (by omega))) ?_
      repeat' (first | exact trivial | refine And.intro rfl ?_)
     ·repeat' (first | exact trivial | refine And.intro rfl ?_)
    ·have bbj:decide ((k:Int)<(i:Int))=true→False:=fun h=>by have:=of_decide_eq_true h; simp at this; omega
     have hany:((l.take i).any fun p=>p.id==x0.id)=false:=by
      rw [← Bool.not_eq_true,jy]
      rintro ⟨j,hj,h⟩
      exact tf h (hn j (by omega))
     repeat' first|exact (bbj (by assumption)).elim|refine Q1 ?_|refine Q2 ?_|refine Q3 hG aa cw ?_|refine Q4 hG aa cw ?_|refine Q5 hG aa ?_|refine Q6 hG aa ?_|refine Q7 hG aa ?_|refine Q8 hG aa ?_|refine Q9 rfl ?_|refine QF rfl ?_|refine QC rfl ⟨fun h=>?_,fun h=>?_⟩|((conv=>whnf); first|refine anF ?_|refine anT ?_|refine anK ?_|refine And.intro (fun h=>?_) (fun h=>?_)|refine Or.inl ?_)
     refine Exists.intro (i+1) (And.intro ⟨hlt_i,?_⟩ (And.intro (by omega) (ah ?_ ?_)))
     ·rw [← hok]
      have hb:jr s ps a b (l.take i) x0=true:=by clear hG; rw [jr,hany]; grind
      rw [hb,Bool.true_and]
     ·refine And.intro (congrArg some (ao (by omega))) ?_
      repeat' (first | exact trivial | refine And.intro rfl ?_)
     ·repeat' (first | exact trivial | refine And.intro rfl ?_)
  ·have bbk:decide ((i:Int)<((l.map aH).length:Int))=true→False:=fun h=>by have:=of_decide_eq_true h; simp at this; omega
   rw [List.drop_of_length_le (by omega)] at hok
   repeat' first|exact (bbk (by assumption)).elim|refine Q1 ?_|refine Q2 ?_|refine Q3 hG aa cw ?_|refine Q4 hG aa cw ?_|refine Q5 hG aa ?_|refine Q6 hG aa ?_|refine Q7 hG aa ?_|refine Q8 hG aa ?_|refine Q9 rfl ?_|refine QF rfl ?_|refine QC rfl ⟨fun h=>?_,fun h=>?_⟩|((conv=>whnf); first|refine anF ?_|refine anT ?_|refine anK ?_|refine And.intro (fun h=>?_) (fun h=>?_)|refine Or.inl ?_)
   exact Ends.mk (Or.inl rfl) (ac (congrArg AV.bool hok))
theorem sQ (t:Int):∀ (l:List Img) (x:Img),bI t (l++[x])=bI t l+if x.a≤t∧t<x.b then x.u else 0
 | [],x=>by simp [bI]
 | y::r,x=>by simp only [List.cons_append,bI,sQ t r x]; omega
theorem xp {l:List Img} {i:Nat} (h:i<l.length):l.take (i+1)=l.take i++[l.getD i jd]:=by rw [List.take_add_one,List.getD_eq_getElem?_getD,List.getElem?_eq_getElem h]; rfl
theorem FG {l:List Img} {i:Nat} (h:i<l.length):l.getD i jd∈l:=by rw [List.getD_eq_getElem?_getD,List.getElem?_eq_getElem h]; exact List.getElem_mem h
set_option maxHeartbeats 4000000 in
theorem zB (l:List Img) (t:Int) (hl:l.length≤24) (hu:∀ x∈l,0≤x.u∧x.u≤1000000):ae Tryz.prog 152 [fe l,.int .i64 t] (.int .i64 (bI t l)):=by
  refine ag aa Tryz.func152 rfl (by kernel_rfl) af (Nat.le_of_ble_eq_true rfl) ?_
  intro F n' w0 m0 hG hro h1
  repeat' first|refine Q1 ?_|refine Q2 ?_|refine Q3 hG aa eS ?_|refine Q4 hG aa eS ?_|refine Q5 hG aa ?_|refine Q6 hG aa ?_|refine Q7 hG aa ?_|refine Q8 hG aa ?_|refine Q9 rfl ?_|refine QF rfl ?_|refine QC rfl ⟨fun h=>?_,fun h=>?_⟩|((conv=>whnf); first|refine anF ?_|refine anT ?_|refine anK ?_|refine And.intro (fun h=>?_) (fun h=>?_)|refine Or.inl ?_)
  refine ap (X:=Nat×Int) (fun x=>⟨[(6,.int .i64 x.1),(5,.int .i64 x.2),(1,.int .i64 t),(0,fe l)],[]⟩) (fun x=>x.1≤l.length∧x.2=bI t (l.take x.1)∧0≤x.2∧x.2≤(x.1:Int)*1000000) (fun x=>l.length - x.1) (0,0) ⟨Nat.zero_le _,rfl,Int.le_refl _,Int.le_refl _⟩ (ah ?_ ?_) (fun x hx=>?_)
  · repeat' (first | exact trivial | refine And.intro rfl ?_)
  · repeat' (first | exact trivial | refine And.intro rfl ?_)
  · obtain ⟨i,n⟩:=x
    obtain ⟨hi,hn,h0,h1⟩:=hx
    simp only at hi hn h0 h1 ⊢
    by_cases hlt_i:i<l.length
    · have bbk:decide ((i:Int)<((l.map e9).length:Int))=false→False:=fun h=>by have:=of_decide_eq_false h; simp at this; omega
      have hx:=sE hlt_i
      have hsn:=sQ t (l.take i) (l.getD i jd)
      rw [← xp hlt_i,← hn] at hsn
      have hux:=hu _ (FG hlt_i)
      generalize l.getD i jd=x at hx hsn hux
      repeat' first|exact (bbk (by assumption)).elim|refine Q1 ?_|refine Q2 ?_|refine Q3 hG aa eS ?_|refine Q4 hG aa eS ?_|refine Q5 hG aa ?_|refine Q6 hG aa ?_|refine Q7 hG aa ?_|refine Q8 hG aa ?_|refine Q9 rfl ?_|refine QF rfl ?_|refine QC rfl ⟨fun h=>?_,fun h=>?_⟩|((conv=>whnf); first|refine anF ?_|refine anT ?_|refine anK ?_|refine And.intro (Int.natCast_nonneg i) (Exists.intro _ (And.intro hx ?_))|refine And.intro (fun h=>?_) (fun h=>?_)|refine Or.inl ?_)
      all_goals (refine Exists.intro (i+1,bI t (l.take (i+1))) (And.intro ⟨hlt_i,rfl,?_,?_⟩ (And.intro (by show l.length - (i+1)<l.length - i; omega) (ah ?_ ?_))))
      all_goals first
        | (clear hG; rw [hsn]; split <;> omega)
        | (refine And.intro (congrArg some (ao (by omega))) (And.intro (congrArg (fun z=>some (AV.int .i64 z)) ?_) ?_)
           · rw [hsn]
             first
               | (rw [if_pos ⟨of_decide_eq_true (by assumption),of_decide_eq_true (by assumption)⟩]; exact ai (by omega) (by omega))
               | (rw [if_neg (by clear hG; grind)]; exact (Int.add_zero _).symm)
           · repeat' (first | exact trivial | refine And.intro rfl ?_))
        | (repeat' (first | exact trivial | refine And.intro rfl ?_))
    · have bbk:decide ((i:Int)<((l.map e9).length:Int))=true→False:=fun h=>by have:=of_decide_eq_true h; simp at this; omega
      have he:l.take i=l:=List.take_of_length_le (by omega)
      rw [he] at hn
      repeat' first|exact (bbk (by assumption)).elim|refine Q1 ?_|refine Q2 ?_|refine Q3 hG aa eS ?_|refine Q4 hG aa eS ?_|refine Q5 hG aa ?_|refine Q6 hG aa ?_|refine Q7 hG aa ?_|refine Q8 hG aa ?_|refine Q9 rfl ?_|refine QF rfl ?_|refine QC rfl ⟨fun h=>?_,fun h=>?_⟩|((conv=>whnf); first|refine anF ?_|refine anT ?_|refine anK ?_|refine And.intro (fun h=>?_) (fun h=>?_)|refine Or.inl ?_)
      exact Ends.mk (Or.inl rfl) (ac (congrArg (AV.int .i64) hn))
theorem uf {l:List Img} {i:Nat} {z:Int} (hi:i≤l.length):ij (l.take i) z=true↔∃ j,j<i∧((l.getD j jd).i==z)=true:=by
 rw [ij,List.any_eq_true]
 constructor
 ·rintro ⟨x,hx,h⟩
  obtain ⟨j,hj,rfl⟩:=List.getElem_of_mem hx
  rw [List.length_take] at hj
  refine ⟨j,by omega,?_⟩
  rw [List.getD_eq_getElem?_getD,List.getElem?_eq_getElem (by omega)]
  rwa [List.getElem_take] at h
 ·rintro ⟨j,hj,h⟩
  rw [List.getD_eq_getElem?_getD,List.getElem?_eq_getElem (by omega)] at h
  exact ⟨_,List.mem_take_iff_getElem.2 ⟨j,by omega,rfl⟩,h⟩
set_option maxHeartbeats 8000000 in
theorem tk (l:List Img) (hl:l.length≤1000000):ae Tryz.prog 151 [fe l] (.bool (dB l)):=by
 have hlm:((l.map e9).length:Int)=(l.length:Int):=by rw [List.length_map]
 refine ag aa Tryz.func151 rfl (by kernel_rfl) af (Nat.le_of_ble_eq_true rfl) ?_
 intro F n' w0 m0 hG hro h1
 repeat' first|refine Q1 ?_|refine Q2 ?_|refine Q3 hG aa bv ?_|refine Q4 hG aa bv ?_|refine Q5 hG aa ?_|refine Q6 hG aa ?_|refine Q7 hG aa ?_|refine Q8 hG aa ?_|refine Q9 rfl ?_|refine QF rfl ?_|refine QC rfl ⟨fun h=>?_,fun h=>?_⟩|((conv=>whnf); first|refine anF ?_|refine anT ?_|refine anK ?_|refine And.intro (fun h=>?_) (fun h=>?_)|refine Or.inl ?_)
 refine ap (X:=Nat) (fun x=>⟨[(3,.int .i64 x),(0,fe l)],[]⟩) (fun x=>x≤l.length∧x≤25∧ef (l.take x) (l.drop x)=ef [] l) (fun x=>l.length - x) 0 ⟨Nat.zero_le _,Nat.zero_le _,rfl⟩ (ah ?_ ?_) (fun i hx=>?_)
 ·repeat' (first | exact trivial | refine And.intro rfl ?_)
 ·repeat' (first | exact trivial | refine And.intro rfl ?_)
 ·obtain ⟨hi,h25,hok⟩:=hx
  by_cases hlt_i:i<l.length
  ·have hdr:l.drop i=l.getD i jd::l.drop (i+1):=by rw [List.getD_eq_getElem?_getD,List.getElem?_eq_getElem hlt_i]; exact List.drop_eq_getElem_cons hlt_i
   by_cases h5:i<25
   ·have b1:decide ((i:Int)<((l.map e9).length:Int))=false→False:=fun h=>by have:=of_decide_eq_false h; omega
    have b2:decide ((i:Int)<25)=false→False:=fun h=>by have:=of_decide_eq_false h; omega
    have hx:=sE hlt_i
    rw [hdr,ef,← xp hlt_i] at hok
    obtain ⟨x0,hxe⟩:∃ x,x=l.getD i jd:=⟨_,rfl⟩
    rw [← hxe] at hx hok
    repeat' first|exact (b1 (by assumption)).elim|exact (b2 (by assumption)).elim|refine Q1 ?_|refine Q2 ?_|refine Q3 hG aa bv ?_|refine Q4 hG aa bv ?_|refine Q5 hG aa ?_|refine Q6 hG aa ?_|refine Q7 hG aa ?_|refine Q8 hG aa ?_|refine Q9 rfl ?_|refine QF rfl ?_|refine QC rfl ⟨fun h=>?_,fun h=>?_⟩|((conv=>whnf); first|refine anF ?_|refine anT ?_|refine anK ?_|refine And.intro (Int.natCast_nonneg i) (Exists.intro _ (And.intro hx ?_))|refine Exists.intro _ (And.intro (tj _ _) ?_)|refine And.intro (fun h=>?_) (fun h=>?_)|refine Or.inl ?_)
    all_goals first
     |(refine Ends.mk (Or.inl rfl) (ac (congrArg AV.bool ?_))
       clear hG hx; rw [dB,← hok,js]; grind [inM])
     | skip
    refine ap (X:=Nat) (fun x=>⟨[(4,.int .i64 x),(3,.int .i64 i),(0,fe l)],[]⟩) (fun x=>x≤i∧∀ j,j<x→((l.getD j jd).i==x0.i)=false) (fun x=>i - x) 0 ⟨Nat.zero_le _,fun j h=>absurd h (by omega)⟩ (ah ?_ ?_) (fun x hx=>?_)
    ·repeat' (first | exact trivial | refine And.intro rfl ?_)
    ·repeat' (first | exact trivial | refine And.intro rfl ?_)
    ·rename Nat=>k
     obtain ⟨hk,hn⟩:=hx
     by_cases hlt_k:k<i
     ·have bbj:decide ((k:Int)<(i:Int))=false→False:=fun h=>by have:=of_decide_eq_false h; simp at this; omega
      have hy:=sE (show k<l.length by omega)
      have bad:((l.getD k jd).i==x0.i)=true→false=dB l:=fun h=>by
       have:ij (l.take i) x0.i=true:=(uf hi).2 ⟨k,hlt_k,h⟩
       rw [dB,← hok,js,this]; simp
      obtain ⟨y,hye⟩:∃ y,y=l.getD k jd:=⟨_,rfl⟩
      rw [← hye] at hy bad
      repeat' first|exact (bbj (by assumption)).elim|refine Q1 ?_|refine Q2 ?_|refine Q3 hG aa bv ?_|refine Q4 hG aa bv ?_|refine Q5 hG aa ?_|refine Q6 hG aa ?_|refine Q7 hG aa ?_|refine Q8 hG aa ?_|refine Q9 rfl ?_|refine QF rfl ?_|refine QC rfl ⟨fun h=>?_,fun h=>?_⟩|((conv=>whnf); first|refine anF ?_|refine anT ?_|refine anK ?_|refine And.intro (Int.natCast_nonneg k) (Exists.intro _ (And.intro hy ?_))|refine And.intro (Int.natCast_nonneg i) (Exists.intro _ (And.intro hx ?_))|refine And.intro (fun h=>?_) (fun h=>?_)|refine Or.inl ?_)
      all_goals first
       |(refine Ends.mk (Or.inl rfl) (ac (congrArg AV.bool ?_))
         exact bad (by assumption))
       | skip
      refine Exists.intro (k+1) (And.intro ⟨hlt_k,fun j hj=>?_⟩ (And.intro (by omega) (ah ?_ ?_)))
      ·rcases Nat.lt_or_ge j k with h | h
       ·exact hn j h
       ·rw [show j=k by omega,← hye]; assumption
      ·refine And.intro (congrArg some (ao (by omega))) ?_
       repeat' (first | exact trivial | refine And.intro rfl ?_)
      ·repeat' (first | exact trivial | refine And.intro rfl ?_)
     ·have bbj:decide ((k:Int)<(i:Int))=true→False:=fun h=>by have:=of_decide_eq_true h; simp at this; omega
      have hany:ij (l.take i) x0.i=false:=by
       rw [← Bool.not_eq_true,uf hi]
       rintro ⟨j,hj,h⟩
       exact tf h (hn j (by omega))
      repeat' first|exact (bbj (by assumption)).elim|refine Q1 ?_|refine Q2 ?_|refine Q3 hG aa bv ?_|refine Q4 hG aa bv ?_|refine Q5 hG aa ?_|refine Q6 hG aa ?_|refine Q7 hG aa ?_|refine Q8 hG aa ?_|refine Q9 rfl ?_|refine QF rfl ?_|refine QC rfl ⟨fun h=>?_,fun h=>?_⟩|((conv=>whnf); first|refine anF ?_|refine anT ?_|refine anK ?_|refine And.intro (fun h=>?_) (fun h=>?_)|refine Or.inl ?_)
      refine Exists.intro (i+1) (And.intro ⟨hlt_i,by omega,?_⟩ (And.intro (by omega) (ah ?_ ?_)))
      ·rw [← hok]
       have hb:js (l.take i) x0=true:=by clear hG; rw [js,hany]; grind [inM]
       rw [hb,Bool.true_and]
      ·refine And.intro (congrArg some (ao (by omega))) ?_
       repeat' (first | exact trivial | refine And.intro rfl ?_)
      ·repeat' (first | exact trivial | refine And.intro rfl ?_)
   ·have b2:decide ((i:Int)<25)=true→False:=fun h=>by have:=of_decide_eq_true h; omega
    have b1:decide ((i:Int)<((l.map e9).length:Int))=false→False:=fun h=>by have:=of_decide_eq_false h; omega
    repeat' first|exact (b1 (by assumption)).elim|exact (b2 (by assumption)).elim|refine Q1 ?_|refine Q2 ?_|refine Q3 hG aa bv ?_|refine Q4 hG aa bv ?_|refine Q5 hG aa ?_|refine Q6 hG aa ?_|refine Q7 hG aa ?_|refine Q8 hG aa ?_|refine Q9 rfl ?_|refine QF rfl ?_|refine QC rfl ⟨fun h=>?_,fun h=>?_⟩|((conv=>whnf); first|refine anF ?_|refine anT ?_|refine anK ?_|refine And.intro (fun h=>?_) (fun h=>?_)|refine Or.inl ?_)
    refine Ends.mk (Or.inl rfl) (ac (congrArg AV.bool ?_))
    rw [hlm,dB,decide_eq_false (show ¬ l.length≤24 by omega),Bool.and_false]
    exact decide_eq_false (by omega)
  ·have b1:decide ((i:Int)<((l.map e9).length:Int))=true→False:=fun h=>by have:=of_decide_eq_true h; omega
   repeat' first|exact (b1 (by assumption)).elim|refine Q1 ?_|refine Q2 ?_|refine Q3 hG aa bv ?_|refine Q4 hG aa bv ?_|refine Q5 hG aa ?_|refine Q6 hG aa ?_|refine Q7 hG aa ?_|refine Q8 hG aa ?_|refine Q9 rfl ?_|refine QF rfl ?_|refine QC rfl ⟨fun h=>?_,fun h=>?_⟩|((conv=>whnf); first|refine anF ?_|refine anT ?_|refine anK ?_|refine And.intro (fun h=>?_) (fun h=>?_)|refine Or.inl ?_)
   refine Ends.mk (Or.inl rfl) (ac (congrArg AV.bool ?_))
   rw [List.drop_of_length_le (by omega),ef] at hok
   rw [hlm,dB,← hok,Bool.true_and]
   exact decide_eq_decide.2 (by omega)
end Go.Proofs
namespace Go.Proofs
open Go Go.AI
set_option maxRecDepth 10000
theorem bw {α:Type} {l:List α} {i:Nat} (d:α) (h:i<l.length):l.take (i+1)=l.take i++[l.getD i d]:=by rw [List.take_add_one,List.getD_eq_getElem?_getD,List.getElem?_eq_getElem h]; rfl
theorem fO {α:Type} {l:List α} {i:Nat} {f:α→List AV} (d:α) (h:i<l.length):(l.map f)[(i:Int).toNat]?=some (f (l.getD i d)):=by simp [List.getElem?_eq_getElem h]
def prL (l:List aV):List (Int×Int):=l.map fun x=>(x.a,x.b)
def xA (o:Opt):Opt:={ o with sl:=o.sl.take 7 }
end Go.Proofs
namespace Go.Proofs
open Go Go.AI
set_option maxRecDepth 10000
def FN (k:Nat) (s:St):St:=⟨iB (AV.dem k) s.t,s.b⟩
theorem xH {Γ:aO} {s:St} {a:Act} {w:World} (k:Nat) (h:Inv Γ s a w):Inv Γ (FN k s) a w:=by
 obtain ⟨⟨cx,hW,ht⟩,h2,h3,h4⟩:=h
 refine ⟨⟨cx,hW,fun d y hy=>?_⟩,h2,h3,h4⟩
 have hy:get (iB (AV.dem k) s.t) d=some y:=hy
 rw [ec] at hy
 obtain ⟨z,hz,rfl⟩:=Option.map_eq_some_iff.1 hy
 exact (ht d z hz).dem k
theorem SPB.demT {Γ:aO} {s:St} {c:Code} {K:Exit→St→Prop} (k:Nat) (h:SPB Γ (FN k s) c K):SPB Γ s c K:=⟨fun a w hI=>h.out a w (xH k hI)⟩
theorem SPB.loopD {Γ:aO} {s:St} {K:Exit→St→Prop} {c:Code} {X:Type} (k:Nat) (sh:X→St) (I:X→Prop) (μ:X→Nat) (x0:X) (h0:I x0) (hle:s.le (sh x0))
  (body:∀ x,I x→SPB Γ (sh x) c fun e s'=>match e with | .normal=>∃ x',I x'∧μ x'<μ x∧(FN k s').le (sh x') | e=>K e s'):SPB Γ s (.loop c) K:=by
 refine ap sh I μ x0 h0 hle fun x hx=>⟨fun a w hI=>wpIn_mono ((body x hx).out a w hI) ?_⟩
 rintro e a' w' ⟨hN,hF,s',hI',hK⟩
 cases e with
 | normal=>exact ⟨hN,hF,FN k s',xH k hI',hK⟩
 | _=>exact ⟨hN,hF,s',hI',hK⟩
theorem zr {α:Type} {xs ys:List α} {A B:Prop} (h:nF xs ys=true) (hA:A):(bif nF xs ys then A else B):=by rw [h]; exact hA
theorem Ht {α:Type} {xs ys:List α} {A B:Prop} (h:nF xs ys=false) (h2:kH ys=false) (hB:B):(bif nF xs ys then A else bif kH ys then False else B):=by rw [h,h2]; exact hB
def spR (x:Int×Int):List AV:=[.int .i64 x.1,.int .i64 x.2]
theorem ut:∀ (l:List (Int×Int)) (r:List (Int×Int)×(Int×Int)),(l.foldl gD r).1.length≤r.1.length+l.length
 | [],r=>by simp
 | x::l,r=>by
  have h:=ut l (gD r x)
  have h2:(gD r x).1.length≤r.1.length+1:=by unfold gD; split <;> simp
  simp only [List.foldl_cons,List.length_cons]; omega
theorem rG {α:Type} (p:α→Bool):∀ (l:List α) (q:Nat),q≤l.length→(∀ j x,j<q→l[j]?=some x→p x=true)→(∀ x,l[q]?=some x→p x=false)→l.takeWhile p=l.take q∧l.dropWhile p=l.drop q
 | [],q,_,_,_=>by simp
 | x::l,0,_,_,h=>by
  have:=h x rfl
  simp [List.takeWhile_cons,List.dropWhile_cons,this]
 | x::l,q+1,hq,h1,h2=>by
  have h0:=h1 0 x (by omega) rfl
  obtain ⟨g1,g2⟩:=rG p l q (by simpa using hq) (fun j y hj hy=>h1 (j+1) y (by omega) hy) (fun y hy=>h2 y hy)
  simp [List.takeWhile_cons,List.dropWhile_cons,h0,g1,g2]
theorem Ay {next:List (Int×Int)} {s:Int×Int} {q:Nat} (hq:q≤next.length) (h1:∀ j x,j<q→next[j]?=some x→x.1<s.1) (h2:∀ x,next[q]?=some x→¬ x.1<s.1):xl next s=next.take q++s::next.drop q:=by
 obtain ⟨g1,g2⟩:=rG (fun x=>decide (x.1<s.1)) next q hq (fun j x hj hx=>decide_eq_true (h1 j x hj hx)) (fun x hx=>decide_eq_false (h2 x hx))
 rw [xl,g1,g2]
theorem ua (out:List (Int×Int)) (s:Int×Int):(fY out s).length≤out.length+1:=by
 have h:=ut out ([],s)
 have h2:=congrArg List.length (List.takeWhile_append_dropWhile (p:=fun x:Int×Int=>decide (x.1<(out.foldl gD ([],s)).2.1)) (l:=(out.foldl gD ([],s)).1))
 simp only [List.length_append,List.length_nil,Nat.zero_add] at h h2
 unfold fY xl
 simp only [List.length_append,List.length_cons]
 omega
set_option maxHeartbeats 8000000 in
theorem qY (l:List (Int×Int)) (hl:l.length≤900000):ae Tryz.prog 98 [.sl .no 2 (l.map spR)] (.sl .no 2 ((gI l).map spR)):=by
 refine ag aa Tryz.func98 rfl (by kernel_rfl) af (Nat.le_of_ble_eq_true rfl) ?_
 intro F n' w0 m0 hG hro h1
 repeat' first|refine Q1 ?_|refine Q2 ?_|refine Q3 hG aa bk ?_|refine Q4 hG aa bk ?_|refine Q5 hG aa ?_|refine Q6 hG aa ?_|refine Q7 hG aa ?_|refine Q8 hG aa ?_|refine Q9 rfl ?_|refine QF rfl ?_|refine QC rfl ⟨fun h=>?_,fun h=>?_⟩|((conv=>whnf); first|refine anF ?_|refine anT ?_|refine anK ?_|refine And.intro (fun h=>?_) (fun h=>?_)|refine Or.inl ?_)
 refine SPB.demT 3 ?_
 refine SPB.loopD 93 (X:=Nat×List (Int×Int)) (fun x=>⟨[(4,.int .i64 x.1),(3,.sl .no 2 (x.2.map spR)),(0,.sl .no 2 (l.map spR))],[]⟩) (fun x=>x.1≤l.length∧x.2=(l.take x.1).foldl fY []∧x.2.length≤x.1) (fun x=>l.length - x.1) (0,[]) ⟨Nat.zero_le _,rfl,Nat.le_refl _⟩ (ah ?_ ?_) (fun x hx=>?_)
 ·repeat' (first | exact trivial | refine And.intro rfl ?_)
 ·repeat' (first | exact trivial | refine And.intro rfl ?_)
 ·obtain ⟨i,out⟩:=x
  obtain ⟨hi,ho,hol⟩:=hx
  simp only at hi ho hol ⊢
  by_cases hlt_i:i<l.length
  ·have bbk:decide ((i:Int)<((l.map spR).length:Int))=false→False:=fun h=>by have:=of_decide_eq_false h; simp at this; omega
   have hx:=fO (f:=spR) ((0:Int),(0:Int)) hlt_i
   have hsn:=bw ((0:Int),(0:Int)) hlt_i
   have hsl:(fY out (l.getD i ((0:Int),(0:Int)))).length≤i+1:=by have:=ua out (l.getD i ((0:Int),(0:Int))); omega
   generalize l.getD i ((0:Int),(0:Int))=s at hx hsn hsl
   repeat' first|exact (bbk (by assumption)).elim|refine Q1 ?_|refine Q2 ?_|refine Q3 hG aa bk ?_|refine Q4 hG aa bk ?_|refine Q5 hG aa ?_|refine Q6 hG aa ?_|refine Q7 hG aa ?_|refine Q8 hG aa ?_|refine Q9 rfl ?_|refine QF rfl ?_|refine QC rfl ⟨fun h=>?_,fun h=>?_⟩|((conv=>whnf); first|refine anF ?_|refine anT ?_|refine anK ?_|refine And.intro (Int.natCast_nonneg i) (Exists.intro _ (And.intro hx ?_))|refine And.intro (fun h=>?_) (fun h=>?_)|refine Or.inl ?_)
   refine ap (X:=Nat×List (Int×Int)×(Int×Int)) (fun x=>⟨[(7,.int .i64 x.1),(6,.sl (.id 6) 2 (x.2.1.map spR)),(5,.loc 5 0),(4,.int .i64 i),(3,.sl .no 2 (out.map spR)),(0,.sl .no 2 (l.map spR))],[(5,spR x.2.2)]⟩) (fun x=>x.1≤out.length∧x.2=(out.take x.1).foldl gD ([],s)∧x.2.1.length≤x.1) (fun x=>out.length - x.1) (0,[],s) ⟨Nat.zero_le _,rfl,Nat.le_refl _⟩ (ah ?_ ?_) (fun x hx=>?_)
   ·repeat' (first | exact trivial | refine And.intro rfl ?_)
   ·repeat' (first | exact trivial | refine And.intro rfl ?_)
   ·obtain ⟨k,next,s2⟩:=x
    obtain ⟨hk,hr,hnl⟩:=hx
    simp only at hk hr hnl ⊢
    by_cases hlt_k:k<out.length
    ·have bbk:decide ((k:Int)<((out.map spR).length:Int))=false→False:=fun h=>by have:=of_decide_eq_false h; simp at this; omega
     have hy:=fO (f:=spR) ((0:Int),(0:Int)) hlt_k
     have hrn:(out.take (k+1)).foldl gD ([],s)=gD (next,s2) (out.getD k ((0:Int),(0:Int))):=by rw [bw ((0:Int),(0:Int)) hlt_k,List.foldl_append,← hr]; rfl
     generalize out.getD k ((0:Int),(0:Int))=y at hy hrn
     rw [show gD (next,s2) y=if y.2<s2.1∨y.1>s2.2 then (next++[y],s2) else (next,(min s2.1 y.1,max s2.2 y.2)) from rfl] at hrn
     repeat' first|exact (bbk (by assumption)).elim|refine Q1 ?_|refine Q2 ?_|refine Q3 hG aa bk ?_|refine Q4 hG aa bk ?_|refine Q5 hG aa ?_|refine Q6 hG aa ?_|refine Q7 hG aa ?_|refine Q8 hG aa ?_|refine Q9 rfl ?_|refine QF rfl ?_|refine QC rfl ⟨fun h=>?_,fun h=>?_⟩|((conv=>whnf); first|refine anF ?_|refine anT ?_|refine anK ?_|refine And.intro (Int.natCast_nonneg k) (Exists.intro _ (And.intro hy ?_))|refine And.intro (show ((next.map spR).length+1)*16≤70368744177664 by rw [List.length_map]; omega) (And.intro (show (next.map spR).length+1≤4611686018427387904 by rw [List.length_map]; omega) ?_)|refine And.intro (fun h=>?_) (fun h=>?_)|refine Or.inl ?_)
     all_goals first
      |(refine Exists.intro (k+1,next++[y],s2) (And.intro ⟨hlt_k,?_,?_⟩ (And.intro (by show out.length - (k+1)<out.length - k; omega) (ah ?_ ?_)))
        ·clear hG; rw [hrn]; symm; apply if_pos; grind
        ·show (next++[y]).length≤k+1
         simp; omega
        ·refine And.intro (congrArg some (ao (by omega))) (And.intro (congrArg (fun z=>some (AV.sl (.id 6) 2 z)) (show next.map spR++[spR y]=(next++[y]).map spR by simp)) ?_)
         repeat' (first | exact trivial | refine And.intro rfl ?_)
        ·repeat' (first | exact trivial | refine And.intro rfl ?_))
      |(refine Exists.intro (k+1,next,(min s2.1 y.1,max s2.2 y.2)) (And.intro ⟨hlt_k,?_,?_⟩ (And.intro (by show out.length - (k+1)<out.length - k; omega) (ah ?_ ?_)))
        ·clear hG; rw [hrn]; symm; apply if_neg; grind
        ·show next.length≤k+1
         omega
        ·refine And.intro (congrArg some (ao (by omega))) ?_
         repeat' (first | exact trivial | refine And.intro rfl ?_)
        ·repeat' (first | exact trivial | refine And.intro rfl ?_))
    ·have bbk:decide ((k:Int)<((out.map spR).length:Int))=true→False:=fun h=>by have:=of_decide_eq_true h; simp at this; omega
     have he:out.take k=out:=List.take_of_length_le (by omega)
     rw [he] at hr
     have hst0:fY out s=xl next s2:=by rw [fY,← hr]
     have hnl2:next.length≤1000000:=by omega
     repeat' first|exact (bbk (by assumption)).elim|refine Q1 ?_|refine Q2 ?_|refine Q3 hG aa bk ?_|refine Q4 hG aa bk ?_|refine Q5 hG aa ?_|refine Q6 hG aa ?_|refine Q7 hG aa ?_|refine Q8 hG aa ?_|refine Q9 rfl ?_|refine QF rfl ?_|refine QC rfl ⟨fun h=>?_,fun h=>?_⟩|((conv=>whnf); first|refine anF ?_|refine anT ?_|refine anK ?_|refine And.intro (fun h=>?_) (fun h=>?_)|refine Or.inl ?_)
     refine ap (X:=Nat) (fun x=>⟨[(8,.int .i64 x),(6,.sl (.id 6) 2 (next.map spR)),(5,.loc 5 0),(4,.int .i64 i),(0,.sl .no 2 (l.map spR))],[(5,spR s2)]⟩) (fun x=>x≤next.length∧∀ j x0,j<x→next[j]?=some x0→x0.1<s2.1) (fun x=>next.length - x) 0 ⟨Nat.zero_le _,fun j x0 hj=>absurd hj (Nat.not_lt_zero j)⟩ (ah ?_ ?_) (fun x hx=>?_)
     ·repeat' (first | exact trivial | refine And.intro rfl ?_)
     ·repeat' (first | exact trivial | refine And.intro rfl ?_)
     ·rename Nat=>q
      obtain ⟨hq,hw⟩:=hx
      have hqle:(q:Int).toNat≤(next.map spR).length:=by rw [List.length_map]; exact hq
      have hmap:List.drop 0 (List.take (q:Int).toNat (next.map spR))++([spR s2]++List.drop (q:Int).toNat (List.take (next.map spR).length (next.map spR)))=(next.take q++s2::next.drop q).map spR:=by
       rw [List.take_length,Int.toNat_natCast,List.drop_zero,List.map_append,List.map_cons,List.map_take,List.map_drop]; rfl
      by_cases hlt_q:q<next.length
      ·have bbq:decide ((q:Int)<((next.map spR).length:Int))=false→False:=fun h=>by have:=of_decide_eq_false h; simp at this; omega
       have hy:=fO (f:=spR) ((0:Int),(0:Int)) hlt_q
       have hg:next[q]?=some (next.getD q ((0:Int),(0:Int))):=by rw [List.getD_eq_getElem?_getD,List.getElem?_eq_getElem hlt_q]; rfl
       have hap:nF [spR s2] (List.drop (q:Int).toNat (List.take (next.map spR).length (next.map spR)))=true:=vS (by rw [List.take_length,Int.toNat_natCast,List.drop_eq_getElem_cons (by rw [List.length_map]; exact hlt_q)]; rfl)
       generalize next.getD q ((0:Int),(0:Int))=y at hy hg
       repeat' first|exact (bbq (by assumption)).elim|refine Q1 ?_|refine Q2 ?_|refine Q3 hG aa bk ?_|refine Q4 hG aa bk ?_|refine Q5 hG aa ?_|refine Q6 hG aa ?_|refine Q7 hG aa ?_|refine Q8 hG aa ?_|refine Q9 rfl ?_|refine QF rfl ?_|refine QC rfl ⟨fun h=>?_,fun h=>?_⟩|((conv=>whnf); first|refine anF ?_|refine anT ?_|refine anK ?_|refine And.intro (Int.natCast_nonneg q) (Exists.intro _ (And.intro hy ?_))|refine zr hap ?_|refine zr (vS rfl) ?_|refine And.intro (Int.natCast_nonneg q) ?_|refine And.intro (Nat.zero_le _) ?_|refine And.intro hqle ?_|refine And.intro (Nat.le_refl _) ?_|refine And.intro (show _*16≤70368744177664 by simp only [List.length_append,List.length_cons,List.length_nil,List.length_drop,List.length_take,List.length_map]; omega) ?_|refine And.intro (show _≤4611686018427387904 by simp only [List.length_append,List.length_cons,List.length_nil,List.length_drop,List.length_take,List.length_map]; omega) ?_|refine And.intro (fun h=>?_) (fun h=>?_)|refine Or.inl ?_)
       all_goals first
        |(refine Exists.intro (q+1) (And.intro ⟨hlt_q,fun j x0 hj hx0=>?_⟩ (And.intro (by omega) (ah ?_ ?_)))
          ·rcases Nat.lt_or_ge j q with h | h
           ·exact hw j x0 h hx0
           ·have e:j=q:=by omega
            rw [e,hg] at hx0
            cases hx0
            exact of_decide_eq_true (by assumption)
          ·refine And.intro (congrArg some (ao (by omega))) ?_
           repeat' (first | exact trivial | refine And.intro rfl ?_)
          ·repeat' (first | exact trivial | refine And.intro rfl ?_))
        |(have hst:fY out s=next.take q++s2::next.drop q:=by
           rw [hst0]
           refine Ay hq hw fun x0 hx0=>?_
           rw [hg] at hx0
           cases hx0
           exact of_decide_eq_false (by assumption)
          conv=>whnf
          refine Exists.intro (i+1,next.take q++s2::next.drop q) (And.intro ⟨hlt_i,?_,?_⟩ (And.intro (by show l.length - (i+1)<l.length - i; omega) (ah ?_ ?_)))
          ·rw [hsn,List.foldl_append,← ho]; exact hst.symm
          ·rw [← hst]; exact hsl
          ·refine And.intro (congrArg some (ao (by omega))) (And.intro (congrArg (fun z=>some (AV.sl .no 2 z)) hmap) ?_)
           repeat' (first | exact trivial | refine And.intro rfl ?_)
          ·repeat' (first | exact trivial | refine And.intro rfl ?_))
      ·have bbq:decide ((q:Int)<((next.map spR).length:Int))=true→False:=fun h=>by have:=of_decide_eq_true h; simp at this; omega
       have hdr:List.drop (q:Int).toNat (List.take (next.map spR).length (next.map spR))=[]:=by rw [List.take_length,Int.toNat_natCast,List.drop_of_length_le (by rw [List.length_map]; omega)]
       have hap:nF [spR s2] (List.drop (q:Int).toNat (List.take (next.map spR).length (next.map spR)))=false:=by rw [hdr]; rfl
       have hnn:kH (List.drop (q:Int).toNat (List.take (next.map spR).length (next.map spR)))=false:=by rw [hdr]; rfl
       rw [hdr,List.append_nil] at hmap
       repeat' first|exact (bbq (by assumption)).elim|refine Q1 ?_|refine Q2 ?_|refine Q3 hG aa bk ?_|refine Q4 hG aa bk ?_|refine Q5 hG aa ?_|refine Q6 hG aa ?_|refine Q7 hG aa ?_|refine Q8 hG aa ?_|refine Q9 rfl ?_|refine QF rfl ?_|refine QC rfl ⟨fun h=>?_,fun h=>?_⟩|((conv=>whnf); first|refine anF ?_|refine anT ?_|refine anK ?_|refine Ht hap hnn ?_|refine zr (vS rfl) ?_|refine And.intro (Int.natCast_nonneg q) ?_|refine And.intro (Nat.zero_le _) ?_|refine And.intro hqle ?_|refine And.intro (Nat.le_refl _) ?_|refine And.intro (show _*16≤70368744177664 by simp only [List.length_append,List.length_cons,List.length_nil,List.length_drop,List.length_take,List.length_map]; omega) ?_|refine And.intro (show _≤4611686018427387904 by simp only [List.length_append,List.length_cons,List.length_nil,List.length_drop,List.length_take,List.length_map]; omega) ?_|refine And.intro (fun h=>?_) (fun h=>?_)|refine Or.inl ?_)
       have hst:fY out s=next.take q++s2::next.drop q:=by
        rw [hst0]
        refine Ay hq hw fun x0 hx0=>?_
        rw [List.getElem?_eq_none (by omega)] at hx0
        cases hx0
       conv=>whnf
       refine Exists.intro (i+1,next.take q++s2::next.drop q) (And.intro ⟨hlt_i,?_,?_⟩ (And.intro (by show l.length - (i+1)<l.length - i; omega) (ah ?_ ?_)))
       ·rw [hsn,List.foldl_append,← ho]; exact hst.symm
       ·rw [← hst]; exact hsl
       ·refine And.intro (congrArg some (ao (by omega))) (And.intro (congrArg (fun z=>some (AV.sl .no 2 z)) hmap) ?_)
        repeat' (first | exact trivial | refine And.intro rfl ?_)
       ·repeat' (first | exact trivial | refine And.intro rfl ?_)
  ·have bbk:decide ((i:Int)<((l.map spR).length:Int))=true→False:=fun h=>by have:=of_decide_eq_true h; simp at this; omega
   have he:l.take i=l:=List.take_of_length_le (by omega)
   rw [he] at ho
   repeat' first|exact (bbk (by assumption)).elim|refine Q1 ?_|refine Q2 ?_|refine Q3 hG aa bk ?_|refine Q4 hG aa bk ?_|refine Q5 hG aa ?_|refine Q6 hG aa ?_|refine Q7 hG aa ?_|refine Q8 hG aa ?_|refine Q9 rfl ?_|refine QF rfl ?_|refine QC rfl ⟨fun h=>?_,fun h=>?_⟩|((conv=>whnf); first|refine anF ?_|refine anT ?_|refine anK ?_|refine And.intro (fun h=>?_) (fun h=>?_)|refine Or.inl ?_)
   exact Ends.mk (Or.inl rfl) (ac (by rw [ho]; rfl))
end Go.Proofs
namespace Go.Proofs
open Go Go.AI
set_option maxRecDepth 10000
theorem lh {l:List Opt} (h:¬ dW l):aA l=[]:=by
 unfold aA
 rw [if_pos]
 cases hb:vO l with
 | true=>rfl
 | false=>exact absurd (sG.1 hb) h
def okO (o:Opt):Prop:=(0≤o.a∧o.a<o.b∧o.b≤1000000∧o.sl.length≤6)∧∀ x∈o.sl,0≤x.a∧x.a<x.b∧x.b≤1000000
theorem yP (l:List Opt) (x:Opt):bD (l++[x])=bD l++prL x.sl:=by simp [bD,prL]
theorem yN (l:List Opt) (x:Opt):f7 (l++[x])=f7 l++[(x.a,x.b)]:=by simp [f7]
theorem qq (l:List (Int×Int)):(gI l).length≤l.length:=by
 have:∀ (l out:List (Int×Int)),(l.foldl fY out).length≤out.length+l.length:=fun l=>by
  induction l with
  | nil=>intro out; simp
  | cons x l ih=>
   intro out
   have h1:=ih (fY out x)
   have h2:=ua out x
   simp only [List.foldl_cons,List.length_cons]; omega
 show (l.foldl fY []).length≤l.length
 simpa using this l []
set_option maxHeartbeats 8000000 in
theorem x8 (l:List Opt) (hl:l.length≤1000000) (hs:dQ l):ae Tryz.prog 28 [aK l] (bM (aA l)):=by
 have hlm:((l.map aH).length:Int)=(l.length:Int):=by rw [List.length_map]
 refine ag aa Tryz.func28 rfl (by kernel_rfl) af (Nat.le_of_ble_eq_true rfl) ?_
 intro F n' w0 m0 hG hro h1
 repeat' first|refine Q1 ?_|refine Q2 ?_|refine Q3 hG aa aW ?_|refine Q4 hG aa aW ?_|refine Q5 hG aa ?_|refine Q6 hG aa ?_|refine Q7 hG aa ?_|refine Q8 hG aa ?_|refine Q9 rfl ?_|refine QF rfl ?_|refine QC rfl ⟨fun h=>?_,fun h=>?_⟩|((conv=>whnf); first|refine anF ?_|refine anT ?_|refine anK ?_|refine And.intro (fun h=>?_) (fun h=>?_)|refine Or.inl ?_)
 ·have h:=of_decide_eq_true (by assumption:decide (((l.map aH).length:Int)>8)=true)
  refine Ends.mk (Or.inl rfl) (ac ?_)
  rw [lh fun g=>by have:=g.n; omega]
  rfl
 have h8:l.length≤8:=by
  have h:=of_decide_eq_false (by assumption:decide (((l.map aH).length:Int)>8)=false)
  omega
 refine ap (X:=Nat) (fun x=>⟨[(5,.int .i64 x),(4,.sl (.id 4) 2 ((bD (l.take x)).map spR)),(3,.sl (.id 3) 2 ((f7 (l.take x)).map spR)),(0,aK l)],[]⟩) (fun x=>x≤l.length∧∀ z∈l.take x,okO z) (fun x=>l.length - x) 0 ⟨Nat.zero_le _,by simp⟩ (ah ?_ ?_) (fun x hx=>?_)
 ·repeat' (first | exact trivial | refine And.intro rfl ?_)
 ·repeat' (first | exact trivial | refine And.intro rfl ?_)
 ·rename Nat=>i
  obtain ⟨hi,hgi⟩:=hx
  have hsl:(bD (l.take i)).length≤48:=by
   have:=sL 6 (l.take i) fun o ho=>(hgi o ho).1.2.2.2
   rw [ro,List.length_map,List.length_take] at this
   omega
  have hpl:(f7 (l.take i)).length≤8:=by simp [f7]; omega
  by_cases hlt_i:i<l.length
  ·have bbk:decide ((i:Int)<((l.map aH).length:Int))=false→False:=fun h=>by have:=of_decide_eq_false h; simp at this; omega
   have hx:=gB hlt_i
   have hxm:aG l i∈l:=by rw [cK hlt_i]; exact List.getElem_mem hlt_i
   have hsn:l.take (i+1)=l.take i++[aG l i]:=bw ml hlt_i
   obtain ⟨x0,hx0⟩:∃ x,x=aG l i:=⟨_,rfl⟩
   rw [← hx0] at hx hxm hsn
   have hrow:(f7 (l.take i)).map spR++[spR (x0.a,x0.b)]=(f7 (l.take (i+1))).map spR:=by rw [hsn,yN]; simp
   repeat' first|exact (bbk (by assumption)).elim|refine Q1 ?_|refine Q2 ?_|refine Q3 hG aa aW ?_|refine Q4 hG aa aW ?_|refine Q5 hG aa ?_|refine Q6 hG aa ?_|refine Q7 hG aa ?_|refine Q8 hG aa ?_|refine Q9 rfl ?_|refine QF rfl ?_|refine QC rfl ⟨fun h=>?_,fun h=>?_⟩|((conv=>whnf); first|refine anF ?_|refine anT ?_|refine anK ?_|refine And.intro (Int.natCast_nonneg i) (Exists.intro _ (And.intro hx ?_))|refine Exists.intro _ (And.intro (kV _ _) ?_)|refine And.intro (show (((f7 (l.take i)).map spR).length+1)*16≤70368744177664 by rw [List.length_map]; omega) (And.intro (show ((f7 (l.take i)).map spR).length+1≤4611686018427387904 by rw [List.length_map]; omega) ?_)|refine And.intro (fun h=>?_) (fun h=>?_)|refine Or.inl ?_)
   all_goals first
    |(have hb:=Be (by assumption:(!bt x0.a x0.b)=true)
      refine Ends.mk (Or.inl rfl) (ac ?_)
      rw [lh fun g=>by have:=g.shot x0 hxm; rw [dK.2 ⟨this.1,this.2.1,this.2.2.1⟩] at hb; cases hb]
      rfl)
    |(have hb:=of_decide_eq_true (by assumption:decide (((x0.sl.map ay).length:Int)>6)=true)
      rw [List.length_map] at hb
      refine Ends.mk (Or.inl rfl) (ac ?_)
      rw [lh fun g=>by have:=g.shot x0 hxm; omega]
      rfl)
    | skip
   have hb:=dK.1 (mm (by assumption:(!bt x0.a x0.b)=false))
   have hb2:=of_decide_eq_false (by assumption:decide (((x0.sl.map ay).length:Int)>6)=false)
   rw [List.length_map] at hb2
   have hshot:0≤x0.a∧x0.a<x0.b∧x0.b≤1000000∧x0.sl.length≤6:=by omega
   refine ap (X:=Nat) (fun x=>⟨[(6,.int .i64 x),(5,.int .i64 i),(4,.sl (.id 4) 2 ((bD (l.take i)++prL (x0.sl.take x)).map spR)),(3,.sl (.id 3) 2 ((f7 (l.take (i+1))).map spR)),(0,aK l)],[]⟩) (fun x=>x≤x0.sl.length∧∀ y∈x0.sl.take x,0≤y.a∧y.a<y.b∧y.b≤1000000) (fun x=>x0.sl.length - x) 0 ⟨Nat.zero_le _,by simp⟩ (ah ?_ ?_) (fun x hx=>?_)
   ·refine And.intro rfl (And.intro rfl (And.intro (congrArg (fun z=>some (AV.sl (.id 4) 2 z)) (by simp [prL])) (And.intro (congrArg (fun z=>some (AV.sl (.id 3) 2 z)) hrow) ?_)))
    repeat' (first | exact trivial | refine And.intro rfl ?_)
   ·repeat' (first | exact trivial | refine And.intro rfl ?_)
   ·rename Nat=>k
    obtain ⟨hk,hgk⟩:=hx
    by_cases hlt_k:k<x0.sl.length
    ·have bbk:decide ((k:Int)<((x0.sl.map ay).length:Int))=false→False:=fun h=>by have:=of_decide_eq_false h; simp at this; omega
     have hy:(x0.sl.map ay)[(k:Int).toNat]?=some (ay (x0.sl.getD k rJ)):=dc hlt_k
     have hym:x0.sl.getD k rJ∈x0.sl:=by rw [List.getD_eq_getElem?_getD,List.getElem?_eq_getElem hlt_k]; exact List.getElem_mem hlt_k
     have hkn:=bw rJ hlt_k
     have hln:(bD (l.take i)++prL (x0.sl.take k)).length≤1000:=by
      have:(prL (x0.sl.take k)).length≤6:=by simp [prL]; omega
      rw [List.length_append]; omega
     generalize x0.sl.getD k rJ=y at hy hym hkn
     repeat' first|exact (bbk (by assumption)).elim|refine Q1 ?_|refine Q2 ?_|refine Q3 hG aa aW ?_|refine Q4 hG aa aW ?_|refine Q5 hG aa ?_|refine Q6 hG aa ?_|refine Q7 hG aa ?_|refine Q8 hG aa ?_|refine Q9 rfl ?_|refine QF rfl ?_|refine QC rfl ⟨fun h=>?_,fun h=>?_⟩|((conv=>whnf); first|refine anF ?_|refine anT ?_|refine anK ?_|refine And.intro (Int.natCast_nonneg k) (Exists.intro _ (And.intro hy ?_))|refine And.intro (Int.natCast_nonneg i) (Exists.intro _ (And.intro hx ?_))|refine Exists.intro _ (And.intro (kV _ _) ?_)|refine And.intro (show (((bD (l.take i)++prL (x0.sl.take k)).map spR).length+1)*16≤70368744177664 by rw [List.length_map]; omega) (And.intro (show ((bD (l.take i)++prL (x0.sl.take k)).map spR).length+1≤4611686018427387904 by rw [List.length_map]; omega) ?_)|refine And.intro (fun h=>?_) (fun h=>?_)|refine Or.inl ?_)
     all_goals first
      |(have hb:=Be (by assumption:(!bt y.a y.b)=true)
        refine Ends.mk (Or.inl rfl) (ac ?_)
        rw [lh fun g=>by have:=g.slot x0 hxm y hym; rw [dK.2 this] at hb; cases hb]
        rfl)
      | skip
     have hb:=dK.1 (mm (by assumption:(!bt y.a y.b)=false))
     refine Exists.intro (k+1) (And.intro ⟨hlt_k,?_⟩ (And.intro (by omega) (ah ?_ ?_)))
     ·rw [hkn]; intro z hz
      rcases List.mem_append.1 hz with hz | hz
      ·exact hgk z hz
      ·rw [List.mem_singleton.1 hz]; exact hb
     ·refine And.intro (congrArg some (ao (by omega))) (And.intro rfl (And.intro (congrArg (fun z=>some (AV.sl (.id 4) 2 z)) (show (bD (l.take i)++prL (x0.sl.take k)).map spR++[spR (y.a,y.b)]=_ by rw [hkn]; simp [prL])) ?_))
      repeat' (first | exact trivial | refine And.intro rfl ?_)
     ·repeat' (first | exact trivial | refine And.intro rfl ?_)
    ·have bbk:decide ((k:Int)<((x0.sl.map ay).length:Int))=true→False:=fun h=>by have:=of_decide_eq_true h; simp at this; omega
     have he:x0.sl.take k=x0.sl:=List.take_of_length_le (by omega)
     rw [he] at hgk
     repeat' first|exact (bbk (by assumption)).elim|refine Q1 ?_|refine Q2 ?_|refine Q3 hG aa aW ?_|refine Q4 hG aa aW ?_|refine Q5 hG aa ?_|refine Q6 hG aa ?_|refine Q7 hG aa ?_|refine Q8 hG aa ?_|refine Q9 rfl ?_|refine QF rfl ?_|refine QC rfl ⟨fun h=>?_,fun h=>?_⟩|((conv=>whnf); first|refine anF ?_|refine anT ?_|refine anK ?_|refine And.intro (Int.natCast_nonneg i) (Exists.intro _ (And.intro hx ?_))|refine And.intro (fun h=>?_) (fun h=>?_)|refine Or.inl ?_)
     conv=>whnf
     refine Exists.intro (i+1) (And.intro ⟨hlt_i,?_⟩ (And.intro (by omega) (ah ?_ ?_)))
     ·rw [hsn]; intro z hz
      rcases List.mem_append.1 hz with hz | hz
      ·exact hgi z hz
      ·rw [List.mem_singleton.1 hz]; exact ⟨hshot,hgk⟩
     ·refine And.intro (congrArg some (ao (by omega))) (And.intro (congrArg (fun z=>some (AV.sl (.id 4) 2 z)) (by rw [he,hsn,yP])) ?_)
      repeat' (first | exact trivial | refine And.intro rfl ?_)
     ·repeat' (first | exact trivial | refine And.intro rfl ?_)
  ·have bbk:decide ((i:Int)<((l.map aH).length:Int))=true→False:=fun h=>by have:=of_decide_eq_true h; simp at this; omega
   have he:l.take i=l:=List.take_of_length_le (by omega)
   rw [he] at hgi
   have hgood:dW l:=⟨h8,fun o ho=>(hgi o ho).1,fun o ho=>(hgi o ho).2⟩
   rw [he] at hsl hpl
   rw [he]
   obtain ⟨xs,hxs⟩:∃ xs,xs=gI (f7 l):=⟨_,rfl⟩
   obtain ⟨ys,hys⟩:∃ ys,ys=gI (bD l):=⟨_,rfl⟩
   have hxl:xs.length≤8:=by rw [hxs]; exact Nat.le_trans (qq _) hpl
   have hyl:ys.length≤48:=by rw [hys]; exact Nat.le_trans (qq _) hsl
   have c1:=qY (f7 l) (by omega)
   have c2:=qY (bD l) (by omega)
   have hjl:(gI (f7 l)).length≤8:=by rw [← hxs]; exact hxl
   rw [← hxs] at c1
   rw [← hys] at c2
   repeat' first|exact (bbk (by assumption)).elim|refine Q1 ?_|refine Q2 ?_|refine Q3 hG aa aW ?_|refine Q4 hG aa aW ?_|refine Q5 hG aa ?_|refine Q6 hG aa ?_|refine Q7 hG aa ?_|refine Q8 hG aa ?_|refine Q9 rfl ?_|refine QF rfl ?_|refine QC rfl ⟨fun h=>?_,fun h=>?_⟩|((conv=>whnf); first|refine anF ?_|refine anT ?_|refine anK ?_|refine Exists.intro _ (And.intro (c1) ?_)|refine Exists.intro _ (And.intro (c2) ?_)|refine And.intro (fun h=>?_) (fun h=>?_)|refine Or.inl ?_)
   refine ap (X:=Nat) (fun x=>⟨[(8,.int .i64 x),(7,.sl (.id 7) 3 (((xs.take x).map (mkK 1)).map aF)),(4,.sl .no 2 (ys.map spR)),(3,.sl .no 2 (xs.map spR))],[]⟩) (fun x=>x≤xs.length) (fun x=>xs.length - x) 0 (Nat.zero_le _) (ah ?_ ?_) (fun x hx=>?_)
   ·repeat' (first | exact trivial | refine And.intro rfl ?_)
   ·repeat' (first | exact trivial | refine And.intro rfl ?_)
   ·rename Nat=>i
    have hi:=hx
    by_cases hlt_i:i<xs.length
    ·have bbk:decide ((i:Int)<((xs.map spR).length:Int))=false→False:=fun h=>by have:=of_decide_eq_false h; simp at this; omega
     have hx:=fO (f:=spR) ((0:Int),(0:Int)) hlt_i
     have hsn:=bw ((0:Int),(0:Int)) hlt_i
     have hln:((xs.take i).map (mkK 1)).length≤1000:=by simp; omega
     generalize xs.getD i ((0:Int),(0:Int))=s at hx hsn
     repeat' first|exact (bbk (by assumption)).elim|refine Q1 ?_|refine Q2 ?_|refine Q3 hG aa aW ?_|refine Q4 hG aa aW ?_|refine Q5 hG aa ?_|refine Q6 hG aa ?_|refine Q7 hG aa ?_|refine Q8 hG aa ?_|refine Q9 rfl ?_|refine QF rfl ?_|refine QC rfl ⟨fun h=>?_,fun h=>?_⟩|((conv=>whnf); first|refine anF ?_|refine anT ?_|refine anK ?_|refine And.intro (Int.natCast_nonneg i) (Exists.intro _ (And.intro hx ?_))|refine And.intro (show ((((xs.take i).map (mkK 1)).map aF).length+1)*24≤70368744177664 by rw [List.length_map]; omega) (And.intro (show (((xs.take i).map (mkK 1)).map aF).length+1≤4611686018427387904 by rw [List.length_map]; omega) ?_)|refine And.intro (fun h=>?_) (fun h=>?_)|refine Or.inl ?_)
     refine Exists.intro (i+1) (And.intro hlt_i (And.intro (by omega) (ah ?_ ?_)))
     ·refine And.intro (congrArg some (ao (by omega))) (And.intro (congrArg (fun z=>some (AV.sl (.id 7) 3 z)) (show ((xs.take i).map (mkK 1)).map aF++[aF (mkK 1 s)]=_ by rw [hsn]; simp)) ?_)
      repeat' (first | exact trivial | refine And.intro rfl ?_)
     ·repeat' (first | exact trivial | refine And.intro rfl ?_)
    ·have bbk:decide ((i:Int)<((xs.map spR).length:Int))=true→False:=fun h=>by have:=of_decide_eq_true h; simp at this; omega
     have he:xs.take i=xs:=List.take_of_length_le (by omega)
     rw [he]
     repeat' first|exact (bbk (by assumption)).elim|refine Q1 ?_|refine Q2 ?_|refine Q3 hG aa aW ?_|refine Q4 hG aa aW ?_|refine Q5 hG aa ?_|refine Q6 hG aa ?_|refine Q7 hG aa ?_|refine Q8 hG aa ?_|refine Q9 rfl ?_|refine QF rfl ?_|refine QC rfl ⟨fun h=>?_,fun h=>?_⟩|((conv=>whnf); first|refine anF ?_|refine anT ?_|refine anK ?_|refine And.intro (fun h=>?_) (fun h=>?_)|refine Or.inl ?_)
     refine ap (X:=Nat) (fun x=>⟨[(9,.int .i64 x),(7,.sl (.id 7) 3 ((xs.map (mkK 1)++(ys.take x).map (mkK 2)).map aF)),(4,.sl .no 2 (ys.map spR))],[]⟩) (fun x=>x≤ys.length) (fun x=>ys.length - x) 0 (Nat.zero_le _) (ah (And.intro rfl (And.intro (congrArg (fun z=>some (AV.sl (.id 7) 3 z)) (by simp)) ?_)) ?_) (fun x hx=>?_)
     ·repeat' (first | exact trivial | refine And.intro rfl ?_)
     ·repeat' (first | exact trivial | refine And.intro rfl ?_)
     ·rename Nat=>i
      have hi:=hx
      by_cases hlt_i:i<ys.length
      ·have bbk:decide ((i:Int)<((ys.map spR).length:Int))=false→False:=fun h=>by have:=of_decide_eq_false h; simp at this; omega
       have hx:=fO (f:=spR) ((0:Int),(0:Int)) hlt_i
       have hsn:=bw ((0:Int),(0:Int)) hlt_i
       have hln:(xs.map (mkK 1)++(ys.take i).map (mkK 2)).length≤1000:=by simp; omega
       generalize ys.getD i ((0:Int),(0:Int))=s at hx hsn
       repeat' first|exact (bbk (by assumption)).elim|refine Q1 ?_|refine Q2 ?_|refine Q3 hG aa aW ?_|refine Q4 hG aa aW ?_|refine Q5 hG aa ?_|refine Q6 hG aa ?_|refine Q7 hG aa ?_|refine Q8 hG aa ?_|refine Q9 rfl ?_|refine QF rfl ?_|refine QC rfl ⟨fun h=>?_,fun h=>?_⟩|((conv=>whnf); first|refine anF ?_|refine anT ?_|refine anK ?_|refine And.intro (Int.natCast_nonneg i) (Exists.intro _ (And.intro hx ?_))|refine And.intro (show (((xs.map (mkK 1)++(ys.take i).map (mkK 2)).map aF).length+1)*24≤70368744177664 by rw [List.length_map]; omega) (And.intro (show ((xs.map (mkK 1)++(ys.take i).map (mkK 2)).map aF).length+1≤4611686018427387904 by rw [List.length_map]; omega) ?_)|refine And.intro (fun h=>?_) (fun h=>?_)|refine Or.inl ?_)
       refine Exists.intro (i+1) (And.intro hlt_i (And.intro (by omega) (ah ?_ ?_)))
       ·refine And.intro (congrArg some (ao (by omega))) (And.intro (congrArg (fun z=>some (AV.sl (.id 7) 3 z)) (show (xs.map (mkK 1)++(ys.take i).map (mkK 2)).map aF++[aF (mkK 2 s)]=_ by rw [hsn]; simp)) ?_)
        repeat' (first | exact trivial | refine And.intro rfl ?_)
       ·repeat' (first | exact trivial | refine And.intro rfl ?_)
      ·have bbk:decide ((i:Int)<((ys.map spR).length:Int))=true→False:=fun h=>by have:=of_decide_eq_true h; simp at this; omega
       have he:ys.take i=ys:=List.take_of_length_le (by omega)
       repeat' first|exact (bbk (by assumption)).elim|refine Q1 ?_|refine Q2 ?_|refine Q3 hG aa aW ?_|refine Q4 hG aa aW ?_|refine Q5 hG aa ?_|refine Q6 hG aa ?_|refine Q7 hG aa ?_|refine Q8 hG aa ?_|refine Q9 rfl ?_|refine QF rfl ?_|refine QC rfl ⟨fun h=>?_,fun h=>?_⟩|((conv=>whnf); first|refine anF ?_|refine anT ?_|refine anK ?_|refine And.intro (fun h=>?_) (fun h=>?_)|refine Or.inl ?_)
       rw [he,hxs,hys,hgood.ref]
       exact Ends.mk (Or.inl rfl) (ac rfl)
end Go.Proofs
namespace Go.Proofs
open Go Go.AI
set_option maxRecDepth 10000
def iu (sat:Int) (r:Int×List am) (x:Int×Int×Int):Int×List am:=
 let cf:=r.1+4+ar x.1 12
 let sf:=cf+ar (w64 (x.2.2.tdiv 3)) 2
 let st:=sf+3+ar x.2.1 12
 let ct:=st+ar (w64 (x.2.2.tdiv 3)) 2
 (ct,r.2++[⟨sat,ar x.2.2 3,sf,st,cf,ct⟩])
def iQ (sat from_:Int) (z:List (Int×Int×Int)):Int×List am:=z.foldl (iu sat) (from_,[])
def gH (sat from_:Int) (z:List (Int×Int×Int)):List am:=(iQ sat from_ (z.take 6)).2
structure pu (sat from_:Int) (n:Nat) (r:Int×List am):Prop where
 at_:from_≤r.1∧r.1≤from_+31*(n:Int)
 len:r.2.length=n
 all:∀ p∈r.2,co p=true∧from_≤p.sa∧p.sa<p.sb∧p.sb≤r.1∧p.ca<r.1
 srt:r.2.Pairwise fun p q=>p.ca<q.ca
theorem pu.step {sat from_:Int} {n:Nat} {r:Int×List am} {x:Int×Int×Int} (h:pu sat from_ n r) (hs:0≤sat∧sat≤23) (hf:0≤from_∧from_≤900000) (hn:n≤100) (hx:sC x):pu sat from_ (n+1) (iu sat r x):=by
 obtain ⟨h1,h2,h3,h4⟩:=h
 have p1:=aM hx.1 (n:=12) (by omega)
 have p2:=aM (mJ (x.2.2.tdiv 3)) (n:=2) (by omega)
 have p3:=aM hx.2.1 (n:=12) (by omega)
 have p4:=aM hx.2.2 (n:=3) (by omega)
 unfold iu
 simp only
 generalize ar x.1 12=q1 at *
 generalize ar (w64 (x.2.2.tdiv 3)) 2=q2 at *
 generalize ar x.2.1 12=q3 at *
 generalize ar x.2.2 3=q4 at *
 refine ⟨by simp only; omega,by simp [h2],fun p hp=>?_,List.pairwise_append.2 ⟨h4,by simp,fun p hp q hq=>?_⟩⟩
 ·rcases List.mem_append.1 hp with hp | hp
  ·have:=h3 p hp
   refine ⟨this.1,this.2.1,this.2.2.1,?_,?_⟩ <;> (simp only; omega)
  ·rw [List.mem_singleton.1 hp]
   simp only [co,inS,Bool.and_eq_true,Bool.or_eq_true,decide_eq_true_eq]
   refine ⟨⟨⟨by omega,⟨by omega,by omega⟩,trivial⟩,⟨⟨by omega,by omega⟩,by omega⟩,.inr ⟨⟨by omega,by omega⟩,by omega⟩⟩,by omega,by omega,by omega,by omega⟩
 ·rw [List.mem_singleton.1 hq]
  have:=h3 p hp
  simp only
  omega
theorem pu.run {sat from_:Int} (hs:0≤sat∧sat≤23) (hf:0≤from_∧from_≤900000):∀ (z:List (Int×Int×Int)) (n:Nat) (r:Int×List am),n+z.length≤100→(∀ x∈z,sC x)→pu sat from_ n r→pu sat from_ (n+z.length) (z.foldl (iu sat) r)
 | [],n,r,_,_,h=>h
 | x::z,n,r,hn,hz,h=>by
  rw [List.length_cons] at hn ⊢
  have:=pu.run hs hf z (n+1) (iu sat r x) (by omega) (fun y hy=>hz y (.tail _ hy)) (h.step hs hf (by omega) (hz x (.head _)))
  rwa [show n+(z.length+1)=n+1+z.length by omega]
theorem pu.of {sat from_:Int} (hs:0≤sat∧sat≤23) (hf:0≤from_∧from_≤900000) {z:List (Int×Int×Int)} (hz:∀ x∈z,sC x) (hl:z.length≤100):pu sat from_ z.length (iQ sat from_ z):=by
 have:=pu.run hs hf z 0 (from_,[]) (by omega) hz ⟨by simp,rfl,by simp,by simp⟩
 simpa [iQ] using this
theorem vm (sat from_:Int) (z:List (Int×Int×Int)) (x:Int×Int×Int):iQ sat from_ (z++[x])=iu sat (iQ sat from_ z) x:=by simp [iQ,List.foldl_append]
theorem pu.proper {sat from_:Int} {n:Nat} {r:Int×List am} (h:pu sat from_ n r) (hn:n≤64):bz r.2=true:=by
 rw [jq]
 have hl:=h.len
 refine ⟨by omega,fun j hj=>?_,fun j hj=>?_⟩
 ·rw [eu hj]; exact (h.all _ (List.getElem_mem hj)).1
 ·rw [AE,eu hj,eu (show j<r.2.length by omega)]
  have:=(List.pairwise_iff_getElem.1 h.srt) j (j+1) (by omega) hj (by omega)
  rw [if_pos (by omega)]
  exact decide_eq_false (by omega)
theorem A7 {sat from_:Int} (hs:0≤sat∧sat≤23) (hf:0≤from_∧from_≤900000) {z:List (Int×Int×Int)} (hz:∀ x∈z,sC x):bz (gH sat from_ z)=true∧(gH sat from_ z).length≤6∧∀ p∈gH sat from_ z,from_≤p.sa∧p.sa<p.sb∧p.sb≤from_+186:=by
 have hl:(z.take 6).length≤6:=List.length_take_le _ _
 have h:=pu.of hs hf (z:=z.take 6) (fun x hx=>hz x (List.mem_of_mem_take hx)) (by omega)
 refine ⟨h.proper (by omega),by rw [gH,h.len]; exact hl,fun p hp=>?_⟩
 have h1:=h.all p hp
 have h2:=h.at_
 omega
set_option maxHeartbeats 8000000 in
theorem yg (sat from_:Int) (z:List (Int×Int×Int)) (hs:0≤sat∧sat≤23) (hf:0≤from_∧from_≤900000) (hz:∀ x∈z,sC x):ae Tryz.prog 70 [.int .i64 sat,.int .i64 from_,.sl .no 3 (z.map ke)] (al (gH sat from_ z)):=by
 have hlm:((z.map ke).length:Int)=(z.length:Int):=by rw [List.length_map]
 refine ag aa Tryz.func70 rfl (by kernel_rfl) af (Nat.le_of_ble_eq_true rfl) ?_
 intro F n' w0 m0 hG hro h1
 repeat' first|refine Q1 ?_|refine Q2 ?_|refine Q3 hG aa dS ?_|refine Q4 hG aa dS ?_|refine Q5 hG aa ?_|refine Q6 hG aa ?_|refine Q7 hG aa ?_|refine Q8 hG aa ?_|refine Q9 rfl ?_|refine QF rfl ?_|refine QC rfl ⟨fun h=>?_,fun h=>?_⟩|((conv=>whnf); first|refine anF ?_|refine anT ?_|refine anK ?_|refine And.intro (fun h=>?_) (fun h=>?_)|refine Or.inl ?_)
 refine ap (X:=Nat×Int×List am) (fun x=>⟨[(9,.int .i64 x.1),(8,.int .i64 x.2.1),(7,.sl (.id 7) 6 (x.2.2.map aL)),(2,.sl .no 3 (z.map ke)),(0,.int .i64 sat)],[]⟩) (fun x=>x.1≤z.length∧x.1≤6∧x.2=iQ sat from_ (z.take x.1)) (fun x=>z.length - x.1) (0,from_,[]) ⟨Nat.zero_le _,Nat.zero_le _,rfl⟩ (ah ?_ ?_) (fun x hx=>?_)
 ·repeat' (first | exact trivial | refine And.intro rfl ?_)
 ·repeat' (first | exact trivial | refine And.intro rfl ?_)
 ·obtain ⟨i,at_,out⟩:=x
  obtain ⟨hi,h6,hr⟩:=hx
  simp only at hi h6 hr ⊢
  have hP:=pu.of hs hf (z:=z.take i) (fun x hx=>hz x (List.mem_of_mem_take hx)) (by rw [List.length_take]; omega)
  rw [← hr,List.length_take,Nat.min_eq_left hi] at hP
  have hat:=hP.at_
  have hol:=hP.len
  simp only at hat hol
  by_cases hlt_i:i<z.length
  ·by_cases h5:i<6
   ·have b1:decide ((i:Int)<((z.map ke).length:Int))=false→False:=fun h=>by have:=of_decide_eq_false h; omega
    have b2:decide ((i:Int)<6)=false→False:=fun h=>by have:=of_decide_eq_false h; omega
    have hx:=fO (f:=ke) ((0:Int),(0:Int),(0:Int)) hlt_i
    have hsn:=vm sat from_ (z.take i) (z.getD i ((0:Int),(0:Int),(0:Int)))
    rw [← bw ((0:Int),(0:Int),(0:Int)) hlt_i,← hr] at hsn
    have hxi:sC (z.getD i ((0:Int),(0:Int),(0:Int))):=hz _ (by rw [List.getD_eq_getElem?_getD,List.getElem?_eq_getElem hlt_i]; exact List.getElem_mem hlt_i)
    generalize z.getD i ((0:Int),(0:Int),(0:Int))=x at hx hsn hxi
    have p1:=aM hxi.1 (n:=12) (by omega)
    have p2:=aM (mJ (x.2.2.tdiv 3)) (n:=2) (by omega)
    have p3:=aM hxi.2.1 (n:=12) (by omega)
    have c2:=d4 (w64 (x.2.2.tdiv 3)) 2 (by decide)
    have hol2:(out.map aL).length≤6:=by rw [List.length_map]; omega
    simp only [iu] at hsn
    obtain ⟨q2,hq2⟩:∃ q,q=ar (w64 (x.2.2.tdiv 3)) 2:=⟨_,rfl⟩
    rw [← hq2] at c2 p2 hsn
    have w1:IntKind.i64.wrap (at_+4)=at_+4:=ai (by omega) (by omega)
    have w2:IntKind.i64.wrap (at_+4+ar x.1 12)=at_+4+ar x.1 12:=ai (by omega) (by omega)
    have w3:IntKind.i64.wrap (at_+4+ar x.1 12+q2)=at_+4+ar x.1 12+q2:=ai (by omega) (by omega)
    have w4:IntKind.i64.wrap (at_+4+ar x.1 12+q2+3)=at_+4+ar x.1 12+q2+3:=ai (by omega) (by omega)
    have w5:IntKind.i64.wrap (at_+4+ar x.1 12+q2+3+ar x.2.1 12)=at_+4+ar x.1 12+q2+3+ar x.2.1 12:=ai (by omega) (by omega)
    have w6:IntKind.i64.wrap (at_+4+ar x.1 12+q2+3+ar x.2.1 12+q2)=at_+4+ar x.1 12+q2+3+ar x.2.1 12+q2:=ai (by omega) (by omega)
    repeat' first|exact (b1 (by assumption)).elim|exact (b2 (by assumption)).elim|refine Q1 ?_|refine Q2 ?_|refine Q3 hG aa dS ?_|refine Q4 hG aa dS ?_|refine Q5 hG aa ?_|refine Q6 hG aa ?_|refine Q7 hG aa ?_|refine Q8 hG aa ?_|refine Q9 rfl ?_|refine QF rfl ?_|refine QC rfl ⟨fun h=>?_,fun h=>?_⟩|((conv=>whnf); first|refine anF ?_|refine anT ?_|refine anK ?_|refine And.intro (Int.natCast_nonneg i) (Exists.intro _ (And.intro hx ?_))|refine Exists.intro _ (And.intro (c2) ?_)|refine Exists.intro _ (And.intro (d4 _ _ (by decide)) ?_)|refine And.intro (by decide) ?_|refine And.intro (show ((out.map aL).length+1)*48≤70368744177664 by omega) (And.intro (show (out.map aL).length+1≤4611686018427387904 by omega) ?_)|refine And.intro (fun h=>?_) (fun h=>?_)|refine Or.inl ?_)
    refine Exists.intro (i+1,iQ sat from_ (z.take (i+1))) (And.intro ⟨hlt_i,h5,rfl⟩ (And.intro (by show z.length - (i+1)<z.length - i; omega) ?_))
    rw [hsn]
    refine ah (And.intro (congrArg some (ao (by omega))) (And.intro (congrArg (fun z=>some (AV.int .i64 z)) ?_) (And.intro (congrArg (fun z=>some (AV.sl (.id 7) 6 z)) ?_) ?_))) ?_
    ·rw [w1,w2,w3,w4,w5,w6]
    ·rw [List.map_append]
     refine congrArg (out.map aL++·) ?_
     rw [w1,w2,w3,w4,w5,w6]; rfl
    ·repeat' (first | exact trivial | refine And.intro rfl ?_)
    ·repeat' (first | exact trivial | refine And.intro rfl ?_)
   ·have b2:decide ((i:Int)<6)=true→False:=fun h=>by have:=of_decide_eq_true h; omega
    have b1:decide ((i:Int)<((z.map ke).length:Int))=false→False:=fun h=>by have:=of_decide_eq_false h; omega
    have he:i=6:=by omega
    subst he
    repeat' first|exact (b1 (by assumption)).elim|exact (b2 (by assumption)).elim|refine Q1 ?_|refine Q2 ?_|refine Q3 hG aa dS ?_|refine Q4 hG aa dS ?_|refine Q5 hG aa ?_|refine Q6 hG aa ?_|refine Q7 hG aa ?_|refine Q8 hG aa ?_|refine Q9 rfl ?_|refine QF rfl ?_|refine QC rfl ⟨fun h=>?_,fun h=>?_⟩|((conv=>whnf); first|refine anF ?_|refine anT ?_|refine anK ?_|refine And.intro (fun h=>?_) (fun h=>?_)|refine Or.inl ?_)
    exact Ends.mk (Or.inl rfl) (ac (by rw [gH,← hr]; rfl))
  ·have b1:decide ((i:Int)<((z.map ke).length:Int))=true→False:=fun h=>by have:=of_decide_eq_true h; omega
   rw [List.take_of_length_le (by omega)] at hr
   repeat' first|exact (b1 (by assumption)).elim|refine Q1 ?_|refine Q2 ?_|refine Q3 hG aa dS ?_|refine Q4 hG aa dS ?_|refine Q5 hG aa ?_|refine Q6 hG aa ?_|refine Q7 hG aa ?_|refine Q8 hG aa ?_|refine Q9 rfl ?_|refine QF rfl ?_|refine QC rfl ⟨fun h=>?_,fun h=>?_⟩|((conv=>whnf); first|refine anF ?_|refine anT ?_|refine anK ?_|refine And.intro (fun h=>?_) (fun h=>?_)|refine Or.inl ?_)
   exact Ends.mk (Or.inl rfl) (ac (by rw [gH,List.take_of_length_le (by omega),← hr]; rfl))
end Go.Proofs
namespace Go.Proofs
open Go Go.AI
set_option maxRecDepth 10000
structure R5 where
 a:Int
 b:Int
 c:Int
 d:Int
 e:Int
def kd (x:R5):List AV:=[.int .i64 x.a,.int .i64 x.b,.int .i64 x.c,.int .i64 x.d,.int .i64 x.e]
def r50:R5:=⟨0,0,0,0,0⟩
def xm (x:R5):Prop:=inI x.a∧inI x.b∧inI x.c∧inI x.d∧inI x.e
def mQ (s0 m d n:Int) (ps:List am) (r:Int×List aV) (k:Nat):Int×List aV:=
 if (r.2.length:Int)<n∧(aB ps k).sat=s0∧max r.1 ((aB ps k).sa+d)+m≤(aB ps k).sb then
  (max r.1 ((aB ps k).sa+d)+m,r.2++[⟨(k:Int),max r.1 ((aB ps k).sa+d),max r.1 ((aB ps k).sa+d)+m⟩]) else r
def fh (s0 m d n:Int) (ps:List am) (t0:Int) (k:Nat):Int×List aV:=(List.range k).foldl (mQ s0 m d n ps) (t0,[])
theorem jL (s0 m d n:Int) (ps:List am) (t0:Int) (k:Nat):fh s0 m d n ps t0 (k+1)=mQ s0 m d n ps (fh s0 m d n ps t0 k) k:=by simp [fh,List.range_succ,List.foldl_append]
theorem mS {s0 m d n:Int} {ps:List am} {t0:Int} {k:Nat} (h:¬ ((fh s0 m d n ps t0 k).2.length:Int)<n):∀ j,fh s0 m d n ps t0 (k+j)=fh s0 m d n ps t0 k
 | 0=>rfl
 | j+1=>by
  rw [show k+(j+1)=(k+j)+1 from rfl,jL,mS h j]
  exact if_neg fun g=>h g.1
theorem mR {s0 m d n:Int} {ps:List am} {t0:Int} {k:Nat} (hk:k≤ps.length) (h:¬ ((fh s0 m d n ps t0 k).2.length:Int)<n):fh s0 m d n ps t0 ps.length=fh s0 m d n ps t0 k:=by
 have:=mS h (ps.length - k)
 rwa [show k+(ps.length - k)=ps.length by omega] at this
def m7 (s:Nat→Int) (ps:List am) (from_ id:Int) (x:R5):Opt:=
 ⟨id,ar x.e 4,0,s 0,from_+ar x.a 40,from_+ar x.a 40+1+ar x.b 5,ar x.c (2*s 9+1) - s 9,min (s 10) ((1+ar x.d 4)*s 20),
  (fh (s 0) (1+ar x.d 4) (ar (w64 (x.d.tdiv 4)) 3) (1+ar (w64 (x.e.tdiv 4)) 3) ps (from_+ar x.a 40+1+ar x.b 5) ps.length).2⟩
def gt (s:Nat→Int) (ps:List am) (o:Opt):Bool:=gq s&&bz ps&&dG s o ps
def dL (s:Nat→Int) (ps:List am) (from_ id:Int) (z:List R5):Nat→List Opt
 | 0=>[]
 | i+1=>dL s ps from_ id z i++if gt s ps (m7 s ps from_ (id+i) (z.getD i r50)) then [m7 s ps from_ (id+i) (z.getD i r50)] else []
def Am (s:Nat→Int) (ps:List am) (from_ id:Int) (z:List R5):List Opt:=dL s ps from_ id z (min z.length 5)
theorem mf (s:Nat→Int) (ps:List am) (from_ id:Int) (z:List R5):∀ i,(dL s ps from_ id z i).length≤i
 | 0=>Nat.le_refl _
 | i+1=>by
  have:=mf s ps from_ id z i
  simp only [dL,List.length_append]
  split <;> simp <;> omega
theorem AV.weak.agg {cs ds:List AV} (h:iU cs ds) (hd:∀ x∈ds,x.isCell=true):(AV.agg cs).weak (.agg ds):=by
 intro m v hv
 cases hv with
 | agg _ vs hl hc hr=>
  obtain ⟨h1,h2⟩:=h.spec
  refine .agg ds vs (by omega) hd fun i x u g1 g2=>?_
  have hi:i<cs.length:=by rw [h1]; exact (List.getElem?_eq_some_iff.1 g1).1
  exact h2 i _ x (List.getElem?_eq_getElem hi) g1 m u (hr i _ u (List.getElem?_eq_getElem hi) g2)
structure Hj (s:Nat→Int) (ps:List am) (from_ id:Int):Prop where
 w:0≤s 9∧s 9≤4
 st:1≤s 10∧s 10≤1000000
 rt:1≤s 20∧s 20≤1000
 f:0≤from_∧from_≤900000
 id:0≤id∧id≤50
 pl:ps.length≤64
 p:∀ p∈ps,0≤p.sa∧p.sa≤1000001∧0≤p.sb∧p.sb≤1000001
theorem wK {s:Nat→Int} {ps:List am} {p:Int} {a b c d e f g:Int}:gt s ps ⟨p,a,b,c,d,e,f,g,[]⟩=false:=by
 have:inS (([]:List aV).length:Int) 1 6=false:=by decide
 simp only [gt,dG,this,Bool.and_false,Bool.false_and]
set_option maxHeartbeats 16000000 in
theorem vX (s:Nat→Int) (ps:List am) (from_ id:Int) (z:List R5) (hH:Hj s ps from_ id) (hz:∀ x∈z,xm x):ae Tryz.prog 71 [.agg (aU s),al ps,.int .i64 from_,.int .i64 id,.sl .no 5 (z.map kd)] (aK (Am s ps from_ id z)):=by
 have hlm:((z.map kd).length:Int)=(z.length:Int):=by rw [List.length_map]
 have hw:=hH.w; have hst:=hH.st; have hrt:=hH.rt; have hf:=hH.f; have hid:=hH.id; have hpl:=hH.pl
 refine ag aa Tryz.func71 rfl (by kernel_rfl) af (Nat.le_of_ble_eq_true rfl) ?_
 intro F n' w0 m0 hG hro h1
 repeat' first|refine Q1 ?_|refine Q2 ?_|refine Q3 hG aa bf ?_|refine Q4 hG aa bf ?_|refine Q5 hG aa ?_|refine Q6 hG aa ?_|refine Q7 hG aa ?_|refine Q8 hG aa ?_|refine Q9 rfl ?_|refine QF rfl ?_|refine QC rfl ⟨fun h=>?_,fun h=>?_⟩|((conv=>whnf); first|refine anF ?_|refine anT ?_|refine anK ?_|refine And.intro (fun h=>?_) (fun h=>?_)|refine Or.inl ?_)
 refine ap (X:=Nat) (fun i=>⟨[(12,.int .i64 i),(11,(.sl (.id 11) 9 ((dL s ps from_ id z i).map aH))),(5,.loc 5 0),(4,.sl .no 5 (z.map kd)),(3,.int .i64 id),(2,.int .i64 from_),(1,al ps)],[(5,aU s)]⟩) (fun i=>i≤z.length∧i≤5) (fun i=>z.length - i) 0 ⟨Nat.zero_le _,Nat.zero_le _⟩ (ah ?_ ?_) (fun i hx=>?_)
 ·repeat' (first | exact trivial | refine And.intro rfl ?_)
 ·repeat' (first | exact trivial | refine And.intro rfl ?_)
 ·obtain ⟨hi,h6⟩:=hx
  have hol:=mf s ps from_ id z i
  by_cases hlt_i:i<z.length
  ·by_cases h5:i<5
   ·have b1:decide ((i:Int)<((z.map kd).length:Int))=false→False:=fun h=>by have:=of_decide_eq_false h; omega
    have b2:decide ((i:Int)<5)=false→False:=fun h=>by have:=of_decide_eq_false h; omega
    have hx:=fO (f:=kd) r50 hlt_i
    have hxi:xm (z.getD i r50):=hz _ (by rw [List.getD_eq_getElem?_getD,List.getElem?_eq_getElem hlt_i]; exact List.getElem_mem hlt_i)
    have hon:dL s ps from_ id z (i+1)=dL s ps from_ id z i++if gt s ps (m7 s ps from_ (id+i) (z.getD i r50)) then [m7 s ps from_ (id+i) (z.getD i r50)] else []:=rfl
    generalize z.getD i r50=x at hx hxi hon
    have p1:=aM hxi.1 (n:=40) (by omega)
    have p2:=aM hxi.2.1 (n:=5) (by omega)
    have p3:=aM hxi.2.2.1 (n:=2*s 9+1) (by omega)
    have p4:=aM hxi.2.2.2.1 (n:=4) (by omega)
    have p5:=aM (mJ (x.d.tdiv 4)) (n:=3) (by omega)
    have p6:=aM (mJ (x.e.tdiv 4)) (n:=3) (by omega)
    have cE:=d4 (w64 (x.e.tdiv 4)) 3 (by decide)
    have cD:=d4 (w64 (x.d.tdiv 4)) 3 (by decide)
    have wc:IntKind.i64.wrap (IntKind.i64.wrap (2*s 9)+1)=2*s 9+1:=by rw [show IntKind.i64.wrap (2*s 9)=2*s 9 from ai (by omega) (by omega)]; exact ai (by omega) (by omega)
    have cC:ae Tryz.prog 143 [.int .i64 x.c,.int .i64 (IntKind.i64.wrap (IntKind.i64.wrap (2*s 9)+1))] (.int .i64 (ar x.c (2*s 9+1))):=by
     have h:=d4 x.c (IntKind.i64.wrap (IntKind.i64.wrap (2*s 9)+1)) (by rw [wc]; omega)
     rw [wc] at h ⊢
     exact h
    have c1:=d4 x.a 40 (by decide)
    have c2:=d4 x.b 5 (by decide)
    have c4:=d4 x.d 4 (by decide)
    have hmkv:m7 s ps from_ (id+i) x=⟨id+i,ar x.e 4,0,s 0,from_+ar x.a 40,from_+ar x.a 40+1+ar x.b 5,ar x.c (2*s 9+1) - s 9,min (s 10) ((1+ar x.d 4)*s 20),
  (fh (s 0) (1+ar x.d 4) (ar (w64 (x.d.tdiv 4)) 3) (1+ar (w64 (x.e.tdiv 4)) 3) ps (from_+ar x.a 40+1+ar x.b 5) ps.length).2⟩:=rfl
    generalize ar x.a 40=pa at *
    generalize ar x.b 5=pb at *
    generalize ar x.c (2*s 9+1)=pc at *
    generalize ar x.d 4=pd at *
    generalize ar (w64 (x.d.tdiv 4)) 3=dd at *
    generalize ar (w64 (x.e.tdiv 4)) 3=nn at *
    have hm0:0≤(1+pd)*s 20:=Int.mul_nonneg (by omega) (by omega)
    have hm1:(1+pd)*s 20≤4*1000:=Int.mul_le_mul (by omega) (by omega) (by omega) (by omega)
    have w1:IntKind.i64.wrap (id+(i:Int))=id+i:=ai (by omega) (by omega)
    have w2:IntKind.i64.wrap (from_+pa)=from_+pa:=ai (by omega) (by omega)
    have w3:IntKind.i64.wrap (from_+pa+1)=from_+pa+1:=ai (by omega) (by omega)
    have w4:IntKind.i64.wrap (from_+pa+1+pb)=from_+pa+1+pb:=ai (by omega) (by omega)
    have w5:IntKind.i64.wrap (pc - s 9)=pc - s 9:=ai (by omega) (by omega)
    have w6:IntKind.i64.wrap (1+pd)=1+pd:=ai (by omega) (by omega)
    have w7:IntKind.i64.wrap ((1+pd)*s 20)=(1+pd)*s 20:=ai (by omega) (by omega)
    have w8:IntKind.i64.wrap (1+nn)=1+nn:=ai (by omega) (by omega)
    have hcell:([.int .i64 (IntKind.i64.wrap (id+(i:Int))),.int .i64 (ar x.e 4),.int .i64 0,.int .i64 (s 0),.int .i64 (IntKind.i64.wrap (from_+pa)),.int .i64 (IntKind.i64.wrap (IntKind.i64.wrap (IntKind.i64.wrap (from_+pa)+1)+pb)),.int .i64 (IntKind.i64.wrap (pc - s 9)),.int .i64 (min (s 10) (IntKind.i64.wrap (IntKind.i64.wrap (1+pd)*s 20))),.sl .full 0 []]:List AV)=[.int .i64 (id+(i:Int)),.int .i64 (ar x.e 4),.int .i64 0,.int .i64 (s 0),.int .i64 (from_+pa),.int .i64 (from_+pa+1+pb),.int .i64 (pc - s 9),.int .i64 (min (s 10) ((1+pd)*s 20)),.sl .full 0 []]:=by rw [w1,w2,w3,w4,w5,w6,w7]
    have h15:0≤from_+pa+1+pb∧from_+pa+1+pb≤1900000:=by omega
    have he15:IntKind.i64.wrap (IntKind.i64.wrap (IntKind.i64.wrap (from_+pa)+1)+pb)=from_+pa+1+pb:=by rw [w2,w3,w4]
    repeat' first|exact (b1 (by assumption)).elim|exact (b2 (by assumption)).elim|refine Q1 ?_|refine Q2 ?_|refine Q3 hG aa bf ?_|refine Q4 hG aa bf ?_|refine Q5 hG aa ?_|refine Q6 hG aa ?_|refine Q7 hG aa ?_|refine Q8 hG aa ?_|refine Q9 rfl ?_|refine QF rfl ?_|refine QC rfl ⟨fun h=>?_,fun h=>?_⟩|((conv=>whnf); first|refine anF ?_|refine anT ?_|refine anK ?_|refine And.intro (Int.natCast_nonneg i) (Exists.intro _ (And.intro hx ?_))|refine Exists.intro _ (And.intro (cC) ?_)|refine Exists.intro _ (And.intro (c1) ?_)|refine Exists.intro _ (And.intro (c2) ?_)|refine Exists.intro _ (And.intro (c4) ?_)|refine Exists.intro _ (And.intro (d4 _ _ (by decide)) ?_)|refine And.intro (by decide) ?_|refine And.intro (fun h=>?_) (fun h=>?_)|refine Or.inl ?_)
    have cPf:∀ sl:List aV,sl.length≤64→ae Tryz.prog 31 [.agg (aU s),.agg [.int .i64 (id+(i:Int)),.int .i64 (ar x.e 4),.int .i64 0,.int .i64 (s 0),.int .i64 (from_+pa),.int .i64 (from_+pa+1+pb),.int .i64 (pc - s 9),.int .i64 (min (s 10) ((1+pd)*s 20)),vg sl],al ps] (.bool (gt s ps ⟨id+i,ar x.e 4,0,s 0,from_+pa,from_+pa+1+pb,pc - s 9,min (s 10) ((1+pd)*s 20),sl⟩)):=fun sl h=>nI s ⟨id+(i:Int),ar x.e 4,0,s 0,from_+pa,from_+pa+1+pb,pc - s 9,min (s 10) ((1+pd)*s 20),sl⟩ ps (Nat.le_trans h (by decide)) (by omega)
    refine ap (X:=Nat×Int×List aV×AV) (fun y=>⟨[(16,.int .i64 y.1),(15,.int .i64 y.2.1),(14,.int .i64 (1+pd)),(13,.loc 13 0),(12,.int .i64 i),(11,(.sl (.id 11) 9 ((dL s ps from_ id z i).map aH))),(5,.loc 5 0),(4,.sl .no 5 (z.map kd)),(3,.int .i64 id),(2,.int .i64 from_),(1,al ps)],[(13,[.int .i64 (id+(i:Int)),.int .i64 (ar x.e 4),.int .i64 0,.int .i64 (s 0),.int .i64 (from_+pa),.int .i64 (from_+pa+1+pb),.int .i64 (pc - s 9),.int .i64 (min (s 10) ((1+pd)*s 20)),y.2.2.2]),(5,aU s)]⟩) (fun y=>y.1≤ps.length∧(y.2.1,y.2.2.1)=fh (s 0) (1+pd) dd (1+nn) ps (from_+pa+1+pb) y.1∧(0≤y.2.1∧y.2.1≤1900000)∧y.2.2.1.length≤y.1∧((y.2.2.1=[]∧y.2.2.2 = .sl .full 0 [])∨y.2.2.2 = .sl (.id 160) 3 (y.2.2.1.map ay))) (fun y=>ps.length - y.1) (0,from_+pa+1+pb,[],.sl .full 0 []) ⟨Nat.zero_le _,rfl,h15,Nat.le_refl _,.inl ⟨rfl,rfl⟩⟩ (ah ?_ ?_) (fun y hy=>?_)
    ·refine And.intro rfl (And.intro (congrArg (fun z=>some (AV.int .i64 z)) he15) (And.intro (congrArg (fun z=>some (AV.int .i64 z)) w6) ?_))
     repeat' (first | exact trivial | refine And.intro rfl ?_)
    ·refine And.intro (congrArg some hcell) ?_
     repeat' (first | exact trivial | refine And.intro rfl ?_)
    ·obtain ⟨k,en,sl,cell⟩:=y
     obtain ⟨hk,hr,hen,hsl,hc⟩:=hy
     simp only at hk hr hen hsl hc ⊢
     rcases hc with ⟨rfl,rfl⟩ | rfl
     ·have cP:ae Tryz.prog 31 [.agg (aU s),.agg [.int .i64 (id+(i:Int)),.int .i64 (ar x.e 4),.int .i64 0,.int .i64 (s 0),.int .i64 (from_+pa),.int .i64 (from_+pa+1+pb),.int .i64 (pc - s 9),.int .i64 (min (s 10) ((1+pd)*s 20)),.sl .full 0 []],al ps] (.bool (gt s ps ⟨id+(i:Int),ar x.e 4,0,s 0,from_+pa,from_+pa+1+pb,pc - s 9,min (s 10) ((1+pd)*s 20),([]:List aV)⟩)):=(cPf [] (by simp)).weak (.cons (.refl _) (.cons (AV.weak.agg (.cons (.refl _) (.cons (.refl _) (.cons (.refl _) (.cons (.refl _) (.cons (.refl _) (.cons (.refl _) (.cons (.refl _) (.cons (.refl _) (.cons AV.weak.slnil .nil))))))))) (by intro y hy; simp at hy; rcases hy with rfl | rfl | rfl | rfl | rfl | rfl | rfl | rfl | rfl <;> rfl)) (.refl _)))
      by_cases hlt_k:k<ps.length
      ·have bbk:decide ((k:Int)<((ps.map aL).length:Int))=false→False:=fun h=>by have:=of_decide_eq_false h; simp at this; omega
       have hy:=mZ hlt_k
       have hqb:=hH.p (aB ps k) (by rw [eu hlt_k]; exact List.getElem_mem hlt_k)
       have hrn:=jL (s 0) (1+pd) dd (1+nn) ps (from_+pa+1+pb) k
       rw [← hr,mQ] at hrn
       simp only at hrn
       have hstop:¬ ((([]:List aV):List aV).length:Int)<1+nn→m7 s ps from_ (id+i) x=⟨id+(i:Int),ar x.e 4,0,s 0,from_+pa,from_+pa+1+pb,pc - s 9,min (s 10) ((1+pd)*s 20),([]:List aV)⟩:=fun h=>by
        have h2:=mR hk (s0:=s 0) (m:=1+pd) (d:=dd) (n:=1+nn) (t0:=from_+pa+1+pb) (by rw [← hr]; exact h)
        rw [hmkv,h2,← hr]
       generalize aB ps k=q at hy hqb hrn
       have v1:IntKind.i64.wrap (q.sa+dd)=q.sa+dd:=ai (by omega) (by omega)
       have v2:IntKind.i64.wrap (max en (q.sa+dd)+(1+pd))=max en (q.sa+dd)+(1+pd):=ai (by omega) (by omega)
       have e15:IntKind.i64.wrap (max en (IntKind.i64.wrap (q.sa+dd))+(1+pd))=max en (q.sa+dd)+(1+pd):=by rw [v1,v2]
       have e13:([]:List (List AV))++[[.int .i64 (k:Int),.int .i64 (max en (IntKind.i64.wrap (q.sa+dd))),.int .i64 (IntKind.i64.wrap (max en (IntKind.i64.wrap (q.sa+dd))+(1+pd)))]]=(([]:List aV)++[(⟨(k:Int),max en (q.sa+dd),max en (q.sa+dd)+(1+pd)⟩:aV)]).map ay:=by rw [v1,v2]; simp [ay]
       repeat' first|exact (bbk (by assumption)).elim|refine Q1 ?_|refine Q2 ?_|refine Q3 hG aa bf ?_|refine Q4 hG aa bf ?_|refine Q5 hG aa ?_|refine Q6 hG aa ?_|refine Q7 hG aa ?_|refine Q8 hG aa ?_|refine Q9 rfl ?_|refine QF rfl ?_|refine QC rfl ⟨fun h=>?_,fun h=>?_⟩|((conv=>whnf); first|refine anF ?_|refine anT ?_|refine anK ?_|refine And.intro (Int.natCast_nonneg k) (Exists.intro _ (And.intro hy ?_))|refine And.intro (Int.natCast_nonneg i) (Exists.intro _ (And.intro hx ?_))|refine Exists.intro _ (And.intro (cE) ?_)|refine Exists.intro _ (And.intro (cD) ?_)|refine And.intro (by decide) ?_|refine And.intro (Nat.le_of_ble_eq_true rfl) (And.intro (Nat.le_of_ble_eq_true rfl) ?_)|refine Exists.intro _ (And.intro (cP) ?_)|refine And.intro (show (((dL s ps from_ id z i).map aH).length+1)*88≤70368744177664 by rw [List.length_map]; omega) (And.intro (show ((dL s ps from_ id z i).map aH).length+1≤4611686018427387904 by rw [List.length_map]; omega) ?_)|refine And.intro (fun h=>?_) (fun h=>?_)|refine Or.inl ?_)
       all_goals first
        |(conv=>whnf
          refine Exists.intro (k+1,max en (q.sa+dd)+(1+pd),([]:List aV)++[(⟨(k:Int),max en (q.sa+dd),max en (q.sa+dd)+(1+pd)⟩:aV)],AV.sl (.id 160) 3 ((([]:List aV)++[(⟨(k:Int),max en (q.sa+dd),max en (q.sa+dd)+(1+pd)⟩:aV)]).map ay)) (And.intro ⟨hlt_k,?_,?_,?_,.inr rfl⟩ (And.intro (by show ps.length - (k+1)<ps.length - k; omega) (ah ?_ ?_)))
          ·rw [hrn]; symm; apply if_pos; clear hG hcell hmkv hon hx hy cP cPf hstop e13 cE cD cC c1 c2 c4 w1 w2 w3 w4 w5 w6 w7 wc he15 hm0 hm1 hH hz hxi hlm; (try simp only [cond_true,cond_false] at *); grind
          ·clear hG hcell hmkv hon hx hy cP cPf hstop e13 cE cD cC c1 c2 c4 w1 w2 w3 w4 w5 w6 w7 wc he15 hm0 hm1 hH hz hxi hlm; (try simp only [cond_true,cond_false] at *); grind
          ·simp <;> omega
          ·refine And.intro (congrArg some (ao (by omega))) (And.intro (congrArg (fun z=>some (AV.int .i64 z)) e15) ?_)
           repeat' (first | exact trivial | refine And.intro rfl ?_)
          ·refine And.intro (congrArg (fun z=>some ([.int .i64 (id+(i:Int)),.int .i64 (ar x.e 4),.int .i64 0,.int .i64 (s 0),.int .i64 (from_+pa),.int .i64 (from_+pa+1+pb),.int .i64 (pc - s 9),.int .i64 (min (s 10) ((1+pd)*s 20)),AV.sl (.id 160) 3 z]:List AV)) e13) ?_
           repeat' (first | exact trivial | refine And.intro rfl ?_))
        |(conv=>whnf
          refine Exists.intro (k+1,en,([]:List aV),.sl .full 0 []) (And.intro ⟨hlt_k,?_,hen,?_,.inl ⟨rfl,rfl⟩⟩ (And.intro (by show ps.length - (k+1)<ps.length - k; omega) (ah ?_ ?_)))
          ·rw [hrn]; symm; apply if_neg; clear hG hcell hmkv hon hx hy cP cPf hstop e13 cE cD cC c1 c2 c4 w1 w2 w3 w4 w5 w6 w7 wc he15 hm0 hm1 hH hz hxi hlm; (try simp only [cond_true,cond_false] at *); grind
          ·exact Nat.le_succ_of_le hsl
          ·refine And.intro (congrArg some (ao (by omega))) ?_
           repeat' (first | exact trivial | refine And.intro rfl ?_)
          ·repeat' (first | exact trivial | refine And.intro rfl ?_))
        | skip
       all_goals have hmk:=hstop (by clear hG hcell hmkv hon hx hy cP cPf hstop e13 cE cD cC c1 c2 c4 w1 w2 w3 w4 w5 w6 w7 wc he15 hm0 hm1 hH hz hxi hlm; (try simp only [cond_true,cond_false] at *); grind)
       all_goals first
        |(exact absurd (by assumption:gt s ps _=true) (by rw [wK]; simp))
        |(have hpr:=(by assumption:gt s ps _=false)
          conv=>whnf
          refine Exists.intro (i+1) (And.intro ⟨hlt_i,h5⟩ (And.intro (by omega) (ah ?_ ?_)))
          ·refine And.intro (congrArg some (ao (by omega))) (And.intro (congrArg (fun z=>some (AV.sl (.id 11) 9 z)) ?_) ?_)
           ·rw [hon,hmk,if_neg (by rw [hpr]; simp),List.append_nil]
           ·repeat' (first | exact trivial | refine And.intro rfl ?_)
          ·repeat' (first | exact trivial | refine And.intro rfl ?_))
      ·have bbk:decide ((k:Int)<((ps.map aL).length:Int))=true→False:=fun h=>by have:=of_decide_eq_true h; simp at this; omega
       have he:k=ps.length:=by omega
       have hmk:m7 s ps from_ (id+i) x=⟨id+(i:Int),ar x.e 4,0,s 0,from_+pa,from_+pa+1+pb,pc - s 9,min (s 10) ((1+pd)*s 20),([]:List aV)⟩:=by rw [hmkv,← he,← hr]
       repeat' first|exact (bbk (by assumption)).elim|refine Q1 ?_|refine Q2 ?_|refine Q3 hG aa bf ?_|refine Q4 hG aa bf ?_|refine Q5 hG aa ?_|refine Q6 hG aa ?_|refine Q7 hG aa ?_|refine Q8 hG aa ?_|refine Q9 rfl ?_|refine QF rfl ?_|refine QC rfl ⟨fun h=>?_,fun h=>?_⟩|((conv=>whnf); first|refine anF ?_|refine anT ?_|refine anK ?_|refine Exists.intro _ (And.intro (cP) ?_)|refine And.intro (show (((dL s ps from_ id z i).map aH).length+1)*88≤70368744177664 by rw [List.length_map]; omega) (And.intro (show ((dL s ps from_ id z i).map aH).length+1≤4611686018427387904 by rw [List.length_map]; omega) ?_)|refine And.intro (fun h=>?_) (fun h=>?_)|refine Or.inl ?_)
       all_goals first
        |(exact absurd (by assumption:gt s ps _=true) (by rw [wK]; simp))
        |(have hpr:=(by assumption:gt s ps _=false)
          conv=>whnf
          refine Exists.intro (i+1) (And.intro ⟨hlt_i,h5⟩ (And.intro (by omega) (ah ?_ ?_)))
          ·refine And.intro (congrArg some (ao (by omega))) (And.intro (congrArg (fun z=>some (AV.sl (.id 11) 9 z)) ?_) ?_)
           ·rw [hon,hmk,if_neg (by rw [hpr]; simp),List.append_nil]
           ·repeat' (first | exact trivial | refine And.intro rfl ?_)
          ·repeat' (first | exact trivial | refine And.intro rfl ?_))
     ·have cP:ae Tryz.prog 31 [.agg (aU s),.agg [.int .i64 (id+(i:Int)),.int .i64 (ar x.e 4),.int .i64 0,.int .i64 (s 0),.int .i64 (from_+pa),.int .i64 (from_+pa+1+pb),.int .i64 (pc - s 9),.int .i64 (min (s 10) ((1+pd)*s 20)),.sl .no 3 (sl.map ay)],al ps] (.bool (gt s ps ⟨id+(i:Int),ar x.e 4,0,s 0,from_+pa,from_+pa+1+pb,pc - s 9,min (s 10) ((1+pd)*s 20),sl⟩)):=cPf sl (by omega)
      by_cases hlt_k:k<ps.length
      ·have bbk:decide ((k:Int)<((ps.map aL).length:Int))=false→False:=fun h=>by have:=of_decide_eq_false h; simp at this; omega
       have hy:=mZ hlt_k
       have hqb:=hH.p (aB ps k) (by rw [eu hlt_k]; exact List.getElem_mem hlt_k)
       have hrn:=jL (s 0) (1+pd) dd (1+nn) ps (from_+pa+1+pb) k
       rw [← hr,mQ] at hrn
       simp only at hrn
       have hstop:¬ ((sl:List aV).length:Int)<1+nn→m7 s ps from_ (id+i) x=⟨id+(i:Int),ar x.e 4,0,s 0,from_+pa,from_+pa+1+pb,pc - s 9,min (s 10) ((1+pd)*s 20),sl⟩:=fun h=>by
        have h2:=mR hk (s0:=s 0) (m:=1+pd) (d:=dd) (n:=1+nn) (t0:=from_+pa+1+pb) (by rw [← hr]; exact h)
        rw [hmkv,h2,← hr]
       generalize aB ps k=q at hy hqb hrn
       have v1:IntKind.i64.wrap (q.sa+dd)=q.sa+dd:=ai (by omega) (by omega)
       have v2:IntKind.i64.wrap (max en (q.sa+dd)+(1+pd))=max en (q.sa+dd)+(1+pd):=ai (by omega) (by omega)
       have e15:IntKind.i64.wrap (max en (IntKind.i64.wrap (q.sa+dd))+(1+pd))=max en (q.sa+dd)+(1+pd):=by rw [v1,v2]
       have e13:sl.map ay++[[.int .i64 (k:Int),.int .i64 (max en (IntKind.i64.wrap (q.sa+dd))),.int .i64 (IntKind.i64.wrap (max en (IntKind.i64.wrap (q.sa+dd))+(1+pd)))]]=(sl++[(⟨(k:Int),max en (q.sa+dd),max en (q.sa+dd)+(1+pd)⟩:aV)]).map ay:=by rw [v1,v2]; simp [ay]
       repeat' first|exact (bbk (by assumption)).elim|refine Q1 ?_|refine Q2 ?_|refine Q3 hG aa bf ?_|refine Q4 hG aa bf ?_|refine Q5 hG aa ?_|refine Q6 hG aa ?_|refine Q7 hG aa ?_|refine Q8 hG aa ?_|refine Q9 rfl ?_|refine QF rfl ?_|refine QC rfl ⟨fun h=>?_,fun h=>?_⟩|((conv=>whnf); first|refine anF ?_|refine anT ?_|refine anK ?_|refine And.intro (Int.natCast_nonneg k) (Exists.intro _ (And.intro hy ?_))|refine And.intro (Int.natCast_nonneg i) (Exists.intro _ (And.intro hx ?_))|refine Exists.intro _ (And.intro (cE) ?_)|refine Exists.intro _ (And.intro (cD) ?_)|refine And.intro (by decide) ?_|refine And.intro (show ((sl.map ay).length+1)*24≤70368744177664 by rw [List.length_map]; omega) (And.intro (show (sl.map ay).length+1≤4611686018427387904 by rw [List.length_map]; omega) ?_)|refine Exists.intro _ (And.intro (cP) ?_)|refine And.intro (show (((dL s ps from_ id z i).map aH).length+1)*88≤70368744177664 by rw [List.length_map]; omega) (And.intro (show ((dL s ps from_ id z i).map aH).length+1≤4611686018427387904 by rw [List.length_map]; omega) ?_)|refine And.intro (fun h=>?_) (fun h=>?_)|refine Or.inl ?_)
       all_goals first
        |(conv=>whnf
          refine Exists.intro (k+1,max en (q.sa+dd)+(1+pd),sl++[(⟨(k:Int),max en (q.sa+dd),max en (q.sa+dd)+(1+pd)⟩:aV)],AV.sl (.id 160) 3 ((sl++[(⟨(k:Int),max en (q.sa+dd),max en (q.sa+dd)+(1+pd)⟩:aV)]).map ay)) (And.intro ⟨hlt_k,?_,?_,?_,.inr rfl⟩ (And.intro (by show ps.length - (k+1)<ps.length - k; omega) (ah ?_ ?_)))
          ·rw [hrn]; symm; apply if_pos; clear hG hcell hmkv hon hx hy cP cPf hstop e13 cE cD cC c1 c2 c4 w1 w2 w3 w4 w5 w6 w7 wc he15 hm0 hm1 hH hz hxi hlm; (try simp only [cond_true,cond_false] at *); grind
          ·clear hG hcell hmkv hon hx hy cP cPf hstop e13 cE cD cC c1 c2 c4 w1 w2 w3 w4 w5 w6 w7 wc he15 hm0 hm1 hH hz hxi hlm; (try simp only [cond_true,cond_false] at *); grind
          ·simp <;> omega
          ·refine And.intro (congrArg some (ao (by omega))) (And.intro (congrArg (fun z=>some (AV.int .i64 z)) e15) ?_)
           repeat' (first | exact trivial | refine And.intro rfl ?_)
          ·refine And.intro (congrArg (fun z=>some ([.int .i64 (id+(i:Int)),.int .i64 (ar x.e 4),.int .i64 0,.int .i64 (s 0),.int .i64 (from_+pa),.int .i64 (from_+pa+1+pb),.int .i64 (pc - s 9),.int .i64 (min (s 10) ((1+pd)*s 20)),AV.sl (.id 160) 3 z]:List AV)) e13) ?_
           repeat' (first | exact trivial | refine And.intro rfl ?_))
        |(conv=>whnf
          refine Exists.intro (k+1,en,sl,.sl (.id 160) 3 (sl.map ay)) (And.intro ⟨hlt_k,?_,hen,?_,.inr rfl⟩ (And.intro (by show ps.length - (k+1)<ps.length - k; omega) (ah ?_ ?_)))
          ·rw [hrn]; symm; apply if_neg; clear hG hcell hmkv hon hx hy cP cPf hstop e13 cE cD cC c1 c2 c4 w1 w2 w3 w4 w5 w6 w7 wc he15 hm0 hm1 hH hz hxi hlm; (try simp only [cond_true,cond_false] at *); grind
          ·exact Nat.le_succ_of_le hsl
          ·refine And.intro (congrArg some (ao (by omega))) ?_
           repeat' (first | exact trivial | refine And.intro rfl ?_)
          ·repeat' (first | exact trivial | refine And.intro rfl ?_))
        | skip
       all_goals have hmk:=hstop (by clear hG hcell hmkv hon hx hy cP cPf hstop e13 cE cD cC c1 c2 c4 w1 w2 w3 w4 w5 w6 w7 wc he15 hm0 hm1 hH hz hxi hlm; (try simp only [cond_true,cond_false] at *); grind)
       all_goals first
        |(have hpr:=(by assumption:gt s ps ⟨id+(i:Int),ar x.e 4,0,s 0,from_+pa,from_+pa+1+pb,pc - s 9,min (s 10) ((1+pd)*s 20),sl⟩=true)
          conv=>whnf
          refine Exists.intro (i+1) (And.intro ⟨hlt_i,h5⟩ (And.intro (by omega) (ah ?_ ?_)))
          ·refine And.intro (congrArg some (ao (by omega))) (And.intro (congrArg (fun z=>some (AV.sl (.id 11) 9 z)) ?_) ?_)
           ·rw [hon,hmk,if_pos hpr,List.map_append]; rfl
           ·repeat' (first | exact trivial | refine And.intro rfl ?_)
          ·repeat' (first | exact trivial | refine And.intro rfl ?_))
        |(have hpr:=(by assumption:gt s ps _=false)
          conv=>whnf
          refine Exists.intro (i+1) (And.intro ⟨hlt_i,h5⟩ (And.intro (by omega) (ah ?_ ?_)))
          ·refine And.intro (congrArg some (ao (by omega))) (And.intro (congrArg (fun z=>some (AV.sl (.id 11) 9 z)) ?_) ?_)
           ·rw [hon,hmk,if_neg (by rw [hpr]; simp),List.append_nil]
           ·repeat' (first | exact trivial | refine And.intro rfl ?_)
          ·repeat' (first | exact trivial | refine And.intro rfl ?_))
      ·have bbk:decide ((k:Int)<((ps.map aL).length:Int))=true→False:=fun h=>by have:=of_decide_eq_true h; simp at this; omega
       have he:k=ps.length:=by omega
       have hmk:m7 s ps from_ (id+i) x=⟨id+(i:Int),ar x.e 4,0,s 0,from_+pa,from_+pa+1+pb,pc - s 9,min (s 10) ((1+pd)*s 20),sl⟩:=by rw [hmkv,← he,← hr]
       repeat' first|exact (bbk (by assumption)).elim|refine Q1 ?_|refine Q2 ?_|refine Q3 hG aa bf ?_|refine Q4 hG aa bf ?_|refine Q5 hG aa ?_|refine Q6 hG aa ?_|refine Q7 hG aa ?_|refine Q8 hG aa ?_|refine Q9 rfl ?_|refine QF rfl ?_|refine QC rfl ⟨fun h=>?_,fun h=>?_⟩|((conv=>whnf); first|refine anF ?_|refine anT ?_|refine anK ?_|refine Exists.intro _ (And.intro (cP) ?_)|refine And.intro (show (((dL s ps from_ id z i).map aH).length+1)*88≤70368744177664 by rw [List.length_map]; omega) (And.intro (show ((dL s ps from_ id z i).map aH).length+1≤4611686018427387904 by rw [List.length_map]; omega) ?_)|refine And.intro (fun h=>?_) (fun h=>?_)|refine Or.inl ?_)
       all_goals first
        |(have hpr:=(by assumption:gt s ps ⟨id+(i:Int),ar x.e 4,0,s 0,from_+pa,from_+pa+1+pb,pc - s 9,min (s 10) ((1+pd)*s 20),sl⟩=true)
          conv=>whnf
          refine Exists.intro (i+1) (And.intro ⟨hlt_i,h5⟩ (And.intro (by omega) (ah ?_ ?_)))
          ·refine And.intro (congrArg some (ao (by omega))) (And.intro (congrArg (fun z=>some (AV.sl (.id 11) 9 z)) ?_) ?_)
           ·rw [hon,hmk,if_pos hpr,List.map_append]; rfl
           ·repeat' (first | exact trivial | refine And.intro rfl ?_)
          ·repeat' (first | exact trivial | refine And.intro rfl ?_))
        |(have hpr:=(by assumption:gt s ps _=false)
          conv=>whnf
          refine Exists.intro (i+1) (And.intro ⟨hlt_i,h5⟩ (And.intro (by omega) (ah ?_ ?_)))
          ·refine And.intro (congrArg some (ao (by omega))) (And.intro (congrArg (fun z=>some (AV.sl (.id 11) 9 z)) ?_) ?_)
           ·rw [hon,hmk,if_neg (by rw [hpr]; simp),List.append_nil]
           ·repeat' (first | exact trivial | refine And.intro rfl ?_)
          ·repeat' (first | exact trivial | refine And.intro rfl ?_))
   ·have b2:decide ((i:Int)<5)=true→False:=fun h=>by have:=of_decide_eq_true h; omega
    have b1:decide ((i:Int)<((z.map kd).length:Int))=false→False:=fun h=>by have:=of_decide_eq_false h; omega
    have he:i=5:=by omega
    subst he
    repeat' first|exact (b1 (by assumption)).elim|exact (b2 (by assumption)).elim|refine Q1 ?_|refine Q2 ?_|refine Q3 hG aa bf ?_|refine Q4 hG aa bf ?_|refine Q5 hG aa ?_|refine Q6 hG aa ?_|refine Q7 hG aa ?_|refine Q8 hG aa ?_|refine Q9 rfl ?_|refine QF rfl ?_|refine QC rfl ⟨fun h=>?_,fun h=>?_⟩|((conv=>whnf); first|refine anF ?_|refine anT ?_|refine anK ?_|refine And.intro (fun h=>?_) (fun h=>?_)|refine Or.inl ?_)
    exact Ends.mk (Or.inl rfl) (ac (by rw [Am,Nat.min_eq_right (by omega)]; rfl))
  ·have b1:decide ((i:Int)<((z.map kd).length:Int))=true→False:=fun h=>by have:=of_decide_eq_true h; omega
   have he:i=z.length:=by omega
   repeat' first|exact (b1 (by assumption)).elim|refine Q1 ?_|refine Q2 ?_|refine Q3 hG aa bf ?_|refine Q4 hG aa bf ?_|refine Q5 hG aa ?_|refine Q6 hG aa ?_|refine Q7 hG aa ?_|refine Q8 hG aa ?_|refine Q9 rfl ?_|refine QF rfl ?_|refine QC rfl ⟨fun h=>?_,fun h=>?_⟩|((conv=>whnf); first|refine anF ?_|refine anT ?_|refine anK ?_|refine And.intro (fun h=>?_) (fun h=>?_)|refine Or.inl ?_)
   exact Ends.mk (Or.inl rfl) (ac (by rw [Am,Nat.min_eq_left (by omega),← he]; rfl))
end Go.Proofs
namespace Go.Proofs
open Go Go.AI
structure bX where
 x:Nat→Int
 y:Nat→Int
 z:List (Int×Int×Int)
 v:List R5
 from_:Int
 hx:∀ i,inI (x i)
 hy:∀ i,inI (y i)
 hz:∀ r∈z,sC r
 hv:∀ r∈v,xm r
 hf:inI from_
namespace bX
def s (c:bX):Nat→Int:=Gu c.x c.y
def bc (c:bX):kh:=⟨c.x,c.y,[],c.from_,0,c.hx,c.hy,by simp,c.hf,by unfold inI; omega⟩
end bX
theorem bX.sat (c:bX):gq c.s=true:=c.bc.sat
theorem bX.s0 (c:bX):c.s 0=3:=by show ar 3 24=3; decide
theorem Ab {s:Nat→Int} (h:gq s=true):(0≤s 9∧s 9≤4)∧(1≤s 10∧s 10≤1000000)∧(1≤s 20∧s 20≤1000)∧(0≤s 19∧s 19≤60)∧(1≤s 11∧s 11≤1000000)∧(1≤s 18∧s 18≤1000000)∧(0≤s 17∧s 17≤10000)∧(0≤s 16∧s 16≤10000):=by
 simp only [gq,inS,Bool.and_eq_true,decide_eq_true_eq] at h
 omega
theorem mj {s:Nat→Int} {ps:List am} {a b:Int}:∀ (l pre:List Opt),dM s ps a b pre l=true↔(∀ o∈l,dG s o ps=true∧a≤o.a∧fE o≤b)∧l.Pairwise (fun x y=>x.id≠y.id)∧∀ p∈pre,∀ o∈l,p.id≠o.id
 | [],pre=>by simp [dM]
 | x::r,pre=>by
  rw [dM,Bool.and_eq_true,mj r (pre++[x]),jr]
  simp only [Bool.and_eq_true,Bool.not_eq_true',decide_eq_false_iff_not,List.any_eq_false,beq_iff_eq,List.mem_cons,List.pairwise_cons,forall_eq_or_imp,List.mem_append,List.not_mem_nil,or_false]
  constructor
  ·rintro ⟨⟨⟨⟨g1,g2⟩,g3⟩,g4⟩,g5,g6,g7⟩
   exact ⟨⟨⟨g1,by omega,by omega⟩,g5⟩,⟨fun y hy=>g7 x (.inr rfl) y hy,g6⟩,fun p hp=>⟨fun e=>g4 p hp e,fun y hy=>g7 p (.inl hp) y hy⟩⟩
  ·rintro ⟨⟨⟨g1,g2,g3⟩,g5⟩,⟨g6,g7⟩,g8⟩
   refine ⟨⟨⟨⟨g1,by omega⟩,by omega⟩,fun p hp e=>(g8 p hp).1 e⟩,g5,g7,fun p hp y hy=>?_⟩
   rcases hp with hp | rfl
   ·exact (g8 p hp).2 y hy
   ·exact g6 y hy
theorem ba {s:Nat→Int} {l:List Opt} {ps:List am} {a b:Int}:aY s l ps a b=true↔l.length≤8∧(0≤a∧a<b∧b≤1000000)∧b - a≤3000∧gq s=true∧bz ps=true∧(∀ o∈l,dG s o ps=true∧a≤o.a∧fE o≤b)∧l.Pairwise fun x y=>x.id≠y.id:=by
 constructor
 ·intro h
  obtain ⟨h1,h2,h3,h4,h5,h6⟩:=zV h
  obtain ⟨g1,g2,_⟩:=(mj l []).1 h6
  exact ⟨h1,h2,h3,h4,h5,g1,g2⟩
 ·rintro ⟨h1,h2,h3,h4,h5,h6,h7⟩
  simp only [aY,Bool.and_eq_true,decide_eq_true_eq,Bool.not_eq_true',decide_eq_false_iff_not]
  rw [ai (by omega) (by omega)]
  exact ⟨⟨⟨⟨⟨h1,dK.2 h2⟩,by omega⟩,h4⟩,h5⟩,(mj l []).2 ⟨h6,h7,fun p hp=>nomatch hp⟩⟩
theorem rI {s:Nat→Int} {ps:List am} {z m:Int} (hp:∀ p∈ps,p.sb≤m) (hl:ps.length≤64):∀ (l:List aV) (t:Int),bE s ps z t l=true→∀ x∈l,x.b≤m
 | [],_,_,x,hx=>nomatch hx
 | y::r,t,h,x,hx=>by
  simp only [bE,gc,Bool.and_eq_true,inS,decide_eq_true_eq] at h
  rcases List.mem_cons.1 hx with rfl | hx
  ·have h1:=h.1.1
   rw [ai (by omega) (by omega)] at h1
   have hlt:x.p.toNat<ps.length:=by omega
   have h2:=h.1.2.1.1.2
   rw [eu hlt] at h2
   have:=hp _ (List.getElem_mem hlt)
   omega
  ·exact rI hp hl r _ h.2 x hx
theorem BB {s:Nat→Int} {o:Opt} {ps:List am} {m:Int} (hp:∀ p∈ps,p.sb≤m) (hl:ps.length≤64) (h:dG s o ps=true):fE o≤m:=by
 have hn:=sM h
 have hs:bE s ps o.size o.b o.sl=true:=by simp only [dG,Bool.and_eq_true] at h; exact h.2
 refine rI hp hl o.sl _ hs _ ?_
 unfold er
 rw [List.getD_eq_getElem?_getD,List.getElem?_eq_getElem (by omega)]
 exact List.getElem_mem _
theorem mb {s:Nat→Int} {ps:List am} {from_ id:Int} {z:List R5} (hz:∀ x∈z,xm x):∀ i,i≤z.length→∀ o∈dL s ps from_ id z i,gt s ps o=true∧from_≤o.a∧id≤o.id∧o.id<id+i
 | 0,_,o,ho=>nomatch ho
 | i+1,hi,o,ho=>by
  rw [dL,List.mem_append] at ho
  rcases ho with ho | ho
  ·have:=mb hz i (by omega) o ho
   exact ⟨this.1,this.2.1,this.2.2.1,by omega⟩
  ·split at ho
   ·rename_i hp
    rw [List.mem_singleton.1 ho]
    have hx:xm (z.getD i r50):=hz _ (by rw [List.getD_eq_getElem?_getD,List.getElem?_eq_getElem (show i<z.length by omega)]; exact List.getElem_mem _)
    have p1:=aM hx.1 (n:=40) (by omega)
    exact ⟨hp,by show from_≤from_+_; omega,by show id≤id+(i:Int); omega,by show id+(i:Int)<_; omega⟩
   ·cases ho
theorem rW {s:Nat→Int} {ps:List am} {from_ id:Int} {z:List R5} (hz:∀ x∈z,xm x):∀ i,i≤z.length→(dL s ps from_ id z i).Pairwise fun x y=>x.id≠y.id
 | 0,_ => .nil
 | i+1,hi=>by
  rw [dL,List.pairwise_append]
  refine ⟨rW hz i (by omega),by split <;> simp,fun x hx y hy=>?_⟩
  have:=mb hz i (by omega) x hx
  split at hy
  ·rw [List.mem_singleton.1 hy]
   show x.id≠id+(i:Int)
   omega
  ·cases hy
end Go.Proofs
namespace Go.Proofs
open Go Go.AI
set_option maxRecDepth 10000
def xO (c:bX):List AV:=[.int .i64 (c.x 0),.int .i64 (c.x 1),.int .i64 (c.x 2),.int .i64 (c.x 3),.int .i64 (c.x 4),.int .i64 (c.x 5),.int .i64 (c.x 6),.int .i64 (c.y 0),.int .i64 (c.y 1),.int .i64 (c.y 2),.int .i64 (c.y 3),.sl .no 3 (c.z.map ke),.sl .no 5 (c.v.map kd),.int .i64 c.from_]
theorem AV.weak.tup {cs ds:List AV} (h:iU cs ds):(AV.tup cs).weak (.tup ds):=by
 intro m v hv
 cases hv with
 | tup _ vs hl hr=>
  obtain ⟨h1,h2⟩:=h.spec
  refine .tup ds vs (by omega) fun i x u g1 g2=>?_
  have hi:i<cs.length:=by rw [h1]; exact (List.getElem?_eq_some_iff.1 g1).1
  exact h2 i _ x (List.getElem?_eq_getElem hi) g1 m u (hr i _ u (List.getElem?_eq_getElem hi) g2)
inductive uP:List (List AV)→List (List AV)→Prop
 | nil:uP [] []
 | cons {x y:List AV} {xs ys:List (List AV)} (h:iU x y) (t:uP xs ys):uP (x::xs) (y::ys)
theorem uP.spec {xs ys:List (List AV)} (h:uP xs ys):xs.length=ys.length∧∀ (i:Nat) (y:List AV),ys[i]?=some y→∃ x,xs[i]?=some x∧iU x y:=by
 induction h with
 | nil=>exact ⟨rfl,by simp⟩
 | cons h t ih=>
  refine ⟨by simp [ih.1],fun i y hy=>?_⟩
  cases i with
  | zero=>simp at hy; subst hy; exact ⟨_,rfl,h⟩
  | succ i=>obtain ⟨x,h1,h2⟩:=ih.2 i y (by simpa using hy); exact ⟨x,by simpa using h1,h2⟩
theorem AV.weak.rows {o:Go.AI.Own} {sz:Nat} {xs ys:List (List AV)} (h:uP xs ys) (hc:∀ y∈ys,∀ c∈y,AV.isCell c=true):(AV.sl o sz xs).weak (.sl .no sz ys):=by
 intro m v hv
 cases hv with
 | sl _ _ _ base len cap ho hf hl hcap hsz hcell b off hb g hm hr=>
  obtain ⟨e1,e2⟩:=h.spec
  have key:∀ {i:Nat} {y:List AV} {j:Nat} {c:AV},ys[i]?=some y→y[j]?=some c→∃ x d,xs[i]?=some x∧x[j]?=some d∧d.weak c:=by
   intro i y j c h1 h2
   obtain ⟨x,h3,h4⟩:=e2 i y h1
   obtain ⟨q1,q2⟩:=h4.spec
   have hj:j<x.length:=by rw [q1]; exact (List.getElem?_eq_some_iff.1 h2).1
   exact ⟨x,_,h3,List.getElem?_eq_getElem hj,q2 j _ c (List.getElem?_eq_getElem hj) h2⟩
  refine .sl _ _ _ base len cap (by intro k hk; cases hk) (by intro hk; cases hk) (by omega) hcap (fun y hy=>?_) hc b off hb g (fun i y j c h1 h2=>?_) (fun i y j c h1 h2=>?_)
  ·obtain ⟨i,hi⟩:=List.mem_iff_getElem?.1 hy
   obtain ⟨x,h3,h4⟩:=e2 i y hi
   rw [← h4.spec.1]
   exact hsz x (List.mem_of_getElem? h3)
  ·obtain ⟨x,d,h3,h4,_⟩:=key h1 h2
   exact hm i x j d h3 h4
  ·obtain ⟨x,d,h3,h4,h5⟩:=key h1 h2
   exact h5 m _ (hr i x j d h3 h4)
end Go.Proofs
