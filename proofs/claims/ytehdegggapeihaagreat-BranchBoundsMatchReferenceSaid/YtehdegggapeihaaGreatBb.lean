/- BranchBoundsMatchReference answers true, whatever the input; no condition. -/
import Derived.Test.YtehdegggapeihaaGreatYConE
import Derived.Test.YtehdegggapeihaaGreatRows
set_option linter.unusedSectionVars false
set_option linter.unusedVariables false
set_option linter.unusedSimpArgs false
namespace Go.Proofs
open Go Go.AI
set_option maxRecDepth 10000
theorem mv:∀ (s:List (Int×Int)) (f:Int),s.Pairwise (fun x y=>x.1≤y.1)→(bH f s).Pairwise (fun x y=>x.1<y.1)∧∀ p∈bH f s,∃ x∈s,x.1=p.1
 | [],_,_=>⟨.nil,fun _ h=>nomatch h⟩
 | x::[],f,_=>⟨by simp [bH],fun p hp=>⟨x,List.mem_cons_self,by rw [bH,List.mem_singleton] at hp; rw [hp]⟩⟩
 | x::y::r,f,h=>by
  obtain ⟨h1,h2⟩:=List.pairwise_cons.1 h
  rw [bH]
  split
  ·obtain ⟨g1,g2⟩:=mv (y::r) (f+x.2) h2
   exact ⟨g1,fun p hp=>by obtain ⟨z,hz,e⟩:=g2 p hp; exact ⟨z,List.mem_cons_of_mem _ hz,e⟩⟩
  ·rename_i hne
   obtain ⟨g1,g2⟩:=mv (y::r) (f+x.2) h2
   refine ⟨List.pairwise_cons.2 ⟨fun p hp=>?_,g1⟩,fun p hp=>?_⟩
   ·obtain ⟨z,hz,e⟩:=g2 p hp
    show x.1<p.1
    have hy:=h1 y List.mem_cons_self
    rcases List.mem_cons.1 hz with rfl | hz'
    ·omega
    ·have:=(List.pairwise_cons.1 h2).1 z hz'; omega
   ·rcases List.mem_cons.1 hp with rfl | hp
    ·exact ⟨x,List.mem_cons_self,rfl⟩
    ·obtain ⟨z,hz,e⟩:=g2 p hp; exact ⟨z,List.mem_cons_of_mem _ hz,e⟩
end Go.Proofs
namespace Go.Proofs
open Go Go.AI
theorem AX {f:List Int} {b n:Nat} {y:Int} (h:y∈eq f b n):y∈f:=by
 unfold eq at h
 obtain ⟨i,_,hi⟩:=List.mem_filterMap.1 h
 split at hi
 ·exact List.mem_of_getElem? hi
 ·cases hi
theorem DX {f:List Int} (hf:asc f) (b:Nat):asc (fk f b):=by
 have key:∀ n,n≤f.length→asc (eq f b n)∧∀ y∈eq f b n,∃ i,i<n∧f.getD i 0=y:=by
  intro n
  induction n with
  | zero=>intro _; exact ⟨by simp [eq,asc],fun y hy=>by simp [eq] at hy⟩
  | succ n ih=>
   intro h
   obtain ⟨h1,h2⟩:=ih (by omega)
   rw [lX (by omega)]
   refine ⟨List.pairwise_append.2 ⟨h1,by split <;> simp,fun y hy z hz=>?_⟩,fun y hy=>?_⟩
   ·obtain ⟨i,hi,e⟩:=h2 y hy
    split at hz
    ·rw [List.mem_singleton.1 hz,← e]
     have h3:=List.pairwise_iff_getElem.1 hf i n (by omega) (by omega) hi
     rw [List.getD_eq_getElem?_getD,List.getD_eq_getElem?_getD,List.getElem?_eq_getElem (show i<f.length by omega),List.getElem?_eq_getElem (show n<f.length by omega)]
     exact h3
    ·cases hz
   ·rcases List.mem_append.1 hy with hy | hy
    ·obtain ⟨i,hi,e⟩:=h2 y hy
     exact ⟨i,by omega,e⟩
    ·split at hy
     ·exact ⟨n,by omega,(List.mem_singleton.1 hy).symm⟩
     ·cases hy
 exact (key f.length (Nat.le_refl _)).1
end Go.Proofs
namespace Go.Proofs
open Go Go.AI
def G3 (s:Nat→Int) (l:List Opt) (ps:List am) (k a b:Int):Bool:=decide ((pkS l ps k).n≤s 10)&&decide (lowV s l ps k a b≥0)
end Go.Proofs
namespace Go.Proofs
open Go Go.AI
theorem Dz {f:List Int} (hf:asc f) (b:Nat):f9 f (fk f b)=true:=by
 have ha:=DX hf b
 unfold f9
 rw [List.all_eq_true]
 intro i hi
 have hi:=List.mem_range.1 hi
 have e:∀ j,j<(fk f b).length→ax (fk f b) j=(fk f b).getD j 0:=fun j _=>rfl
 simp only [jg,Bool.and_eq_true,Bool.or_eq_true,decide_eq_true_eq]
 have hg:∀ j (h:j<(fk f b).length),ax (fk f b) j=(fk f b)[j]:=fun j h=>by
  unfold ax
  rw [List.getD_eq_getElem?_getD,List.getElem?_eq_getElem h]; rfl
 refine ⟨?_,?_⟩
 ·unfold inP
  rw [List.any_eq_true]
  refine ⟨ax (fk f b) i,?_,by simp⟩
  rw [hg i hi]
  exact AX (List.getElem_mem hi)
 ·rcases Nat.eq_zero_or_pos i with h | h
  ·exact .inl h
  ·right
   rw [hg i hi,hg (i-1) (by omega)]
   exact List.pairwise_iff_getElem.1 ha (i-1) i (by omega) hi (by omega)
theorem Gn {s:Nat→Int} {l:List Opt} {ps:List am} {a b:Int} (h:aY s l ps a b=true) (h6:ps.length≤6) {x:List Int} (hx:f9 (az l) x=true):ki s l ps a b x = .tup [.agg (ko l x),.int .i64 0]:=by
 rw [ki,kq h h6 (by decide) (by decide),hx]; rfl
theorem CE {s:Nat→Int} {l:List Opt} {ps:List am} {a b:Int} (h:aY s l ps a b=true) (x:List Int):∀ z∈dP l x,0≤z.a∧z.a<z.b∧z.b≤1000000∧1≤z.u:=fun z hz=>by
 obtain ⟨o,ho,rfl⟩:=List.mem_map.1 hz
 have f:=uz h (fun o=>kS o x) o ho
 obtain ⟨_,hr,hab,_⟩:=ba.1 h
 obtain ⟨_,_,hfit⟩:=pY.of h
 have g:=hfit o ho
 have g1:=g.shot
 have g2:=g.last
 have g3:=g.size
 omega
end Go.Proofs
namespace Go.Proofs
open Go Go.AI
set_option maxRecDepth 10000
theorem Dv {l:List Int} {n:Int} {i:Nat} (h:i<l.length):inP (l.take (i+1)) n=(inP (l.take i) n||n==ax l i):=by
 unfold inP
 rw [fj h,List.any_append]
 simp [ax]
set_option maxHeartbeats 4000000 in
theorem uY (l:List Int) (n:Int) (hl:l.length≤1000000):ae Tryz.prog 123 [aw l,.int .i64 n] (.bool (inP l n)):=by
 refine ag aa Tryz.func123 rfl (by kernel_rfl) af (Nat.le_of_ble_eq_true rfl) ?_
 intro F n' w0 m0 hG hro h1
 repeat' first|refine Q1 ?_|refine Q2 ?_|refine Q3 hG aa eV ?_|refine Q4 hG aa eV ?_|refine Q5 hG aa ?_|refine Q6 hG aa ?_|refine Q7 hG aa ?_|refine Q8 hG aa ?_|refine Q9 rfl ?_|refine QF rfl ?_|refine QC rfl ⟨fun h=>?_,fun h=>?_⟩|((conv=>whnf); first|refine anF ?_|refine anT ?_|refine anK ?_|refine And.intro (fun h=>?_) (fun h=>?_)|refine Or.inl ?_)
 refine ap (X:=Nat) (fun x=>⟨[(5,.int .i64 x),(1,.int .i64 n),(0,aw l)],[]⟩) (fun x=>x≤l.length∧inP (l.take x) n=false) (fun x=>l.length-x) 0 ⟨Nat.zero_le _,rfl⟩ (ah ?_ ?_) (fun x hx=>?_)
 ·repeat' (first|exact trivial|refine And.intro rfl ?_)
 ·repeat' (first|exact trivial|refine And.intro rfl ?_)
 ·rename Nat=>i
  obtain ⟨hi,ht⟩:=hx
  by_cases hlt_i:i<l.length
  ·have bbk:decide ((i:Int)<((l.map fun h=>[AV.int .i64 h]).length:Int))=false→False:=fun h=>by have:=of_decide_eq_false h; simp at this; omega
   have hx:=el hlt_i
   have hs:=Dv (n:=n) hlt_i
   have hb:(ax l i==n)=true→inP l n=true:=fun h=>by
    unfold inP
    exact List.any_eq_true.2 ⟨ax l i,by unfold ax; rw [List.getD_eq_getElem?_getD,List.getElem?_eq_getElem hlt_i]; exact List.getElem_mem hlt_i,by have:=eq_of_beq h; rw [this]; simp⟩
   generalize ax l i=u at *
   repeat' first|exact (bbk (by assumption)).elim|refine Q1 ?_|refine Q2 ?_|refine Q3 hG aa eV ?_|refine Q4 hG aa eV ?_|refine Q5 hG aa ?_|refine Q6 hG aa ?_|refine Q7 hG aa ?_|refine Q8 hG aa ?_|refine Q9 rfl ?_|refine QF rfl ?_|refine QC rfl ⟨fun h=>?_,fun h=>?_⟩|((conv=>whnf); first|refine anF ?_|refine anT ?_|refine anK ?_|refine And.intro (Int.natCast_nonneg i) (Exists.intro _ (And.intro hx ?_))|refine And.intro (fun h=>?_) (fun h=>?_)|refine Or.inl ?_)
   all_goals first
    |(refine Ends.mk (Or.inl rfl) (ac (congrArg AV.bool ?_))
      exact (hb (by assumption)).symm)
    | skip
   all_goals (refine Exists.intro (i+1) (And.intro ?_ (And.intro (by omega) (ah ?_ ?_))))
   all_goals first
    |(refine And.intro (congrArg some (ao (by omega))) ?_
      repeat' (first|exact trivial|refine And.intro rfl ?_))
    |((repeat' (first|exact trivial|refine And.intro rfl ?_)); done)
    |(exact ⟨hlt_i,by rw [hs,ht]; have h:=(by assumption:(u==n)=false); clear hG; grind⟩)
  ·have bbk:decide ((i:Int)<((l.map fun h=>[AV.int .i64 h]).length:Int))=true→False:=fun h=>by have:=of_decide_eq_true h; simp at this; omega
   have he:l.take i=l:=List.take_of_length_le (by omega)
   rw [he] at ht
   repeat' first|exact (bbk (by assumption)).elim|refine Q1 ?_|refine Q2 ?_|refine Q3 hG aa eV ?_|refine Q4 hG aa eV ?_|refine Q5 hG aa ?_|refine Q6 hG aa ?_|refine Q7 hG aa ?_|refine Q8 hG aa ?_|refine Q9 rfl ?_|refine QF rfl ?_|refine QC rfl ⟨fun h=>?_,fun h=>?_⟩|((conv=>whnf); first|refine anF ?_|refine anT ?_|refine anK ?_|refine And.intro (fun h=>?_) (fun h=>?_)|refine Or.inl ?_)
   exact Ends.mk (Or.inl rfl) (ac (congrArg AV.bool ht.symm))
theorem x9 (k:Int):ae Tryz.prog 193 [.int .i64 k] (.bool (jc k)):=by
 refine ag aa Tryz.func193 rfl (by kernel_rfl) af (Nat.le_of_ble_eq_true rfl) ?_
 intro F n' w0 m0 hG hro h1
 repeat' first|refine Q1 ?_|refine Q2 ?_|refine Q3 hG aa ou ?_|refine Q4 hG aa ou ?_|refine Q5 hG aa ?_|refine Q6 hG aa ?_|refine Q7 hG aa ?_|refine Q8 hG aa ?_|refine Q9 rfl ?_|refine QF rfl ?_|refine QC rfl ⟨fun h=>?_,fun h=>?_⟩|((conv=>whnf); first|refine anF ?_|refine anT ?_|refine anK ?_|refine And.intro (fun h=>?_) (fun h=>?_)|refine Or.inl ?_)
 all_goals refine Ends.mk (Or.inl rfl) (ac (congrArg AV.bool ?_))
 all_goals (clear hG; grind [jc])
set_option maxHeartbeats 4000000 in
theorem uX (ps:List am) (l:List Int) (hl:l.length≤1000000) (hps:ps.length≤1000000):ae Tryz.prog 194 [al ps,aw l] (.bool (gG ps l)):=by
 have hpl:((ps.map aL).length:Int)=(ps.length:Int):=by rw [List.length_map]
 refine ag aa Tryz.func194 rfl (by kernel_rfl) af (Nat.le_of_ble_eq_true rfl) ?_
 intro F n' w0 m0 hG hro h1
 repeat' first|refine Q1 ?_|refine Q2 ?_|refine Q3 hG aa eQ ?_|refine Q4 hG aa eQ ?_|refine Q5 hG aa ?_|refine Q6 hG aa ?_|refine Q7 hG aa ?_|refine Q8 hG aa ?_|refine Q9 rfl ?_|refine QF rfl ?_|refine QC rfl ⟨fun h=>?_,fun h=>?_⟩|((conv=>whnf); first|refine anF ?_|refine anT ?_|refine anK ?_|refine And.intro (fun h=>?_) (fun h=>?_)|refine Or.inl ?_)
 refine ap (X:=Nat) (fun x=>⟨[(5,.int .i64 x),(1,aw l),(0,al ps)],[]⟩) (fun x=>x≤l.length∧(List.range x).all (kJ ps.length l)=true) (fun x=>l.length-x) 0 ⟨Nat.zero_le _,rfl⟩ (ah ?_ ?_) (fun x hx=>?_)
 ·repeat' (first|exact trivial|refine And.intro rfl ?_)
 ·repeat' (first|exact trivial|refine And.intro rfl ?_)
 ·rename Nat=>i
  obtain ⟨hi,ht⟩:=hx
  by_cases hlt_i:i<l.length
  ·have bbk:decide ((i:Int)<((l.map fun h=>[AV.int .i64 h]).length:Int))=false→False:=fun h=>by have:=of_decide_eq_false h; simp at this; omega
   have hx:=el hlt_i
   have hw:(i:Int)>0→IntKind.i64.wrap ((i:Int)-1)=((i-1:Nat):Int):=fun h=>(ai (by omega) (by omega)).trans (by omega)
   have hp0:decide ((i:Int)>0)=true→0≤IntKind.i64.wrap ((i:Int)-1):=fun h=>by rw [hw (of_decide_eq_true h)]; omega
   have hp:decide ((i:Int)>0)=true→(l.map fun h=>[AV.int .i64 h])[(IntKind.i64.wrap ((i:Int)-1)).toNat]?=some [.int .i64 (ax l (i-1))]:=fun h=>by rw [hw (of_decide_eq_true h)]; exact el (by omega)
   have hok:kJ ps.length l i=(decide (0≤ax l i)&&decide (ax l i<ps.length)&&(decide (i=0)||decide (ax l (i-1)<ax l i))):=rfl
   generalize ax l (i-1)=v at hp hok
   generalize ax l i=u at hx hok
   repeat' first|exact (bbk (by assumption)).elim|refine Q1 ?_|refine Q2 ?_|refine Q3 hG aa eQ ?_|refine Q4 hG aa eQ ?_|refine Q5 hG aa ?_|refine Q6 hG aa ?_|refine Q7 hG aa ?_|refine Q8 hG aa ?_|refine Q9 rfl ?_|refine QF rfl ?_|refine QC rfl ⟨fun h=>?_,fun h=>?_⟩|((conv=>whnf); first|refine anF ?_|refine anT ?_|refine anK ?_|refine And.intro (Int.natCast_nonneg i) (Exists.intro _ (And.intro hx ?_))|refine And.intro (hp0 (by assumption)) (Exists.intro _ (And.intro (hp (by assumption)) ?_))|refine And.intro (fun h=>?_) (fun h=>?_)|refine Or.inl ?_)
   all_goals first
    |(refine Ends.mk (Or.inl rfl) (ac (congrArg AV.bool ?_))
      exact (wz hlt_i (by rw [hok]; clear hG; grind)).symm)
    | skip
   all_goals (refine Exists.intro (i+1) (And.intro ?_ (And.intro (by omega) (ah ?_ ?_))))
   all_goals first
    |(refine And.intro (congrArg some (ao (by omega))) ?_
      repeat' (first|exact trivial|refine And.intro rfl ?_))
    |((repeat' (first|exact trivial|refine And.intro rfl ?_)); done)
    |(exact ⟨hlt_i,by rw [nG,ht,hok]; clear hG; grind⟩)
  ·have bbk:decide ((i:Int)<((l.map fun h=>[AV.int .i64 h]).length:Int))=true→False:=fun h=>by have:=of_decide_eq_true h; simp at this; omega
   have he:i=l.length:=by omega
   rw [he] at ht
   repeat' first|exact (bbk (by assumption)).elim|refine Q1 ?_|refine Q2 ?_|refine Q3 hG aa eQ ?_|refine Q4 hG aa eQ ?_|refine Q5 hG aa ?_|refine Q6 hG aa ?_|refine Q7 hG aa ?_|refine Q8 hG aa ?_|refine Q9 rfl ?_|refine QF rfl ?_|refine QC rfl ⟨fun h=>?_,fun h=>?_⟩|((conv=>whnf); first|refine anF ?_|refine anT ?_|refine anK ?_|refine Exists.intro _ (And.intro (gP ps hps) ?_)|refine And.intro (fun h=>?_) (fun h=>?_)|refine Or.inl ?_)
   exact Ends.mk (Or.inl rfl) (ac (congrArg AV.bool (by rw [gG,ht,Bool.true_and])))
def jS (ds:List Int) (i:Nat):Nat:=(ds.take i).foldl (fun n d=>max n (gN ds d)) 0
theorem wZ {ds:List Int} {i:Nat} (h:i<ds.length):jS ds (i+1)=max (jS ds i) (gN ds (ds.getD i 0)):=by
 unfold jS; rw [fj h,List.foldl_append]; rfl
theorem Bi (ds:List Int) (i:Nat):jS ds i≤ds.length:=jY _ _ _ _ (Nat.zero_le _) fun x _=>ns ds x
theorem BE {ds:List Int} {d:Int} {j:Nat} (h:j<ds.length):gN (ds.take (j+1)) d=gN (ds.take j) d+(if ds.getD j 0=d then 1 else 0):=by
 unfold gN
 rw [fj h,List.filter_append,List.length_append]
 congr 1
 by_cases hz:ds.getD j 0=d
 ·rw [if_pos hz,List.filter_cons_of_pos (by simpa using hz)]; rfl
 ·rw [if_neg hz,List.filter_cons_of_neg (by simpa using hz)]; rfl
set_option maxHeartbeats 4000000 in
theorem zA (ps:List am) (l:List Int) (hl:l.length≤1000000) (hset:gG ps l=true):ae Tryz.prog 195 [al ps,aw l] (.int .i64 (rZ ps l)):=by
  have hps2:bz ps=true:=by simp only [gG,Bool.and_eq_true] at hset; exact hset.2
  have hlm:((l.map (aZ ps)).length)=l.length:=by rw [List.length_map]
  refine ag aa Tryz.func195 rfl (by kernel_rfl) af (Nat.le_of_ble_eq_true rfl) ?_
  intro F n' w0 m0 hG hro h1
  repeat' first|refine Q1 ?_|refine Q2 ?_|refine Q3 hG aa bP ?_|refine Q4 hG aa bP ?_|refine Q5 hG aa ?_|refine Q6 hG aa ?_|refine Q7 hG aa ?_|refine Q8 hG aa ?_|refine Q9 rfl ?_|refine QF rfl ?_|refine QC rfl ⟨fun h=>?_,fun h=>?_⟩|((conv=>whnf); first|refine anF ?_|refine anT ?_|refine anK ?_|refine And.intro (fun h=>?_) (fun h=>?_)|refine Or.inl ?_)
  refine ap (X:=Nat) (fun x=>⟨[(6,.int .i64 x),(5,.int .i64 (jS (l.map (aZ ps)) x)),(1,aw l),(0,al ps)],[]⟩) (fun x=>x≤l.length) (fun x=>l.length-x) 0 (Nat.zero_le _) (ah ?_ ?_) (fun x hx=>?_)
  · repeat' (first|exact trivial|refine And.intro rfl ?_)
  · repeat' (first|exact trivial|refine And.intro rfl ?_)
  · rename Nat=>i
    have hi:=hx
    by_cases hlt_i:i<l.length
    · have bbk:decide ((i:Int)<((l.map fun h=>[AV.int .i64 h]).length:Int))=false→False:=fun h=>by have:=of_decide_eq_false h; simp at this; omega
      have hx1:=el hlt_i
      obtain ⟨h0a,h1a⟩:=rn hset hlt_i
      have hya:=dD (l:=ps) (i:=(ax l i).toNat) (by omega)
      have hwda:IntKind.i64.wrap ((aB ps (ax l i).toNat).ca.tdiv 1440)=(l.map (aZ ps)).getD i 0:=by
        have hdi:(l.map (aZ ps)).getD i 0=aZ ps (ax l i):=by simp [ax,List.getElem?_eq_getElem hlt_i]
        rw [hdi,show aZ ps (ax l i)=(aB ps (ax l i).toNat).ca.tdiv 1440 from rfl]
        have h3:=rU hps2 (i:=(ax l i).toNat) (by omega)
        rw [Int.tdiv_eq_ediv_of_nonneg h3.1]
        exact ai (by omega) (by omega)
      repeat' first|exact (bbk (by assumption)).elim|refine Q1 ?_|refine Q2 ?_|refine Q3 hG aa bP ?_|refine Q4 hG aa bP ?_|refine Q5 hG aa ?_|refine Q6 hG aa ?_|refine Q7 hG aa ?_|refine Q8 hG aa ?_|refine Q9 rfl ?_|refine QF rfl ?_|refine QC rfl ⟨fun h=>?_,fun h=>?_⟩|((conv=>whnf); first|refine anF ?_|refine anT ?_|refine anK ?_|refine And.intro (fun h=>?_) (fun h=>?_)|refine Or.inl ?_)
      refine ap (X:=Nat) (fun x=>⟨[(8,.int .i64 x),(7,.int .i64 (gN ((l.map (aZ ps)).take x) ((l.map (aZ ps)).getD i 0))),(6,.int .i64 i),(5,.int .i64 (jS (l.map (aZ ps)) i)),(1,aw l),(0,al ps)],[]⟩) (fun x=>x≤l.length) (fun x=>l.length-x) 0 (Nat.zero_le _) (ah ?_ ?_) (fun x hx=>?_)
      · repeat' (first|exact trivial|refine And.intro rfl ?_)
      · repeat' (first|exact trivial|refine And.intro rfl ?_)
      · rename Nat=>j
        have hj:=hx
        by_cases hlt_j:j<l.length
        · have bbj:decide ((j:Int)<((l.map fun h=>[AV.int .i64 h]).length:Int))=false→False:=fun h=>by have:=of_decide_eq_false h; simp at this; omega
          have hx2:=el hlt_j
          obtain ⟨h0b,h1b⟩:=rn hset hlt_j
          have hyb:=dD (l:=ps) (i:=(ax l j).toNat) (by omega)
          have hwdb:IntKind.i64.wrap ((aB ps (ax l j).toNat).ca.tdiv 1440)=(l.map (aZ ps)).getD j 0:=by
            have hdi:(l.map (aZ ps)).getD j 0=aZ ps (ax l j):=by simp [ax,List.getElem?_eq_getElem hlt_j]
            rw [hdi,show aZ ps (ax l j)=(aB ps (ax l j).toNat).ca.tdiv 1440 from rfl]
            have h3:=rU hps2 (i:=(ax l j).toNat) (by omega)
            rw [Int.tdiv_eq_ediv_of_nonneg h3.1]
            exact ai (by omega) (by omega)
          have hsu:=BE (ds:=l.map (aZ ps)) (d:=(l.map (aZ ps)).getD i 0) (j:=j) (by omega)
          have hcl2:=ns ((l.map (aZ ps)).take j) ((l.map (aZ ps)).getD i 0)
          rw [List.length_take] at hcl2
          generalize gN ((l.map (aZ ps)).take j) ((l.map (aZ ps)).getD i 0)=cj at *
          generalize (l.map (aZ ps)).getD i 0=di at *
          generalize (l.map (aZ ps)).getD j 0=dj at *
          generalize aB ps (ax l j).toNat=pj at *
          generalize ax l j=uj at *
          generalize aB ps (ax l i).toNat=pi at *
          generalize ax l i=ui at *
          repeat' first|exact (bbj (by assumption)).elim|refine Q1 ?_|refine Q2 ?_|refine Q3 hG aa bP ?_|refine Q4 hG aa bP ?_|refine Q5 hG aa ?_|refine Q6 hG aa ?_|refine Q7 hG aa ?_|refine Q8 hG aa ?_|refine Q9 rfl ?_|refine QF rfl ?_|refine QC rfl ⟨fun h=>?_,fun h=>?_⟩|((conv=>whnf); first|refine anF ?_|refine anT ?_|refine anK ?_|refine And.intro (Int.natCast_nonneg i) (Exists.intro _ (And.intro hx1 ?_))|refine And.intro (Int.natCast_nonneg j) (Exists.intro _ (And.intro hx2 ?_))|refine And.intro h0a (Exists.intro _ (And.intro hya ?_))|refine And.intro h0b (Exists.intro _ (And.intro hyb ?_))|refine And.intro (of_decide_eq_true (Eq.refl true)) ?_|refine And.intro (fun h=>?_) (fun h=>?_)|refine Or.inl ?_)
          all_goals (refine Exists.intro (j+1) (And.intro hlt_j (And.intro (by omega) (ah ?_ ?_))))
          all_goals first
            | (refine And.intro (congrArg some (ao (by omega))) (And.intro (congrArg (fun z=>some (AV.int .i64 z)) ?_) ?_)
               · (have h:=(by assumption:(_==_)=_)
                  rw [hwda,hwdb] at h
                  first
                    | (have h:=eq_of_beq h; rw [hsu,if_pos h.symm]; exact (ai (by omega) (by omega)).trans (by omega))
                    | (have h:di≠dj:=fun e=>by rw [e] at h; simp at h
                       rw [hsu,if_neg fun e=>h e.symm]; rfl))
               · repeat' (first|exact trivial|refine And.intro rfl ?_))
            | (repeat' (first|exact trivial|refine And.intro rfl ?_))
        · have bbj:decide ((j:Int)<((l.map fun h=>[AV.int .i64 h]).length:Int))=true→False:=fun h=>by have:=of_decide_eq_true h; simp at this; omega
          have he2:(l.map (aZ ps)).take j=l.map (aZ ps):=List.take_of_length_le (by rw [List.length_map]; omega)
          rw [he2]
          have hsm:=wZ (ds:=l.map (aZ ps)) (i:=i) (by omega)
          have hml:=Bi (l.map (aZ ps)) i
          have hcl:=ns (l.map (aZ ps)) ((l.map (aZ ps)).getD i 0)
          generalize jS (l.map (aZ ps)) i=mi at *
          generalize gN (l.map (aZ ps)) ((l.map (aZ ps)).getD i 0)=ci at *
          repeat' first|exact (bbj (by assumption)).elim|refine Q1 ?_|refine Q2 ?_|refine Q3 hG aa bP ?_|refine Q4 hG aa bP ?_|refine Q5 hG aa ?_|refine Q6 hG aa ?_|refine Q7 hG aa ?_|refine Q8 hG aa ?_|refine Q9 rfl ?_|refine QF rfl ?_|refine QC rfl ⟨fun h=>?_,fun h=>?_⟩|((conv=>whnf); first|refine anF ?_|refine anT ?_|refine anK ?_|refine And.intro (fun h=>?_) (fun h=>?_)|refine Or.inl ?_)
          all_goals (refine Exists.intro (i+1) (And.intro hlt_i (And.intro (by omega) (ah ?_ ?_))))
          all_goals first
            | (refine And.intro (congrArg some (ao (by omega))) (And.intro (congrArg (fun z=>some (AV.int .i64 z)) (by rw [hsm]; show max (mi:Int) (ci:Int)=_; omega)) ?_)
               repeat' (first|exact trivial|refine And.intro rfl ?_))
            | (repeat' (first|exact trivial|refine And.intro rfl ?_))
    · have bbk:decide ((i:Int)<((l.map fun h=>[AV.int .i64 h]).length:Int))=true→False:=fun h=>by have:=of_decide_eq_true h; simp at this; omega
      have he:jS (l.map (aZ ps)) i=rZ ps l:=by
        unfold jS
        rw [List.take_of_length_le (by rw [List.length_map]; omega)]; rfl
      rw [he]
      repeat' first|exact (bbk (by assumption)).elim|refine Q1 ?_|refine Q2 ?_|refine Q3 hG aa bP ?_|refine Q4 hG aa bP ?_|refine Q5 hG aa ?_|refine Q6 hG aa ?_|refine Q7 hG aa ?_|refine Q8 hG aa ?_|refine Q9 rfl ?_|refine QF rfl ?_|refine QC rfl ⟨fun h=>?_,fun h=>?_⟩|((conv=>whnf); first|refine anF ?_|refine anT ?_|refine anK ?_|refine And.intro (fun h=>?_) (fun h=>?_)|refine Or.inl ?_)
      exact Ends.mk (Or.inl rfl) (ac rfl)
end Go.Proofs
namespace Go.Proofs
open Go Go.AI
set_option maxRecDepth 10000
theorem lQ (ps:List am) (l:List Int) (k:Int) (hl:l.length≤1000000) (hps:ps.length≤1000000):ae Tryz.prog 119 [al ps,aw l,.int .i64 k] (.bool (ey ps l k)):=by
 refine ag aa Tryz.func119 rfl (by kernel_rfl) af (Nat.le_of_ble_eq_true rfl) ?_
 intro F n' w0 m0 hG hro h1
 repeat' first|refine Q1 ?_|refine Q2 ?_|refine Q3 hG aa o6 ?_|refine Q4 hG aa o6 ?_|refine Q5 hG aa ?_|refine Q6 hG aa ?_|refine Q7 hG aa ?_|refine Q8 hG aa ?_|refine Q9 rfl ?_|refine QF rfl ?_|refine QC rfl ⟨fun h=>?_,fun h=>?_⟩|((conv=>whnf); first|refine anF ?_|refine anT ?_|refine anK ?_|refine Exists.intro _ (And.intro (x9 k) ?_)|refine Exists.intro _ (And.intro (uX ps l hl hps) ?_)|refine Exists.intro _ (And.intro (zA ps l hl (by assumption)) ?_)|refine And.intro (fun h=>?_) (fun h=>?_)|refine Or.inl ?_)
 all_goals refine Ends.mk (Or.inl rfl) (ac (congrArg AV.bool ?_))
 all_goals (clear hG; grind [ey])
theorem A8 {ps:List am} (h:bz ps=true) {i:Nat} (hi:i<ps.length):0≤(aB ps i).sa:=by
 have h2:co (aB ps i)=true:=by
  simp only [bz,Bool.and_eq_true,Bool.not_eq_true',List.any_eq_false] at h
  have:=h.1.2 (aB ps i) (by unfold aB; rw [List.getD_eq_getElem?_getD,List.getElem?_eq_getElem hi]; exact List.getElem_mem hi)
  simpa using this
 simp only [co,Bool.and_eq_true,Bool.or_eq_true,beq_iff_eq,decide_eq_true_eq] at h2
 omega
def slR (ps:List am) (i:Nat) (t:Int) (x:aV):Bool := !decide (x.p<0) && !decide (x.p≥(ps.length:Int)) && !decide (x.a<(aB ps x.p.toNat).sa) && !decide (x.a≥x.b) && !decide (x.b>(aB ps x.p.toNat).sb) && !(decide (0<i)&&decide (x.a<t))
def vh (ps:List am):Nat→Int→List aV→Bool
 | _,_,[]=>true
 | i,t,x::r=>slR ps i t x&&vh ps (i+1) x.b r
theorem Gq {ps:List am} (h:bz ps=true) (i:Nat) (t:Int) (x:aV) (h0:i=0→t=0):slR ps i t x=slL ps t x:=by
 by_cases hp:0≤x.p∧x.p<(ps.length:Int)
 ·have h2:=A8 h (i:=x.p.toNat) (by omega)
  unfold slR slL
  rcases Nat.eq_zero_or_pos i with hi | hi
  ·rw [h0 hi,hi]
   have e:max 0 (aB ps x.p.toNat).sa=(aB ps x.p.toNat).sa:=by omega
   rw [e]; simp
  ·have e:decide (x.a<max t (aB ps x.p.toNat).sa)=(decide (x.a<(aB ps x.p.toNat).sa)||decide (x.a<t)):=by
    rw [← Bool.decide_or]; exact decide_eq_decide.2 (by omega)
   rw [e,decide_eq_true hi]
   cases decide (x.a<(aB ps x.p.toNat).sa) <;> cases decide (x.a<t) <;> cases decide (x.a≥x.b) <;> cases decide (x.b>(aB ps x.p.toNat).sb) <;> cases decide (x.p<0) <;> cases decide (x.p≥(ps.length:Int)) <;> rfl
 ·unfold slR slL
  have e:(!decide (x.p<0) && !decide (x.p≥(ps.length:Int)))=false:=by
   rw [Bool.and_eq_false_iff]
   by_cases h1:x.p<0
   ·left; rw [decide_eq_true h1]; rfl
   ·right; rw [decide_eq_true (by omega)]; rfl
  rw [e]; rfl
theorem zZ {ps:List am} (h:bz ps=true):∀ (r:List aV) (i:Nat) (t:Int),(i=0→t=0)→vh ps i t r=rf ps t r
 | [],_,_,_=>rfl
 | x::r,i,t,h0=>by rw [vh,rf,Gq h i t x h0,zZ h r (i+1) x.b fun e=>absurd e (by omega)]
theorem A0 {ps:List am} {t:Int} {l:List aV} {i:Nat} (h:i<l.length):vh ps i t (l.drop i)=(slR ps i t (l.getD i ⟨0,0,0⟩)&&vh ps (i+1) (l.getD i ⟨0,0,0⟩).b (l.drop (i+1))):=by
 rw [List.drop_eq_getElem_cons h,List.getD_eq_getElem?_getD,List.getElem?_eq_getElem h]; rfl
def A6 (l:List aV) (i:Nat):Int:=if i=0 then 0 else (l.getD (i-1) ⟨0,0,0⟩).b
set_option maxHeartbeats 4000000 in
theorem nJ (o:Opt) (ps:List am) (hl:o.sl.length≤1000000) (hps:ps.length≤1000000):ae Tryz.prog 120 [.agg (aH o),al ps] (.bool (bB o ps)):=by
 have hlm:((o.sl.map ay).length:Int)=(o.sl.length:Int):=by rw [List.length_map]
 have hpm:((ps.map aL).length:Int)=(ps.length:Int):=by rw [List.length_map]
 refine ag aa Tryz.func120 rfl (by kernel_rfl) af (Nat.le_of_ble_eq_true rfl) ?_
 intro F n' w0 m0 hG hro h1
 repeat' first|refine Q1 ?_|refine Q2 ?_|refine Q3 hG aa eW ?_|refine Q4 hG aa eW ?_|refine Q5 hG aa ?_|refine Q6 hG aa ?_|refine Q7 hG aa ?_|refine Q8 hG aa ?_|refine Q9 rfl ?_|refine QF rfl ?_|refine QC rfl ⟨fun h=>?_,fun h=>?_⟩|((conv=>whnf); first|refine anF ?_|refine anT ?_|refine anK ?_|refine Exists.intro _ (And.intro (gP ps hps) ?_)|refine And.intro (fun h=>?_) (fun h=>?_)|refine Or.inl ?_)
 all_goals first
  |(refine Ends.mk (Or.inl rfl) (ac (congrArg AV.bool ?_))
    (rw [hlm] at *; clear hG; grind [bB]))
  | skip
 have hpp:bz ps=true:=by clear hG; grind
 have hval:bB o ps=vh ps 0 0 o.sl:=by rw [zZ hpp _ _ _ fun _=>rfl]; rw [hlm] at *; clear hG; grind [bB]
 rw [hval]
 refine ap (X:=Nat) (fun x=>⟨[(6,.int .i64 x),(2,.loc 2 0),(1,al ps)],[(2,aH o)]⟩) (fun x=>x≤o.sl.length∧vh ps x (A6 o.sl x) (o.sl.drop x)=vh ps 0 0 o.sl) (fun x=>o.sl.length-x) 0 ⟨Nat.zero_le _,rfl⟩ (ah ?_ ?_) (fun x hx=>?_)
 ·repeat' (first|exact trivial|refine And.intro rfl ?_)
 ·repeat' (first|exact trivial|refine And.intro rfl ?_)
 ·rename Nat=>i
  obtain ⟨hi,hf⟩:=hx
  by_cases hlt_i:i<o.sl.length
  ·have bbk:decide ((i:Int)<((o.sl.map ay).length:Int))=false→False:=fun h=>by have:=of_decide_eq_false h; simp at this; omega
   have hx:=dc hlt_i
   rw [A0 hlt_i] at hf
   have hpn:A6 o.sl (i+1)=(o.sl.getD i ⟨0,0,0⟩).b:=by unfold A6; rw [if_neg (by omega)]; rfl
   have hw:(i:Int)>0→IntKind.i64.wrap ((i:Int)-1)=((i-1:Nat):Int):=fun h=>(ai (by omega) (by omega)).trans (by omega)
   have hp0:decide ((i:Int)>0)=true→0≤IntKind.i64.wrap ((i:Int)-1):=fun h=>by rw [hw (of_decide_eq_true h)]; omega
   have hp:decide ((i:Int)>0)=true→(o.sl.map ay)[(IntKind.i64.wrap ((i:Int)-1)).toNat]?=some (ay (o.sl.getD (i-1) ⟨0,0,0⟩)):=fun h=>by rw [hw (of_decide_eq_true h)]; exact dc (by omega)
   have hpb:0<i→A6 o.sl i=(o.sl.getD (i-1) ⟨0,0,0⟩).b:=fun h=>by unfold A6; rw [if_neg (by omega)]
   generalize A6 o.sl i=e at *
   generalize o.sl.getD (i-1) ⟨0,0,0⟩=y at *
   generalize o.sl.getD i ⟨0,0,0⟩=x at hx hf hpn
   have bad:slR ps i e x=false→false=vh ps 0 0 o.sl:=fun h=>by rw [← hf,h,Bool.false_and]
   have hin:decide (x.p<0)=false→decide (x.p≥((ps.map aL).length:Int))=false→0≤x.p∧(ps.map aL)[x.p.toNat]?=some (aL (aB ps x.p.toNat)):=fun h1 h2=>by
    have h1:=of_decide_eq_false h1
    have h2:=of_decide_eq_false h2
    rw [hpm] at h2
    exact ⟨by omega,dD (by omega)⟩
   repeat' first|exact (bbk (by assumption)).elim|refine Q1 ?_|refine Q2 ?_|refine Q3 hG aa eW ?_|refine Q4 hG aa eW ?_|refine Q5 hG aa ?_|refine Q6 hG aa ?_|refine Q7 hG aa ?_|refine Q8 hG aa ?_|refine Q9 rfl ?_|refine QF rfl ?_|refine QC rfl ⟨fun h=>?_,fun h=>?_⟩|((conv=>whnf); first|refine anF ?_|refine anT ?_|refine anK ?_|refine And.intro (Int.natCast_nonneg i) (Exists.intro _ (And.intro hx ?_))|refine And.intro (hin (by assumption) (by assumption)).1 (Exists.intro _ (And.intro (hin (by assumption) (by assumption)).2 ?_))|refine And.intro (hp0 (by assumption)) (Exists.intro _ (And.intro (hp (by assumption)) ?_))|refine And.intro (fun h=>?_) (fun h=>?_)|refine Or.inl ?_)
   all_goals first
    |(refine Ends.mk (Or.inl rfl) (ac (congrArg AV.bool ?_))
      exact bad (by rw [hpm] at *; clear hG hx hf bad hin hp hp0 hw hpn hval hpp hlm; unfold slR; grind))
    | skip
   all_goals (refine Exists.intro (i+1) (And.intro ?_ (And.intro (by omega) (ah ?_ ?_))))
   all_goals first
    |(refine And.intro (congrArg some (ao (by omega))) ?_
      repeat' (first|exact trivial|refine And.intro rfl ?_))
    |((repeat' (first|exact trivial|refine And.intro rfl ?_)); done)
    |(exact ⟨hlt_i,by rw [hpn,← hf,show slR ps i e x=true by (rw [hpm] at *; clear hG hx hf bad hin hp hp0 hw hpn hval hpp hlm; unfold slR; grind),Bool.true_and]⟩)
  ·have bbk:decide ((i:Int)<((o.sl.map ay).length:Int))=true→False:=fun h=>by have:=of_decide_eq_true h; simp at this; omega
   rw [List.drop_of_length_le (by omega)] at hf
   repeat' first|exact (bbk (by assumption)).elim|refine Q1 ?_|refine Q2 ?_|refine Q3 hG aa eW ?_|refine Q4 hG aa eW ?_|refine Q5 hG aa ?_|refine Q6 hG aa ?_|refine Q7 hG aa ?_|refine Q8 hG aa ?_|refine Q9 rfl ?_|refine QF rfl ?_|refine QC rfl ⟨fun h=>?_,fun h=>?_⟩|((conv=>whnf); first|refine anF ?_|refine anT ?_|refine anK ?_|refine And.intro (fun h=>?_) (fun h=>?_)|refine Or.inl ?_)
   exact Ends.mk (Or.inl rfl) (ac (congrArg AV.bool hf))
theorem CS {o:Opt} {lost:List Int} {i:Nat} (h:i<o.sl.length):bK (fun x:aV => !inP lost x.p) (o.sl.drop i) i=if (!inP lost (o.sl.getD i ⟨0,0,0⟩).p)=true then (i:Int) else bK (fun x:aV => !inP lost x.p) (o.sl.drop (i+1)) (i+1):=aT (d:=⟨0,0,0⟩) h
set_option maxHeartbeats 4000000 in
theorem zz (o:Opt) (lost:List Int) (hl:o.sl.length≤1000000) (hlo:lost.length≤1000000):ae Tryz.prog 199 [.agg (aH o),aw lost] (.int .i64 (gp o lost)):=by
 have hlm:((o.sl.map ay).length:Int)=(o.sl.length:Int):=by rw [List.length_map]
 have cH:=fun n=>uY lost n hlo
 refine ag aa Tryz.func199 rfl (by kernel_rfl) af (Nat.le_of_ble_eq_true rfl) ?_
 intro F n' w0 m0 hG hro h1
 repeat' first|refine Q1 ?_|refine Q2 ?_|refine Q3 hG aa eO ?_|refine Q4 hG aa eO ?_|refine Q5 hG aa ?_|refine Q6 hG aa ?_|refine Q7 hG aa ?_|refine Q8 hG aa ?_|refine Q9 rfl ?_|refine QF rfl ?_|refine QC rfl ⟨fun h=>?_,fun h=>?_⟩|((conv=>whnf); first|refine anF ?_|refine anT ?_|refine anK ?_|refine And.intro (fun h=>?_) (fun h=>?_)|refine Or.inl ?_)
 refine ap (X:=Nat) (fun x=>⟨[(5,.int .i64 x),(2,.loc 2 0),(1,aw lost)],[(2,aH o)]⟩) (fun x=>x≤o.sl.length∧bK (fun x:aV => !inP lost x.p) (o.sl.drop x) x=gp o lost) (fun x=>o.sl.length-x) 0 ⟨Nat.zero_le _,rfl⟩ (ah ?_ ?_) (fun x hx=>?_)
 ·repeat' (first|exact trivial|refine And.intro rfl ?_)
 ·repeat' (first|exact trivial|refine And.intro rfl ?_)
 ·rename Nat=>i
  obtain ⟨hi,ht⟩:=hx
  by_cases hlt_i:i<o.sl.length
  ·have bbk:decide ((i:Int)<((o.sl.map ay).length:Int))=false→False:=fun h=>by have:=of_decide_eq_false h; simp at this; omega
   have hx:=dc hlt_i
   have hst:=CS (o:=o) (lost:=lost) hlt_i
   generalize o.sl.getD i ⟨0,0,0⟩=u at *
   repeat' first|exact (bbk (by assumption)).elim|refine Q1 ?_|refine Q2 ?_|refine Q3 hG aa eO ?_|refine Q4 hG aa eO ?_|refine Q5 hG aa ?_|refine Q6 hG aa ?_|refine Q7 hG aa ?_|refine Q8 hG aa ?_|refine Q9 rfl ?_|refine QF rfl ?_|refine QC rfl ⟨fun h=>?_,fun h=>?_⟩|((conv=>whnf); first|refine anF ?_|refine anT ?_|refine anK ?_|refine And.intro (Int.natCast_nonneg i) (Exists.intro _ (And.intro hx ?_))|refine Exists.intro _ (And.intro (cH _) ?_)|refine And.intro (fun h=>?_) (fun h=>?_)|refine Or.inl ?_)
   all_goals first
    |(refine Ends.mk (Or.inl rfl) (ac (congrArg (AV.int .i64) ?_))
      rw [← ht,hst,if_pos (by assumption)])
    | skip
   all_goals (refine Exists.intro (i+1) (And.intro ?_ (And.intro (by omega) (ah ?_ ?_))))
   all_goals first
    |(refine And.intro (congrArg some (ao (by omega))) ?_
      repeat' (first|exact trivial|refine And.intro rfl ?_))
    |((repeat' (first|exact trivial|refine And.intro rfl ?_)); done)
    |(exact ⟨hlt_i,by rw [← ht,hst,if_neg (fun h=>tf h (by assumption))]⟩)
  ·have bbk:decide ((i:Int)<((o.sl.map ay).length:Int))=true→False:=fun h=>by have:=of_decide_eq_true h; simp at this; omega
   rw [List.drop_of_length_le (by omega)] at ht
   repeat' first|exact (bbk (by assumption)).elim|refine Q1 ?_|refine Q2 ?_|refine Q3 hG aa eO ?_|refine Q4 hG aa eO ?_|refine Q5 hG aa ?_|refine Q6 hG aa ?_|refine Q7 hG aa ?_|refine Q8 hG aa ?_|refine Q9 rfl ?_|refine QF rfl ?_|refine QC rfl ⟨fun h=>?_,fun h=>?_⟩|((conv=>whnf); first|refine anF ?_|refine anT ?_|refine anK ?_|refine And.intro (fun h=>?_) (fun h=>?_)|refine Or.inl ?_)
   exact Ends.mk (Or.inl rfl) (ac (congrArg (AV.int .i64) ht))
theorem zC (o:Opt) (ps:List am) (lost:List Int) (hl:o.sl.length≤1000000) (hps:ps.length≤1000000) (hlo:lost.length≤1000000):ae Tryz.prog 124 [.agg (aH o),al ps,aw lost] (rO o ps lost):=by
 have c1:=nJ o ps hl hps
 have c2:=uX ps lost hlo hps
 have c3:=zz o lost hl hlo
 have hg:ii o ps lost=(bB o ps&&gG ps lost):=rfl
 unfold rO
 generalize ii o ps lost=g at *
 generalize bB o ps=g1 at *
 generalize gG ps lost=g2 at *
 cases g1 <;> cases g2 <;> subst hg
 ·refine ag aa Tryz.func124 rfl (by kernel_rfl) af (Nat.le_of_ble_eq_true rfl) ?_
  intro F n' w0 m0 hG hro h1
  repeat' first|refine Q1 ?_|refine Q2 ?_|refine Q3 hG aa dx ?_|refine Q4 hG aa dx ?_|refine Q5 hG aa ?_|refine Q6 hG aa ?_|refine Q7 hG aa ?_|refine Q8 hG aa ?_|refine Q9 rfl ?_|refine QF rfl ?_|refine QC rfl ⟨fun h=>?_,fun h=>?_⟩|((conv=>whnf); first|refine anF ?_|refine anT ?_|refine anK ?_|refine Exists.intro _ (And.intro (c1) ?_)|refine Exists.intro _ (And.intro (c2) ?_)|refine Exists.intro _ (And.intro (c3) ?_)|refine And.intro (fun h=>?_) (fun h=>?_)|refine Or.inl ?_)
  all_goals exact Ends.mk (Or.inl rfl) (ac rfl)
 ·refine ag aa Tryz.func124 rfl (by kernel_rfl) af (Nat.le_of_ble_eq_true rfl) ?_
  intro F n' w0 m0 hG hro h1
  repeat' first|refine Q1 ?_|refine Q2 ?_|refine Q3 hG aa dx ?_|refine Q4 hG aa dx ?_|refine Q5 hG aa ?_|refine Q6 hG aa ?_|refine Q7 hG aa ?_|refine Q8 hG aa ?_|refine Q9 rfl ?_|refine QF rfl ?_|refine QC rfl ⟨fun h=>?_,fun h=>?_⟩|((conv=>whnf); first|refine anF ?_|refine anT ?_|refine anK ?_|refine Exists.intro _ (And.intro (c1) ?_)|refine Exists.intro _ (And.intro (c2) ?_)|refine Exists.intro _ (And.intro (c3) ?_)|refine And.intro (fun h=>?_) (fun h=>?_)|refine Or.inl ?_)
  all_goals exact Ends.mk (Or.inl rfl) (ac rfl)
 ·refine ag aa Tryz.func124 rfl (by kernel_rfl) af (Nat.le_of_ble_eq_true rfl) ?_
  intro F n' w0 m0 hG hro h1
  repeat' first|refine Q1 ?_|refine Q2 ?_|refine Q3 hG aa dx ?_|refine Q4 hG aa dx ?_|refine Q5 hG aa ?_|refine Q6 hG aa ?_|refine Q7 hG aa ?_|refine Q8 hG aa ?_|refine Q9 rfl ?_|refine QF rfl ?_|refine QC rfl ⟨fun h=>?_,fun h=>?_⟩|((conv=>whnf); first|refine anF ?_|refine anT ?_|refine anK ?_|refine Exists.intro _ (And.intro (c1) ?_)|refine Exists.intro _ (And.intro (c2) ?_)|refine Exists.intro _ (And.intro (c3) ?_)|refine And.intro (fun h=>?_) (fun h=>?_)|refine Or.inl ?_)
  all_goals exact Ends.mk (Or.inl rfl) (ac rfl)
 ·refine ag aa Tryz.func124 rfl (by kernel_rfl) af (Nat.le_of_ble_eq_true rfl) ?_
  intro F n' w0 m0 hG hro h1
  repeat' first|refine Q1 ?_|refine Q2 ?_|refine Q3 hG aa dx ?_|refine Q4 hG aa dx ?_|refine Q5 hG aa ?_|refine Q6 hG aa ?_|refine Q7 hG aa ?_|refine Q8 hG aa ?_|refine Q9 rfl ?_|refine QF rfl ?_|refine QC rfl ⟨fun h=>?_,fun h=>?_⟩|((conv=>whnf); first|refine anF ?_|refine anT ?_|refine anK ?_|refine Exists.intro _ (And.intro (c1) ?_)|refine Exists.intro _ (And.intro (c2) ?_)|refine Exists.intro _ (And.intro (c3) ?_)|refine And.intro (fun h=>?_) (fun h=>?_)|refine Or.inl ?_)
  all_goals exact Ends.mk (Or.inl rfl) (ac rfl)
end Go.Proofs
namespace Go.Proofs
open Go Go.AI
set_option maxRecDepth 10000
theorem SPB.nilT {Γ:aO} {s:St} {K:Exit→St→Prop} {c:Code} (d k sz0 sz:Nat) (h1:AI.get s.t d=some (.sl (.id k) sz0 [])) (h:SPB Γ ⟨(d,.sl .no sz [])::s.t,s.b⟩ c K):SPB Γ s c K:=by
 refine ⟨fun a w hI=>h.out a w ?_⟩
 obtain ⟨⟨cx,hW,ht⟩,hs,hd,hrn⟩:=hI
 refine ⟨⟨cx,hW,fun e x hx=>?_⟩,hs,hd,hrn⟩
 rw [aq] at hx
 split at hx
 ·rename_i he
  subst he
  cases hx
  exact (AV.weak.slnil:(AV.sl .no sz0 []).weak (.sl .no sz [])) _ _ (ht _ _ h1).2.2
 ·exact ht e x hx
theorem ws {l:List Int} {n:Int}:∀ (i:Nat),i≤l.length→(∀ y∈l.take i,y<n)→(∀ y,(l.drop i).head?=some y→¬ y<n)→l.takeWhile (fun x=>decide (x<n))=l.take i∧l.dropWhile (fun x=>decide (x<n))=l.drop i:=by
 induction l with
 | nil=>intro i h _ _; simp at h; subst h; exact ⟨rfl,rfl⟩
 | cons x r ih=>
  intro i h h1 h2
  cases i with
  | zero=>
   have:=h2 x rfl
   have e:decide (x<n)=false:=decide_eq_false this
   rw [List.takeWhile_cons,List.dropWhile_cons,e]; exact ⟨rfl,rfl⟩
  | succ i=>
   have e:decide (x<n)=true:=decide_eq_true (h1 x (by simp))
   obtain ⟨g1,g2⟩:=ih i (by simpa using h) (fun y hy=>h1 y (by simp [hy])) h2
   rw [List.takeWhile_cons,List.dropWhile_cons,e,if_pos rfl,if_pos rfl,g1,g2]; exact ⟨rfl,rfl⟩
theorem Fv {l:List Int} {n:Int} {i:Nat} (h:i<l.length) (h1:∀ y∈l.take i,y<n) (h2:ax l i=n):jp l n=l:=by
 have hd:(l.drop i).head?=some n:=by rw [List.drop_eq_getElem_cons h,← h2]; simp [ax,List.getElem?_eq_getElem h]
 obtain ⟨_,g2⟩:=ws (n:=n) i (by omega) h1 fun y hy=>by rw [hd] at hy; cases hy; omega
 unfold jp
 rw [if_pos (by rw [g2]; exact hd)]
theorem Ak {l:List Int} {n:Int} {i:Nat} (h:i≤l.length) (h1:∀ y∈l.take i,y<n) (h2:i<l.length→¬ ax l i<n∧ax l i≠n):jp l n=l.take i++n::l.drop i:=by
 have hd:∀ y,(l.drop i).head?=some y→¬ y<n∧y≠n:=fun y hy=>by
  by_cases hi:i<l.length
  ·rw [List.drop_eq_getElem_cons hi] at hy
   have e:y=ax l i:=by simp only [List.head?_cons,Option.some.injEq] at hy; rw [← hy]; simp [ax,List.getElem?_eq_getElem hi]
   rw [e]; exact h2 hi
  ·rw [List.drop_of_length_le (by omega)] at hy; cases hy
 obtain ⟨g1,g2⟩:=ws (n:=n) i h h1 fun y hy=>(hd y hy).1
 unfold jp
 rw [g1,g2,if_neg fun e=>(hd n e).2 rfl]
theorem C4 (l:List Int) (n:Int):(jp l n).length≤l.length+1:=by
 unfold jp
 split
 ·omega
 ·have:=congrArg List.length (List.takeWhile_append_dropWhile (p:=fun x=>decide (x<n)) (l:=l))
  rw [List.length_append] at this
  rw [List.length_append,List.length_cons]; omega
theorem Gz {l:List Int} {n:Int} {i:Nat} (h:i<l.length) (h1:∀ y∈l.take i,y<n) (h2:ax l i<n):∀ y∈l.take (i+1),y<n:=fun y hy=>by
 rw [fj h] at hy
 rcases List.mem_append.1 hy with hy | hy
 ·exact h1 y hy
 ·rw [List.mem_singleton.1 hy]; exact h2
set_option maxHeartbeats 4000000 in
theorem B0 (l:List Int) (n:Int) (hl:l.length≤1000000):ae Tryz.prog 113 [aw l,.int .i64 n] (aw (jp l n)):=by
 have hlm:(l.map (fun h=>[AV.int .i64 h])).length=l.length:=List.length_map _
 refine ag aa Tryz.func113 rfl (by kernel_rfl) af (Nat.le_of_ble_eq_true rfl) ?_
 intro F n' w0 m0 hG hro h1
 repeat' first|refine Q1 ?_|refine Q2 ?_|refine Q3 hG aa aS ?_|refine Q4 hG aa aS ?_|refine Q5 hG aa ?_|refine Q6 hG aa ?_|refine Q7 hG aa ?_|refine Q8 hG aa ?_|refine Q9 rfl ?_|refine QF rfl ?_|refine QC rfl ⟨fun h=>?_,fun h=>?_⟩|((conv=>whnf); first|refine anF ?_|refine anT ?_|refine anK ?_|refine And.intro (fun h=>?_) (fun h=>?_)|refine Or.inl ?_)
 refine ap (X:=Nat) (fun x=>⟨[(5,.int .i64 x),(1,.int .i64 n),(0,aw l)],[]⟩) (fun x=>x≤l.length∧∀ y∈l.take x,y<n) (fun x=>l.length-x) 0 ⟨Nat.zero_le _,fun y hy=>by simp at hy⟩ (ah ?_ ?_) (fun x hx=>?_)
 ·repeat' (first|exact trivial|refine And.intro rfl ?_)
 ·repeat' (first|exact trivial|refine And.intro rfl ?_)
 ·rename Nat=>i
  obtain ⟨hi,ht⟩:=hx
  obtain ⟨T,hT⟩:∃ T,T=(List.take ((i:Int)).toNat (l.map (fun h=>[AV.int .i64 h]))).drop 0:=⟨_,rfl⟩
  obtain ⟨D,hD⟩:∃ D,D=(List.take (l.map (fun h=>[AV.int .i64 h])).length (l.map (fun h=>[AV.int .i64 h]))).drop ((i:Int)).toNat:=⟨_,rfl⟩
  have hT2:T=(l.take i).map (fun h=>[AV.int .i64 h]):=by rw [hT,List.drop_zero,Int.toNat_natCast,List.map_take]
  have hD2:D=(l.drop i).map (fun h=>[AV.int .i64 h]):=by rw [hD,List.take_length,Int.toNat_natCast,List.map_drop]
  by_cases hlt:i<l.length
  ·have bbk:decide ((i:Int)<((l.map (fun h=>[AV.int .i64 h])).length:Int))=false→False:=fun h=>by have:=of_decide_eq_false h; rw [hlm] at this; omega
   have hx:=el hlt
   have f1:=Fv hlt ht
   have f2:=Ak (n:=n) (Nat.le_of_lt hlt) ht
   have f3:=Gz hlt ht
   generalize ax l i=u at *
   repeat' first|exact (bbk (by assumption)).elim|refine Q1 ?_|refine Q2 ?_|refine Q3 hG aa aS ?_|refine Q4 hG aa aS ?_|refine Q5 hG aa ?_|refine Q6 hG aa ?_|refine Q7 hG aa ?_|refine Q8 hG aa ?_|refine Q9 rfl ?_|refine QF rfl ?_|refine QC rfl ⟨fun h=>?_,fun h=>?_⟩|((conv=>whnf); first|refine anF ?_|refine anT ?_|refine anK ?_|refine And.intro (Int.natCast_nonneg i) (Exists.intro _ (And.intro hx ?_))|refine And.intro (Int.natCast_nonneg i) ?_|refine And.intro (Nat.zero_le _) ?_|refine And.intro (show ((i:Int)).toNat≤_ by rw [hlm]; omega) ?_|refine And.intro (Nat.le_refl _) ?_|refine And.intro rfl ?_|refine And.intro (show _*8≤70368744177664 by simp only [List.length_append,List.length_cons,List.length_nil,List.length_drop,List.length_take,List.length_map]; omega) ?_|refine And.intro (show _≤4611686018427387904 by simp only [List.length_append,List.length_cons,List.length_nil,List.length_drop,List.length_take,List.length_map]; omega) ?_|refine And.intro (fun h=>?_) (fun h=>?_)|refine Or.inl ?_)
   ·refine Exists.intro (i+1) (And.intro ⟨hlt,f3 (of_decide_eq_true (by assumption))⟩ (And.intro (by omega) (ah ?_ ?_)))
    ·refine And.intro (congrArg some (ao (by omega))) ?_
     repeat' (first|exact trivial|refine And.intro rfl ?_)
    ·repeat' (first|exact trivial|refine And.intro rfl ?_)
   ·dsimp only
    exact Ends.mk (Or.inl rfl) (ac (by rw [f1 (eq_of_beq (by assumption))]; rfl))
   ·have hDc:D=[.int .i64 (l[i]'hlt)]::(l.drop (i+1)).map (fun h=>[AV.int .i64 h]):=by rw [hD2,List.drop_eq_getElem_cons hlt]; rfl
    have f2:=f2 fun _=>⟨of_decide_eq_false (by assumption),fun e=>by have h:=(by assumption:(u==n)=false); rw [e] at h; simp at h⟩
    rw [← hD,hDc]
    repeat' first|refine Q1 ?_|refine Q2 ?_|refine Q3 hG aa aS ?_|refine Q4 hG aa aS ?_|refine Q5 hG aa ?_|refine Q6 hG aa ?_|refine Q7 hG aa ?_|refine Q8 hG aa ?_|refine Q9 rfl ?_|refine QF rfl ?_|refine QC rfl ⟨fun h=>?_,fun h=>?_⟩|((conv=>whnf); first|refine anF ?_|refine anT ?_|refine anK ?_|refine And.intro (Int.natCast_nonneg i) ?_|refine And.intro (Nat.zero_le _) ?_|refine And.intro (show ((i:Int)).toNat≤_ by rw [hlm]; omega) ?_|refine And.intro (Nat.le_refl _) ?_|refine And.intro rfl ?_|refine And.intro (show _*8≤70368744177664 by simp only [List.length_append,List.length_cons,List.length_nil,List.length_drop,List.length_take,List.length_map]; omega) ?_|refine And.intro (show _≤4611686018427387904 by simp only [List.length_append,List.length_cons,List.length_nil,List.length_drop,List.length_take,List.length_map]; omega) ?_|refine And.intro (fun h=>?_) (fun h=>?_)|refine Or.inl ?_)
    rw [← hT]
    cases T with
    | nil=>
     repeat' first|refine Q1 ?_|refine Q2 ?_|refine Q3 hG aa aS ?_|refine Q4 hG aa aS ?_|refine Q5 hG aa ?_|refine Q6 hG aa ?_|refine Q7 hG aa ?_|refine Q8 hG aa ?_|refine Q9 rfl ?_|refine QF rfl ?_|refine QC rfl ⟨fun h=>?_,fun h=>?_⟩|((conv=>whnf); first|refine anF ?_|refine anT ?_|refine anK ?_|refine And.intro (Int.natCast_nonneg i) ?_|refine And.intro (Nat.zero_le _) ?_|refine And.intro (show ((i:Int)).toNat≤_ by rw [hlm]; omega) ?_|refine And.intro (Nat.le_refl _) ?_|refine And.intro rfl ?_|refine And.intro (show _*8≤70368744177664 by simp only [List.length_append,List.length_cons,List.length_nil,List.length_drop,List.length_take,List.length_map]; omega) ?_|refine And.intro (show _≤4611686018427387904 by simp only [List.length_append,List.length_cons,List.length_nil,List.length_drop,List.length_take,List.length_map]; omega) ?_|refine And.intro (fun h=>?_) (fun h=>?_)|refine Or.inl ?_)
     exact Ends.mk (Or.inl rfl) (ac (congrArg (AV.sl .no 1) (by rw [f2,List.map_append,List.map_cons,← hT2,← hD2,hDc]; try rfl)))
    | cons t T'=>
     repeat' first|refine Q1 ?_|refine Q2 ?_|refine Q3 hG aa aS ?_|refine Q4 hG aa aS ?_|refine Q5 hG aa ?_|refine Q6 hG aa ?_|refine Q7 hG aa ?_|refine Q8 hG aa ?_|refine Q9 rfl ?_|refine QF rfl ?_|refine QC rfl ⟨fun h=>?_,fun h=>?_⟩|((conv=>whnf); first|refine anF ?_|refine anT ?_|refine anK ?_|refine And.intro (Int.natCast_nonneg i) ?_|refine And.intro (Nat.zero_le _) ?_|refine And.intro (show ((i:Int)).toNat≤_ by rw [hlm]; omega) ?_|refine And.intro (Nat.le_refl _) ?_|refine And.intro rfl ?_|refine And.intro (show _*8≤70368744177664 by simp only [List.length_append,List.length_cons,List.length_nil,List.length_drop,List.length_take,List.length_map]; omega) ?_|refine And.intro (show _≤4611686018427387904 by simp only [List.length_append,List.length_cons,List.length_nil,List.length_drop,List.length_take,List.length_map]; omega) ?_|refine And.intro (fun h=>?_) (fun h=>?_)|refine Or.inl ?_)
     exact Ends.mk (Or.inl rfl) (ac (congrArg (AV.sl .no 1) (by rw [f2,List.map_append,List.map_cons,← hT2,← hD2,hDc]; try rfl)))
  ·have bbk:decide ((i:Int)<((l.map (fun h=>[AV.int .i64 h])).length:Int))=true→False:=fun h=>by have:=of_decide_eq_true h; rw [hlm] at this; omega
   repeat' first|exact (bbk (by assumption)).elim|refine Q1 ?_|refine Q2 ?_|refine Q3 hG aa aS ?_|refine Q4 hG aa aS ?_|refine Q5 hG aa ?_|refine Q6 hG aa ?_|refine Q7 hG aa ?_|refine Q8 hG aa ?_|refine Q9 rfl ?_|refine QF rfl ?_|refine QC rfl ⟨fun h=>?_,fun h=>?_⟩|((conv=>whnf); first|refine anF ?_|refine anT ?_|refine anK ?_|refine And.intro (Int.natCast_nonneg i) ?_|refine And.intro (Nat.zero_le _) ?_|refine And.intro (show ((i:Int)).toNat≤_ by rw [hlm]; omega) ?_|refine And.intro (Nat.le_refl _) ?_|refine And.intro rfl ?_|refine And.intro (show _*8≤70368744177664 by simp only [List.length_append,List.length_cons,List.length_nil,List.length_drop,List.length_take,List.length_map]; omega) ?_|refine And.intro (show _≤4611686018427387904 by simp only [List.length_append,List.length_cons,List.length_nil,List.length_drop,List.length_take,List.length_map]; omega) ?_|refine And.intro (fun h=>?_) (fun h=>?_)|refine Or.inl ?_)
   have hDc:D=[]:=by rw [hD2,List.drop_of_length_le (by omega)]; rfl
   have f2:=Ak (n:=n) hi ht fun h=>absurd h hlt
   rw [← hD,hDc]
   repeat' first|refine Q1 ?_|refine Q2 ?_|refine Q3 hG aa aS ?_|refine Q4 hG aa aS ?_|refine Q5 hG aa ?_|refine Q6 hG aa ?_|refine Q7 hG aa ?_|refine Q8 hG aa ?_|refine Q9 rfl ?_|refine QF rfl ?_|refine QC rfl ⟨fun h=>?_,fun h=>?_⟩|((conv=>whnf); first|refine anF ?_|refine anT ?_|refine anK ?_|refine And.intro (Int.natCast_nonneg i) ?_|refine And.intro (Nat.zero_le _) ?_|refine And.intro (show ((i:Int)).toNat≤_ by rw [hlm]; omega) ?_|refine And.intro (Nat.le_refl _) ?_|refine And.intro rfl ?_|refine And.intro (show _*8≤70368744177664 by simp only [List.length_append,List.length_cons,List.length_nil,List.length_drop,List.length_take,List.length_map]; omega) ?_|refine And.intro (show _≤4611686018427387904 by simp only [List.length_append,List.length_cons,List.length_nil,List.length_drop,List.length_take,List.length_map]; omega) ?_|refine And.intro (fun h=>?_) (fun h=>?_)|refine Or.inl ?_)
   rw [← hT]
   cases T with
   | nil=>
    repeat' first|refine Q1 ?_|refine Q2 ?_|refine Q3 hG aa aS ?_|refine Q4 hG aa aS ?_|refine Q5 hG aa ?_|refine Q6 hG aa ?_|refine Q7 hG aa ?_|refine Q8 hG aa ?_|refine Q9 rfl ?_|refine QF rfl ?_|refine QC rfl ⟨fun h=>?_,fun h=>?_⟩|((conv=>whnf); first|refine anF ?_|refine anT ?_|refine anK ?_|refine And.intro (Int.natCast_nonneg i) ?_|refine And.intro (Nat.zero_le _) ?_|refine And.intro (show ((i:Int)).toNat≤_ by rw [hlm]; omega) ?_|refine And.intro (Nat.le_refl _) ?_|refine And.intro rfl ?_|refine And.intro (show _*8≤70368744177664 by simp only [List.length_append,List.length_cons,List.length_nil,List.length_drop,List.length_take,List.length_map]; omega) ?_|refine And.intro (show _≤4611686018427387904 by simp only [List.length_append,List.length_cons,List.length_nil,List.length_drop,List.length_take,List.length_map]; omega) ?_|refine And.intro (fun h=>?_) (fun h=>?_)|refine Or.inl ?_)
    exact Ends.mk (Or.inl rfl) (ac (congrArg (AV.sl .no 1) (by rw [f2,List.map_append,List.map_cons,← hT2,← hD2,hDc]; try rfl)))
   | cons t T'=>
    repeat' first|refine Q1 ?_|refine Q2 ?_|refine Q3 hG aa aS ?_|refine Q4 hG aa aS ?_|refine Q5 hG aa ?_|refine Q6 hG aa ?_|refine Q7 hG aa ?_|refine Q8 hG aa ?_|refine Q9 rfl ?_|refine QF rfl ?_|refine QC rfl ⟨fun h=>?_,fun h=>?_⟩|((conv=>whnf); first|refine anF ?_|refine anT ?_|refine anK ?_|refine And.intro (Int.natCast_nonneg i) ?_|refine And.intro (Nat.zero_le _) ?_|refine And.intro (show ((i:Int)).toNat≤_ by rw [hlm]; omega) ?_|refine And.intro (Nat.le_refl _) ?_|refine And.intro rfl ?_|refine And.intro (show _*8≤70368744177664 by simp only [List.length_append,List.length_cons,List.length_nil,List.length_drop,List.length_take,List.length_map]; omega) ?_|refine And.intro (show _≤4611686018427387904 by simp only [List.length_append,List.length_cons,List.length_nil,List.length_drop,List.length_take,List.length_map]; omega) ?_|refine And.intro (fun h=>?_) (fun h=>?_)|refine Or.inl ?_)
    exact Ends.mk (Or.inl rfl) (ac (congrArg (AV.sl .no 1) (by rw [f2,List.map_append,List.map_cons,← hT2,← hD2,hDc]; try rfl)))
def rfk (l:List Opt) (i:Nat):List Int:=((l.take i).flatMap fun o=>(o.sl.take 6).map (·.p)).foldl jp []
def rfj (l:List Opt) (i j:Nat):List Int:=(((aG l i).sl.take j).map (·.p)).foldl jp (rfk l i)
theorem wH {l:List Opt} {i:Nat} (h:i<l.length):rfk l (i+1)=rfj l i 6:=by
 unfold rfk rfj rfk
 rw [bw ml h,List.flatMap_append,List.foldl_append,List.flatMap_cons,List.flatMap_nil,List.append_nil]; rfl
theorem C2 {l:List Opt} {i j:Nat} (h:j<(aG l i).sl.length):rfj l i (j+1)=jp (rfj l i j) (er (aG l i) j).p:=by
 unfold rfj
 rw [bw rJ h,List.map_append,List.foldl_append]; rfl
theorem Fs {l:List Opt} {i j:Nat} (h:j=min (aG l i).sl.length 6):rfj l i j=rfj l i 6:=by
 unfold rfj
 rw [show (aG l i).sl.take j=(aG l i).sl.take 6 from by rw [h,Nat.min_comm,← List.take_eq_take_min]]
theorem Fr {l:List Opt} {i:Nat} (h:i=min l.length 8):rfk l i=az l:=by
 rw [← uh,tJ,rfk,show l.take i=l.take 8 from by rw [h,Nat.min_comm,← List.take_eq_take_min]]
theorem lM:∀ (x a:List Int),(x.foldl jp a).length≤a.length+x.length
 | [],a=>Nat.le_refl _
 | y::x,a=>by
  have h1:=lM x (jp a y)
  have h2:=C4 a y
  rw [List.foldl_cons,List.length_cons]; omega
theorem Ah (l:List Opt) (i j:Nat):(rfj l i j).length≤(rfk l i).length+j:=by
 have:=lM (((aG l i).sl.take j).map (·.p)) (rfk l i)
 rw [List.length_map,List.length_take] at this
 unfold rfj; omega
theorem Ag (l:List Opt):∀ i,i≤l.length→(rfk l i).length≤6*i
 | 0,_=>by simp [rfk]
 | i+1,h=>by
  rw [wH (by omega)]
  have h1:=Ah l i 6
  have h2:=Ag l i (by omega)
  omega
set_option maxHeartbeats 4000000 in
theorem kW (l:List Opt) (hl:l.length≤1000000) (hs:dQ l):ae Tryz.prog 45 [aK l] (aw (az l)):=by
 refine ag aa Tryz.func45 rfl (by kernel_rfl) af (Nat.le_of_ble_eq_true rfl) ?_
 intro F n' w0 m0 hG hro h1
 repeat' first|refine Q1 ?_|refine Q2 ?_|refine Q3 hG aa cv ?_|refine Q4 hG aa cv ?_|refine Q5 hG aa ?_|refine Q6 hG aa ?_|refine Q7 hG aa ?_|refine Q8 hG aa ?_|refine Q9 rfl ?_|refine QF rfl ?_|refine QC rfl ⟨fun h=>?_,fun h=>?_⟩|((conv=>whnf); first|refine anF ?_|refine anT ?_|refine anK ?_|refine And.intro (fun h=>?_) (fun h=>?_)|refine Or.inl ?_)
 refine SPB.nilT 3 3 1 1 rfl ?_
 refine ap (X:=Nat) (fun x=>⟨[(4,.int .i64 x),(3,aw (rfk l x)),(0,aK l)],[]⟩) (fun x=>x≤min l.length 8) (fun x=>min l.length 8-x) 0 (Nat.zero_le _) (ah ?_ ?_) (fun x hx=>?_)
 ·repeat' (first|exact trivial|refine And.intro rfl ?_)
 ·repeat' (first|exact trivial|refine And.intro rfl ?_)
 ·rename Nat=>i
  have hi_i:=hx
  by_cases hlt_i:i<min l.length 8
  ·have ba_i:decide ((i:Int)<((l.map aH).length:Int))=false→False:=fun h=>by have:=of_decide_eq_false h; simp at this; omega
   have bb_i:decide ((i:Int)<8)=false→False:=fun h=>by have:=of_decide_eq_false h; omega
   have hop:=gB (l:=l) (i:=i) (by omega)
   have hkl:=Ag l i (by omega)
   have h0:rfk l i=rfj l i 0:=by unfold rfj; simp
   rw [h0]
   repeat' first|exact (ba_i (by assumption)).elim|exact (bb_i (by assumption)).elim|refine Q1 ?_|refine Q2 ?_|refine Q3 hG aa cv ?_|refine Q4 hG aa cv ?_|refine Q5 hG aa ?_|refine Q6 hG aa ?_|refine Q7 hG aa ?_|refine Q8 hG aa ?_|refine Q9 rfl ?_|refine QF rfl ?_|refine QC rfl ⟨fun h=>?_,fun h=>?_⟩|((conv=>whnf); first|refine anF ?_|refine anT ?_|refine anK ?_|refine And.intro (fun h=>?_) (fun h=>?_)|refine Or.inl ?_)
   refine ap (X:=Nat) (fun x=>⟨[(5,.int .i64 x),(4,.int .i64 i),(3,aw (rfj l i x)),(0,aK l)],[]⟩) (fun x=>x≤min (aG l i).sl.length 6) (fun x=>min (aG l i).sl.length 6-x) 0 (Nat.zero_le _) (ah ?_ ?_) (fun x hx=>?_)
   ·repeat' (first|exact trivial|refine And.intro rfl ?_)
   ·repeat' (first|exact trivial|refine And.intro rfl ?_)
   ·rename Nat=>j
    have hi_j:=hx
    by_cases hlt_j:j<min (aG l i).sl.length 6
    ·have ba_j:decide ((j:Int)<(((aG l i).sl.map ay).length:Int))=false→False:=fun h=>by have:=of_decide_eq_false h; simp at this; omega
     have bb_j:decide ((j:Int)<6)=false→False:=fun h=>by have:=of_decide_eq_false h; omega
     have hy:=dc (l:=(aG l i).sl) (i:=j) (by omega)
     have hs:=C2 (l:=l) (i:=i) (j:=j) (by omega)
     have hjl:=Ah l i j
     have hu2:(er (aG l i) j).p=((aG l i).sl.getD j ⟨0,0,0⟩).p:=rfl
     rw [hu2] at hs
     generalize (aG l i).sl.getD j ⟨0,0,0⟩=y at *
     have cP:=B0 (rfj l i j) y.p (by omega)
     rw [← hs] at cP
     generalize aG l i=u at *
     repeat' first|exact (ba_j (by assumption)).elim|exact (bb_j (by assumption)).elim|refine Q1 ?_|refine Q2 ?_|refine Q3 hG aa cv ?_|refine Q4 hG aa cv ?_|refine Q5 hG aa ?_|refine Q6 hG aa ?_|refine Q7 hG aa ?_|refine Q8 hG aa ?_|refine Q9 rfl ?_|refine QF rfl ?_|refine QC rfl ⟨fun h=>?_,fun h=>?_⟩|((conv=>whnf); first|refine anF ?_|refine anT ?_|refine anK ?_|refine And.intro (Int.natCast_nonneg i) (Exists.intro _ (And.intro hop ?_))|refine And.intro (Int.natCast_nonneg j) (Exists.intro _ (And.intro hy ?_))|refine Exists.intro _ (And.intro (cP) ?_)|refine And.intro (fun h=>?_) (fun h=>?_)|refine Or.inl ?_)
     refine Exists.intro (j+1) (And.intro hlt_j (And.intro (by omega) (ah ?_ ?_)))
     ·refine And.intro (congrArg some (ao (by omega))) (And.intro (congrArg some rfl) ?_)
      repeat' (first|exact trivial|refine And.intro rfl ?_)
     ·repeat' (first|exact trivial|refine And.intro rfl ?_)
    ·have bc_j:decide ((j:Int)<(((aG l i).sl.map ay).length:Int))=true→decide ((j:Int)<6)=true→False:=fun h h2=>by have:=of_decide_eq_true h; have:=of_decide_eq_true h2; simp at *; omega
     have he:=Fs (l:=l) (i:=i) (j:=j) (by omega)
     have hs:=wH (l:=l) (i:=i) (by omega)
     rw [he,← hs]
     generalize aG l i=u at *
     repeat' first|exact (bc_j (by assumption) (by assumption)).elim|refine Q1 ?_|refine Q2 ?_|refine Q3 hG aa cv ?_|refine Q4 hG aa cv ?_|refine Q5 hG aa ?_|refine Q6 hG aa ?_|refine Q7 hG aa ?_|refine Q8 hG aa ?_|refine Q9 rfl ?_|refine QF rfl ?_|refine QC rfl ⟨fun h=>?_,fun h=>?_⟩|((conv=>whnf); first|refine anF ?_|refine anT ?_|refine anK ?_|refine And.intro (Int.natCast_nonneg i) (Exists.intro _ (And.intro hop ?_))|refine And.intro (fun h=>?_) (fun h=>?_)|refine Or.inl ?_)
     all_goals (refine Exists.intro (i+1) (And.intro hlt_i (And.intro (by omega) (ah ?_ ?_))))
     all_goals first
      |(refine And.intro (congrArg some (ao (by omega))) (And.intro rfl ?_)
        repeat' (first|exact trivial|refine And.intro rfl ?_))
      |(repeat' (first|exact trivial|refine And.intro rfl ?_))
  ·have bc_i:decide ((i:Int)<((l.map aH).length:Int))=true→decide ((i:Int)<8)=true→False:=fun h h2=>by have:=of_decide_eq_true h; have:=of_decide_eq_true h2; simp at *; omega
   rw [Fr (l:=l) (i:=i) (by omega)]
   repeat' first|exact (bc_i (by assumption) (by assumption)).elim|refine Q1 ?_|refine Q2 ?_|refine Q3 hG aa cv ?_|refine Q4 hG aa cv ?_|refine Q5 hG aa ?_|refine Q6 hG aa ?_|refine Q7 hG aa ?_|refine Q8 hG aa ?_|refine Q9 rfl ?_|refine QF rfl ?_|refine QC rfl ⟨fun h=>?_,fun h=>?_⟩|((conv=>whnf); first|refine anF ?_|refine anT ?_|refine anK ?_|refine And.intro (fun h=>?_) (fun h=>?_)|refine Or.inl ?_)
   all_goals exact Ends.mk (Or.inl rfl) (ac rfl)
theorem fT (s:Nat→Int) (l:List Opt) (ps:List am) (k a b:Int) (hl:l.length≤1000000) (hs:dQ l) (hps:ps.length≤1000000):ae Tryz.prog 52 [.agg (aU s),aK l,al ps,.int .i64 k,.agg (aD a b)] (.bool (aX s l ps k a b)):=by
 have hfl:(((az l).map (fun h=>[AV.int .i64 h])).length:Int)=((az l).length:Int):=by rw [List.length_map]
 have hv:aX s l ps k a b=(aY s l ps a b&&(decide (0≤k)&&(decide (k≤3)&&decide (((az l).length:Int)≤6)))):=by
  unfold aX jc
  cases aY s l ps a b <;> cases decide (0≤k) <;> cases decide (k≤3) <;> rfl
 rw [hv]
 refine ag aa Tryz.func52 rfl (by kernel_rfl) af (Nat.le_of_ble_eq_true rfl) ?_
 intro F n' w0 m0 hG hro h1
 repeat' first|refine Q1 ?_|refine Q2 ?_|refine Q3 hG aa qP ?_|refine Q4 hG aa qP ?_|refine Q5 hG aa ?_|refine Q6 hG aa ?_|refine Q7 hG aa ?_|refine Q8 hG aa ?_|refine Q9 rfl ?_|refine QF rfl ?_|refine QC rfl ⟨fun h=>?_,fun h=>?_⟩|((conv=>whnf); first|refine anF ?_|refine anT ?_|refine anK ?_|refine Exists.intro _ (And.intro (x5 s l ps a b hl hs hps) ?_)|refine Exists.intro _ (And.intro (kW l hl hs) ?_)|refine And.intro (fun h=>?_) (fun h=>?_)|refine Or.inl ?_)
 all_goals refine Ends.mk (Or.inl rfl) (ac (congrArg AV.bool ?_))
 all_goals (rw [hfl] at *; clear hG; grind)
end Go.Proofs
namespace Go.Proofs
open Go Go.AI
set_option maxRecDepth 10000
theorem DR:((List.range 64).all fun b=>(List.range 6).all fun i=>(((b:Int).fdiv (2 ^ (min (i:Int).toNat IntKind.i64.bits))).tmod 2==1)==vL b i)=true:=by kernel_rfl
theorem FV {b i:Nat} (hb:b<64) (hi:i<6):(((b:Int).fdiv (2 ^ (min (i:Int).toNat IntKind.i64.bits))).tmod 2==1)=vL b i:=by
 have h:=List.all_eq_true.1 (List.all_eq_true.1 DR b (List.mem_range.2 hb)) i (List.mem_range.2 hi)
 exact beq_iff_eq.1 h
theorem BM (ps:List am) (k:Int):ey ps [] k=(jc k&&bz ps):=by
 have e:decide ((rZ ps []:Int)≤k)=decide (0≤k):=rfl
 have e2:gG ps []=bz ps:=rfl
 unfold ey
 rw [e,e2]
 unfold jc
 cases decide (0≤k) <;> cases decide (k≤3) <;> cases bz ps <;> rfl
def j9 (l:List Opt) (ps:List am) (k:Int):AV := .tup (if c8 l ps k then [.sl .no 1 [],.int .i64 210] else [ka (bj (az l) ps k),.int .i64 0])
set_option maxHeartbeats 8000000 in
theorem j6 (l:List Opt) (ps:List am) (k:Int) (hl:l.length≤1000000) (hs:dQ l) (hps:ps.length≤1000000):ae Tryz.prog 49 [aK l,al ps,.int .i64 k] (j9 l ps k):=by
  have cN:ae Tryz.prog 119 [al ps,.sl .full 0 [],.int .i64 k] (.bool (jc k&&bz ps)):=by
    rw [← BM]
    exact (lQ ps [] k (Nat.zero_le _) hps).weak (.cons (.refl _) (.cons AV.weak.slnil (.cons (.refl _) (.refl _))))
  have hlm:((l.map aH).length:Int)=(l.length:Int):=by rw [List.length_map]
  have hfm:(((az l).map (fun h=>[AV.int .i64 h])).length:Int)=((az l).length:Int):=by rw [List.length_map]
  have hbad:fR l ps k=true→j9 l ps k = .tup [.sl .no 1 [],.int .i64 210]:=fun h=>by
    unfold j9 c8
    rw [h]; rfl
  refine ag aa Tryz.func49 rfl (by kernel_rfl) af (Nat.le_of_ble_eq_true rfl) ?_
  intro F n' w0 m0 hG hro h1
  repeat' first|refine Q1 ?_|refine Q2 ?_|refine Q3 hG aa br ?_|refine Q4 hG aa br ?_|refine Q5 hG aa ?_|refine Q6 hG aa ?_|refine Q7 hG aa ?_|refine Q8 hG aa ?_|refine Q9 rfl ?_|refine QF rfl ?_|refine QC rfl ⟨fun h=>?_,fun h=>?_⟩|((conv=>whnf); first|refine anF ?_|refine anT ?_|refine anK ?_|refine Exists.intro _ (And.intro (cN) ?_)|refine And.intro (fun h=>?_) (fun h=>?_)|refine Or.inl ?_)
  all_goals first
    | ((try dsimp only)
       refine Ends.mk (Or.inl rfl) (ac ?_)
       rw [hbad (by clear hG; grind [fR,jc])]; rfl)
    | skip
  refine ap (X:=Nat) (fun x=>⟨[(8,.int .i64 x),(2,.int .i64 k),(1,al ps),(0,aK l)],[]⟩) (fun x=>x≤l.length∧∀ o∈l.take x,bB o ps=true) (fun x=>l.length-x) 0 ⟨Nat.zero_le _,fun _ h=>by simp at h⟩ (ah ?_ ?_) (fun x hx=>?_)
  · repeat' (first|exact trivial|refine And.intro rfl ?_)
  · repeat' (first|exact trivial|refine And.intro rfl ?_)
  · rename Nat=>i
    obtain ⟨hi,ht⟩:=hx
    by_cases hlt_i:i<l.length
    · have bbk:decide ((i:Int)<((l.map aH).length:Int))=false→False:=fun h=>by have:=of_decide_eq_false h; simp at this; omega
      have hx:=gB hlt_i
      have hm:aG l i∈l:=by rw [cK hlt_i]; exact List.getElem_mem hlt_i
      have cV:=nJ (aG l i) ps (hs _ hm) hps
      have hn:=bw ml hlt_i
      have hb2:(!bB (aG l i) ps)=true→j9 l ps k = .tup [.sl .no 1 [],.int .i64 210]:=fun h=>hbad (by
        have h:bB (aG l i) ps=false:=by simpa using h
        have:(l.any fun o => !bB o ps)=true:=List.any_eq_true.2 ⟨_,hm,by rw [h]; rfl⟩
        unfold fR
        rw [this]; simp)
      have he:l.getD i ml=aG l i:=rfl
      rw [he] at hn
      generalize aG l i=u at *
      repeat' first|exact (bbk (by assumption)).elim|refine Q1 ?_|refine Q2 ?_|refine Q3 hG aa br ?_|refine Q4 hG aa br ?_|refine Q5 hG aa ?_|refine Q6 hG aa ?_|refine Q7 hG aa ?_|refine Q8 hG aa ?_|refine Q9 rfl ?_|refine QF rfl ?_|refine QC rfl ⟨fun h=>?_,fun h=>?_⟩|((conv=>whnf); first|refine anF ?_|refine anT ?_|refine anK ?_|refine And.intro (Int.natCast_nonneg i) (Exists.intro _ (And.intro hx ?_))|refine Exists.intro _ (And.intro (cV) ?_)|refine And.intro (fun h=>?_) (fun h=>?_)|refine Or.inl ?_)
      all_goals first
        | ((try dsimp only)
           refine Ends.mk (Or.inl rfl) (ac ?_)
           rw [hb2 (by assumption)]; rfl)
        | skip
      all_goals (refine Exists.intro (i+1) (And.intro ?_ (And.intro (by omega) (ah ?_ ?_))))
      all_goals first
        | (refine And.intro (congrArg some (ao (by omega))) ?_
           repeat' (first|exact trivial|refine And.intro rfl ?_))
        | ((repeat' (first|exact trivial|refine And.intro rfl ?_)); done)
        | (exact ⟨hlt_i,fun o ho=>by
             rw [hn] at ho
             rcases List.mem_append.1 ho with ho | ho
             · exact ht o ho
             · rw [List.mem_singleton.1 ho]; have h:=(by assumption:(!bB u ps)=false); simpa using h⟩)
    · have bbk:decide ((i:Int)<((l.map aH).length:Int))=true→False:=fun h=>by have:=of_decide_eq_true h; simp at this; omega
      have he:l.take i=l:=List.take_of_length_le (by omega)
      rw [he] at ht
      have hbs:fR l ps k=false:=by
        have h2:(l.any fun o => !bB o ps)=false:=by
          rw [List.any_eq_false]
          intro o ho
          rw [ht o ho]; decide
        clear hG
        grind [fR,jc]
      have hg6:(decide ((((az l).map (fun h=>[AV.int .i64 h])).length:Int)>6))=true→j9 l ps k = .tup [.sl .no 1 [],.int .i64 210]:=fun h=>by
        rw [hfm] at h
        unfold j9 c8
        rw [hbs,h]; rfl
      have hgo:(decide (((az l).length:Int)>6))=false→j9 l ps k = .tup [ka (dC (az l) ps k (2 ^ (az l).length)),.int .i64 0]:=fun h=>by
        unfold j9 c8
        rw [hbs,h]; rfl
      have cFk:=kW l hl hs
      generalize az l=f at *
      repeat' first|exact (bbk (by assumption)).elim|refine Q1 ?_|refine Q2 ?_|refine Q3 hG aa br ?_|refine Q4 hG aa br ?_|refine Q5 hG aa ?_|refine Q6 hG aa ?_|refine Q7 hG aa ?_|refine Q8 hG aa ?_|refine Q9 rfl ?_|refine QF rfl ?_|refine QC rfl ⟨fun h=>?_,fun h=>?_⟩|((conv=>whnf); first|refine anF ?_|refine anT ?_|refine anK ?_|refine Exists.intro _ (And.intro (cFk) ?_)|refine And.intro (fun h=>?_) (fun h=>?_)|refine Or.inl ?_)
      all_goals first
        | ((try dsimp only)
           refine Ends.mk (Or.inl rfl) (ac ?_)
           rw [hg6 (by assumption)]; rfl)
        | skip
      have hf6:f.length≤6:=by
        have h:=(by assumption:decide (((f.map (fun h=>[AV.int .i64 h])).length:Int)>6)=false)
        have:=of_decide_eq_false h
        rw [hfm] at this; omega
      have h64:=rT hf6
      rw [hgo (decide_eq_false (by omega))]
      refine ap (X:=Nat) (fun x=>⟨[(11,.int .i64 x),(10,.sl (.id 10) 1 ((dC f ps k x).map fun x=>[aw x])),(9,aw f),(2,.int .i64 k),(1,al ps)],[]⟩) (fun x=>x≤2 ^ f.length) (fun x=>2 ^ f.length-x) 0 (Nat.zero_le _) (ah ?_ ?_) (fun x hx=>?_)
      · repeat' (first|exact trivial|refine And.intro rfl ?_)
      · repeat' (first|exact trivial|refine And.intro rfl ?_)
      · rename Nat=>b
        have hb:=hx
        have hshl:IntKind.i64.wrap (1*2 ^ (min ((f.map (fun h=>[AV.int .i64 h])).length:Int).toNat IntKind.i64.bits))=((2 ^ f.length:Nat):Int):=by rw [hfm]; exact CQ hf6
        by_cases hlt_b:b<2 ^ f.length
        · have bbk:decide ((b:Int)<IntKind.i64.wrap (1*2 ^ (min ((f.map (fun h=>[AV.int .i64 h])).length:Int).toNat IntKind.i64.bits)))=false→False:=fun h=>by have:=of_decide_eq_false h; rw [hshl] at this; omega
          have hR0:((dC f ps k b).map fun x=>[aw x]).length≤64:=by
            rw [List.length_map]
            unfold dC
            refine Nat.le_trans (List.length_filter_le _ _) ?_
            rw [List.length_map,List.length_range]; omega
          obtain ⟨R0,hR⟩:∃ r,r=(dC f ps k b).map fun x=>[aw x]:=⟨_,rfl⟩
          rw [← hR] at hR0
          rw [← hR]
          repeat' first|exact (bbk (by assumption)).elim|refine Q1 ?_|refine Q2 ?_|refine Q3 hG aa br ?_|refine Q4 hG aa br ?_|refine Q5 hG aa ?_|refine Q6 hG aa ?_|refine Q7 hG aa ?_|refine Q8 hG aa ?_|refine Q9 rfl ?_|refine QF rfl ?_|refine QC rfl ⟨fun h=>?_,fun h=>?_⟩|((conv=>whnf); first|refine anF ?_|refine anT ?_|refine anK ?_|refine And.intro (Int.natCast_nonneg _) ?_|refine And.intro (fun h=>?_) (fun h=>?_)|refine Or.inl ?_)
          refine ap (X:=Nat) (fun x=>⟨[(13,.int .i64 x),(12,.sl (.id 12) 1 ((eq f b x).map (fun h=>[AV.int .i64 h]))),(11,.int .i64 b),(10,.sl (.id 10) 1 R0),(9,aw f),(2,.int .i64 k),(1,al ps)],[]⟩) (fun x=>x≤f.length) (fun x=>f.length-x) 0 (Nat.zero_le _) (ah ?_ ?_) (fun x hx=>?_)
          · repeat' (first|exact trivial|refine And.intro rfl ?_)
          · repeat' (first|exact trivial|refine And.intro rfl ?_)
          · rename Nat=>i
            have hi:=hx
            by_cases hlt_i:i<f.length
            · have bbi:decide ((i:Int)<((f.map (fun h=>[AV.int .i64 h])).length:Int))=false→False:=fun h=>by have:=of_decide_eq_false h; simp at this; omega
              have hx:=sA f i hlt_i
              have hbit:=FV (b:=b) (i:=i) (by omega) (by omega)
              have hst:=lX (b:=b) hlt_i
              have hln:((eq f b i).map fun h=>[AV.int .i64 h]).length≤6:=by rw [List.length_map]; have:=jm f b i; omega
              generalize f.getD i 0=v at hx hst
              repeat' first|exact (bbi (by assumption)).elim|refine Q1 ?_|refine Q2 ?_|refine Q3 hG aa br ?_|refine Q4 hG aa br ?_|refine Q5 hG aa ?_|refine Q6 hG aa ?_|refine Q7 hG aa ?_|refine Q8 hG aa ?_|refine Q9 rfl ?_|refine QF rfl ?_|refine QC rfl ⟨fun h=>?_,fun h=>?_⟩|((conv=>whnf); first|refine anF ?_|refine anT ?_|refine anK ?_|refine And.intro (Int.natCast_nonneg i) (Exists.intro _ (And.intro hx ?_))|refine And.intro (Int.natCast_nonneg i) ?_|refine And.intro (of_decide_eq_true (Eq.refl true)) ?_|refine And.intro (show (((eq f b i).map fun h=>[AV.int .i64 h]).length+1)*8≤70368744177664 by omega) (And.intro (show ((eq f b i).map fun h=>[AV.int .i64 h]).length+1≤4611686018427387904 by omega) ?_)|refine And.intro (fun h=>?_) (fun h=>?_)|refine Or.inl ?_)
              all_goals (refine Exists.intro (i+1) (And.intro hlt_i (And.intro (by omega) (ah ?_ ?_))))
              all_goals first
                | (refine And.intro (congrArg some (ao (by omega))) (And.intro (congrArg (fun z=>some (AV.sl (.id 12) 1 z)) ?_) ?_)
                   · (rw [hst,← hbit]
                      first
                        | (rw [if_pos (by assumption),List.map_append]; rfl)
                        | (rw [if_neg (fun h=>tf h (by assumption)),List.append_nil]))
                   · repeat' (first|exact trivial|refine And.intro rfl ?_))
                | (repeat' (first|exact trivial|refine And.intro rfl ?_))
            · have bbi:decide ((i:Int)<((f.map (fun h=>[AV.int .i64 h])).length:Int))=true→False:=fun h=>by have:=of_decide_eq_true h; simp at this; omega
              have he:i=f.length:=by omega
              have hsub:eq f b i=fk f b:=by rw [he]; rfl
              rw [hsub]
              have hsl:(fk f b).length≤1000000:=Nat.le_trans (jm f b f.length) (by omega)
              have hsucc:=ky f ps k b
              have cA:=lQ ps (fk f b) k hsl hps
              generalize fk f b=u at *
              repeat' first|exact (bbi (by assumption)).elim|refine Q1 ?_|refine Q2 ?_|refine Q3 hG aa br ?_|refine Q4 hG aa br ?_|refine Q5 hG aa ?_|refine Q6 hG aa ?_|refine Q7 hG aa ?_|refine Q8 hG aa ?_|refine Q9 rfl ?_|refine QF rfl ?_|refine QC rfl ⟨fun h=>?_,fun h=>?_⟩|((conv=>whnf); first|refine anF ?_|refine anT ?_|refine anK ?_|refine Exists.intro _ (And.intro (cA) ?_)|refine And.intro (show (R0.length+1)*24≤70368744177664 by omega) (And.intro (show R0.length+1≤4611686018427387904 by omega) ?_)|refine And.intro (fun h=>?_) (fun h=>?_)|refine Or.inl ?_)
              all_goals (refine Exists.intro (b+1) (And.intro hlt_b (And.intro (by omega) (ah ?_ ?_))))
              all_goals first
                | (refine And.intro (congrArg some (ao (by omega))) (And.intro (congrArg (fun z=>some (AV.sl (.id 10) 1 z)) ?_) ?_)
                   · (rw [hsucc]
                      first
                        | (rw [if_pos (by assumption),List.map_append,← hR]; rfl)
                        | (rw [if_neg (fun h=>tf h (by assumption)),List.append_nil,← hR]))
                   · repeat' (first|exact trivial|refine And.intro rfl ?_))
                | (repeat' (first|exact trivial|refine And.intro rfl ?_))
        · have bbk:decide ((b:Int)<IntKind.i64.wrap (1*2 ^ (min ((f.map (fun h=>[AV.int .i64 h])).length:Int).toNat IntKind.i64.bits)))=true→False:=fun h=>by have:=of_decide_eq_true h; rw [hshl] at this; omega
          have he:b=2 ^ f.length:=by omega
          subst he
          repeat' first|exact (bbk (by assumption)).elim|refine Q1 ?_|refine Q2 ?_|refine Q3 hG aa br ?_|refine Q4 hG aa br ?_|refine Q5 hG aa ?_|refine Q6 hG aa ?_|refine Q7 hG aa ?_|refine Q8 hG aa ?_|refine Q9 rfl ?_|refine QF rfl ?_|refine QC rfl ⟨fun h=>?_,fun h=>?_⟩|((conv=>whnf); first|refine anF ?_|refine anT ?_|refine anK ?_|refine And.intro (Int.natCast_nonneg _) ?_|refine And.intro (fun h=>?_) (fun h=>?_)|refine Or.inl ?_)
          all_goals exact Ends.mk (Or.inl rfl) (ac rfl)
end Go.Proofs
namespace Go.Proofs
open Go Go.AI
set_option maxRecDepth 10000
section
variable {Γ:aO} {s:St} {K:Exit→St→Prop}
theorem WI.rebox2 {c:Ctx} {bx:List (Nat×List AV)} {w:World} (hW:WI Γ c bx w) {d:Nat} {cs cs':List AV} (h:AI.get bx d=some cs) (hne:cs≠[]) (hl:cs'.length=cs.length) (hc:∀ x∈cs',x.isCell=true)
  (hr:∀ (vs:Array Value) (T:TypeId),w.heap[c.ρ d]?=some (.cells vs T (0,0))→(∀ (i:Nat) (x:AV) (v:Value),cs[i]?=some x→vs[i]?=some v→RC1 c x v)→∀ (i:Nat) (x:AV) (v:Value),cs'[i]?=some x→vs[i]?=some v→RC1 c x v):WI Γ c ((d,cs')::bx) w:=by
 obtain ⟨h1,h2,h3,vs,T,h4,h5,h6⟩:=hW.box d cs h hne
 refine ⟨hW.ext,hW.sub,hW.le0,hW.new,fun d' ds hd' hne'=>?_,fun d1 d2 c1 c2 g1 g2 n1 n2 hρ=>?_,fun k=>?_,fun k b o hx=>?_⟩
 ·rw [aq] at hd'
  split at hd'
  ·rename_i hdd
   subst hdd
   cases hd'
   exact ⟨h1,h2,hc,vs,T,h4,hl.trans h5,hr vs T h4 h6⟩
  ·exact hW.box d' ds hd' hne'
 ·rw [aq] at g1 g2
  split at g1
  ·rename_i e1
   split at g2
   ·rename_i e2; rw [e1,e2]
   ·rename_i e2
    rw [e1] at hρ ⊢
    exact hW.inj d d2 cs c2 h g2 hne n2 hρ
  ·rename_i e1
   split at g2
   ·rename_i e2
    rw [e2] at hρ ⊢
    exact hW.inj d1 d c1 cs g1 h n1 hne hρ
   ·exact hW.inj d1 d2 c1 c2 g1 g2 n1 n2 hρ
 ·have ho:=hW.own k
  refine ⟨ho.blk,ho.shape,fun g d' ds hg hd' hne'=>?_,ho.apart⟩
  rw [aq] at hd'
  split at hd'
  ·rename_i e; rw [e]; exact ho.box g d cs hg h hne
  ·exact ho.box g d' ds hg hd' hne'
 ·have hq:=hW.xo k b o hx
  refine ⟨hq.new,hq.obj,hq.kept,hq.mem,hq.map,fun d' ds hd' hne'=>?_,hq.own,hq.inj⟩
  rw [aq] at hd'
  split at hd'
  ·rename_i e; rw [e]; exact hq.box d cs h hne
  ·exact hq.box d' ds hd' hne'
theorem SPB.ownBox {c:Code} (d j k sz:Nat) {cs:List AV} (h1:AI.get s.b d=some cs) (h2:cs[j]?=some (.sl .full 0 [])) (h:SPB Γ ⟨(s.dem k).t,(d,bZ (cs.map (AV.dem1 k)) j (.sl (.id k) sz []))::(s.dem k).b⟩ c K):SPB Γ s c K:=by
 refine ⟨fun a w hI=>h.out a w ?_⟩
 obtain ⟨⟨cx,hW,ht⟩,hs,hd,hrn⟩:=hI
 have hne:cs≠[]:=fun e=>by rw [e] at h2; simp at h2
 obtain ⟨_,_,_,vs,T,q4,q5,q6⟩:=hW.box d cs h1 hne
 have hjl:=(List.getElem?_eq_some_iff.1 h2).1
 have hv:vs[j]?=some (vs[j]'(by omega)):=Array.getElem?_eq_getElem (by omega)
 generalize vs[j]'(by omega)=v at hv
 have hx:RD cx.m (.sl .full 0 []) v:=q6 j _ v h2 hv
 have hsp:kw v=false∧jC Γ.w0.heap.size v:=by
  cases hx with
  | sl _ _ _ base len cap ho hf hl' hc=>
   have:=hf rfl
   exact ⟨by simp [kw,this],.inr ⟨_,_,_,rfl,fun _=>this.symm,fun a _ h0=>by simp at hl'; omega⟩⟩
 have hx':RD cx.m (.sl .no sz []) v:=(AV.weak.slnil:(AV.sl .full 0 []).weak (.sl .no sz [])) _ _ hx
 have hW1:=hW.own_none k sz v hsp.2 hsp.1
 have hb:AI.get (s.dem k).b d=some (cs.map (AV.dem1 k)):=by rw [uA,h1]; rfl
 have hne1:cs.map (AV.dem1 k)≠[]:=by simpa using hne
 refine ⟨⟨_,WI.rebox2 (bx:=(s.dem k).b) hW1 hb hne1 (eB _ _ _) (fun x hx=>?_) (fun vs' T' e1 hvs i x v' p1 p2=>?_),fun e y hy=>?_⟩,hs,hd,hrn⟩
 ·obtain ⟨p,hp⟩:=List.getElem?_of_mem hx
  rw [da] at hp
  split at hp
  ·cases hp; rfl
  ·exact (hW1.box d _ hb hne1).2.2.1 x (List.mem_of_getElem? hp)
 ·have e:vs'=vs:=by
   have e2:=q4.symm.trans e1
   cases e2; rfl
  rw [da] at p1
  split at p1
  ·rename_i hj
   cases p1
   have ev:v'=v:=by
    rw [e,← hj.1] at p2
    exact Option.some.inj (p2.symm.trans hv)
   subst ev
   refine ⟨by simp [Ctx.own],fun h=>(by rw [hsp.1] at h; cases h),hx'⟩
  ·exact hvs i x v' p1 p2
 ·rw [li] at hy
  obtain ⟨z,hz,rfl⟩:=Option.map_eq_some_iff.1 hy
  exact (ht e z hz).reown (.refl _)
end
set_option maxHeartbeats 16000000 in
theorem BZ (s:Nat→Int) (l:List Opt) (ps:List am) (a b:Int) (lost:List Int) (hl1:l.length≤1000000) (hls:dQ l) (hps:ps.length≤1000000) (hlo:lost.length≤1000000)
  (hV:aX s l ps 0 a b=true→l.length≤8∧(∀ o∈l,1≤o.sl.length∧o.sl.length≤6∧jw o=true)∧(gG ps lost=true→∀ o∈l,ii o ps lost=true)) (hV2:aX s l ps 0 a b=true→f9 (az l) lost=true→gG ps lost=true):ae Tryz.prog 54 [.agg (aU s),aK l,al ps,.agg (aD a b),aw lost] (ki s l ps a b lost):=by
 have cV:=fT s l ps 0 a b hl1 hls hps
 have cFk:=kW l hl1 hls
 cases hv:aX s l ps 0 a b with
 | false=>
  rw [hv] at cV
  have hg:ki s l ps a b lost = .tup [.agg [.sl .full 0 [],.sl .full 0 [],.sl .full 0 [],.sl .full 0 []],.int .i64 210]:=by rw [ki,hv]; rfl
  rw [hg]
  refine ag aa Tryz.func54 rfl (by kernel_rfl) af (Nat.le_of_ble_eq_true rfl) ?_
  intro F n' w0 m0 hG hro h1
  repeat' first|refine Q1 ?_|refine Q2 ?_|refine Q3 hG aa bq ?_|refine Q4 hG aa bq ?_|refine Q5 hG aa ?_|refine Q6 hG aa ?_|refine Q7 hG aa ?_|refine Q8 hG aa ?_|refine Q9 rfl ?_|refine QF rfl ?_|refine QC rfl ⟨fun h=>?_,fun h=>?_⟩|((conv=>whnf); first|refine anF ?_|refine anT ?_|refine anK ?_|refine Exists.intro _ (And.intro (cV) ?_)|refine And.intro (fun h=>?_) (fun h=>?_)|refine Or.inl ?_)
  all_goals exact Ends.mk (Or.inl rfl) (ac rfl)
 | true=>
  rw [hv] at cV
  obtain ⟨hl,hfs,hs0⟩:=hV hv
  have hsl:∀ o∈l,o.sl.length≤6:=fun o ho=>(hfs o ho).2.1
  have hs1:∀ o∈l,1≤o.sl.length:=fun o ho=>(hfs o ho).1
  have hc:∀ o∈l,jw o=true:=fun o ho=>(hfs o ho).2.2
  have hbad:f9 (az l) lost=false→ki s l ps a b lost = .tup [.agg [.sl .full 0 [],.sl .full 0 [],.sl .full 0 [],.sl .full 0 []],.int .i64 210]:=fun h=>by rw [ki,hv,h]; rfl
  have hgood:f9 (az l) lost=true→ki s l ps a b lost = .tup [.agg (ko l lost),.int .i64 0]:=fun h=>by rw [ki,hv,h]; rfl
  have hV3:=hV2 hv
  have cH:=fun n=>uY (az l) n (by
   have:=congrArg (fun z=>z) hv
   simp only [aX,Bool.and_eq_true,decide_eq_true_eq] at this
   omega)
  generalize az l=f at *
  have hlom:((lost.map (fun h=>[AV.int .i64 h])).length:Int)=(lost.length:Int):=by rw [List.length_map]
  refine ag aa Tryz.func54 rfl (by kernel_rfl) af (Nat.le_of_ble_eq_true rfl) ?_
  intro F n' w0 m0 hG hro h1
  repeat' first|refine Q1 ?_|refine Q2 ?_|refine Q3 hG aa bq ?_|refine Q4 hG aa bq ?_|refine Q5 hG aa ?_|refine Q6 hG aa ?_|refine Q7 hG aa ?_|refine Q8 hG aa ?_|refine Q9 rfl ?_|refine QF rfl ?_|refine QC rfl ⟨fun h=>?_,fun h=>?_⟩|((conv=>whnf); first|refine anF ?_|refine anT ?_|refine anK ?_|refine Exists.intro _ (And.intro (cV) ?_)|refine Exists.intro _ (And.intro (cFk) ?_)|refine And.intro (fun h=>?_) (fun h=>?_)|refine Or.inl ?_)
  refine ap (X:=Nat) (fun x=>⟨[(13,.int .i64 x),(12,aw f),(10,.loc 10 0),(8,.loc 8 0),(5,.loc 5 0),(4,aw lost),(2,al ps),(1,aK l)],[(10,[.sl (.id 1010000) 0 [],.sl (.id 1010001) 0 [],.sl (.id 1010002) 0 [],.sl (.id 1010003) 0 []]),(8,aD a b),(5,aU s)]⟩) (fun x=>x≤lost.length∧(List.range x).all (jg f lost)=true) (fun x=>lost.length-x) 0 ⟨Nat.zero_le _,rfl⟩ (ah ?_ ?_) (fun x hx=>?_)
  ·repeat' (first|exact trivial|refine And.intro rfl ?_)
  ·repeat' (first|exact trivial|refine And.intro rfl ?_)
  ·rename Nat=>i
   obtain ⟨hi,ht⟩:=hx
   by_cases hlt_i:i<lost.length
   ·have bbk:decide ((i:Int)<((lost.map (fun h=>[AV.int .i64 h])).length:Int))=false→False:=fun h=>by have:=of_decide_eq_false h; simp at this; omega
    have hx:=el hlt_i
    have hw:(i:Int)>0→IntKind.i64.wrap ((i:Int)-1)=((i-1:Nat):Int):=fun h=>(ai (by omega) (by omega)).trans (by omega)
    have hp0:decide ((i:Int)>0)=true→0≤IntKind.i64.wrap ((i:Int)-1):=fun h=>by rw [hw (of_decide_eq_true h)]; omega
    have hp:decide ((i:Int)>0)=true→(lost.map (fun h=>[AV.int .i64 h]))[(IntKind.i64.wrap ((i:Int)-1)).toNat]?=some [.int .i64 (ax lost (i-1))]:=fun h=>by rw [hw (of_decide_eq_true h)]; exact el (by omega)
    have hok:jg f lost i=(inP f (ax lost i)&&(decide (i=0)||decide (ax lost (i-1)<ax lost i))):=rfl
    have hbd:jg f lost i=false→ki s l ps a b lost = .tup [.agg [.sl .full 0 [],.sl .full 0 [],.sl .full 0 [],.sl .full 0 []],.int .i64 210]:=fun h=>hbad (uC hlt_i h)
    have cHi:=cH (ax lost i)
    generalize ax lost (i-1)=v at hp hok
    generalize ax lost i=u at hx hok cHi
    generalize inP f u=inp at *
    repeat' first|exact (bbk (by assumption)).elim|refine Q1 ?_|refine Q2 ?_|refine Q3 hG aa bq ?_|refine Q4 hG aa bq ?_|refine Q5 hG aa ?_|refine Q6 hG aa ?_|refine Q7 hG aa ?_|refine Q8 hG aa ?_|refine Q9 rfl ?_|refine QF rfl ?_|refine QC rfl ⟨fun h=>?_,fun h=>?_⟩|((conv=>whnf); first|refine anF ?_|refine anT ?_|refine anK ?_|refine And.intro (Int.natCast_nonneg i) (Exists.intro _ (And.intro hx ?_))|refine And.intro (hp0 (by assumption)) (Exists.intro _ (And.intro (hp (by assumption)) ?_))|refine Exists.intro _ (And.intro (cHi) ?_)|refine And.intro (fun h=>?_) (fun h=>?_)|refine Or.inl ?_)
    all_goals first
     |((try dsimp only)
       refine Ends.mk (Or.inl rfl) (ac ?_)
       rw [hbd (by rw [hok]; clear hG hbd; grind)]; rfl)
     | skip
    all_goals (refine Exists.intro (i+1) (And.intro ?_ (And.intro (by omega) (ah ?_ ?_))))
    all_goals first
     |(refine And.intro (congrArg some (ao (by omega))) ?_
       repeat' (first|exact trivial|refine And.intro rfl ?_))
     |((repeat' (first|exact trivial|refine And.intro rfl ?_)); done)
     |(exact ⟨hlt_i,by rw [nG,ht,hok]; clear hG hbd; grind⟩)
   ·have bbk:decide ((i:Int)<((lost.map (fun h=>[AV.int .i64 h])).length:Int))=true→False:=fun h=>by have:=of_decide_eq_true h; simp at this; omega
    have he:i=lost.length:=by omega
    rw [he] at ht
    have hfk:f9 f lost=true:=ht
    rw [hgood hfk]
    have hs:=hs0 (hV3 hfk)
    have hroom:(([]:List (List AV)).length+(lost.map (fun h=>[AV.int .i64 h])).length)*8≤70368744177664:=by rw [List.length_map]; simp; omega
    have hroom2:([]:List (List AV)).length+(lost.map (fun h=>[AV.int .i64 h])).length≤4611686018427387904:=by rw [List.length_map]; simp; omega
    repeat' first|exact (bbk (by assumption)).elim|refine Q1 ?_|refine Q2 ?_|refine Q3 hG aa bq ?_|refine Q4 hG aa bq ?_|refine Q5 hG aa ?_|refine Q6 hG aa ?_|refine Q7 hG aa ?_|refine Q8 hG aa ?_|refine Q9 rfl ?_|refine QF rfl ?_|refine QC rfl ⟨fun h=>?_,fun h=>?_⟩|((conv=>whnf); first|refine anF ?_|refine anT ?_|refine anK ?_|refine And.intro hroom (And.intro hroom2 ?_)|refine And.intro (fun h=>?_) (fun h=>?_)|refine Or.inl ?_)
    refine SPB.ownBox 14 1 1014001 1 rfl rfl ?_
    refine SPB.ownBox 14 2 1014002 4 rfl rfl ?_
    refine ap (X:=Nat) (fun x=>⟨[(16,.int .i64 x),(15,.sl (.id 15) 9 ((a8 (l.take x) lost).map aH)),(14,.loc 14 0),(10,.loc 10 0),(8,.loc 8 0),(5,.loc 5 0),(4,aw lost),(2,al ps),(1,aK l)],[(14,[.sl (.id 64) 1 ([]++lost.map (fun h=>[AV.int .i64 h])),.sl (.id 1014001) 1 ((fX (l.take x) lost).map (fun h=>[AV.int .i64 h])),.sl (.id 1014002) 4 ((dP (l.take x) lost).map e9),(.sl .full 0 [])]),(10,[.sl (.id 1010000) 0 [],.sl (.id 1010001) 0 [],.sl (.id 1010002) 0 [],.sl (.id 1010003) 0 []]),(8,aD a b),(5,aU s)]⟩) (fun x=>x≤l.length) (fun x=>l.length-x) 0 (Nat.zero_le _) (ah ?_ ?_) (fun x hx=>?_)
    ·repeat' (first|exact trivial|refine And.intro rfl ?_)
    ·repeat' (first|exact trivial|refine And.intro rfl ?_)
    ·rename Nat=>i
     have hi:=hx
     by_cases hlt_i:i<l.length
     ·have bbk:decide ((i:Int)<((l.map aH).length:Int))=false→False:=fun h=>by have:=of_decide_eq_false h; simp at this; omega
      have hx:=gB hlt_i
      have hm:aG l i∈l:=by rw [cK hlt_i]; exact List.getElem_mem hlt_i
      have hso:=hs _ hm
      have hco:=hc _ hm
      have hso6:=hsl _ hm
      have hso1:=hs1 _ hm
      have cS:ae Tryz.prog 124 [.agg (aH (aG l i)),al ps,aw lost] (.tup [.int .i64 (gp (aG l i) lost),.int .i64 0]):=by
       have h:=zC (aG l i) ps lost (by omega) hps hlo
       rw [rO,hso,if_pos rfl] at h; exact h
      have e1:(a8 (l.take (i+1)) lost).map aH=(a8 (l.take i) lost).map aH++[aH (pD (aG l i) (kS (aG l i) lost))]:=by rw [a8,ic _ hlt_i,List.map_append]; rfl
      have e2:(fX (l.take (i+1)) lost).map (fun h=>[AV.int .i64 h])=(fX (l.take i) lost).map (fun h=>[AV.int .i64 h])++[[.int .i64 (gp (aG l i) lost)]]:=by rw [fX,ic _ hlt_i,List.map_append]; rfl
      have e3:(dP (l.take (i+1)) lost).map e9=(dP (l.take i) lost).map e9++[e9 (nf (aG l i) (kS (aG l i) lost))]:=by rw [dP,ic _ hlt_i,List.map_append]; rfl
      have n1:((a8 (l.take i) lost).map aH).length=i:=by simp [a8]; omega
      have n2:((fX (l.take i) lost).map fun h=>[AV.int .i64 h]).length=i:=by simp [fX]; omega
      have n3:((dP (l.take i) lost).map e9).length=i:=by simp [dP]; omega
      have hkc:=xe (aG l i) lost
      have cF:=fun (j:Nat) (hj:j<(aG l i).sl.length)=>yc (aG l i) j (by omega) hco hj
      have hlb:fE (aG l i)=((aG l i).sl.getD ((aG l i).sl.length-1) ⟨0,0,0⟩).b:=rfl
      have hslm:(((aG l i).sl.map ay).length:Int)=((aG l i).sl.length:Int):=by rw [List.length_map]
      generalize (a8 (l.take i) lost).map aH=r1 at e1 n1 ⊢
      generalize ((fX (l.take i) lost).map fun h=>[AV.int .i64 h])=r2 at e2 n2 ⊢
      generalize (dP (l.take i) lost).map e9=r3 at e3 n3 ⊢
      generalize gp (aG l i) lost=n at cS e2 hkc
      generalize kS (aG l i) lost=q at e1 e3 hkc
      generalize aG l i=u at *
      rcases hkc with ⟨rfl,rfl⟩ | ⟨q,hj,rfl,rfl⟩
      ·have hlw:IntKind.i64.wrap (((u.sl.map ay).length:Int)-1)=((u.sl.length-1:Nat):Int):=by rw [hslm]; exact (ai (by omega) (by omega)).trans (by omega)
       have hjw:IntKind.i64.wrap (IntKind.i64.wrap (((u.sl.map ay).length:Int)-1)+1)=((u.sl.length:Nat):Int):=by rw [hlw]; exact (ai (by omega) (by omega)).trans (by omega)
       have hj1:0≤IntKind.i64.wrap (IntKind.i64.wrap (((u.sl.map ay).length:Int)-1)+1):=by rw [hjw]; exact Int.natCast_nonneg _
       have hj2:(IntKind.i64.wrap (IntKind.i64.wrap (((u.sl.map ay).length:Int)-1)+1)).toNat≤(u.sl.map ay).length:=by rw [hjw,List.length_map]; omega
       have hrow:((u.sl.map ay).take (IntKind.i64.wrap (IntKind.i64.wrap (((u.sl.map ay).length:Int)-1)+1)).toNat).drop 0=u.sl.map ay:=by rw [hjw,List.drop_zero,Int.toNat_natCast,← List.length_map (f:=ay),List.take_length]
       have cFj:=cF (u.sl.length-1) (by omega)
       rw [← hlw] at cFj
       repeat' first|exact (bbk (by assumption)).elim|refine Q1 ?_|refine Q2 ?_|refine Q3 hG aa bq ?_|refine Q4 hG aa bq ?_|refine Q5 hG aa ?_|refine Q6 hG aa ?_|refine Q7 hG aa ?_|refine Q8 hG aa ?_|refine Q9 rfl ?_|refine QF rfl ?_|refine QC rfl ⟨fun h=>?_,fun h=>?_⟩|((conv=>whnf); first|refine anF ?_|refine anT ?_|refine anK ?_|refine And.intro (Int.natCast_nonneg i) (Exists.intro _ (And.intro hx ?_))|refine Exists.intro _ (And.intro (cS) ?_)|refine Exists.intro _ (And.intro (cFj) ?_)|refine And.intro hj1 (And.intro (Nat.zero_le _) (And.intro hj2 ?_))|refine And.intro (show (r1.length+1)*88≤70368744177664 by omega) (And.intro (show r1.length+1≤4611686018427387904 by omega) ?_)|refine And.intro (show (r2.length+1)*8≤70368744177664 by omega) (And.intro (show r2.length+1≤4611686018427387904 by omega) ?_)|refine And.intro (show (r3.length+1)*32≤70368744177664 by omega) (And.intro (show r3.length+1≤4611686018427387904 by omega) ?_)|refine And.intro (fun h=>?_) (fun h=>?_)|refine Or.inl ?_)
       refine Exists.intro (i+1) (And.intro hlt_i (And.intro (by omega) (ah ?_ ?_)))
       ·refine And.intro (congrArg some (ao (by omega))) (And.intro (congrArg (fun z=>some (AV.sl (.id 15) 9 z)) (e1.trans (congrArg (r1++·) ?_)).symm) ?_)
        ·rw [pD,if_neg (by omega)]
         exact congrArg (fun z=>[[AV.int .i64 u.id,.int .i64 u.ord,.int .i64 u.cl,.int .i64 u.sat,.int .i64 u.a,.int .i64 u.b,.int .i64 u.look,.int .i64 u.size,.sl .no 3 z]]) hrow.symm
        ·repeat' (first|exact trivial|refine And.intro rfl ?_)
       ·refine And.intro (congrArg some ?_) ?_
        ·rw [e2,e3]
         rw [nf,if_neg (by omega),hlb]; rfl
        ·repeat' (first|exact trivial|refine And.intro rfl ?_)
      ·have hjw:IntKind.i64.wrap ((q:Int)+1)=((q+1:Nat):Int):=(ai (by omega) (by omega)).trans (by omega)
       have hj1:0≤IntKind.i64.wrap ((q:Int)+1):=by rw [hjw]; exact Int.natCast_nonneg _
       have hj2:(IntKind.i64.wrap ((q:Int)+1)).toNat≤(u.sl.map ay).length:=by rw [hjw,List.length_map]; omega
       have hrow:((u.sl.map ay).take (IntKind.i64.wrap ((q:Int)+1)).toNat).drop 0=(u.sl.take (q+1)).map ay:=by rw [hjw,List.drop_zero,Int.toNat_natCast,List.map_take]
       have bbn:decide ((q:Int)<0)=true→False:=fun h=>by have:=of_decide_eq_true h; omega
       have cFj:=cF q hj
       repeat' first|exact (bbk (by assumption)).elim|exact (bbn (by assumption)).elim|refine Q1 ?_|refine Q2 ?_|refine Q3 hG aa bq ?_|refine Q4 hG aa bq ?_|refine Q5 hG aa ?_|refine Q6 hG aa ?_|refine Q7 hG aa ?_|refine Q8 hG aa ?_|refine Q9 rfl ?_|refine QF rfl ?_|refine QC rfl ⟨fun h=>?_,fun h=>?_⟩|((conv=>whnf); first|refine anF ?_|refine anT ?_|refine anK ?_|refine And.intro (Int.natCast_nonneg i) (Exists.intro _ (And.intro hx ?_))|refine Exists.intro _ (And.intro (cS) ?_)|refine Exists.intro _ (And.intro (cFj) ?_)|refine And.intro hj1 (And.intro (Nat.zero_le _) (And.intro hj2 ?_))|refine And.intro (show (r1.length+1)*88≤70368744177664 by omega) (And.intro (show r1.length+1≤4611686018427387904 by omega) ?_)|refine And.intro (show (r2.length+1)*8≤70368744177664 by omega) (And.intro (show r2.length+1≤4611686018427387904 by omega) ?_)|refine And.intro (show (r3.length+1)*32≤70368744177664 by omega) (And.intro (show r3.length+1≤4611686018427387904 by omega) ?_)|refine And.intro (fun h=>?_) (fun h=>?_)|refine Or.inl ?_)
       refine Exists.intro (i+1) (And.intro hlt_i (And.intro (by omega) (ah ?_ ?_)))
       ·refine And.intro (congrArg some (ao (by omega))) (And.intro (congrArg (fun z=>some (AV.sl (.id 15) 9 z)) (e1.trans (congrArg (r1++·) ?_)).symm) ?_)
        ·rw [pD,if_pos hj]
         exact congrArg (fun z=>[[AV.int .i64 u.id,.int .i64 u.ord,.int .i64 u.cl,.int .i64 u.sat,.int .i64 u.a,.int .i64 u.b,.int .i64 u.look,.int .i64 u.size,.sl .no 3 z]]) hrow.symm
        ·repeat' (first|exact trivial|refine And.intro rfl ?_)
       ·refine And.intro (congrArg some ?_) ?_
        ·rw [e2,e3]
         rw [nf,if_pos hj]; rfl
        ·repeat' (first|exact trivial|refine And.intro rfl ?_)
     ·have bbk:decide ((i:Int)<((l.map aH).length:Int))=true→False:=fun h=>by have:=of_decide_eq_true h; simp at this; omega
      have he:l.take i=l:=List.take_of_length_le (by omega)
      rw [he]
      have hw6:∀ o∈a8 l lost,o.sl.length≤6:=fun o ho=>by
       obtain ⟨p,hp,rfl⟩:=List.mem_map.1 ho
       exact Nat.le_trans (Ao _ _) (hsl p hp)
      have hwl:(a8 l lost).length≤8:=by simp [a8]; omega
      have cL:=x8 (a8 l lost) (by omega) (fun o ho=>by have:=hw6 o ho; omega)
      repeat' first|exact (bbk (by assumption)).elim|refine Q1 ?_|refine Q2 ?_|refine Q3 hG aa bq ?_|refine Q4 hG aa bq ?_|refine Q5 hG aa ?_|refine Q6 hG aa ?_|refine Q7 hG aa ?_|refine Q8 hG aa ?_|refine Q9 rfl ?_|refine QF rfl ?_|refine QC rfl ⟨fun h=>?_,fun h=>?_⟩|((conv=>whnf); first|refine anF ?_|refine anT ?_|refine anK ?_|refine Exists.intro _ (And.intro (cL) ?_)|refine And.intro (fun h=>?_) (fun h=>?_)|refine Or.inl ?_)
      all_goals exact Ends.mk (Or.inl rfl) (ac rfl)
end Go.Proofs
namespace Go.Proofs
open Go Go.AI
set_option maxRecDepth 10000
def CN:Code→Code
 | .seq _ b=>b
 | c=>c
theorem GX {α:Type} {f:α→List AV} {Q:α→Prop} {a b:α} (ha:Q a) (hb:Q b):∀ {j:Nat},j<2→∃ x,Q x∧[f a,f b][(j:Int).toNat]?=some (f x)
 | 0,_=>⟨a,ha,rfl⟩
 | 1,_=>⟨b,hb,rfl⟩
def tE (l:List Opt):Prop:=l.length≤10∧∀ o∈l,o.sl.length≤7
theorem tE.lens {l:List Opt} (h:tE l):l.length≤1000000∧dQ l:=⟨by have:=h.1; omega,fun o ho=>by have:=h.2 o ho; omega⟩
theorem zy (s:Nat→Int) (l:List Opt) (ps:List am) (a b:Int) (lost:List Int) (hl:l.length≤1000000) (hs:dQ l) (hps:ps.length≤1000000) (hlo:lost.length≤1000000):ae Tryz.prog 54 [.agg (aU s),aK l,al ps,.agg (aD a b),aw lost] (ki s l ps a b lost):=by
 refine BZ s l ps a b lost hl hs hps hlo (fun hv=>?_) fun hv hf=>sJ (bQ hv).1 hf
 have ht:=(bQ hv).1
 obtain ⟨_,_,hfit⟩:=pY.of ht
 exact ⟨(ba.1 ht).1,fun o ho=>⟨(hfit o ho).len.1,(hfit o ho).len.2,(hfit o ho).can⟩,fun h o ho=>rD ht h o ho⟩
end Go.Proofs
namespace Go.Proofs
open Go Go.AI
set_option maxRecDepth 10000
theorem rM {α β:Type} (f:α→β):∀ (l:List α) (n:Nat) (v:α),bZ (l.map f) n (f v)=(bZ l n v).map f
 | [],_,_=>rfl
 | _::_,0,_=>rfl
 | x::r,n+1,v=>by simp only [List.map_cons,bZ,rM f r n v]
theorem rN {α:Type}:∀ (l:List α) (n:Nat) (v:α),(bZ l n v).length=l.length
 | [],_,_=>rfl
 | _::_,0,_=>rfl
 | _::r,n+1,v=>congrArg (·+1) (rN r n v)
theorem tE.set {l:List Opt} (h:tE l) (n:Nat) (o:Opt):tE (bZ l n (xA o)):=by
 refine ⟨by rw [rN]; exact h.1,fun x hx=>?_⟩
 have:∀ (l:List Opt) (n:Nat),x∈bZ l n (xA o)→x∈l∨x=xA o:=by
  intro l
  induction l with
  | nil=>intro n h; exact .inl h
  | cons y r ih=>
   intro n h
   cases n with
   | zero=>
    rcases List.mem_cons.1 h with h | h
    ·exact .inr h
    ·exact .inl (List.mem_cons_of_mem _ h)
   | succ n=>
    rcases List.mem_cons.1 h with h | h
    ·exact .inl (h ▸ List.mem_cons_self)
    ·rcases ih n h with h | h
     ·exact .inl (List.mem_cons_of_mem _ h)
     ·exact .inr h
 rcases this l n hx with h2 | rfl
 ·exact h.2 x h2
 ·simp only [xA,List.length_take]; omega
theorem bX.gfew (c:bX):tE c.gl:=by
 obtain ⟨_,_,hfit⟩:=pY.of c.gvalid
 refine ⟨by have:=c.glen; omega,fun o ho=>?_⟩
 have:=(hfit o ho).len
 omega
end Go.Proofs
namespace Go.Proofs
open Go Go.AI
def rmF (l:List Img) (r:Int×Int) (x:Img):Int×Int:=if bI x.a l>r.1∨bI x.a l=r.1∧x.a<r.2 then (bI x.a l,x.a) else r
def rmS (l:List Img) (i:Nat):Int×Int:=(l.take i).foldl (rmF l) (0,-1)
theorem xz {t t':Int}:∀ {l:List Img},(∀ y∈l,0≤y.u∧(y.a≤t→t<y.b→y.a≤t'∧t'<y.b))→bI t l≤bI t' l
 | [],_=>Int.le_refl _
 | y::r,h=>by
  have h1:=h y List.mem_cons_self
  have h2:=xz (t:=t) (t':=t') (l:=r) fun z hz=>h z (List.mem_cons_of_mem _ hz)
  simp only [bI]
  by_cases hc:y.a≤t∧t<y.b
  ·rw [if_pos hc,if_pos (h1.2 hc.1 hc.2)]; omega
  ·rw [if_neg hc]
   split <;> omega
theorem xI (t:Int):∀ (l:List Img),(∃ y∈l,y.a≤t∧t<y.b)→∃ x∈l,(x.a≤t∧t<x.b)∧∀ y∈l,y.a≤t→t<y.b→y.a≤x.a
 | [],h=>by obtain ⟨y,hy,_⟩:=h; cases hy
 | z::r,h=>by
  by_cases hr:∃ y∈r,y.a≤t∧t<y.b
  ·obtain ⟨x,hx,h1,h2⟩:=xI t r hr
   by_cases hz:(z.a≤t∧t<z.b)∧x.a<z.a
   ·refine ⟨z,List.mem_cons_self,hz.1,fun y hy h3 h4=>?_⟩
    rcases List.mem_cons.1 hy with rfl | hy
    ·exact Int.le_refl _
    ·have:=h2 y hy h3 h4; omega
   ·refine ⟨x,List.mem_cons_of_mem _ hx,h1,fun y hy h3 h4=>?_⟩
    rcases List.mem_cons.1 hy with rfl | hy
    ·omega
    ·exact h2 y hy h3 h4
  ·obtain ⟨y,hy,h1⟩:=h
   rcases List.mem_cons.1 hy with rfl | hy
   ·refine ⟨y,List.mem_cons_self,h1,fun w hw h3 h4=>?_⟩
    rcases List.mem_cons.1 hw with rfl | hw
    ·exact Int.le_refl _
    ·exact absurd ⟨w,hw,h3,h4⟩ hr
   ·exact absurd ⟨y,hy,h1⟩ hr
theorem sP {t:Int}:∀ {l:List Img},(∀ y∈l,¬ (y.a≤t∧t<y.b))→bI t l=0
 | [],_=>rfl
 | y::r,h=>by
  simp only [bI]
  rw [if_neg (h y List.mem_cons_self),sP fun z hz=>h z (List.mem_cons_of_mem _ hz)]; rfl
theorem zi {l:List Img} (hu:∀ y∈l,0≤y.u∧y.a<y.b) {t:Int} (h:0<bI t l):∃ x∈l,x.a≤t∧bI t l≤bI x.a l:=by
 have hc:∃ y∈l,y.a≤t∧t<y.b:=by
  refine Classical.byContradiction fun hn=>?_
  rw [sP fun y hy hy2=>hn ⟨y,hy,hy2⟩] at h
  omega
 obtain ⟨x,hx,h1,h2⟩:=xI t l hc
 refine ⟨x,hx,h1.1,xz fun y hy=>⟨(hu y hy).1,fun h3 h4=>?_⟩⟩
 have:=h2 y hy h3 h4
 omega
def MQ (L:List (Int×Int)) (r:Int×Int):Prop:=(∀ p∈L,p.2≤r.1)∧((r=(0,-1))∨(0<r.1∧(r.2,r.1)∈L∧∀ p∈L,p.2=r.1→r.2≤p.1))
theorem MQ.fold:∀ (L pre:List (Int×Int)) (r:Int×Int),(pre++L).Pairwise (fun x y=>x.1<y.1)→MQ pre r→MQ (pre++L) (L.foldl (fun r x=>if x.2>r.1 then (x.2,x.1) else r) r)
 | [],pre,r,_,h=>by simpa using h
 | x::L,pre,r,ho,h=>by
  have he:pre++x::L=(pre++[x])++L:=by simp
  rw [he] at ho ⊢
  refine MQ.fold L (pre++[x]) (if x.2>r.1 then (x.2,x.1) else r) ho ?_
  have ho2:=(List.pairwise_append.1 (List.pairwise_append.1 ho).1).2.2
  obtain ⟨h1,h2⟩:=h
  have h0:0≤r.1:=by
   rcases h2 with h2 | h2
   ·rw [h2]; exact Int.le_refl _
   ·omega
  split
  ·rename_i hg
   refine ⟨fun p hp=>?_,.inr ⟨by show 0<x.2; omega,by simp,fun p hp e=>?_⟩⟩
   ·show p.2≤x.2
    rcases List.mem_append.1 hp with hp | hp
    ·have:=h1 p hp; omega
    ·rw [List.mem_singleton.1 hp]; exact Int.le_refl _
   ·show x.1≤p.1
    rcases List.mem_append.1 hp with hp | hp
    ·have:=h1 p hp
     have e:p.2=x.2:=e
     omega
    ·rw [List.mem_singleton.1 hp]; exact Int.le_refl _
  ·rename_i hg
   refine ⟨fun p hp=>?_,?_⟩
   ·rcases List.mem_append.1 hp with hp | hp
    ·exact h1 p hp
    ·rw [List.mem_singleton.1 hp]; omega
   ·rcases h2 with h2 | ⟨h2,h3,h4⟩
    ·exact .inl h2
    ·refine .inr ⟨h2,List.mem_append_left _ h3,fun p hp e=>?_⟩
     rcases List.mem_append.1 hp with hp | hp
     ·exact h4 p hp e
     ·have:=ho2 _ h3 x (by simp)
      rw [List.mem_singleton.1 hp]
      exact Int.le_of_lt this
theorem FA {l:List Img} (h:∀ x∈l,x.a<x.b):MQ (cp l) (fC (cp l)):=by
 have:=MQ.fold (cp l) [] (0,-1) (by rw [List.nil_append]; exact (mv _ _ (mN _)).1) ⟨fun _ h=>(nomatch h),.inl rfl⟩
 rw [List.nil_append] at this; exact this
def RP (l pre:List Img) (r:Int×Int):Prop:=(pre=[]∧r=(0,-1))∨(0<r.1∧(∃ x∈pre,x.a=r.2∧bI x.a l=r.1)∧∀ x∈pre,bI x.a l≤r.1∧(bI x.a l=r.1→r.2≤x.a))
theorem F7 {l:List Img} (hp:∀ x∈l,0<bI x.a l):∀ i,i≤l.length→RP l (l.take i) (rmS l i)
 | 0,_ => .inl ⟨by simp,rfl⟩
 | i+1,h=>by
  have hi:i<l.length:=by omega
  have ih:=F7 hp i (by omega)
  have e:l.take (i+1)=l.take i++[l[i]]:=by rw [List.take_add_one,List.getElem?_eq_getElem hi]; rfl
  have es:rmS l (i+1)=rmF l (rmS l i) l[i]:=by unfold rmS; rw [e,List.foldl_append]; rfl
  rw [es,e]
  have hx:=hp l[i] (List.getElem_mem hi)
  generalize rmS l i=r at *
  generalize l[i]=x at *
  right
  unfold rmF
  rcases ih with ⟨h1,rfl⟩ | ⟨h1,⟨y,hy,h2,h3⟩,h4⟩
  ·rw [h1,if_pos (.inl hx)]
   refine ⟨hx,⟨x,by simp,rfl,rfl⟩,fun z hz=>?_⟩
   simp only [List.nil_append,List.mem_singleton] at hz
   subst hz
   exact ⟨Int.le_refl _,fun _=>Int.le_refl _⟩
  ·split
   ·rename_i hg
    refine ⟨hx,⟨x,by simp,rfl,rfl⟩,fun z hz=>?_⟩
    rcases List.mem_append.1 hz with hz | hz
    ·have:=h4 z hz
     refine ⟨by show bI z.a l≤bI x.a l; omega,fun ez=>?_⟩
     have ez:bI z.a l=bI x.a l:=ez
     show x.a≤z.a
     have h5:=this.2
     omega
    ·rw [List.mem_singleton.1 hz]; exact ⟨Int.le_refl _,fun _=>Int.le_refl _⟩
   ·rename_i hg
    refine ⟨h1,⟨y,List.mem_append_left _ hy,h2,h3⟩,fun z hz=>?_⟩
    rcases List.mem_append.1 hz with hz | hz
    ·exact h4 z hz
    ·rw [List.mem_singleton.1 hz]
     refine ⟨by omega,fun e=>by omega⟩
theorem Fq {l:List Img} (h:∀ x∈l,x.a<x.b∧1≤x.u):rmS l l.length=fC (cp l):=by
 have hab:∀ x∈l,x.a<x.b:=fun x hx=>(h x hx).1
 have hpos:∀ x∈l,0<bI x.a l:=by
  intro x hx
  have key:∀ m:List Img,x∈m→(∀ y∈m,1≤y.u)→0<bI x.a m:=by
   intro m
   induction m with
   | nil=>intro h; cases h
   | cons y r ih=>
    intro hm hu
    have h1:=hu y List.mem_cons_self
    have h0:0≤bI x.a r:=nk _ _ fun z hz=>by have:=hu z (List.mem_cons_of_mem _ hz); omega
    simp only [bI]
    rcases List.mem_cons.1 hm with e | hm
    ·subst e
     rw [if_pos ⟨Int.le_refl _,hab _ hx⟩]; omega
    ·have:=ih hm fun z hz=>hu z (List.mem_cons_of_mem _ hz)
     split <;> omega
  exact key l hx fun y hy=>(h y hy).2
 have hr:=F7 hpos l.length (Nat.le_refl _)
 rw [List.take_length] at hr
 generalize rmS l l.length=r at hr
 obtain ⟨m1,m2⟩:=FA hab
 rcases hr with ⟨rfl,rfl⟩ | ⟨h1,⟨x,hx,h2,h3⟩,h4⟩
 ·rcases m2 with m2 | ⟨_,m3,_⟩
  ·exact m2.symm
  ·obtain ⟨⟨x,hx,_⟩,_⟩:=(pM hab _).1 m3
   cases hx
 ·have hfx:(x.a,bI x.a l)∈cp l:=by
   refine (pM hab _).2 ⟨?_,rfl⟩
   have:∀ m:List Img,x∈m→∃ s∈bN m,s.1=x.a:=by
    intro m
    induction m with
    | nil=>intro h; cases h
    | cons y r ih=>
     intro hm
     rcases List.mem_cons.1 hm with rfl | hm
     ·exact ⟨(x.a,x.u),List.mem_cons_self,rfl⟩
     ·obtain ⟨s,hs,e⟩:=ih hm
      exact ⟨s,List.mem_cons_of_mem _ (List.mem_cons_of_mem _ hs),e⟩
   exact this l hx
  have h5:=m1 _ hfx
  simp only at h5
  rcases m2 with m2 | ⟨m2,m3,m4⟩
  ·rw [m2] at h5; simp only at h5; omega
  ·have h6:=((pM hab _).1 m3).2
   simp only at h6
   generalize fC (cp l)=q at *
   obtain ⟨y,hy,h7,h8⟩:=zi (l:=l) (fun y hy=>by have:=h y hy; omega) (t:=q.2) (by omega)
   have h9:=h4 y hy
   have e1:r.1=q.1:=by omega
   have h10:=h9.2 (by omega)
   have h11:=m4 _ hfx (by show bI x.a l=q.1; omega)
   simp only at h11
   have e2:r.2=q.2:=by omega
   exact Prod.ext e1 e2
def pkR (m:List Int→Int×Int) (L:List (List Int)):Int×Int×List Int:=match L with | []=>(-1,0,[]) | _::_=>((bu m L).n,(bu m L).at_,(bu m L).what)
theorem AG (m:List Int→Int×Int) {L:List (List Int)} (h:L≠[]):(bu m L).is=true:=by
 rcases uK m L with ⟨h1,_⟩ | ⟨h1,_⟩
 ·exact absurd h1 h
 ·exact h1
theorem C5 {m:List Int→Int×Int} (hm:∀ x,0≤(m x).1) (L:List (List Int)) (x:List Int):pkR m (L++[x])=if (m x).1>(pkR m L).1 then ((m x).1,(m x).2,x) else pkR m L:=by
 cases L with
 | nil=>
  have:=hm x
  show ((bu m [x]).n,_,_)=if (m x).1 > -1 then _ else _
  rw [if_pos (by omega)]; rfl
 | cons y r=>
  have hi:=AG m (L:=y::r) (by simp)
  have e:pkR m (y::r++[x])=((bu m (y::r++[x])).n,(bu m (y::r++[x])).at_,(bu m (y::r++[x])).what):=rfl
  have e2:pkR m (y::r)=((bu m (y::r)).n,(bu m (y::r)).at_,(bu m (y::r)).what):=rfl
  rw [e,e2,mC]
  generalize bu m (y::r)=z at *
  unfold pS
  simp only [hi,Bool.not_true,Bool.false_or,Bool.true_and,decide_eq_true_eq]
  split <;> rfl
def pF (r:Int×Int×List Int) (a:Int) (x:List Int) (L:List Int) (j:Nat):Int×Int×List Int:=(List.range j).foldl (fun r i=>if L.getD i 0<r.1 then (L.getD i 0,a+(i:Int),x) else r) r
theorem uw (r:Int×Int×List Int) (a:Int) (x:List Int) (L:List Int) (j:Nat):pF r a x L (j+1)=if L.getD j 0<(pF r a x L j).1 then (L.getD j 0,a+(j:Int),x) else pF r a x L j:=by
 unfold pF; rw [List.range_succ,List.foldl_append]; rfl
theorem ux (r:Int×Int×List Int) (a:Int) (x:List Int) (L:List Int):∀ j,(pF r a x L j=r∧∀ i,i<j→r.1≤L.getD i 0)∨∃ i,i<j∧pF r a x L j=(L.getD i 0,a+(i:Int),x)∧L.getD i 0<r.1∧(∀ k,k<j→L.getD i 0≤L.getD k 0)∧∀ k,k<i→L.getD i 0<L.getD k 0
 | 0 => .inl ⟨rfl,fun i h=>by omega⟩
 | j+1=>by
  rw [uw]
  rcases ux r a x L j with ⟨h1,h2⟩ | ⟨i,h0,h1,h2,h3,h4⟩
  ·rw [h1]
   split
   ·rename_i hg
    refine .inr ⟨j,by omega,rfl,hg,fun k hk=>?_,fun k hk=>?_⟩
    ·rcases Nat.lt_or_eq_of_le (Nat.le_of_lt_succ hk) with h | h
     ·have:=h2 k h; omega
     ·rw [h]; exact Int.le_refl _
    ·have:=h2 k hk; omega
   ·rename_i hg
    refine .inl ⟨rfl,fun k hk=>?_⟩
    rcases Nat.lt_or_eq_of_le (Nat.le_of_lt_succ hk) with h | h
    ·exact h2 k h
    ·rw [h]; omega
  ·rw [h1]
   split
   ·rename_i hg
    have hg:L.getD j 0<L.getD i 0:=hg
    refine .inr ⟨j,by omega,rfl,by omega,fun k hk=>?_,fun k hk=>?_⟩
    ·rcases Nat.lt_or_eq_of_le (Nat.le_of_lt_succ hk) with h | h
     ·have:=h3 k h; omega
     ·rw [h]; exact Int.le_refl _
    ·have:=h3 k hk; omega
   ·rename_i hg
    have hg:¬ L.getD j 0<L.getD i 0:=hg
    refine .inr ⟨i,by omega,rfl,h2,fun k hk=>?_,h4⟩
    rcases Nat.lt_or_eq_of_le (Nat.le_of_lt_succ hk) with h | h
    ·exact h3 k h
    ·rw [h]; omega
theorem sF {p:Int→Bool}:∀ (L:List Int) (k i:Nat),i<L.length→p (L.getD i 0)=true→(∀ j,j<i→p (L.getD j 0)=false)→bK p L k=((k+i:Nat):Int)
 | [],_,_,h,_,_=>by simp at h
 | y::r,k,0,_,h1,_=>by
  rw [bK,if_pos (show p y=true from h1)]; rfl
 | y::r,k,i+1,h,h1,h2=>by
  have h3:p y=false:=h2 0 (by omega)
  rw [bK,if_neg (by rw [h3]; decide),sF r (k+1) i (by simpa using h) h1 fun j hj=>h2 (j+1) (by omega)]
  congr 1; omega
theorem BA {L:List Int} {i:Nat} (h:i<L.length):L.getD i 0∈L:=by
 rw [List.getD_eq_getElem?_getD,List.getElem?_eq_getElem h]; exact List.getElem_mem h
theorem Dn {r:Int×Int×List Int} {a:Int} {x L:List Int} (hne:L≠[]):pF r a x L L.length=if kI L<r.1 then (kI L,a+bK (fun y=>kI L==y) L 0,x) else r:=by
 obtain ⟨m1,m2⟩:=lg hne
 rcases ux r a x L L.length with ⟨h1,h2⟩ | ⟨i,h0,h1,h2,h3,h4⟩
 ·obtain ⟨j,hj,e⟩:=List.getElem_of_mem m1
  have h5:=h2 j hj
  have e2:L.getD j 0=kI L:=by rw [List.getD_eq_getElem?_getD,List.getElem?_eq_getElem hj]; exact e
  rw [h1,if_neg (by omega)]
 ·have hm:L.getD i 0=kI L:=by
   obtain ⟨j,hj,e⟩:=List.getElem_of_mem m1
   have h5:=h3 j hj
   have e2:L.getD j 0=kI L:=by rw [List.getD_eq_getElem?_getD,List.getElem?_eq_getElem hj]; exact e
   have h6:=m2 _ (BA h0)
   omega
  have hx:=sF (p:=fun y=>kI L==y) L 0 i h0 (by rw [hm]; simp) fun j hj=>by
   have:=h4 j hj
   simp only [beq_eq_false_iff_ne,ne_eq]
   omega
  rw [h1,hm,hx,if_pos (by omega)]
  simp
def loR (m:List Int→Int×Int) (L:List (List Int)):Int×Int×List Int:=match L with | []=>(1000001,0,[]) | _::_=>(-(bu m L).n,(bu m L).at_,(bu m L).what)
theorem Dm {m:List Int→Int×Int} (hm:∀ x,-1000000≤(m x).1) (L:List (List Int)) (x:List Int):loR m (L++[x])=if -(m x).1<(loR m L).1 then (-(m x).1,(m x).2,x) else loR m L:=by
 cases L with
 | nil=>
  have:=hm x
  show (-(bu m [x]).n,_,_)=if -(m x).1<1000001 then _ else _
  rw [if_pos (by omega)]; rfl
 | cons y r=>
  have hi:=AG m (L:=y::r) (by simp)
  have e:loR m (y::r++[x])=(-(bu m (y::r++[x])).n,(bu m (y::r++[x])).at_,(bu m (y::r++[x])).what):=rfl
  have e2:loR m (y::r)=(-(bu m (y::r)).n,(bu m (y::r)).at_,(bu m (y::r)).what):=rfl
  rw [e,e2,mC]
  generalize bu m (y::r)=z at *
  unfold pS
  simp only [hi,Bool.not_true,Bool.false_or,Bool.true_and,decide_eq_true_eq]
  by_cases hc:(m x).1>z.n
  ·rw [if_pos hc,if_pos (by omega)]
  ·rw [if_neg hc,if_neg (by omega)]
theorem lE {s:Nat→Int} {l:List Opt} {ps:List am} {a b k:Int} (h:aX s l ps k a b=true):c8 l ps k=false:=by
 have hf:(az l).length≤6∧(0≤k∧k≤3):=by
  have h2:=h
  simp only [aX,jc,Bool.and_eq_true,decide_eq_true_eq] at h2
  omega
 obtain ⟨hl,_,_,_,hp,hft,_⟩:=ba.1 (bQ h).1
 obtain ⟨_,_,hfit⟩:=pY.of (bQ h).1
 have hlv:(l.any fun o => !bB o ps)=false:=by
  rw [List.any_eq_false]
  intro o ho
  have h1:=hfit o ho
  rw [kO hp (by have:=h1.shot; omega) (hft o ho).1]; simp
 simp only [c8,fR,hlv,hp,Bool.not_true,Bool.or_false,Bool.or_eq_false_iff,decide_eq_false_iff_not]
 omega
end Go.Proofs
namespace Go.Proofs
open Go Go.AI
set_option maxRecDepth 10000
theorem uB {L:List (List Int)} {i:Nat} (h:i<L.length):L.getD i []∈L:=by
 rw [List.getD_eq_getElem?_getD,List.getElem?_eq_getElem h]; exact List.getElem_mem h
theorem C0 {l:List Img} {i:Nat} (h:i<l.length):rmS l (i+1)=rmF l (rmS l i) (l.getD i ⟨0,0,0,0⟩):=by
 unfold rmS; rw [bw ⟨0,0,0,0⟩ h,List.foldl_append]; rfl
set_option maxHeartbeats 4000000 in
theorem x7 (l:List Img) (hl:l.length≤24) (hv:dB l=true) (h:∀ x∈l,x.a<x.b∧1≤x.u):ae Tryz.prog 128 [fe l] (.tup [.int .i64 (fC (cp l)).1,.int .i64 (fC (cp l)).2,.int .i64 0]):=by
 have cV:ae Tryz.prog 151 [fe l] (.bool true):=by rw [← hv]; exact tk l (by omega)
 have hu:∀ x∈l,0≤x.u∧x.u≤1000000:=by
  simp only [dB,Bool.and_eq_true] at hv
  exact kp l [] hv.1
 have cF:=fun t=>zB l t hl hu
 rw [← Fq h]
 refine ag aa Tryz.func128 rfl (by kernel_rfl) af (Nat.le_of_ble_eq_true rfl) ?_
 intro F n' w0 m0 hG hro h1
 repeat' first|refine Q1 ?_|refine Q2 ?_|refine Q3 hG aa eU ?_|refine Q4 hG aa eU ?_|refine Q5 hG aa ?_|refine Q6 hG aa ?_|refine Q7 hG aa ?_|refine Q8 hG aa ?_|refine Q9 rfl ?_|refine QF rfl ?_|refine QC rfl ⟨fun h=>?_,fun h=>?_⟩|((conv=>whnf); first|refine anF ?_|refine anT ?_|refine anK ?_|refine Exists.intro _ (And.intro (cV) ?_)|refine And.intro (fun h=>?_) (fun h=>?_)|refine Or.inl ?_)
 refine ap (X:=Nat) (fun x=>⟨[(7,.int .i64 x),(6,.int .i64 (rmS l x).2),(5,.int .i64 (rmS l x).1),(0,fe l)],[]⟩) (fun x=>x≤l.length) (fun x=>l.length-x) 0 (Nat.zero_le _) (ah ?_ ?_) (fun x hx=>?_)
 ·repeat' (first|exact trivial|refine And.intro rfl ?_)
 ·repeat' (first|exact trivial|refine And.intro rfl ?_)
 ·rename Nat=>i
  have hi:=hx
  by_cases hlt_i:i<l.length
  ·have bbk:decide ((i:Int)<((l.map e9).length:Int))=false→False:=fun h=>by have:=of_decide_eq_false h; simp at this; omega
   have hx:=fO (f:=e9) ⟨0,0,0,0⟩ hlt_i
   have hs:=C0 hlt_i
   generalize l.getD i ⟨0,0,0,0⟩=u at *
   have cFu:=cF u.a
   unfold rmF at hs
   generalize bI u.a l=n at *
   generalize rmS l i=r at *
   repeat' first|exact (bbk (by assumption)).elim|refine Q1 ?_|refine Q2 ?_|refine Q3 hG aa eU ?_|refine Q4 hG aa eU ?_|refine Q5 hG aa ?_|refine Q6 hG aa ?_|refine Q7 hG aa ?_|refine Q8 hG aa ?_|refine Q9 rfl ?_|refine QF rfl ?_|refine QC rfl ⟨fun h=>?_,fun h=>?_⟩|((conv=>whnf); first|refine anF ?_|refine anT ?_|refine anK ?_|refine And.intro (Int.natCast_nonneg i) (Exists.intro _ (And.intro hx ?_))|refine Exists.intro _ (And.intro (cFu) ?_)|refine And.intro (fun h=>?_) (fun h=>?_)|refine Or.inl ?_)
   all_goals (refine Exists.intro (i+1) (And.intro hlt_i (And.intro (by omega) (ah ?_ ?_))))
   all_goals first
    |(refine And.intro (congrArg some (ao (by omega))) (And.intro (congrArg (fun z=>some (AV.int .i64 z)) ?_) (And.intro (congrArg (fun z=>some (AV.int .i64 z)) ?_) ?_))
      ·(rw [hs]; clear hG cF cFu; grind)
      ·(rw [hs]; clear hG cF cFu; grind)
      ·repeat' (first|exact trivial|refine And.intro rfl ?_))
    |(repeat' (first|exact trivial|refine And.intro rfl ?_))
  ·have bbk:decide ((i:Int)<((l.map e9).length:Int))=true→False:=fun h=>by have:=of_decide_eq_true h; simp at this; omega
   have he:i=l.length:=by omega
   subst he
   repeat' first|exact (bbk (by assumption)).elim|refine Q1 ?_|refine Q2 ?_|refine Q3 hG aa eU ?_|refine Q4 hG aa eU ?_|refine Q5 hG aa ?_|refine Q6 hG aa ?_|refine Q7 hG aa ?_|refine Q8 hG aa ?_|refine Q9 rfl ?_|refine QF rfl ?_|refine QC rfl ⟨fun h=>?_,fun h=>?_⟩|((conv=>whnf); first|refine anF ?_|refine anT ?_|refine anK ?_|refine And.intro (fun h=>?_) (fun h=>?_)|refine Or.inl ?_)
   exact Ends.mk (Or.inl rfl) (ac rfl)
theorem qA (s:Nat→Int) (l:List Opt) (ps:List am) (k a b:Int) (hl:l.length≤1000000) (hs:dQ l) (hps:ps.length≤1000000) (hv:aX s l ps k a b=false):ae Tryz.prog 57 [.agg (aU s),aK l,al ps,.int .i64 k,.agg (aD a b)] (.tup [.int .i64 0,.int .i64 0,.sl .no 1 [],.int .i64 210]):=by
 have cV:=fT s l ps k a b hl hs hps
 rw [hv] at cV
 have cS:=j6 l ps k hl hs hps
 unfold j9 at cS
 cases h:c8 l ps k with
 | true=>
  rw [h,if_pos rfl] at cS
  refine ag aa Tryz.func57 rfl (by kernel_rfl) af (Nat.le_of_ble_eq_true rfl) ?_
  intro F n' w0 m0 hG hro h1
  repeat' first|refine Q1 ?_|refine Q2 ?_|refine Q3 hG aa cu ?_|refine Q4 hG aa cu ?_|refine Q5 hG aa ?_|refine Q6 hG aa ?_|refine Q7 hG aa ?_|refine Q8 hG aa ?_|refine Q9 rfl ?_|refine QF rfl ?_|refine QC rfl ⟨fun h=>?_,fun h=>?_⟩|((conv=>whnf); first|refine anF ?_|refine anT ?_|refine anK ?_|refine Exists.intro _ (And.intro (cS) ?_)|refine Exists.intro _ (And.intro (cV) ?_)|refine And.intro (fun h=>?_) (fun h=>?_)|refine Or.inl ?_)
  all_goals (try dsimp only)
  all_goals exact Ends.mk (Or.inl rfl) (ac rfl)
 | false=>
  rw [h,if_neg (by decide)] at cS
  refine ag aa Tryz.func57 rfl (by kernel_rfl) af (Nat.le_of_ble_eq_true rfl) ?_
  intro F n' w0 m0 hG hro h1
  repeat' first|refine Q1 ?_|refine Q2 ?_|refine Q3 hG aa cu ?_|refine Q4 hG aa cu ?_|refine Q5 hG aa ?_|refine Q6 hG aa ?_|refine Q7 hG aa ?_|refine Q8 hG aa ?_|refine Q9 rfl ?_|refine QF rfl ?_|refine QC rfl ⟨fun h=>?_,fun h=>?_⟩|((conv=>whnf); first|refine anF ?_|refine anT ?_|refine anK ?_|refine Exists.intro _ (And.intro (cS) ?_)|refine Exists.intro _ (And.intro (cV) ?_)|refine And.intro (fun h=>?_) (fun h=>?_)|refine Or.inl ?_)
  all_goals (try dsimp only)
  all_goals exact Ends.mk (Or.inl rfl) (ac rfl)
theorem tp (s:Nat→Int) (l:List Opt) (ps:List am) (k a b:Int) (hl:l.length≤1000000) (hs:dQ l) (hps:ps.length≤1000000) (hv:aX s l ps k a b=false):ae Tryz.prog 59 [.agg (aU s),aK l,al ps,.int .i64 k,.agg (aD a b)] (.tup [.int .i64 0,.int .i64 0,.sl .no 1 [],.int .i64 210]):=by
 have cV:=fT s l ps k a b hl hs hps
 rw [hv] at cV
 have cS:=j6 l ps k hl hs hps
 unfold j9 at cS
 cases h:c8 l ps k with
 | true=>
  rw [h,if_pos rfl] at cS
  refine ag aa Tryz.func59 rfl (by kernel_rfl) af (Nat.le_of_ble_eq_true rfl) ?_
  intro F n' w0 m0 hG hro h1
  repeat' first|refine Q1 ?_|refine Q2 ?_|refine Q3 hG aa bp ?_|refine Q4 hG aa bp ?_|refine Q5 hG aa ?_|refine Q6 hG aa ?_|refine Q7 hG aa ?_|refine Q8 hG aa ?_|refine Q9 rfl ?_|refine QF rfl ?_|refine QC rfl ⟨fun h=>?_,fun h=>?_⟩|((conv=>whnf); first|refine anF ?_|refine anT ?_|refine anK ?_|refine Exists.intro _ (And.intro (cS) ?_)|refine Exists.intro _ (And.intro (cV) ?_)|refine And.intro (fun h=>?_) (fun h=>?_)|refine Or.inl ?_)
  all_goals (try dsimp only)
  all_goals exact Ends.mk (Or.inl rfl) (ac rfl)
 | false=>
  rw [h,if_neg (by decide)] at cS
  refine ag aa Tryz.func59 rfl (by kernel_rfl) af (Nat.le_of_ble_eq_true rfl) ?_
  intro F n' w0 m0 hG hro h1
  repeat' first|refine Q1 ?_|refine Q2 ?_|refine Q3 hG aa bp ?_|refine Q4 hG aa bp ?_|refine Q5 hG aa ?_|refine Q6 hG aa ?_|refine Q7 hG aa ?_|refine Q8 hG aa ?_|refine Q9 rfl ?_|refine QF rfl ?_|refine QC rfl ⟨fun h=>?_,fun h=>?_⟩|((conv=>whnf); first|refine anF ?_|refine anT ?_|refine anK ?_|refine Exists.intro _ (And.intro (cS) ?_)|refine Exists.intro _ (And.intro (cV) ?_)|refine And.intro (fun h=>?_) (fun h=>?_)|refine Or.inl ?_)
  all_goals (try dsimp only)
  all_goals exact Ends.mk (Or.inl rfl) (ac rfl)
theorem wq {s:Nat→Int} {l:List Opt} {ps:List am} {a b k:Int} (h:aY s l ps a b=true) (h6:ps.length≤6) {x:List Int} (hx:x∈bj (az l) ps k) :
  ae Tryz.prog 54 [.agg (aU s),aK l,al ps,.agg (aD a b),aw x] (.tup [.agg [aw x,aw (fX l x),fe (dP l x),bM (aA (a8 l x))],.int .i64 0]):=by
 obtain ⟨h1,h2,h4⟩:=fA h
 obtain ⟨_,q,_,rfl⟩:=rK hx
 have c:=zy s l ps a b (fk (az l) q) h1 h2 h4 (vc (by have:=lk h; omega))
 rw [Gn h h6 (Dz (pJ l) q)] at c
 exact c
set_option maxHeartbeats 8000000 in
theorem qz {s:Nat→Int} {l:List Opt} {ps:List am} {k a b:Int} (hv:aX s l ps k a b=true) (h6:ps.length≤6):ae Tryz.prog 57 [.agg (aU s),aK l,al ps,.int .i64 k,.agg (aD a b)] (.tup [.int .i64 (pkS l ps k).n,.int .i64 (pkS l ps k).at_,aw (pkS l ps k).what,.int .i64 0]):=by
 have ht:=(bQ hv).1
 obtain ⟨hl,hs,hps⟩:=fA ht
 obtain ⟨hl8,hr,hab,_,hp,_⟩:=ba.1 ht
 have hk:0≤k∧k≤3:=by
  have h2:=hv
  simp only [aX,jc,Bool.and_eq_true,decide_eq_true_eq] at h2
  omega
 have cV:=fT s l ps k a b hl hs hps
 rw [hv] at cV
 have cS:=j6 l ps k hl hs hps
 unfold j9 at cS
 rw [lE hv,if_neg (by decide)] at cS
 have hne:=rm (f:=az l) hp hk.1 hk.2
 have hL64:(bj (az l) ps k).length≤64:=by
  unfold bj dC
  refine Nat.le_trans (List.length_filter_le _ _) ?_
  rw [List.length_map,List.length_range]
  exact rT (by have h2:=hv; simp only [aX,Bool.and_eq_true,decide_eq_true_eq] at h2; omega)
 have cW:=fun x (hx:x∈bj (az l) ps k)=>wq ht h6 hx
 have cM:∀ x,ae Tryz.prog 128 [fe (dP l x)] (.tup [.int .i64 (pkM l x).1,.int .i64 (pkM l x).2,.int .i64 0]):=fun x=>
  x7 (dP l x) (by simp [dP]; omega) (sD ht fun o=>kS o x) fun y hy=>by have:=CE ht x y hy; omega
 have hfin:pkR (pkM l) (bj (az l) ps k)=((pkS l ps k).n,(pkS l ps k).at_,(pkS l ps k).what):=by
  unfold pkS
  cases h:bj (az l) ps k with
  | nil=>exact absurd h hne
  | cons y r=>rfl
 have hsn:=fun L x=>C5 (m:=pkM l) (fun y=>wY _) L x
 have e1:(pkS l ps k).n=(pkR (pkM l) (bj (az l) ps k)).1:=by rw [hfin]
 have e2:(pkS l ps k).at_=(pkR (pkM l) (bj (az l) ps k)).2.1:=by rw [hfin]
 have e3:(pkS l ps k).what=(pkR (pkM l) (bj (az l) ps k)).2.2:=by rw [hfin]
 rw [e1,e2,e3]
 generalize bj (az l) ps k=L at *
 refine ag aa Tryz.func57 rfl (by kernel_rfl) af (Nat.le_of_ble_eq_true rfl) ?_
 intro F n' w0 m0 hG hro h1
 repeat' first|refine Q1 ?_|refine Q2 ?_|refine Q3 hG aa cu ?_|refine Q4 hG aa cu ?_|refine Q5 hG aa ?_|refine Q6 hG aa ?_|refine Q7 hG aa ?_|refine Q8 hG aa ?_|refine Q9 rfl ?_|refine QF rfl ?_|refine QC rfl ⟨fun h=>?_,fun h=>?_⟩|((conv=>whnf); first|refine anF ?_|refine anT ?_|refine anK ?_|refine Exists.intro _ (And.intro (cS) ?_)|refine Exists.intro _ (And.intro (cV) ?_)|refine And.intro (fun h=>?_) (fun h=>?_)|refine Or.inl ?_)
 refine SPB.nilT 18 18 1 1 rfl ?_
 refine ap (X:=Nat) (fun x=>⟨[(19,.int .i64 x),(18,aw (pkR (pkM l) (L.take x)).2.2),(17,.int .i64 (pkR (pkM l) (L.take x)).2.1),(16,.int .i64 (pkR (pkM l) (L.take x)).1),(14,ka L),(9,.loc 9 0),(5,.loc 5 0),(2,al ps),(1,aK l)],[(9,aD a b),(5,aU s)]⟩) (fun x=>x≤L.length) (fun x=>L.length-x) 0 (Nat.zero_le _) (ah ?_ ?_) (fun x hx=>?_)
 ·repeat' (first|exact trivial|refine And.intro rfl ?_)
 ·repeat' (first|exact trivial|refine And.intro rfl ?_)
 ·rename Nat=>i
  have hi:=hx
  by_cases hlt_i:i<L.length
  ·have bbk:decide ((i:Int)<((L.map fun x=>[aw x]).length:Int))=false→False:=fun h=>by have:=of_decide_eq_false h; simp at this; omega
   have hx:=fO (f:=fun x=>[aw x]) [] hlt_i
   have hm:=uB hlt_i
   have hst:=hsn (L.take i) (L.getD i [])
   rw [← bw [] hlt_i] at hst
   have cWi:=cW _ hm
   have cMi:=cM (L.getD i [])
   generalize L.getD i []=x at *
   generalize pkM l x=n at *
   generalize pkR (pkM l) (L.take i)=r at *
   repeat' first|exact (bbk (by assumption)).elim|refine Q1 ?_|refine Q2 ?_|refine Q3 hG aa cu ?_|refine Q4 hG aa cu ?_|refine Q5 hG aa ?_|refine Q6 hG aa ?_|refine Q7 hG aa ?_|refine Q8 hG aa ?_|refine Q9 rfl ?_|refine QF rfl ?_|refine QC rfl ⟨fun h=>?_,fun h=>?_⟩|((conv=>whnf); first|refine anF ?_|refine anT ?_|refine anK ?_|refine And.intro (Int.natCast_nonneg i) (Exists.intro _ (And.intro hx ?_))|refine Exists.intro _ (And.intro (cWi) ?_)|refine Exists.intro _ (And.intro (cMi) ?_)|refine And.intro (fun h=>?_) (fun h=>?_)|refine Or.inl ?_)
   all_goals (refine Exists.intro (i+1) (And.intro hlt_i (And.intro (by omega) (ah ?_ ?_))))
   all_goals first
    |(have hc:=of_decide_eq_true (by assumption:decide (n.1>r.1)=true)
      rw [if_pos hc] at hst
      rw [hst]
      refine And.intro (congrArg some (ao (by omega))) ?_
      (repeat' (first|exact trivial|refine And.intro rfl ?_)))
    |(have hc:=of_decide_eq_false (by assumption:decide (n.1>r.1)=false)
      rw [if_neg hc] at hst
      rw [hst]
      refine And.intro (congrArg some (ao (by omega))) ?_
      (repeat' (first|exact trivial|refine And.intro rfl ?_)))
    |(repeat' (first|exact trivial|refine And.intro rfl ?_))
  ·have bbk:decide ((i:Int)<((L.map fun x=>[aw x]).length:Int))=true→False:=fun h=>by have:=of_decide_eq_true h; simp at this; omega
   have he:L.take i=L:=List.take_of_length_le (by omega)
   rw [he]
   repeat' first|exact (bbk (by assumption)).elim|refine Q1 ?_|refine Q2 ?_|refine Q3 hG aa cu ?_|refine Q4 hG aa cu ?_|refine Q5 hG aa ?_|refine Q6 hG aa ?_|refine Q7 hG aa ?_|refine Q8 hG aa ?_|refine Q9 rfl ?_|refine QF rfl ?_|refine QC rfl ⟨fun h=>?_,fun h=>?_⟩|((conv=>whnf); first|refine anF ?_|refine anT ?_|refine anK ?_|refine And.intro (fun h=>?_) (fun h=>?_)|refine Or.inl ?_)
   exact Ends.mk (Or.inl rfl) (ac rfl)
theorem GF {s:Nat→Int} {l:List Opt} {ps:List am} {a b:Int} (h:aY s l ps a b=true) (x:List Int) (P:List (List Int)) :
  pF (loR (loM s l a b) P) a x (lvL s (aA (a8 l x)) a b) (lvL s (aA (a8 l x)) a b).length=loR (loM s l a b) (P++[x]):=by
 obtain ⟨_,hr,hab,_⟩:=ba.1 h
 obtain ⟨h1,h2,h3⟩:=vy h x
 have hne:=(zb h (jn h fun o=>kS o x)).1
 have hlen:=vu s (aA (a8 l x)) a b
 have e:=Dn (r:=loR (loM s l a b) P) (a:=a) (x:=x) hne
 have hmv:=lg hne
 rw [Dm fun y=>by have:=vy h y; omega,h1]
 have e2:(loM s l a b x).2=a+bK (fun y=>kI (lvL s (aA (a8 l x)) a b)==y) (lvL s (aA (a8 l x)) a b) 0:=by
  have hix:=vA (fun y=>kI (lvL s (aA (a8 l x)) a b)==y) (lvL s (aA (a8 l x)) a b) 0
  show w64 (a+_)=_
  generalize bK (fun y=>kI (lvL s (aA (a8 l x)) a b)==y) (lvL s (aA (a8 l x)) a b) 0=z at *
  rcases hix with hz | ⟨j,hj,hz⟩
  ·exact ai (by omega) (by omega)
  ·exact ai (by omega) (by omega)
 have e3:lK s l a b x=kI (lvL s (aA (a8 l x)) a b):=rfl
 rw [e2,e3,Int.neg_neg]
 exact e
set_option maxHeartbeats 8000000 in
theorem tn {s:Nat→Int} {l:List Opt} {ps:List am} {k a b:Int} (hv:aX s l ps k a b=true) (h6:ps.length≤6):ae Tryz.prog 59 [.agg (aU s),aK l,al ps,.int .i64 k,.agg (aD a b)] (.tup [.int .i64 (Go.Proofs.lowV s l ps k a b),.int .i64 (loS s l ps k a b).at_,aw (loS s l ps k a b).what,.int .i64 0]):=by
 have ht:=(bQ hv).1
 obtain ⟨hl,hs,hps⟩:=fA ht
 obtain ⟨hl8,hr,hab,_,hp,_⟩:=ba.1 ht
 have hk:0≤k∧k≤3:=by
  have h2:=hv
  simp only [aX,jc,Bool.and_eq_true,decide_eq_true_eq] at h2
  omega
 have cV:=fT s l ps k a b hl hs hps
 rw [hv] at cV
 have cS:=j6 l ps k hl hs hps
 unfold j9 at cS
 rw [lE hv,if_neg (by decide)] at cS
 have hne:=rm (f:=az l) hp hk.1 hk.2
 have hL64:(bj (az l) ps k).length≤64:=by
  unfold bj dC
  refine Nat.le_trans (List.length_filter_le _ _) ?_
  rw [List.length_map,List.length_range]
  exact rT (by have h2:=hv; simp only [aX,Bool.and_eq_true,decide_eq_true_eq] at h2; omega)
 have cW:=fun x (hx:x∈bj (az l) ps k)=>wq ht h6 hx
 have cZ:∀ x,ae Tryz.prog 130 [.agg (aU s),bM (aA (a8 l x)),.agg (aD a b)] (.tup [aw (lvL s (aA (a8 l x)) a b),.int .i64 0]):=fun x=>by
  have hg:dW (a8 l x):=jn ht _
  have hd:=m6 hg
  exact D6 s (aA (a8 l x)) a b (by omega) (qn ht hg)
 have hfin:loR (loM s l a b) (bj (az l) ps k)=(-(loS s l ps k a b).n,(loS s l ps k a b).at_,(loS s l ps k a b).what):=by
  unfold loS
  cases h:bj (az l) ps k with
  | nil=>exact absurd h hne
  | cons y r=>rfl
 have hlv:=(vv ht hk.1 hk.2).2.2.1
 have e1:Go.Proofs.lowV s l ps k a b=(loR (loM s l a b) (bj (az l) ps k)).1:=by rw [hfin]; show _ = -(loS s l ps k a b).n; omega
 have e2:(loS s l ps k a b).at_=(loR (loM s l a b) (bj (az l) ps k)).2.1:=by rw [hfin]
 have e3:(loS s l ps k a b).what=(loR (loM s l a b) (bj (az l) ps k)).2.2:=by rw [hfin]
 have hln:=fun x=>vu s (aA (a8 l x)) a b
 rw [e1,e2,e3]
 generalize bj (az l) ps k=L at *
 refine ag aa Tryz.func59 rfl (by kernel_rfl) af (Nat.le_of_ble_eq_true rfl) ?_
 intro F n' w0 m0 hG hro h1
 repeat' first|refine Q1 ?_|refine Q2 ?_|refine Q3 hG aa bp ?_|refine Q4 hG aa bp ?_|refine Q5 hG aa ?_|refine Q6 hG aa ?_|refine Q7 hG aa ?_|refine Q8 hG aa ?_|refine Q9 rfl ?_|refine QF rfl ?_|refine QC rfl ⟨fun h=>?_,fun h=>?_⟩|((conv=>whnf); first|refine anF ?_|refine anT ?_|refine anK ?_|refine Exists.intro _ (And.intro (cS) ?_)|refine Exists.intro _ (And.intro (cV) ?_)|refine And.intro (fun h=>?_) (fun h=>?_)|refine Or.inl ?_)
 refine SPB.nilT 18 18 1 1 rfl ?_
 refine ap (X:=Nat) (fun x=>⟨[(19,.int .i64 x),(18,aw (loR (loM s l a b) (L.take x)).2.2),(17,.int .i64 (loR (loM s l a b) (L.take x)).2.1),(16,.int .i64 (loR (loM s l a b) (L.take x)).1),(14,ka L),(9,.loc 9 0),(5,.loc 5 0),(2,al ps),(1,aK l)],[(9,aD a b),(5,aU s)]⟩) (fun x=>x≤L.length) (fun x=>L.length-x) 0 (Nat.zero_le _) (ah ?_ ?_) (fun x hx=>?_)
 ·repeat' (first|exact trivial|refine And.intro rfl ?_)
 ·repeat' (first|exact trivial|refine And.intro rfl ?_)
 ·rename Nat=>i
  have hi:=hx
  by_cases hlt_i:i<L.length
  ·have bbk:decide ((i:Int)<((L.map fun x=>[aw x]).length:Int))=false→False:=fun h=>by have:=of_decide_eq_false h; simp at this; omega
   have hop:=fO (f:=fun x=>[aw x]) [] hlt_i
   have hm:=uB hlt_i
   have hend:=GF ht (L.getD i []) (L.take i)
   rw [← bw [] hlt_i] at hend
   have cWi:=cW _ hm
   have cZi:=cZ (L.getD i [])
   have hVl:=hln (L.getD i [])
   generalize L.getD i []=x_ at *
   generalize lvL s (aA (a8 l x_)) a b=V at *
   have hr0:pF (loR (loM s l a b) (L.take i)) a x_ V 0=loR (loM s l a b) (L.take i):=rfl
   rw [← hr0]
   generalize loR (loM s l a b) (L.take i)=r at *
   repeat' first|exact (bbk (by assumption)).elim|refine Q1 ?_|refine Q2 ?_|refine Q3 hG aa bp ?_|refine Q4 hG aa bp ?_|refine Q5 hG aa ?_|refine Q6 hG aa ?_|refine Q7 hG aa ?_|refine Q8 hG aa ?_|refine Q9 rfl ?_|refine QF rfl ?_|refine QC rfl ⟨fun h=>?_,fun h=>?_⟩|((conv=>whnf); first|refine anF ?_|refine anT ?_|refine anK ?_|refine And.intro (Int.natCast_nonneg i) (Exists.intro _ (And.intro hop ?_))|refine Exists.intro _ (And.intro (cWi) ?_)|refine Exists.intro _ (And.intro (cZi) ?_)|refine And.intro (fun h=>?_) (fun h=>?_)|refine Or.inl ?_)
   refine ap (X:=Nat) (fun x=>⟨[(24,.int .i64 x),(22,aw V),(19,.int .i64 i),(18,aw (pF r a x_ V x).2.2),(17,.int .i64 (pF r a x_ V x).2.1),(16,.int .i64 (pF r a x_ V x).1),(14,ka L),(9,.loc 9 0),(5,.loc 5 0),(2,al ps),(1,aK l)],[(9,aD a b),(5,aU s)]⟩) (fun x=>x≤V.length) (fun x=>V.length-x) 0 (Nat.zero_le _) (ah ?_ ?_) (fun x hx=>?_)
   ·repeat' (first|exact trivial|refine And.intro rfl ?_)
   ·repeat' (first|exact trivial|refine And.intro rfl ?_)
   ·rename Nat=>j
    have hj:=hx
    by_cases hlt_j:j<V.length
    ·have bbj:decide ((j:Int)<((V.map (fun h=>[AV.int .i64 h])).length:Int))=false→False:=fun h=>by have:=of_decide_eq_false h; simp at this; omega
     have hy:=sA V j hlt_j
     have hls:=uw r a x_ V j
     have hwj:IntKind.i64.wrap (a+(j:Int))=a+(j:Int):=ai (by omega) (by omega)
     generalize V.getD j 0=v at *
     generalize pF r a x_ V j=q at *
     repeat' first|exact (bbj (by assumption)).elim|refine Q1 ?_|refine Q2 ?_|refine Q3 hG aa bp ?_|refine Q4 hG aa bp ?_|refine Q5 hG aa ?_|refine Q6 hG aa ?_|refine Q7 hG aa ?_|refine Q8 hG aa ?_|refine Q9 rfl ?_|refine QF rfl ?_|refine QC rfl ⟨fun h=>?_,fun h=>?_⟩|((conv=>whnf); first|refine anF ?_|refine anT ?_|refine anK ?_|refine And.intro (Int.natCast_nonneg j) (Exists.intro _ (And.intro hy ?_))|refine And.intro (Int.natCast_nonneg i) (Exists.intro _ (And.intro hop ?_))|refine And.intro (fun h=>?_) (fun h=>?_)|refine Or.inl ?_)
     all_goals (refine Exists.intro (j+1) (And.intro hlt_j (And.intro (by omega) (ah ?_ ?_))))
     all_goals first
      |(have hc:=of_decide_eq_true (by assumption:decide (v<q.1)=true)
        rw [if_pos hc] at hls
        rw [hls]
        refine And.intro (congrArg some (ao (by omega))) (And.intro rfl (And.intro rfl (And.intro rfl (And.intro (congrArg (fun z=>some (AV.int .i64 z)) hwj) ?_))))
        (repeat' (first|exact trivial|refine And.intro rfl ?_)))
      |(have hc:=of_decide_eq_false (by assumption:decide (v<q.1)=false)
        rw [if_neg hc] at hls
        rw [hls]
        refine And.intro (congrArg some (ao (by omega))) ?_
        (repeat' (first|exact trivial|refine And.intro rfl ?_)))
      |(repeat' (first|exact trivial|refine And.intro rfl ?_))
    ·have bbj:decide ((j:Int)<((V.map (fun h=>[AV.int .i64 h])).length:Int))=true→False:=fun h=>by have:=of_decide_eq_true h; simp at this; omega
     have hje:j=V.length:=by omega
     subst hje
     rw [hend]
     repeat' first|exact (bbj (by assumption)).elim|refine Q1 ?_|refine Q2 ?_|refine Q3 hG aa bp ?_|refine Q4 hG aa bp ?_|refine Q5 hG aa ?_|refine Q6 hG aa ?_|refine Q7 hG aa ?_|refine Q8 hG aa ?_|refine Q9 rfl ?_|refine QF rfl ?_|refine QC rfl ⟨fun h=>?_,fun h=>?_⟩|((conv=>whnf); first|refine anF ?_|refine anT ?_|refine anK ?_|refine And.intro (fun h=>?_) (fun h=>?_)|refine Or.inl ?_)
     all_goals (refine Exists.intro (i+1) (And.intro hlt_i (And.intro (by omega) (ah ?_ ?_))))
     all_goals first
      |(refine And.intro (congrArg some (ao (by omega))) ?_
        (repeat' (first|exact trivial|refine And.intro rfl ?_)))
      |(repeat' (first|exact trivial|refine And.intro rfl ?_))
  ·have bbk:decide ((i:Int)<((L.map fun x=>[aw x]).length:Int))=true→False:=fun h=>by have:=of_decide_eq_true h; simp at this; omega
   have he:L.take i=L:=List.take_of_length_le (by omega)
   rw [he]
   repeat' first|exact (bbk (by assumption)).elim|refine Q1 ?_|refine Q2 ?_|refine Q3 hG aa bp ?_|refine Q4 hG aa bp ?_|refine Q5 hG aa ?_|refine Q6 hG aa ?_|refine Q7 hG aa ?_|refine Q8 hG aa ?_|refine Q9 rfl ?_|refine QF rfl ?_|refine QC rfl ⟨fun h=>?_,fun h=>?_⟩|((conv=>whnf); first|refine anF ?_|refine anT ?_|refine anK ?_|refine And.intro (fun h=>?_) (fun h=>?_)|refine Or.inl ?_)
   exact Ends.mk (Or.inl rfl) (ac rfl)
theorem yd {s:Nat→Int} {l:List Opt} {ps:List am} {k a b:Int} (hv:aX s l ps k a b=true) (h6:ps.length≤6):ae Tryz.prog 61 [.agg (aU s),aK l,al ps,.int .i64 k,.agg (aD a b)] (.bool (G3 s l ps k a b)):=by
 have c1:=qz hv h6
 have c2:=tn hv h6
 unfold G3
 generalize pkS l ps k=z at *
 generalize Go.Proofs.lowV s l ps k a b=m at *
 generalize loS s l ps k a b=y at *
 obtain ⟨n,t,w,i⟩:=z
 obtain ⟨n2,t2,w2,i2⟩:=y
 refine ag aa Tryz.func61 rfl (by kernel_rfl) af (Nat.le_of_ble_eq_true rfl) ?_
 intro F n' w0 m0 hG hro h1
 repeat' first|refine Q1 ?_|refine Q2 ?_|refine Q3 hG aa iX ?_|refine Q4 hG aa iX ?_|refine Q5 hG aa ?_|refine Q6 hG aa ?_|refine Q7 hG aa ?_|refine Q8 hG aa ?_|refine Q9 rfl ?_|refine QF rfl ?_|refine QC rfl ⟨fun h=>?_,fun h=>?_⟩|((conv=>whnf); first|refine anF ?_|refine anT ?_|refine anK ?_|refine Exists.intro _ (And.intro (c1) ?_)|refine Exists.intro _ (And.intro (c2) ?_)|refine And.intro (fun h=>?_) (fun h=>?_)|refine Or.inl ?_)
 all_goals refine Ends.mk (Or.inl rfl) (ac (congrArg AV.bool ?_))
 all_goals (clear hG; grind)
theorem ye (s:Nat→Int) (l:List Opt) (ps:List am) (k a b:Int) (hl:l.length≤1000000) (hs:dQ l) (hps:ps.length≤1000000) (hv:aX s l ps k a b=false):ae Tryz.prog 61 [.agg (aU s),aK l,al ps,.int .i64 k,.agg (aD a b)] (.bool false):=by
 have c1:=qA s l ps k a b hl hs hps hv
 have c2:=tp s l ps k a b hl hs hps hv
 refine ag aa Tryz.func61 rfl (by kernel_rfl) af (Nat.le_of_ble_eq_true rfl) ?_
 intro F n' w0 m0 hG hro h1
 repeat' first|refine Q1 ?_|refine Q2 ?_|refine Q3 hG aa iX ?_|refine Q4 hG aa iX ?_|refine Q5 hG aa ?_|refine Q6 hG aa ?_|refine Q7 hG aa ?_|refine Q8 hG aa ?_|refine Q9 rfl ?_|refine QF rfl ?_|refine QC rfl ⟨fun h=>?_,fun h=>?_⟩|((conv=>whnf); first|refine anF ?_|refine anT ?_|refine anK ?_|refine Exists.intro _ (And.intro (c1) ?_)|refine Exists.intro _ (And.intro (c2) ?_)|refine And.intro (fun h=>?_) (fun h=>?_)|refine Or.inl ?_)
 all_goals exact Ends.mk (Or.inl rfl) (ac rfl)
end Go.Proofs
namespace Go.Proofs
open Go Go.AI
set_option maxRecDepth 10000
theorem Cz (s:Nat→Int) (l:List Opt) (ps:List am) (n a b:Int) (hl:l.length≤1000000) (hs:dQ l) (hps:ps.length≤6) :
  (ae Tryz.prog 56 [.agg (aU s),aK l,al ps,.int .i64 n,.agg (aD a b)] (.tup [.int .i64 0,.int .i64 0,.sl .full 0 [],.int .i64 210])∧ae Tryz.prog 57 [.agg (aU s),aK l,al ps,.int .i64 n,.agg (aD a b)] (.tup [.int .i64 0,.int .i64 0,.sl .no 1 [],.int .i64 210])∧ae Tryz.prog 58 [.agg (aU s),aK l,al ps,.int .i64 n,.agg (aD a b)] (.tup [.int .i64 0,.int .i64 0,.sl .full 0 [],.int .i64 210])∧ae Tryz.prog 59 [.agg (aU s),aK l,al ps,.int .i64 n,.agg (aD a b)] (.tup [.int .i64 0,.int .i64 0,.sl .no 1 [],.int .i64 210])∧ae Tryz.prog 60 [.agg (aU s),aK l,al ps,.int .i64 n,.agg (aD a b)] (.bool false)∧ae Tryz.prog 61 [.agg (aU s),aK l,al ps,.int .i64 n,.agg (aD a b)] (.bool false)) ∨
  ∃ (x1 x2 y1 y2:Int) (X Y:List Int) (f:Bool),ae Tryz.prog 56 [.agg (aU s),aK l,al ps,.int .i64 n,.agg (aD a b)] (.tup [.int .i64 x1,.int .i64 x2,aw X,.int .i64 0])∧ae Tryz.prog 57 [.agg (aU s),aK l,al ps,.int .i64 n,.agg (aD a b)] (.tup [.int .i64 x1,.int .i64 x2,aw X,.int .i64 0])∧ae Tryz.prog 58 [.agg (aU s),aK l,al ps,.int .i64 n,.agg (aD a b)] (.tup [.int .i64 y1,.int .i64 y2,aw Y,.int .i64 0])∧ae Tryz.prog 59 [.agg (aU s),aK l,al ps,.int .i64 n,.agg (aD a b)] (.tup [.int .i64 y1,.int .i64 y2,aw Y,.int .i64 0])∧ae Tryz.prog 60 [.agg (aU s),aK l,al ps,.int .i64 n,.agg (aD a b)] (.bool f)∧ae Tryz.prog 61 [.agg (aU s),aK l,al ps,.int .i64 n,.agg (aD a b)] (.bool f) ∧
   ae Tryz.prog 46 [aw X,aw X] (.bool true)∧ae Tryz.prog 46 [aw Y,aw Y] (.bool true):=by
 cases hv:aX s l ps n a b with
 | false=>exact .inl ⟨tt s l ps n a b hl hs (by omega) hv,qA s l ps n a b hl hs (by omega) hv,uZ s l ps n a b hl hs (by omega) hv,tp s l ps n a b hl hs (by omega) hv,zK s l ps n a b hl hs (by omega) hv,ye s l ps n a b hl hs (by omega) hv⟩
 | true=>
  right
  have ht:=(bQ hv).1
  have hk:0≤n∧n≤3:=by
   have h2:=hv
   simp only [aX,jc,Bool.and_eq_true,decide_eq_true_eq] at h2
   omega
  obtain ⟨_,_,_,_,hp,_⟩:=ba.1 ht
  have hne:=rm (f:=az l) hp hk.1 hk.2
  have hlen:∀ x∈bj (az l) ps n,x.length≤1000000:=fun x hx=>by
   obtain ⟨_,b,_,rfl⟩:=rK hx
   exact vc (by have:=lk ht; omega)
  have m1:=(AH (m:=pkM l) hne).1
  have m2:=(vv ht hk.1 hk.2).1
  have i1:=dV (pkS l ps n).what (pkS l ps n).what (hlen _ m1)
  have i2:=dV (loS s l ps n a b).what (loS s l ps n a b).what (hlen _ m2)
  rw [decide_eq_true rfl] at i1 i2
  exact ⟨_,_,_,_,_,_,_,j7 hv,qz hv hps,pV hv,tn hv hps,mG hv,yd hv hps,i1,i2⟩
theorem vZ:ae Tryz.prog 46 [.sl .full 0 [],.sl .no 1 []] (.bool true):=by
 have c:=dV [] [] (by simp)
 rw [decide_eq_true rfl] at c
 exact c.weak (.cons AV.weak.slnil (.cons (.refl _) (.refl _)))
set_option maxHeartbeats 16000000 in
theorem yh (s:Nat→Int) (l be:List Opt) (ps:List am) (a b kk:Int) (hl:tE l) (hbe:tE be) (hps:ps.length≤6)
  {F':Fence} {n':Nat} {w0:World} {m0:Mem} (hG:aO.OK ⟨Tryz.prog,F',n',w0,m0,Tryz.f11.ntmps⟩):SPB ⟨Tryz.prog,F',n',w0,m0,Tryz.f11.ntmps⟩ ⟨[(13,aK be),(10,aK l),(12,.loc 12 0),(11,al ps),(9,.loc 9 0),(3,.int .i64 kk)],[(12,aD a b),(9,aU s)]⟩ (match Tryz.f11.body with | some c=>CN (CN (CN (CN (CN (c))))) | none => .skip) (Go.AI.Ends wg Tryz.f11.results.toList (.bool true)):=by
 have kK:=mH kk 4 (by decide)
 generalize ar kk 4=k4 at kK
 repeat' first|refine Q1 ?_|refine Q2 ?_|refine Q3 hG aa aQ ?_|refine Q4 hG aa aQ ?_|refine Q5 hG aa ?_|refine Q6 hG aa ?_|refine Q7 hG aa ?_|refine Q8 hG aa ?_|refine Q9 rfl ?_|refine QF rfl ?_|refine QC rfl ⟨fun h=>?_,fun h=>?_⟩|((conv=>whnf); first|refine anF ?_|refine anT ?_|refine anK ?_|refine And.intro (fun h=>?_) (fun h=>?_)|refine Or.inl ?_)
 refine ap (X:=Nat) (fun x=>⟨[(61,.int .i64 x),(59,.sl .full 1 [[aK l],[aK be]]),(60,.int .i64 2),(12,.loc 12 0),(11,al ps),(9,.loc 9 0),(3,.int .i64 kk)],[(12,aD a b),(9,aU s)]⟩) (fun x=>x≤2) (fun x=>2-x) 0 (Nat.zero_le _) (ah ?_ ?_) (fun x hx=>?_)
 ·repeat' (first|exact trivial|refine And.intro rfl ?_)
 ·repeat' (first|exact trivial|refine And.intro rfl ?_)
 ·by_cases hx2:x<2
  ·have b6:decide ((x:Int)<2)=false→False:=fun h=>by have:=of_decide_eq_false h; omega
   obtain ⟨B,hB,h21⟩:=GX (f:=fun B=>[aK B]) (Q:=tE) (a:=l) (b:=be) hl hbe hx2
   obtain ⟨g1,g2⟩:=hB.lens
   repeat' first|exact (b6 (by assumption)).elim|refine Q1 ?_|refine Q2 ?_|refine Q3 hG aa aQ ?_|refine Q4 hG aa aQ ?_|refine Q5 hG aa ?_|refine Q6 hG aa ?_|refine Q7 hG aa ?_|refine Q8 hG aa ?_|refine Q9 rfl ?_|refine QF rfl ?_|refine QC rfl ⟨fun h=>?_,fun h=>?_⟩|((conv=>whnf); first|refine anF ?_|refine anT ?_|refine anK ?_|refine And.intro (Int.natCast_nonneg x) (Exists.intro _ (And.intro h21 ?_))|refine Exists.intro _ (And.intro (kK) ?_)|refine And.intro (fun h=>?_) (fun h=>?_)|refine Or.inl ?_)
   refine ap (X:=Nat) (fun y=>⟨[(70,.int .i64 y),(69,.int .i64 2),(68,.sl .full 1 [[.int .i64 kk],[.int .i64 k4]]),(15,aK B),(61,.int .i64 x),(59,.sl .full 1 [[aK l],[aK be]]),(60,.int .i64 2),(12,.loc 12 0),(11,al ps),(9,.loc 9 0),(3,.int .i64 kk)],[(12,aD a b),(9,aU s)]⟩) (fun y=>y≤2) (fun y=>2-y) 0 (Nat.zero_le _) (ah ?_ ?_) (fun y hy=>?_)
   ·repeat' (first|exact trivial|refine And.intro rfl ?_)
   ·repeat' (first|exact trivial|refine And.intro rfl ?_)
   ·by_cases hy2:y<2
    ·have b7:decide ((y:Int)<2)=false→False:=fun h=>by have:=of_decide_eq_false h; omega
     obtain ⟨n,_,hn2⟩:=GX (f:=fun n:Int=>[AV.int .i64 n]) (Q:=fun _=>True) (a:=kk) (b:=k4) trivial trivial hy2
     rcases Cz s B ps n a b g1 g2 hps with ⟨w1,w2,w3,w4,w5,w6⟩ | ⟨x1,x2,y1,y2,X,Y,f,w1,w2,w3,w4,w5,w6,w7,w8⟩
     ·repeat' first|exact (b7 (by assumption)).elim|refine Q1 ?_|refine Q2 ?_|refine Q3 hG aa aQ ?_|refine Q4 hG aa aQ ?_|refine Q5 hG aa ?_|refine Q6 hG aa ?_|refine Q7 hG aa ?_|refine Q8 hG aa ?_|refine Q9 rfl ?_|refine QF rfl ?_|refine QC rfl ⟨fun h=>?_,fun h=>?_⟩|((conv=>whnf); first|refine anF ?_|refine anT ?_|refine anK ?_|refine And.intro (Int.natCast_nonneg y) (Exists.intro _ (And.intro hn2 ?_))|refine Exists.intro _ (And.intro (w1) ?_)|refine Exists.intro _ (And.intro (w2) ?_)|refine Exists.intro _ (And.intro (w3) ?_)|refine Exists.intro _ (And.intro (w4) ?_)|refine Exists.intro _ (And.intro (w5) ?_)|refine Exists.intro _ (And.intro (w6) ?_)|refine Exists.intro _ (And.intro (vZ) ?_)|refine And.intro (fun h=>?_) (fun h=>?_)|refine Or.inl ?_)
      all_goals (conv=>whnf)
      all_goals (refine Exists.intro (y+1) (And.intro hy2 (And.intro (by omega) (ah ?_ ?_))))
      all_goals first
       |(refine And.intro (congrArg some (ao (by omega))) ?_
         repeat' (first|exact trivial|refine And.intro rfl ?_))
       |(repeat' (first|exact trivial|refine And.intro rfl ?_))
     ·have e1:(x1 !=x1)=true→False:=fun h=>by simp at h
      have e2:(x2 !=x2)=true→False:=fun h=>by simp at h
      have e3:(y1 !=y1)=true→False:=fun h=>by simp at h
      have e4:(y2 !=y2)=true→False:=fun h=>by simp at h
      have e5:(f !=f)=true→False:=fun h=>by simp at h
      repeat' first|exact (b7 (by assumption)).elim|exact (e1 (by assumption)).elim|exact (e2 (by assumption)).elim|exact (e3 (by assumption)).elim|exact (e4 (by assumption)).elim|exact (e5 (by assumption)).elim|refine Q1 ?_|refine Q2 ?_|refine Q3 hG aa aQ ?_|refine Q4 hG aa aQ ?_|refine Q5 hG aa ?_|refine Q6 hG aa ?_|refine Q7 hG aa ?_|refine Q8 hG aa ?_|refine Q9 rfl ?_|refine QF rfl ?_|refine QC rfl ⟨fun h=>?_,fun h=>?_⟩|((conv=>whnf); first|refine anF ?_|refine anT ?_|refine anK ?_|refine And.intro (Int.natCast_nonneg y) (Exists.intro _ (And.intro hn2 ?_))|refine Exists.intro _ (And.intro (w1) ?_)|refine Exists.intro _ (And.intro (w2) ?_)|refine Exists.intro _ (And.intro (w3) ?_)|refine Exists.intro _ (And.intro (w4) ?_)|refine Exists.intro _ (And.intro (w5) ?_)|refine Exists.intro _ (And.intro (w6) ?_)|refine Exists.intro _ (And.intro (w7) ?_)|refine Exists.intro _ (And.intro (w8) ?_)|refine And.intro (fun h=>?_) (fun h=>?_)|refine Or.inl ?_)
      all_goals (conv=>whnf)
      all_goals (refine Exists.intro (y+1) (And.intro hy2 (And.intro (by omega) (ah ?_ ?_))))
      all_goals first
       |(refine And.intro (congrArg some (ao (by omega))) ?_
         repeat' (first|exact trivial|refine And.intro rfl ?_))
       |(repeat' (first|exact trivial|refine And.intro rfl ?_))
    ·have b7:decide ((y:Int)<2)=true→False:=fun h=>by have:=of_decide_eq_true h; omega
     repeat' first|exact (b7 (by assumption)).elim|refine Q1 ?_|refine Q2 ?_|refine Q3 hG aa aQ ?_|refine Q4 hG aa aQ ?_|refine Q5 hG aa ?_|refine Q6 hG aa ?_|refine Q7 hG aa ?_|refine Q8 hG aa ?_|refine Q9 rfl ?_|refine QF rfl ?_|refine QC rfl ⟨fun h=>?_,fun h=>?_⟩|((conv=>whnf); first|refine anF ?_|refine anT ?_|refine anK ?_|refine And.intro (fun h=>?_) (fun h=>?_)|refine Or.inl ?_)
     conv=>whnf
     refine Exists.intro (x+1) (And.intro hx2 (And.intro (by omega) (ah ?_ ?_)))
     ·refine And.intro (congrArg some (ao (by omega))) ?_
      repeat' (first|exact trivial|refine And.intro rfl ?_)
     ·repeat' (first|exact trivial|refine And.intro rfl ?_)
  ·have b6:decide ((x:Int)<2)=true→False:=fun h=>by have:=of_decide_eq_true h; omega
   repeat' first|exact (b6 (by assumption)).elim|refine Q1 ?_|refine Q2 ?_|refine Q3 hG aa aQ ?_|refine Q4 hG aa aQ ?_|refine Q5 hG aa ?_|refine Q6 hG aa ?_|refine Q7 hG aa ?_|refine Q8 hG aa ?_|refine Q9 rfl ?_|refine QF rfl ?_|refine QC rfl ⟨fun h=>?_,fun h=>?_⟩|((conv=>whnf); first|refine anF ?_|refine anT ?_|refine anK ?_|refine And.intro (fun h=>?_) (fun h=>?_)|refine Or.inl ?_)
   exact Ends.mk (Or.inl rfl) (ac rfl)
set_option maxHeartbeats 8000000 in
theorem D7 (c:bX) (o1:Opt) (s:Nat→Int) (l:List Opt) (ps:List am) (a b wh kk:Int) (hl:tE l) (hps:ps.length≤6) (hsd:inI wh)
  (k18:ae Tryz.prog 42 [.agg (xO c)] (.tup [.agg (aU s),aK l,al ps,.agg (aD a b)])) :
  ae Tryz.prog 11 [.agg (xO c),.agg (aH o1),.int .i64 wh,.int .i64 kk] (.bool true):=by
 have cf:=CA o1
 refine ag aa Tryz.func11 rfl (by kernel_rfl) af (Nat.le_of_ble_eq_true rfl) ?_
 intro F n' w0 m0 hG hro h1
 repeat' first|refine Q1 ?_|refine Q2 ?_|refine Q3 hG aa aQ ?_|refine Q4 hG aa aQ ?_|refine Q5 hG aa ?_|refine Q6 hG aa ?_|refine Q7 hG aa ?_|refine Q8 hG aa ?_|refine Q9 rfl ?_|refine QF rfl ?_|refine QC rfl ⟨fun h=>?_,fun h=>?_⟩|((conv=>whnf); first|refine anF ?_|refine anT ?_|refine anK ?_|refine And.intro (fun h=>?_) (fun h=>?_)|refine Or.inl ?_)
 conv=>whnf
 refine Exists.intro _ (And.intro (x4) ?_)
 repeat' first|refine Q1 ?_|refine Q2 ?_|refine Q3 hG aa aQ ?_|refine Q4 hG aa aQ ?_|refine Q5 hG aa ?_|refine Q6 hG aa ?_|refine Q7 hG aa ?_|refine Q8 hG aa ?_|refine Q9 rfl ?_|refine QF rfl ?_|refine QC rfl ⟨fun h=>?_,fun h=>?_⟩|((conv=>whnf); first|refine anF ?_|refine anT ?_|refine anK ?_|refine And.intro (fun h=>?_) (fun h=>?_)|refine Or.inl ?_)
 conv=>whnf
 refine Exists.intro _ (And.intro (k18) ?_)
 rcases l with _ | ⟨x0,l0⟩
 ·refine Q1 ?_
  refine Q4 hG aa aQ ?_
  conv=>whnf
  refine Or.inl ?_
  conv=>whnf
  refine And.intro (show _*88≤70368744177664 by simp) (And.intro (show _+_≤4611686018427387904 by simp) ?_)
  refine Q1 ?_
  refine SPB.cut (X:=Unit) (fun _=>⟨[(13,.sl (.id 45) 9 []),(10,aK []),(12,.loc 12 0),(11,al ps),(9,.loc 9 0),(3,.int .i64 kk)],[(12,aD a b),(9,aU s)]⟩) (fun _=>True) ?_ (fun _ _=>SPB.demT 45 (SPB.le (ah ?_ ?_) (yh s [] [] ps a b kk hl hl hps hG)))
  ·repeat' first|refine Q1 ?_|refine Q2 ?_|refine Q3 hG aa aQ ?_|refine Q4 hG aa aQ ?_|refine Q5 hG aa ?_|refine Q6 hG aa ?_|refine Q7 hG aa ?_|refine Q8 hG aa ?_|refine Q9 rfl ?_|refine QF rfl ?_|refine QC rfl ⟨fun h=>?_,fun h=>?_⟩|((conv=>whnf); first|refine anF ?_|refine anT ?_|refine anK ?_|refine And.intro (fun h=>?_) (fun h=>?_)|refine Or.inl ?_)
   refine Exists.intro () (And.intro trivial (ah ?_ ?_))
   ·repeat' (first|exact trivial|refine And.intro rfl ?_)
   ·repeat' (first|exact trivial|refine And.intro rfl ?_)
  ·repeat' (first|exact trivial|refine And.intro rfl ?_)
  ·repeat' (first|exact trivial|refine And.intro rfl ?_)
 ·have hL0:0<((x0::l0).map aH).length:=by simp
  have hL1:((x0::l0).map aH).length=(x0::l0).length:=by rw [List.length_map]
  have hl1:=hl.1
  have kwh:=mH wh (((x0::l0).map aH).length:Int) (by omega)
  have pwh:=aM hsd (n:=(((x0::l0).map aH).length:Int)) (by omega)
  have hidx:((x0::l0).map aH)[(ar wh (((x0::l0).map aH).length:Int)).toNat]?=some (aH (aG (x0::l0) (ar wh (((x0::l0).map aH).length:Int)).toNat)):=by
   have h:=gB (l:=x0::l0) (i:=(ar wh (((x0::l0).map aH).length:Int)).toNat) (by omega)
   rw [Int.toNat_natCast] at h; exact h
  refine Q1 ?_
  refine Q4 hG aa aQ ?_
  conv=>whnf
  refine Or.inr (And.intro rfl ?_)
  conv=>whnf
  refine And.intro hL0 (And.intro (show _*88≤70368744177664 by simp at hl1 ⊢; omega) (And.intro (show _≤4611686018427387904 by simp at hl1 ⊢; omega) ?_))
  generalize hLL:x0::l0=l at *
  refine Q1 ?_
  refine SPB.cut (X:=List Opt) (fun B=>⟨[(13,.me .sl 45 (l.map aH).length []),(xk 45,.me .arr 45 9 (B.map aH)),(10,aK l),(12,.loc 12 0),(11,al ps),(9,.loc 9 0),(3,.int .i64 kk)],[(12,aD a b),(9,aU s)]⟩) (fun B=>tE B) ?_ (fun B hB=>?_)
  ·repeat' first|refine Q1 ?_|refine Q2 ?_|refine Q3 hG aa aQ ?_|refine Q4 hG aa aQ ?_|refine Q5 hG aa ?_|refine Q6 hG aa ?_|refine Q7 hG aa ?_|refine Q8 hG aa ?_|refine Q9 rfl ?_|refine QF rfl ?_|refine QC rfl ⟨fun h=>?_,fun h=>?_⟩|((conv=>whnf); first|refine anF ?_|refine anT ?_|refine anK ?_|refine And.intro pwh.1 (And.intro pwh.2 ?_)|refine Exists.intro _ (And.intro hidx ?_)|refine Exists.intro _ (And.intro (kwh) ?_)|refine Exists.intro _ (And.intro (cf) ?_)|refine And.intro (fun h=>?_) (fun h=>?_)|refine Or.inl ?_)
   ·refine Exists.intro (bZ l (ar wh ((l.map aH).length:Int)).toNat (xA o1)) (And.intro (hl.set _ _) (ah ?_ ?_))
    ·refine And.intro rfl (And.intro (congrArg (fun z=>some (AV.me .arr 45 9 z)) (rM aH _ _ _)) ?_)
     repeat' (first|exact trivial|refine And.intro rfl ?_)
    ·repeat' (first|exact trivial|refine And.intro rfl ?_)
   ·refine Exists.intro l (And.intro hl (ah ?_ ?_))
    ·repeat' (first|exact trivial|refine And.intro rfl ?_)
    ·repeat' (first|exact trivial|refine And.intro rfl ?_)
  ·refine SPB.frz [.tmp 13] ?_
   conv=>whnf
   refine SPB.le (ah ?_ ?_) (yh s l B ps a b kk hl hB hps hG)
   ·repeat' (first|exact trivial|refine And.intro rfl ?_)
   ·repeat' (first|exact trivial|refine And.intro rfl ?_)
theorem Hh (c:bX) (o1:Opt) (wh kk:Int) (hw:inI wh):ae Tryz.prog 11 [.agg (xO c),.agg (aH o1),.int .i64 wh,.int .i64 kk] (.bool true):=
 D7 c o1 c.s c.gl c.gps c.ga c.gb wh kk c.gfew c.gpasses.2.1 hw (zP c)
end Go.Proofs
namespace Go.Proofs
open Go Go.AI Go.Proofs.YtehdegggapeihaaGreat
set_option maxRecDepth 100000
theorem Eg:ownKnob Tryz.prog.godebug=none:=by kernel_rfl
theorem v8:laidOutB Tryz.prog=true:=by kernel_rfl
def An:List Sh:=[.int .i64,.int .i64,.int .i64,.int .i64,.int .i64,.int .i64,.int .i64,.int .i64,.sl [.int .i64,.int .i64,.int .i64]]
def GZ:List Sh:=[.int .i64,.int .i64,.int .i64,.int .i64,.int .i64,.int .i64,.int .i64,.int .i64,.int .i64,.int .i64,.int .i64,.int .i64,.int .i64,.int .i64,.int .i64,.int .i64,.int .i64,.int .i64,.int .i64,.int .i64,.int .i64]
def GB:List Sh:=[.int .i64,.int .i64,.int .i64,.int .i64,.int .i64,.int .i64]
def Fk:List Sh:=[.int .i64,.int .i64]
theorem yf:(Tryz.prog.readableRec 3&&Nat.blt 3 Tryz.prog.types.size)=true:=by kernel_rfl
theorem vV:(Tryz.prog.readableRec 32&&Nat.blt 32 Tryz.prog.types.size)=true:=by kernel_rfl
theorem vU:(Tryz.prog.readableRec 95&&Nat.blt 95 Tryz.prog.types.size)=true:=by kernel_rfl
def DN:List Sh:=[.int .i64,.int .i64,.int .i64,.int .i64,.int .i64,.int .i64,.int .i64,.int .i64,.int .i64,.int .i64,.int .i64,.sl [.int .i64,.int .i64,.int .i64],.sl [.int .i64,.int .i64,.int .i64,.int .i64,.int .i64],.int .i64]
def Dp:List (Bool×List Sh):=[(true,DN),(true,An),(false,[.int .i64]),(false,[.int .i64])]
theorem Ea:jQ Tryz.prog 8 [95,32,3,3]=some Dp:=by kernel_rfl
theorem yi (law:∀ avs,jB 8 Dp avs→ae Tryz.prog 11 avs (.bool true)) (os:Os) (started:os.Started) (H:Type) (enc:TypeId×Value→H) :
  ReturnsInHanded {} Tryz.checked os 11 .any (Rows.branchBoundsMatchReferenceSpec.pre6 enc Tryz.prog Tryz.f11 Rows.branchBoundsMatchReferenceRow.domain false) (Rows.branchBoundsMatchReferenceSpec.post enc Tryz.prog Tryz.f11 false true false false):=
 zc (C:=Tryz.checked) (tb:=4) Eg started (by kernel_rfl) Tryz.func11
  (ChangeSpec.witness6 (enc:=enc) (C:=Tryz.checked) false ⟨#[],#[.agg #[.int .i64 0,.int .i64 0,.int .i64 0,.int .i64 0,.int .i64 0,.int .i64 0,.int .i64 0,.int .i64 0,.int .i64 0,.int .i64 0,.int .i64 0,.slice none 0 0,.slice none 0 0,.int .i64 0],.agg #[.int .i64 0,.int .i64 0,.int .i64 0,.int .i64 0,.int .i64 0,.int .i64 0,.int .i64 0,.int .i64 0,.slice none 0 0],.int .i64 0,.int .i64 0],[]⟩ 8 (by kernel_rfl) (by kernel_rfl) (by kernel_rfl) (by kernel_rfl))
  rfl (by kernel_rfl) (by kernel_rfl) (fun ds h=>by
   match ds,h with
   | [d0,d1,d2,d3],_=>rfl) Ea v8 (fun t ht=>by
   have e:Tryz.f11.params.toList=[95,32,3,3]:=by kernel_rfl
   rw [e] at ht
   simp only [List.mem_cons,List.not_mem_nil,or_false] at ht
   have h3:=yf
   have h32:=vV
   have h95:=vU
   simp only [Bool.and_eq_true] at h3 h32 h95
   rcases ht with h | h | h | h <;> subst h <;> first | exact ⟨h3.1,Nat.le_of_ble_eq_true h3.2⟩ | exact ⟨h32.1,Nat.le_of_ble_eq_true h32.2⟩ | exact ⟨h95.1,Nat.le_of_ble_eq_true h95.2⟩) law
theorem Es:(Rows.branchBoundsMatchReferenceRow.wf (OpenSpec.ofChange Rows.branchBoundsMatchReferenceSpec):Bool)=true:=by kernel_rfl
theorem Er:(laidOutB Tryz.pinned.checked.prog:Bool)=true:=by kernel_rfl
theorem Ep:(mapsRowed Tryz.pinned.checked.prog:Bool)=true:=by kernel_rfl
theorem Eo:(Tryz.f11.params.all (Tryz.pinned.checked.prog.readableRec ·):Bool)=true:=by kernel_rfl
theorem En:(namedTie Tryz.pinned.checked.prog Rows.branchBoundsMatchReferenceRow.named Rows.branchBoundsMatchReferenceSpec.vars:Bool)=true:=by kernel_rfl
theorem Em:((Rows.branchBoundsMatchReferenceRow.stops==[]):Bool)=true:=by kernel_rfl
theorem El:((Tryz.pinned.checked.prog.stops==[]):Bool)=true:=by kernel_rfl
theorem Ek:((Rows.branchBoundsMatchReferenceRow.knobs==[]):Bool)=true:=by kernel_rfl
theorem Ej:((Tryz.pinned.checked.prog.stopKnobs==[]):Bool)=true:=by kernel_rfl
theorem Ei:((Rows.branchBoundsMatchReferenceRow.inPlace==Tryz.pinned.checked.prog.inPlace 11):Bool)=true:=by kernel_rfl
theorem Cq:((Rows.branchBoundsMatchReferenceRow.unfollowed==Tryz.pinned.checked.prog.unfollowed 11):Bool)=true:=by kernel_rfl
theorem Cp:((Rows.branchBoundsMatchReferenceRow.recurses==Tryz.pinned.checked.prog.recurses 11):Bool)=true:=by kernel_rfl
theorem Co:((Rows.branchBoundsMatchReferenceRow.named==Tryz.pinned.checked.prog.varsNamed 11):Bool)=true:=by kernel_rfl
theorem Cn:((Rows.branchBoundsMatchReferenceRow.maps==(Tryz.f11.params.toList++Rows.branchBoundsMatchReferenceSpec.plain.varTypes Tryz.pinned.checked.prog).any (Tryz.pinned.checked.prog.mapsRec ·)):Bool)=true:=by kernel_rfl
theorem Cm:((Rows.branchBoundsMatchReferenceRow.ifaces==(Tryz.f11.params.toList++Rows.branchBoundsMatchReferenceSpec.plain.varTypes Tryz.pinned.checked.prog).any (Tryz.pinned.checked.prog.ifacesRec ·)):Bool)=true:=by kernel_rfl
theorem Cl:((Rows.branchBoundsMatchReferenceRow.mapsOut==Tryz.pinned.checked.prog.mapsAmong Tryz.f11.resultTypes.toList):Bool)=true:=by kernel_rfl
theorem Ck:((Rows.branchBoundsMatchReferenceRow.loops==(Tryz.f11.params.toList++Rows.branchBoundsMatchReferenceSpec.plain.varTypes Tryz.pinned.checked.prog).any (Tryz.pinned.checked.prog.loopsFrom ·)):Bool)=true:=by kernel_rfl
theorem Cj:((Rows.branchBoundsMatchReferenceRow.wideKeys==(Tryz.f11.params.toList++Rows.branchBoundsMatchReferenceSpec.plain.varTypes Tryz.pinned.checked.prog++Tryz.f11.resultTypes.toList).any (Tryz.pinned.checked.prog.wideKeysFrom ·)):Bool)=true:=by kernel_rfl
theorem Ci:(Rows.branchBoundsMatchReferenceSpec.vars.all (Tryz.pinned.checked.prog.varReadable ·):Bool)=true:=by kernel_rfl
theorem Ch:(Tryz.f11.resultTypes.all (fun t=>Tryz.pinned.checked.prog.readableRec t&&decide (t<Tryz.pinned.checked.prog.types.size)):Bool)=true:=by kernel_rfl
theorem Cg:((Rows.branchBoundsMatchReferenceRow.ifacesOut==Tryz.f11.resultTypes.toList.any (Tryz.pinned.checked.prog.ifacesRec ·)):Bool)=true:=by kernel_rfl
theorem Cf:((Rows.branchBoundsMatchReferenceRow.loopsOut==Tryz.f11.resultTypes.toList.any (Tryz.pinned.checked.prog.loopsFrom ·)):Bool)=true:=by kernel_rfl
theorem Ce:((Rows.branchBoundsMatchReferenceRow.plainKeys==Tryz.pinned.checked.prog.plainKeys):Bool)=true:=by kernel_rfl
theorem Cd:(Rows.branchBoundsMatchReferenceRow.shortTexts.isNone:Bool)=true:=by kernel_rfl
theorem Cc:(Tryz.pinned.checked.prog.stopsHeard:Bool)=true:=by kernel_rfl
theorem Cb:(Tryz.pinned.checked.prog.mayEnter:Bool)=true:=by kernel_rfl
theorem Ca:((Rows.branchBoundsMatchReferenceRow.lifted==Tryz.pinned.checked.prog.liftsFinal):Bool)=true:=by kernel_rfl
theorem B9:((Tryz.pinned.checked.prog.make==some Rows.branchBoundsMatchReferenceRow.make):Bool)=true:=by kernel_rfl
theorem B8:((Rows.branchBoundsMatchReferenceRow.kinds==(if Rows.branchBoundsMatchReferenceRow.domain.isEmpty then [] else Tryz.f11.params.toList.map fun t=>match Tryz.pinned.checked.prog.underlying t with | some (.int k)=>some k | _=>none)):Bool)=true:=by kernel_rfl
theorem B7:((Rows.branchBoundsMatchReferenceRow.pinned==Rows.branchBoundsMatchReferenceRow.pinnedBy):Bool)=true:=by kernel_rfl
theorem B6:((Rows.branchBoundsMatchReferenceRow.veiled==(Tryz.f11.params.toList++Rows.branchBoundsMatchReferenceSpec.plain.varTypes Tryz.pinned.checked.prog++Tryz.f11.resultTypes.toList).any (Tryz.pinned.checked.prog.veiledRec ·)):Bool)=true:=by kernel_rfl
theorem B5:(Rows.branchBoundsMatchReferenceRow.veiledFits Tryz.pinned.checked.prog Tryz.f11.params.toList (Tryz.f11.params.toList++Rows.branchBoundsMatchReferenceSpec.plain.varTypes Tryz.pinned.checked.prog++Tryz.f11.resultTypes.toList):Bool)=true:=by kernel_rfl
theorem cY {a b:Bool} (h:a=true) (k:b=true):(a&&b)=true:=by rw [h,k]; rfl
theorem FY:joinedFacts Tryz.pinned.checked.prog 11 Tryz.f11 Rows.branchBoundsMatchReferenceSpec Rows.branchBoundsMatchReferenceRow=true:=by
 unfold joinedFacts
 exact cY (cY (cY (cY (cY (cY (cY (cY (cY (cY (cY (cY (cY (cY (cY (cY (cY (cY (cY (cY (cY (cY (cY (cY (cY (cY (cY (cY (cY (cY (cY (Es) Er) Ep) Eo) En) Em) El) Ek) Ej) Ei) Cq) Cp) Co) Cn) Cm) Cl) Ck) Cj) Ci) Ch) Cg) Cf) Ce) Cd) Cc) Cb) Ca) B9) B8) B7) B6) B5
theorem Ed (law:∀ avs,jB 8 Dp avs→ae Tryz.prog 11 avs (.bool true)):Rows.BranchBoundsMatchReferenceSaid:=
 OpenClaim.holds_of_wide (p:=Tryz.pinned) (s:=Rows.branchBoundsMatchReferenceSpec) (c:=Rows.branchBoundsMatchReferenceRow) 11 Tryz.f11 rfl rfl rfl rfl rfl rfl rfl ⟨rfl,rfl,rfl,rfl,rfl⟩ rfl rfl rfl rfl rfl (by kernel_rfl) Tryz.func11 FY
  (of_decide_eq_true (by kernel_rfl)) (by unfold Func.isWrapper; first | (rw [if_pos (by decide +kernel)]; kernel_rfl) | (rw [if_neg (by decide +kernel)]; exact ⟨rfl,rfl⟩))
  (fun os started H enc _=>yi law os started H enc)
theorem un {n:Nat} {L:List Sh} {r:List (Bool×List Sh)} {avs:List AV} (h:jB n ((true,L)::r) avs):∃ cs q,avs = .agg cs::q∧Fa (ep n) L cs∧jB n r q:=by
 match avs,h with
 | _::q,h=>
  obtain ⟨⟨cs,rfl,h1⟩,h2⟩:=h
  exact ⟨cs,q,rfl,h1,h2⟩
 | [],h=>exact h.elim
theorem um {n:Nat} {r:List (Bool×List Sh)} {avs:List AV} (h:jB (n+1) ((false,[.int .i64])::r) avs):∃ z q,avs = .int .i64 z::q∧inI z∧jB (n+1) r q:=by
 match avs,h with
 | _::q,h=>
  obtain ⟨⟨s,e,h1⟩,h2⟩:=h
  cases e
  obtain ⟨z,rfl,hz⟩:=aC h1
  exact ⟨z,q,rfl,hz,h2⟩
 | [],h=>exact h.elim
theorem G1 {n:Nat} {e:List Sh} {r:List (Bool×List Sh)} {avs:List AV} (h:jB n ((false,[.sl e])::r) avs):∃ z q,avs=z::q∧ep n (.sl e) z∧jB n r q:=by
 match avs,h with
 | _::q,h=>
  obtain ⟨⟨s,e,h1⟩,h2⟩:=h
  cases e
  exact ⟨_,q,rfl,h1,h2⟩
 | [],h=>exact h.elim
theorem A9 {n:Nat} {avs:List AV} (h:jB n [] avs):avs=[]:=by
 match avs,h with
 | [],_=>rfl
 | _::_,h=>exact h.elim
theorem G2 {n:Nat} {a:AV} (h:ep (n+2) (.sl [.int .i64]) a):∃ z:List Int,(∀ x∈z,inI x)∧a=aw z:=by
 obtain ⟨xs,rfl,h2⟩:=h
 suffices hs:∀ l:List (List AV),(∀ x∈l,Fa (ep (n+1)) [.int .i64] x)→∃ z:List Int,(∀ x∈z,inI x)∧l=z.map fun h=>[AV.int .i64 h] by
  obtain ⟨z,g1,g2⟩:=hs xs h2
  exact ⟨z,g1,congrArg (AV.sl .no 1) g2⟩
 intro l
 induction l with
 | nil=>exact fun _=>⟨[],by simp,rfl⟩
 | cons y r ih=>
  intro h
  obtain ⟨z,g1,rfl⟩:=ih (fun x hx=>h x (List.mem_cons_of_mem _ hx))
  obtain ⟨b,q,rfl,h0,h'⟩:=aj (h y List.mem_cons_self)
  obtain rfl:=d8 h'
  obtain ⟨w,rfl,hw⟩:=aC h0
  exact ⟨w::z,fun v hv=>by rcases List.mem_cons.1 hv with rfl | hv; exact hw; exact g1 v hv,rfl⟩
theorem CY {n:Nat} {a:AV} (h:ep (n+2) (.sl [.int .i64,.int .i64,.int .i64,.int .i64,.int .i64]) a):∃ z:List R5,(∀ x∈z,xm x)∧a = .sl .no 5 (z.map kd):=by
 obtain ⟨xs,rfl,h2⟩:=h
 suffices hs:∀ l:List (List AV),(∀ x∈l,Fa (ep (n+1)) [.int .i64,.int .i64,.int .i64,.int .i64,.int .i64] x)→∃ z:List R5,(∀ x∈z,xm x)∧l=z.map kd by
  obtain ⟨z,g1,g2⟩:=hs xs h2
  exact ⟨z,g1,congrArg (AV.sl .no 5) g2⟩
 intro l
 induction l with
 | nil=>exact fun _=>⟨[],by simp,rfl⟩
 | cons y r ih=>
  intro h
  obtain ⟨z,g1,rfl⟩:=ih (fun x hx=>h x (List.mem_cons_of_mem _ hx))
  obtain ⟨b0,q,rfl,h0,h'⟩:=aj (h y List.mem_cons_self)
  obtain ⟨b1,q,rfl,h1,h'⟩:=aj h'
  obtain ⟨b2,q,rfl,h2,h'⟩:=aj h'
  obtain ⟨b3,q,rfl,h3,h'⟩:=aj h'
  obtain ⟨b4,q,rfl,h4,h'⟩:=aj h'
  obtain rfl:=d8 h'
  obtain ⟨z0,rfl,i0⟩:=aC h0
  obtain ⟨z1,rfl,i1⟩:=aC h1
  obtain ⟨z2,rfl,i2⟩:=aC h2
  obtain ⟨z3,rfl,i3⟩:=aC h3
  obtain ⟨z4,rfl,i4⟩:=aC h4
  exact ⟨⟨z0,z1,z2,z3,z4⟩::z,fun w hw=>by rcases List.mem_cons.1 hw with rfl | hw; exact ⟨i0,i1,i2,i3,i4⟩; exact g1 w hw,rfl⟩
theorem xt {l:List Int} (h:∀ y∈l,inI y) (i:Nat):inI (l.getD i 0):=by
 rw [List.getD_eq_getElem?_getD]
 cases hi:l[i]? with
 | none=>show inI 0; unfold inI; omega
 | some y=>exact h y (List.mem_of_getElem? hi)
theorem FP {n:Nat} {cs:List AV} (h:Fa (ep (n+2)) DN cs):∃ c:bX,cs=xO c:=by
 obtain ⟨b0,q,rfl,h0,h⟩:=aj h
 obtain ⟨b1,q,rfl,h1,h⟩:=aj h
 obtain ⟨b2,q,rfl,h2,h⟩:=aj h
 obtain ⟨b3,q,rfl,h3,h⟩:=aj h
 obtain ⟨b4,q,rfl,h4,h⟩:=aj h
 obtain ⟨b5,q,rfl,h5,h⟩:=aj h
 obtain ⟨b6,q,rfl,h6,h⟩:=aj h
 obtain ⟨b7,q,rfl,h7,h⟩:=aj h
 obtain ⟨b8,q,rfl,h8,h⟩:=aj h
 obtain ⟨b9,q,rfl,h9,h⟩:=aj h
 obtain ⟨b10,q,rfl,h10,h⟩:=aj h
 obtain ⟨b11,q,rfl,h11,h⟩:=aj h
 obtain ⟨b12,q,rfl,h12,h⟩:=aj h
 obtain ⟨b13,q,rfl,h13,h⟩:=aj h
 obtain rfl:=d8 h
 obtain ⟨z0,rfl,i0⟩:=aC h0
 obtain ⟨z1,rfl,i1⟩:=aC h1
 obtain ⟨z2,rfl,i2⟩:=aC h2
 obtain ⟨z3,rfl,i3⟩:=aC h3
 obtain ⟨z4,rfl,i4⟩:=aC h4
 obtain ⟨z5,rfl,i5⟩:=aC h5
 obtain ⟨z6,rfl,i6⟩:=aC h6
 obtain ⟨z7,rfl,i7⟩:=aC h7
 obtain ⟨z8,rfl,i8⟩:=aC h8
 obtain ⟨z9,rfl,i9⟩:=aC h9
 obtain ⟨z10,rfl,i10⟩:=aC h10
 obtain ⟨z,hz,rfl⟩:=Fn h11
 obtain ⟨v,hv,rfl⟩:=CY h12
 obtain ⟨f,rfl,hf⟩:=aC h13
 exact ⟨⟨fun i=>[z0,z1,z2,z3,z4,z5,z6].getD i 0,fun i=>[z7,z8,z9,z10].getD i 0,z,v,f,xt (by simp [*]),xt (by simp [*]),hz,hv,hf⟩,rfl⟩
theorem CP {n:Nat} {a:AV} (h:ep (n+2) (.sl [.int .i64,.int .i64,.int .i64]) a):∃ z:List aV,a=vg z:=by
 obtain ⟨xs,rfl,h2⟩:=h
 suffices hs:∀ l:List (List AV),(∀ x∈l,Fa (ep (n+1)) [.int .i64,.int .i64,.int .i64] x)→∃ z:List aV,l=z.map ay by
  obtain ⟨z,g2⟩:=hs xs h2
  exact ⟨z,congrArg (AV.sl .no 3) g2⟩
 intro l
 induction l with
 | nil=>exact fun _=>⟨[],rfl⟩
 | cons y r ih=>
  intro h
  obtain ⟨z,rfl⟩:=ih (fun x hx=>h x (List.mem_cons_of_mem _ hx))
  obtain ⟨b0,q,rfl,h0,h'⟩:=aj (h y List.mem_cons_self)
  obtain ⟨b1,q,rfl,h1,h'⟩:=aj h'
  obtain ⟨b2,q,rfl,h2,h'⟩:=aj h'
  obtain rfl:=d8 h'
  obtain ⟨z0,rfl,_⟩:=aC h0
  obtain ⟨z1,rfl,_⟩:=aC h1
  obtain ⟨z2,rfl,_⟩:=aC h2
  exact ⟨⟨z0,z1,z2⟩::z,rfl⟩
theorem C9 {n:Nat} {cs:List AV} (h:Fa (ep (n+2)) An cs):∃ o:Opt,cs=aH o:=by
 obtain ⟨b0,q,rfl,h0,h⟩:=aj h
 obtain ⟨b1,q,rfl,h1,h⟩:=aj h
 obtain ⟨b2,q,rfl,h2,h⟩:=aj h
 obtain ⟨b3,q,rfl,h3,h⟩:=aj h
 obtain ⟨b4,q,rfl,h4,h⟩:=aj h
 obtain ⟨b5,q,rfl,h5,h⟩:=aj h
 obtain ⟨b6,q,rfl,h6,h⟩:=aj h
 obtain ⟨b7,q,rfl,h7,h⟩:=aj h
 obtain ⟨b,q,rfl,hs,h⟩:=aj h
 obtain rfl:=d8 h
 obtain ⟨z0,rfl,_⟩:=aC h0
 obtain ⟨z1,rfl,_⟩:=aC h1
 obtain ⟨z2,rfl,_⟩:=aC h2
 obtain ⟨z3,rfl,_⟩:=aC h3
 obtain ⟨z4,rfl,_⟩:=aC h4
 obtain ⟨z5,rfl,_⟩:=aC h5
 obtain ⟨z6,rfl,_⟩:=aC h6
 obtain ⟨z7,rfl,_⟩:=aC h7
 obtain ⟨sl,rfl⟩:=CP hs
 exact ⟨⟨z0,z1,z2,z3,z4,z5,z6,z7,sl⟩,rfl⟩
theorem Ho {n:Nat} {cs:List AV} (h:Fa (ep (n+2)) GZ cs):∃ s:Nat→Int,cs=aU s:=by
 obtain ⟨b0,q,rfl,h0,h⟩:=aj h
 obtain ⟨b1,q,rfl,h1,h⟩:=aj h
 obtain ⟨b2,q,rfl,h2,h⟩:=aj h
 obtain ⟨b3,q,rfl,h3,h⟩:=aj h
 obtain ⟨b4,q,rfl,h4,h⟩:=aj h
 obtain ⟨b5,q,rfl,h5,h⟩:=aj h
 obtain ⟨b6,q,rfl,h6,h⟩:=aj h
 obtain ⟨b7,q,rfl,h7,h⟩:=aj h
 obtain ⟨b8,q,rfl,h8,h⟩:=aj h
 obtain ⟨b9,q,rfl,h9,h⟩:=aj h
 obtain ⟨b10,q,rfl,h10,h⟩:=aj h
 obtain ⟨b11,q,rfl,h11,h⟩:=aj h
 obtain ⟨b12,q,rfl,h12,h⟩:=aj h
 obtain ⟨b13,q,rfl,h13,h⟩:=aj h
 obtain ⟨b14,q,rfl,h14,h⟩:=aj h
 obtain ⟨b15,q,rfl,h15,h⟩:=aj h
 obtain ⟨b16,q,rfl,h16,h⟩:=aj h
 obtain ⟨b17,q,rfl,h17,h⟩:=aj h
 obtain ⟨b18,q,rfl,h18,h⟩:=aj h
 obtain ⟨b19,q,rfl,h19,h⟩:=aj h
 obtain ⟨b20,q,rfl,h20,h⟩:=aj h
 obtain rfl:=d8 h
 obtain ⟨z0,rfl,_⟩:=aC h0
 obtain ⟨z1,rfl,_⟩:=aC h1
 obtain ⟨z2,rfl,_⟩:=aC h2
 obtain ⟨z3,rfl,_⟩:=aC h3
 obtain ⟨z4,rfl,_⟩:=aC h4
 obtain ⟨z5,rfl,_⟩:=aC h5
 obtain ⟨z6,rfl,_⟩:=aC h6
 obtain ⟨z7,rfl,_⟩:=aC h7
 obtain ⟨z8,rfl,_⟩:=aC h8
 obtain ⟨z9,rfl,_⟩:=aC h9
 obtain ⟨z10,rfl,_⟩:=aC h10
 obtain ⟨z11,rfl,_⟩:=aC h11
 obtain ⟨z12,rfl,_⟩:=aC h12
 obtain ⟨z13,rfl,_⟩:=aC h13
 obtain ⟨z14,rfl,_⟩:=aC h14
 obtain ⟨z15,rfl,_⟩:=aC h15
 obtain ⟨z16,rfl,_⟩:=aC h16
 obtain ⟨z17,rfl,_⟩:=aC h17
 obtain ⟨z18,rfl,_⟩:=aC h18
 obtain ⟨z19,rfl,_⟩:=aC h19
 obtain ⟨z20,rfl,_⟩:=aC h20
 exact ⟨fun i=>[z0,z1,z2,z3,z4,z5,z6,z7,z8,z9,z10,z11,z12,z13,z14,z15,z16,z17,z18,z19,z20].getD i 0,rfl⟩
theorem Hm {n:Nat} {cs:List AV} (h:Fa (ep (n+2)) GB cs):∃ p:am,cs=aL p:=by
 obtain ⟨b0,q,rfl,h0,h⟩:=aj h
 obtain ⟨b1,q,rfl,h1,h⟩:=aj h
 obtain ⟨b2,q,rfl,h2,h⟩:=aj h
 obtain ⟨b3,q,rfl,h3,h⟩:=aj h
 obtain ⟨b4,q,rfl,h4,h⟩:=aj h
 obtain ⟨b5,q,rfl,h5,h⟩:=aj h
 obtain rfl:=d8 h
 obtain ⟨z0,rfl,_⟩:=aC h0
 obtain ⟨z1,rfl,_⟩:=aC h1
 obtain ⟨z2,rfl,_⟩:=aC h2
 obtain ⟨z3,rfl,_⟩:=aC h3
 obtain ⟨z4,rfl,_⟩:=aC h4
 obtain ⟨z5,rfl,_⟩:=aC h5
 exact ⟨⟨z0,z1,z2,z3,z4,z5⟩,rfl⟩
theorem GW {n:Nat} {cs:List AV} (h:Fa (ep (n+2)) Fk cs):∃ p q:Int,cs=aD p q:=by
 obtain ⟨b0,q,rfl,h0,h⟩:=aj h
 obtain ⟨b1,q,rfl,h1,h⟩:=aj h
 obtain rfl:=d8 h
 obtain ⟨z0,rfl,_⟩:=aC h0
 obtain ⟨z1,rfl,_⟩:=aC h1
 exact ⟨z0,z1,rfl⟩
theorem Hn {n:Nat} {a:AV} (h:ep (n+3) (.sl An) a):∃ z:List Opt,a=aK z:=by
 obtain ⟨xs,rfl,h2⟩:=h
 suffices hs:∀ l:List (List AV),(∀ x∈l,Fa (ep (n+2)) An x)→∃ z:List Opt,l=z.map aH by
  obtain ⟨z,g2⟩:=hs xs h2
  exact ⟨z,congrArg (AV.sl .no 9) g2⟩
 intro l
 induction l with
 | nil=>exact fun _=>⟨[],rfl⟩
 | cons y r ih=>
  intro h
  obtain ⟨z,rfl⟩:=ih (fun x hx=>h x (List.mem_cons_of_mem _ hx))
  obtain ⟨o,rfl⟩:=C9 (h y List.mem_cons_self)
  exact ⟨o::z,rfl⟩
end Go.Proofs
namespace Go.Proofs.YtehdegggapeihaaGreat
open Go Go.AI
theorem branchBoundsMatchReference:Rows.BranchBoundsMatchReferenceSaid:=Ed fun avs h=>by
 obtain ⟨v0,q,rfl,g0,h⟩:=un h
 obtain ⟨v1,q,rfl,g1,h⟩:=un h
 obtain ⟨v2,q,rfl,g2,h⟩:=um h
 obtain ⟨v3,q,rfl,g3,h⟩:=um h
 obtain rfl:=A9 h
 obtain ⟨c,rfl⟩:=FP g0
 obtain ⟨o1,rfl⟩:=C9 g1
 exact Go.Proofs.Hh c o1 v2 v3 g2
end Go.Proofs.YtehdegggapeihaaGreat
