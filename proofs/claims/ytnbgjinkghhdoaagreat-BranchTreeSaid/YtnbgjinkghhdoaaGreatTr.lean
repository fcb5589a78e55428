/- BranchTree: the trees of branches say what the law says. -/
import Derived.Test.YtnbgjinkghhdoaaGreatTConF
import Derived.Test.YtnbgjinkghhdoaaGreatRows
set_option linter.unusedSectionVars false
set_option linter.unusedVariables false
set_option linter.unusedSimpArgs false
namespace Go.Proofs
open Go Go.AI
set_option maxRecDepth 10000
theorem Fe (l:List Opt) (i:Nat) (h:i≤l.length):(aK l i).length≤i:=by
 have:=(kO l i h).length_le
 rw [List.length_take] at this; omega
set_option maxHeartbeats 32000000 in
theorem Jd (c:bS) (losses:Int) (hli:inI losses):ae Tryz.prog 3 [.agg (FG c),.int .i64 losses] (.bool true):=by
 obtain ⟨hKH,hkT⟩:=c.keepH
 have hglen:=c.glen
 obtain ⟨_,_,hfit⟩:=qq.of c.gvalid
 have hslen:∀ o∈c.gl,o.sl.length≤1000000:=fun o ho=>by have:=(hfit o ho).len.2; omega
 have hmade:=Bj c
 have h6:=c.gpasses.2.1
 generalize hl:c.gl=l at *
 generalize c.gps=ps at *
 generalize c.ga=a at *
 generalize c.gb=b at *
 generalize c.s=s at *
 refine ah aa Tryz.func3 rfl (by kernel_rfl) af (Nat.le_of_ble_eq_true rfl) ?_
 intro F n' w0 m0 hG hro h1
 repeat' first|refine QS rfl hG aa aT ?_|((conv=>whnf); first|refine anF ?_|refine anT ?_|refine anK ?_|refine Exists.intro _ (And.intro (yJ) ?_)|refine Exists.intro _ (And.intro (hmade) ?_)|refine And.intro (fun h=>?_) (fun h=>?_)|refine Or.inl ?_)
 refine ar (X:=Nat) (fun i=>⟨[(10,.int .i64 i),(9,.sl (.id 9) 9 ((aK l i).map aA)),(7,ay ps),(6,aZ l),(8,.loc 8 0),(5,.loc 5 0),(1,.int .i64 losses)],[(8,bp a b),(5,cJ s)]⟩) (fun i=>i≤l.length) (fun i=>l.length - i) 0 (Nat.zero_le _) (ai ?_ ?_) (fun i hi=>?_)
 ·repeat' (first | exact trivial | refine And.intro rfl ?_)
 ·repeat' (first | exact trivial | refine And.intro rfl ?_)
 ·by_cases hlt:i<l.length
  ·have bb1:decide ((i:Int)<((l.map aA).length:Int))=false→False:=fun h=>by have:=of_decide_eq_false h; simp at this; omega
   have hxi:=fX hlt
   have hom:=hslen _ (cT hlt)
   have hkl:=Fe l i hi
   have hkm:∀ o∈aK l i,o.sl.length≤1000000:=fun o ho=>hslen o (List.mem_of_mem_take ((kO l i hi).subset ho))
   have hsn:aK l (i+1)=aK l i++if jL (aK l i) (ap l i) then [ap l i] else []:=rfl
   generalize ap l i=o at *
   generalize aK l i=K at *
   repeat' first|exact (bb1 (by assumption)).elim|refine QS rfl hG aa aT ?_|((conv=>whnf); first|refine anF ?_|refine anT ?_|refine anK ?_|refine And.intro (fun h=>?_) (fun h=>?_)|refine Or.inl ?_)
   refine ar (X:=Nat) (fun j=>⟨[(12,.int .i64 j),(11,.bool (jL (K.take j) o)),(10,.int .i64 i),(9,.sl (.id 9) 9 (K.map aA)),(7,ay ps),(6,aZ l),(8,.loc 8 0),(5,.loc 5 0),(1,.int .i64 losses)],[(8,bp a b),(5,cJ s)]⟩) (fun j=>j≤K.length) (fun j=>K.length - j) 0 (Nat.zero_le _) (ai ?_ ?_) (fun j hj=>?_)
   ·repeat' (first | exact trivial | refine And.intro rfl ?_)
   ·repeat' (first | exact trivial | refine And.intro rfl ?_)
   ·by_cases hjl:j<K.length
    ·have bb2:decide ((j:Int)<((K.map aA).length:Int))=false→False:=fun h=>by have:=of_decide_eq_false h; simp at this; omega
     have hyj:=fX hjl
     have cm:=A2 (ap K j) o (hkm _ (cT hjl)) hom
     have hst:jL (K.take (j+1)) o=(jL (K.take j) o&&decide (rr (ap K j) o<0)):=by
      unfold jL
      rw [List.take_add_one,List.getElem?_eq_getElem hjl,List.all_append,bN hjl]
      simp
     generalize ap K j=y at *
     generalize rr y o=me at *
     cases hkj:jL (K.take j) o with
     | false=>
      rw [hkj,Bool.false_and] at hst
      repeat' first|exact (bb2 (by assumption)).elim|refine QS rfl hG aa aT ?_|((conv=>whnf); first|refine anF ?_|refine anT ?_|refine anK ?_|refine And.intro (fun h=>?_) (fun h=>?_)|refine Or.inl ?_)
      refine Exists.intro (j+1) (And.intro hjl (And.intro (by omega) (ai (And.intro (congrArg some (aq (by omega))) (And.intro (congrArg (fun z=>some (AV.bool z)) hst.symm) ?_)) ?_)))
      all_goals repeat' (first | exact trivial | refine And.intro rfl ?_)
     | true=>
      rw [hkj,Bool.true_and] at hst
      repeat' first|exact (bb2 (by assumption)).elim|refine QS rfl hG aa aT ?_|((conv=>whnf); first|refine anF ?_|refine anT ?_|refine anK ?_|refine Exists.intro _ (And.intro (cm) ?_)|refine And.intro (Int.natCast_nonneg j) (Exists.intro _ (And.intro hyj ?_))|refine And.intro (Int.natCast_nonneg i) (Exists.intro _ (And.intro hxi ?_))|refine And.intro (fun h=>?_) (fun h=>?_)|refine Or.inl ?_)
      refine Exists.intro (j+1) (And.intro hjl (And.intro (by omega) (ai (And.intro (congrArg some (aq (by omega))) (And.intro (congrArg (fun z=>some (AV.bool z)) hst.symm) ?_)) ?_)))
      all_goals repeat' (first | exact trivial | refine And.intro rfl ?_)
    ·have bb2:decide ((j:Int)<((K.map aA).length:Int))=true→False:=fun h=>by have:=of_decide_eq_true h; simp at this; omega
     have hje:K.take j=K:=List.take_of_length_le (by omega)
     rw [hje]
     have hr1:((K.map aA).length+1)*88≤70368744177664:=by simp; omega
     have hr2:(K.map aA).length+1≤4611686018427387904:=by simp; omega
     have hrow:K.map aA++[aA o]=(K++[o]).map aA:=by simp
     cases hk:jL K o with
     | false=>
      rw [hk] at hsn
      simp only [Bool.false_eq_true,if_false,List.append_nil] at hsn
      repeat' first|exact (bb2 (by assumption)).elim|refine QS rfl hG aa aT ?_|((conv=>whnf); first|refine anF ?_|refine anT ?_|refine anK ?_|refine And.intro (fun h=>?_) (fun h=>?_)|refine Or.inl ?_)
      refine Exists.intro (i+1) (And.intro hlt (And.intro (by omega) (ai (And.intro (congrArg some (aq (by omega))) (And.intro (congrArg (fun (z:List Opt)=>some (AV.sl (.id 9) 9 (z.map aA))) hsn.symm) ?_)) ?_)))
      all_goals repeat' (first | exact trivial | refine And.intro rfl ?_)
     | true=>
      rw [hk] at hsn
      simp only [if_true] at hsn
      repeat' first|exact (bb2 (by assumption)).elim|refine QS rfl hG aa aT ?_|((conv=>whnf); first|refine anF ?_|refine anT ?_|refine anK ?_|refine And.intro (Int.natCast_nonneg i) (Exists.intro _ (And.intro hxi ?_))|refine And.intro hr1 (And.intro hr2 ?_)|refine And.intro (fun h=>?_) (fun h=>?_)|refine Or.inl ?_)
      refine Exists.intro (i+1) (And.intro hlt (And.intro (by omega) (ai (And.intro (congrArg some (aq (by omega))) (And.intro (congrArg (fun z=>some (AV.sl (.id 9) 9 z)) (hrow.trans (congrArg (List.map aA) hsn.symm))) ?_)) ?_)))
      all_goals repeat' (first | exact trivial | refine And.intro rfl ?_)
  ·have hie:i=l.length:=by omega
   have bb1:decide ((i:Int)<((l.map aA).length:Int))=true→False:=fun h=>by have:=of_decide_eq_true h; simp at this; omega
   subst hie
   have hF:=hKH.facts
   have hm5:=hKH.len
   have hthree:=hKH.three
   have hmT:=hF.tree hm5
   have hms:ku (aK l l.length):=fun o ho=>by have:=hKH.three o ho; omega
   have cfk:=fD (aK l l.length) (by omega) hms
   have hfa:=o8 (aK l l.length)
   have hf6:(az (aK l l.length)).length≤6:=Nat.le_trans (o7 hkT) h6
   have hfr:∀ x∈az (aK l l.length),0≤x∧x<64:=fun x hx=>by have:=x8 hkT x hx; omega
   have hpk:=aJ hli (n:=64) (by omega)
   have cpk:=sO losses 64 (by decide)
   obtain ⟨bb,hbb⟩:=Int.eq_ofNat_of_zero_le hpk.1
   rw [hbb] at cpk hpk
   have hbb64:bb<64:=by omega
   have hlo:=Cy hfa hf6 hfr bb
   have hfo:=Cz hfa bb
   have cwy:=lN s (aK l l.length) ps a b (dh (az (aK l l.length)) bb) (by omega) hms (by omega) (by have:=hlo.len; omega)
   have hvB:(dQ s (aK l l.length) ps 0 a b&&iw (az (aK l l.length)) (dh (az (aK l l.length)) bb))=true:=by
    rw [hfo,Bool.and_true]
    simp only [dQ,Bool.and_eq_true,decide_eq_true_eq]
    exact ⟨⟨rfl,hkT⟩,Int.ofNat_le.2 hf6⟩
   rw [wQ,if_pos hvB] at cwy
   have cbd:=Bg (aK l l.length) hF.ok (by have:=hF.few; omega) hmT.tr.len
   have cL:=DD (bQ (aw (aK l l.length))).1 (bQ (aw (aK l l.length))).1 (bQ (aw (aK l l.length))).2.2 (G (aw (aK l l.length)) 0) (by have:=hmT.tr.len; omega) hmT.rp hmT.sz
   rw [hmT.lf.1,hmT.lf.2] at cL
   have hwp:=ls (cfL (aK l l.length) (dh (az (aK l l.length)) bb)) (aw (aK l l.length)) 0 (bQ (aw (aK l l.length))).1 hmT.rp
   have hpl:=oP (cfL (aK l l.length) (dh (az (aK l l.length)) bb)) (aw (aK l l.length)) 0
   have cfw:=wD (aK l l.length) _ _ _ (dh (az (aK l l.length)) bb) hF.ok hmT.tr cL hmT.rp hlo (by have:=congrArg List.length hwp; rw [List.length_map] at this; have:=hF.few; omega)
   rw [hwp] at cfw
   have hak:=fun i hi=>hF.acks (dh (az (aK l l.length)) bb) (i:=i) hi
   have htot:=hF.total (dh (az (aK l l.length)) bb)
   have hbit:=fun i (hi:i<6)=>Ip hbb64 hi
   have hsub:∀ i,i<(az (aK l l.length)).length→dK (az (aK l l.length)) bb (i+1)=dK (az (aK l l.length)) bb i++(if sd bb i then [(az (aK l l.length)).getD i 0] else []):=fun i hi=>mB hi
   have hsl:=fun i=>iY (az (aK l l.length)) bb i
   have hsB:dh (az (aK l l.length)) bb=dK (az (aK l l.length)) bb (az (aK l l.length)).length:=rfl
   have hAl:=Nat.le_trans hpl hF.few
   clear hmT hwp hpl cL hfa hfr hlo hfo hvB hKH hkT hslen hmade
   generalize (bQ (aw (aK l l.length))).1=st at *
   generalize (bQ (aw (aK l l.length))).2.2=B at *
   generalize aK l l.length=m at *
   generalize hpath:fi (cfL m (dh (az m) bb)) (aw m) 0=A at *
   repeat' first|exact (bb1 (by assumption)).elim|refine QS rfl hG aa aT ?_|((conv=>whnf); first|refine anF ?_|refine anT ?_|refine anK ?_|refine Exists.intro _ (And.intro (cfk) ?_)|refine And.intro (fun h=>?_) (fun h=>?_)|refine Or.inl ?_)
   generalize az m=f at *
   refine ar (X:=Nat) (fun i=>⟨[(15,.int .i64 i),(14,.sl (.id 14) 1 ((dK f bb i).map fun h=>[AV.int .i64 h])),(13,aG f),(1,.int .i64 losses),(9,.sl (.id 9) 9 (m.map aA)),(7,ay ps),(8,.loc 8 0),(5,.loc 5 0)],[(8,bp a b),(5,cJ s)]⟩) (fun i=>i≤f.length) (fun i=>f.length - i) 0 (Nat.zero_le _) (ai ?_ ?_) (fun i hi=>?_)
   ·repeat' (first | exact trivial | refine And.intro rfl ?_)
   ·repeat' (first | exact trivial | refine And.intro rfl ?_)
   ·by_cases hlt:i<f.length
    ·have bb1:decide ((i:Int)<((f.map fun h=>[AV.int .i64 h]).length:Int))=false→False:=fun h=>by have:=of_decide_eq_false h; simp at this; omega
     have bb2:decide ((i:Int)<6)=false→False:=fun h=>by have:=of_decide_eq_false h; omega
     have hxi:=u4 hlt
     have hsn:=hsub i hlt
     have hsi:=hsl i
     have hbi:=hbit i (by omega)
     have i0:(0:Int)≤(i:Int):=Int.natCast_nonneg _
     have h20:(2:Int)≠0:=by decide
     have hr1:(((dK f bb i).map fun h=>[AV.int .i64 h]).length+1)*8≤70368744177664:=by simp; omega
     have hr2:((dK f bb i).map fun h=>[AV.int .i64 h]).length+1≤4611686018427387904:=by simp; omega
     cases hv:sd bb i with
     | false=>
      rw [hv] at hsn hbi
      simp only [Bool.false_eq_true,if_false,List.append_nil] at hsn
      have bb3:((((bb:Int).fdiv (2 ^ (min (i:Int).toNat IntKind.i64.bits))).tmod 2)==1)=true→False:=fun h=>by rw [hbi] at h; cases h
      repeat' first|exact (bb1 (by assumption)).elim|exact (bb2 (by assumption)).elim|exact (bb3 (by assumption)).elim|refine QS rfl hG aa aT ?_|((conv=>whnf); first|refine anF ?_|refine anT ?_|refine anK ?_|refine Exists.intro _ (And.intro (cpk) ?_)|refine And.intro h20 ?_|refine And.intro i0 ?_|refine And.intro (fun h=>?_) (fun h=>?_)|refine Or.inl ?_)
      refine Exists.intro (i+1) (And.intro hlt (And.intro (by omega) (ai (And.intro (congrArg some (aq (by omega))) (And.intro (congrArg (fun (z:List Int)=>some (AV.sl (.id 14) 1 (z.map fun h=>[AV.int .i64 h]))) hsn.symm) ?_)) ?_)))
      all_goals repeat' (first | exact trivial | refine And.intro rfl ?_)
     | true=>
      rw [hv] at hsn hbi
      simp only [if_true] at hsn
      have bb3:((((bb:Int).fdiv (2 ^ (min (i:Int).toNat IntKind.i64.bits))).tmod 2)==1)=false→False:=fun h=>by rw [hbi] at h; cases h
      have hrow:((dK f bb i).map fun h=>[AV.int .i64 h])++[[AV.int .i64 (f.getD i 0)]]=(dK f bb (i+1)).map fun h=>[AV.int .i64 h]:=by rw [hsn]; simp
      repeat' first|exact (bb1 (by assumption)).elim|exact (bb2 (by assumption)).elim|exact (bb3 (by assumption)).elim|refine QS rfl hG aa aT ?_|((conv=>whnf); first|refine anF ?_|refine anT ?_|refine anK ?_|refine Exists.intro _ (And.intro (cpk) ?_)|refine And.intro i0 (Exists.intro _ (And.intro hxi ?_))|refine And.intro h20 ?_|refine And.intro i0 ?_|refine And.intro hr1 (And.intro hr2 ?_)|refine And.intro (fun h=>?_) (fun h=>?_)|refine Or.inl ?_)
      refine Exists.intro (i+1) (And.intro hlt (And.intro (by omega) (ai (And.intro (congrArg some (aq (by omega))) (And.intro (congrArg (fun z=>some (AV.sl (.id 14) 1 z)) hrow) ?_)) ?_)))
      all_goals repeat' (first | exact trivial | refine And.intro rfl ?_)
    ·have hie:i=f.length:=by omega
     have bb1:decide ((i:Int)<((f.map fun h=>[AV.int .i64 h]).length:Int))=true→False:=fun h=>by have:=of_decide_eq_true h; simp at this; omega
     subst hie
     rw [← hsB]
     generalize dh f bb=lost at *
     have bb4:((((il m lost).map fun h=>[AV.int .i64 h]).length:Int)!=((m.map aA).length:Int))=true→False:=fun h=>by simp [il] at h
     repeat' first|exact (bb1 (by assumption)).elim|exact (bb4 (by assumption)).elim|refine QS rfl hG aa aT ?_|((conv=>whnf); first|refine anF ?_|refine anT ?_|refine anK ?_|refine Exists.intro _ (And.intro (cwy) ?_)|refine Exists.intro _ (And.intro (cbd) ?_)|refine Exists.intro _ (And.intro (cfw) ?_)|refine And.intro (fun h=>?_) (fun h=>?_)|refine Or.inl ?_)
     have hn0:∀ i,i<m.length→0≤nOf m lost i∧nOf m lost i≤3∧-1≤dL (ap m i) lost∧dL (ap m i) lost≤3:=fun i hi=>by
      have h3:=hthree _ (cT hi)
      rcases xS (ap m i) lost with ⟨e,_⟩ | ⟨j,hj,e,_⟩
      ·unfold nOf; rw [e,if_pos (by omega)]; omega
      ·unfold nOf; rw [e,if_neg (by omega)]; omega
     have hsum:∀ x,x≤m.length→0≤(((List.range x).map fun i=>nOf m lost i).sum)∧(((List.range x).map fun i=>nOf m lost i).sum)≤3*x:=fun x=>by
      induction x with
      | zero=>intro _; simp
      | succ x ih=>
       intro hx
       have h1:=ih (by omega)
       have h2:=hn0 x (by omega)
       rw [List.range_succ,List.map_append,List.sum_append]
       simp only [List.map_cons,List.map_nil,List.sum_cons,List.sum_nil]
       omega
     refine ar (X:=Nat) (fun x=>⟨[(23,.int .i64 x),(22,.int .i64 (((List.range x).map fun i=>nOf m lost i).sum)),(9,.sl (.id 9) 9 (m.map aA)),(16,.loc 16 0),(20,Cp A)],[(16,kg m lost)]⟩) (fun x=>x≤m.length) (fun x=>m.length - x) 0 (Nat.zero_le _) (ai ?_ ?_) (fun x hx=>?_)
     ·repeat' (first | exact trivial | refine And.intro rfl ?_)
     ·repeat' (first | exact trivial | refine And.intro rfl ?_)
     ·by_cases hlx:x<m.length
      ·have bb1:decide ((x:Int)<((m.map aA).length:Int))=false→False:=fun h=>by have:=of_decide_eq_false h; simp at this; omega
       have hxi:=fX hlx
       have hwi:((il m lost).map fun h=>[AV.int .i64 h])[(x:Int).toNat]?=some [.int .i64 (dL (ap m x) lost)]:=by
        simp [il,List.getElem?_eq_getElem hlx,bN hlx]
       obtain ⟨n0,n3,t0,t3⟩:=hn0 x hlx
       obtain ⟨s0,s3⟩:=hsum x hx
       have hak2:=(hak x hlx).2
       have hne:nOf m lost x=if dL (ap m x) lost<0 then ((ap m x).sl.length:Int) else dL (ap m x) lost+1:=rfl
       have hss:(((List.range (x+1)).map fun i=>nOf m lost i).sum)=(((List.range x).map fun i=>nOf m lost i).sum)+nOf m lost x:=by
        rw [List.range_succ,List.map_append,List.sum_append]; simp
       have hws:IntKind.i64.wrap ((((List.range x).map fun i=>nOf m lost i).sum)+nOf m lost x)=(((List.range (x+1)).map fun i=>nOf m lost i).sum):=by rw [hss]; exact am (by omega) (by omega)
       have hwt:IntKind.i64.wrap (dL (ap m x) lost+1)=dL (ap m x) lost+1:=am (by omega) (by omega)
       have hlm:(((ap m x).sl.map ax).length:Int)=((ap m x).sl.length:Int):=by rw [List.length_map]
       generalize hS1:(((List.range (x+1)).map fun i=>nOf m lost i).sum)=S1 at *
       generalize (((List.range x).map fun i=>nOf m lost i).sum)=S0 at *
       generalize nOf m lost x=nx at *
       generalize ap m x=op at *
       generalize dL op lost=sx at *
       by_cases hneg:sx<0
       ·skip
        have hnv:nx=((op.sl.map ax).length:Int):=by rw [hne,if_pos hneg,hlm]
        have hwv:=hws
        rw [hnv] at hwv
        have bb2:decide (sx<0)=false→False:=fun h=>by have:=of_decide_eq_false h; omega
        repeat' first|exact (bb1 (by assumption)).elim|exact (bb2 (by assumption)).elim|refine QS rfl hG aa aT ?_|((conv=>whnf); first|refine anF ?_|refine anT ?_|refine anK ?_|refine And.intro (Int.natCast_nonneg x) (Exists.intro _ (And.intro hxi ?_))|refine And.intro (Int.natCast_nonneg x) (Exists.intro _ (And.intro hwi ?_))|refine And.intro (fun h=>?_) (fun h=>?_)|refine Or.inl ?_)
        refine ar (X:=Nat) (fun j=>⟨[(26,.int .i64 j),(24,.int .i64 sx),(25,.int .i64 nx),(23,.int .i64 x),(22,.int .i64 S1),(9,.sl (.id 9) 9 (m.map aA)),(16,.loc 16 0),(20,Cp A)],[(16,kg m lost)]⟩) (fun j=>j≤A.length) (fun j=>A.length - j) 0 (Nat.zero_le _) (ai ?_ ?_) (fun j hj=>?_)
        ·refine And.intro rfl (And.intro rfl (And.intro (congrArg (fun z=>some (AV.int .i64 z)) hnv.symm) (And.intro rfl (And.intro (congrArg (fun z=>some (AV.int .i64 z)) hwv) ?_))))
         repeat' (first | exact trivial | refine And.intro rfl ?_)
        ·repeat' (first | exact trivial | refine And.intro rfl ?_)
        ·by_cases hjl:j<A.length
         ·have bb3:decide ((j:Int)<((A.map ki).length:Int))=false→False:=fun h=>by have:=of_decide_eq_false h; simp at this; omega
          have hyj:(A.map ki)[(j:Int).toNat]?=some (ki A[j]):=by simp [List.getElem?_eq_getElem hjl]
          have hq:=hak2 A[j] (List.getElem_mem hjl)
          generalize A[j]=y at *
          obtain ⟨yo,ys,yb⟩:=y
          simp only at hq
          have j0:(0:Int)≤(j:Int):=Int.natCast_nonneg _
          have hyA:ki (yo,ys,yb)=[.int .i64 yo,.int .i64 ys,.bool yb]:=rfl
          rw [hyA] at hyj
          by_cases hyx:yo=(x:Int)
          ·obtain ⟨q1,q2,q3⟩:=hq hyx
           have bb4:(yo==(x:Int))=false→False:=fun h=>by rw [hyx] at h; simp at h
           have bb5:decide (ys<0)=true→False:=fun h=>by have:=of_decide_eq_true h; omega
           have bb6:decide (ys≥nx)=true→False:=fun h=>by have:=of_decide_eq_true h; omega
           have bb7:(yb != (ys==sx))=true→False:=fun h=>by rw [q3] at h; simp at h
           repeat' first|exact (bb3 (by assumption)).elim|exact (bb4 (by assumption)).elim|exact (bb5 (by assumption)).elim|exact (bb6 (by assumption)).elim|exact (bb7 (by assumption)).elim|refine QS rfl hG aa aT ?_|((conv=>whnf); first|refine anF ?_|refine anT ?_|refine anK ?_|refine And.intro j0 (Exists.intro _ (And.intro hyj ?_))|refine And.intro (fun h=>?_) (fun h=>?_)|refine Or.inl ?_)
           refine Exists.intro (j+1) (And.intro hjl (And.intro (by omega) (ai (And.intro (congrArg some (aq (by omega))) ?_) ?_)))
           all_goals repeat' (first | exact trivial | refine And.intro rfl ?_)
          ·have bb4:(yo==(x:Int))=true→False:=fun h=>hyx (eq_of_beq h)
           repeat' first|exact (bb3 (by assumption)).elim|exact (bb4 (by assumption)).elim|refine QS rfl hG aa aT ?_|((conv=>whnf); first|refine anF ?_|refine anT ?_|refine anK ?_|refine And.intro j0 (Exists.intro _ (And.intro hyj ?_))|refine And.intro (fun h=>?_) (fun h=>?_)|refine Or.inl ?_)
           refine Exists.intro (j+1) (And.intro hjl (And.intro (by omega) (ai (And.intro (congrArg some (aq (by omega))) ?_) ?_)))
           all_goals repeat' (first | exact trivial | refine And.intro rfl ?_)
         ·have bb3:decide ((j:Int)<((A.map ki).length:Int))=true→False:=fun h=>by have:=of_decide_eq_true h; simp at this; omega
          repeat' first|exact (bb3 (by assumption)).elim|refine QS rfl hG aa aT ?_|((conv=>whnf); first|refine anF ?_|refine anT ?_|refine anK ?_|refine And.intro (fun h=>?_) (fun h=>?_)|refine Or.inl ?_)
          refine Exists.intro (x+1) (And.intro hlx (And.intro (by omega) (ai (And.intro (congrArg some (aq (by omega))) (And.intro ?_ ?_)) ?_)))
          ·exact congrArg (fun z=>some (AV.int .i64 z)) hS1.symm
          all_goals repeat' (first | exact trivial | refine And.intro rfl ?_)
       ·skip
        have hnv:nx=IntKind.i64.wrap (sx+1):=by rw [hne,if_neg hneg,hwt]
        have hwv:=hws
        rw [hnv] at hwv
        have bb2:decide (sx<0)=true→False:=fun h=>by have:=of_decide_eq_true h; omega
        repeat' first|exact (bb1 (by assumption)).elim|exact (bb2 (by assumption)).elim|refine QS rfl hG aa aT ?_|((conv=>whnf); first|refine anF ?_|refine anT ?_|refine anK ?_|refine And.intro (Int.natCast_nonneg x) (Exists.intro _ (And.intro hxi ?_))|refine And.intro (Int.natCast_nonneg x) (Exists.intro _ (And.intro hwi ?_))|refine And.intro (fun h=>?_) (fun h=>?_)|refine Or.inl ?_)
        refine ar (X:=Nat) (fun j=>⟨[(26,.int .i64 j),(24,.int .i64 sx),(25,.int .i64 nx),(23,.int .i64 x),(22,.int .i64 S1),(9,.sl (.id 9) 9 (m.map aA)),(16,.loc 16 0),(20,Cp A)],[(16,kg m lost)]⟩) (fun j=>j≤A.length) (fun j=>A.length - j) 0 (Nat.zero_le _) (ai ?_ ?_) (fun j hj=>?_)
        ·refine And.intro rfl (And.intro rfl (And.intro (congrArg (fun z=>some (AV.int .i64 z)) hnv.symm) (And.intro rfl (And.intro (congrArg (fun z=>some (AV.int .i64 z)) hwv) ?_))))
         repeat' (first | exact trivial | refine And.intro rfl ?_)
        ·repeat' (first | exact trivial | refine And.intro rfl ?_)
        ·by_cases hjl:j<A.length
         ·have bb3:decide ((j:Int)<((A.map ki).length:Int))=false→False:=fun h=>by have:=of_decide_eq_false h; simp at this; omega
          have hyj:(A.map ki)[(j:Int).toNat]?=some (ki A[j]):=by simp [List.getElem?_eq_getElem hjl]
          have hq:=hak2 A[j] (List.getElem_mem hjl)
          generalize A[j]=y at *
          obtain ⟨yo,ys,yb⟩:=y
          simp only at hq
          have j0:(0:Int)≤(j:Int):=Int.natCast_nonneg _
          have hyA:ki (yo,ys,yb)=[.int .i64 yo,.int .i64 ys,.bool yb]:=rfl
          rw [hyA] at hyj
          by_cases hyx:yo=(x:Int)
          ·obtain ⟨q1,q2,q3⟩:=hq hyx
           have bb4:(yo==(x:Int))=false→False:=fun h=>by rw [hyx] at h; simp at h
           have bb5:decide (ys<0)=true→False:=fun h=>by have:=of_decide_eq_true h; omega
           have bb6:decide (ys≥nx)=true→False:=fun h=>by have:=of_decide_eq_true h; omega
           have bb7:(yb != (ys==sx))=true→False:=fun h=>by rw [q3] at h; simp at h
           repeat' first|exact (bb3 (by assumption)).elim|exact (bb4 (by assumption)).elim|exact (bb5 (by assumption)).elim|exact (bb6 (by assumption)).elim|exact (bb7 (by assumption)).elim|refine QS rfl hG aa aT ?_|((conv=>whnf); first|refine anF ?_|refine anT ?_|refine anK ?_|refine And.intro j0 (Exists.intro _ (And.intro hyj ?_))|refine And.intro (fun h=>?_) (fun h=>?_)|refine Or.inl ?_)
           refine Exists.intro (j+1) (And.intro hjl (And.intro (by omega) (ai (And.intro (congrArg some (aq (by omega))) ?_) ?_)))
           all_goals repeat' (first | exact trivial | refine And.intro rfl ?_)
          ·have bb4:(yo==(x:Int))=true→False:=fun h=>hyx (eq_of_beq h)
           repeat' first|exact (bb3 (by assumption)).elim|exact (bb4 (by assumption)).elim|refine QS rfl hG aa aT ?_|((conv=>whnf); first|refine anF ?_|refine anT ?_|refine anK ?_|refine And.intro j0 (Exists.intro _ (And.intro hyj ?_))|refine And.intro (fun h=>?_) (fun h=>?_)|refine Or.inl ?_)
           refine Exists.intro (j+1) (And.intro hjl (And.intro (by omega) (ai (And.intro (congrArg some (aq (by omega))) ?_) ?_)))
           all_goals repeat' (first | exact trivial | refine And.intro rfl ?_)
         ·have bb3:decide ((j:Int)<((A.map ki).length:Int))=true→False:=fun h=>by have:=of_decide_eq_true h; simp at this; omega
          repeat' first|exact (bb3 (by assumption)).elim|refine QS rfl hG aa aT ?_|((conv=>whnf); first|refine anF ?_|refine anT ?_|refine anK ?_|refine And.intro (fun h=>?_) (fun h=>?_)|refine Or.inl ?_)
          refine Exists.intro (x+1) (And.intro hlx (And.intro (by omega) (ai (And.intro (congrArg some (aq (by omega))) (And.intro ?_ ?_)) ?_)))
          ·exact congrArg (fun z=>some (AV.int .i64 z)) hS1.symm
          all_goals repeat' (first | exact trivial | refine And.intro rfl ?_)
      ·have hxe:x=m.length:=by omega
       have bb1:decide ((x:Int)<((m.map aA).length:Int))=true→False:=fun h=>by have:=of_decide_eq_true h; simp at this; omega
       subst hxe
       rw [htot]
       repeat' first|exact (bb1 (by assumption)).elim|refine QS rfl hG aa aT ?_|((conv=>whnf); first|refine anF ?_|refine anT ?_|refine anK ?_|refine And.intro (fun h=>?_) (fun h=>?_)|refine Or.inl ?_)
       all_goals exact Ends.mk (Or.inl rfl) (ac (congrArg AV.bool (by simp)))
end Go.Proofs
namespace Go.Proofs
open Go Go.AI Go.Proofs.YtnbgjinkghhdoaaGreat
set_option maxRecDepth 100000
theorem F2:ownKnob Tryz.prog.godebug=none:=by kernel_rfl
theorem vv:laidOutB Tryz.prog=true:=by kernel_rfl
theorem yM:(Tryz.prog.readableRec 3&&Nat.blt 3 Tryz.prog.types.size)=true:=by kernel_rfl
theorem vp:(Tryz.prog.readableRec 27&&Nat.blt 27 Tryz.prog.types.size)=true:=by kernel_rfl
def FF:List Sh:=[.int .i64,.int .i64,.int .i64,.int .i64,.int .i64,.int .i64,.int .i64,.int .i64,.int .i64,.int .i64,.int .i64,.sl [.int .i64,.int .i64,.int .i64],.sl [.int .i64,.int .i64,.int .i64,.int .i64,.int .i64],.int .i64]
def Fd:List (Bool×List Sh):=[(true,FF),(false,[.int .i64])]
theorem FW:jG Tryz.prog 8 [27,3]=some Fd:=by kernel_rfl
theorem yP (law:∀ avs,jr 8 Fd avs→ae Tryz.prog 3 avs (.bool true)) (os:Os) (started:os.Started) (H:Type) (enc:TypeId×Value→H) :
  ReturnsInHanded {} Tryz.checked os 3 .any (Rows.branchTreeSpec.pre6 enc Tryz.prog Tryz.f3 Rows.branchTreeRow.domain false) (Rows.branchTreeSpec.post enc Tryz.prog Tryz.f3 false true false false):=
 AD (C:=Tryz.checked) (tb:=4) F2 started (by kernel_rfl) Tryz.func3
  (ChangeSpec.witness6 (enc:=enc) (C:=Tryz.checked) false ⟨#[],#[.agg #[.int .i64 0,.int .i64 0,.int .i64 0,.int .i64 0,.int .i64 0,.int .i64 0,.int .i64 0,.int .i64 0,.int .i64 0,.int .i64 0,.int .i64 0,.slice none 0 0,.slice none 0 0,.int .i64 0],.int .i64 0],[]⟩ 8 (by kernel_rfl) (by kernel_rfl) (by kernel_rfl) (by kernel_rfl))
  rfl (by kernel_rfl) (by kernel_rfl) (fun ds h=>by
   match ds,h with
   | [d0,d1],_=>rfl) FW vv (fun t ht=>by
   have e:Tryz.f3.params.toList=[27,3]:=by kernel_rfl
   rw [e] at ht
   simp only [List.mem_cons,List.not_mem_nil,or_false] at ht
   have h3:=yM
   have h27:=vp
   simp only [Bool.and_eq_true] at h3 h27
   rcases ht with h | h <;> subst h <;> first | exact ⟨h3.1,Nat.le_of_ble_eq_true h3.2⟩ | exact ⟨h27.1,Nat.le_of_ble_eq_true h27.2⟩) law
theorem Gd:(Rows.branchTreeRow.wf (OpenSpec.ofChange Rows.branchTreeSpec):Bool)=true:=by kernel_rfl
theorem Gc:(laidOutB Tryz.pinned.checked.prog:Bool)=true:=by kernel_rfl
theorem Gb:(mapsRowed Tryz.pinned.checked.prog:Bool)=true:=by kernel_rfl
theorem Ga:(Tryz.f3.params.all (Tryz.pinned.checked.prog.readableRec ·):Bool)=true:=by kernel_rfl
theorem F9:(namedTie Tryz.pinned.checked.prog Rows.branchTreeRow.named Rows.branchTreeSpec.vars:Bool)=true:=by kernel_rfl
theorem F8:((Rows.branchTreeRow.stops==[]):Bool)=true:=by kernel_rfl
theorem F7:((Tryz.pinned.checked.prog.stops==[]):Bool)=true:=by kernel_rfl
theorem F6:((Rows.branchTreeRow.knobs==[]):Bool)=true:=by kernel_rfl
theorem F5:((Tryz.pinned.checked.prog.stopKnobs==[]):Bool)=true:=by kernel_rfl
theorem F4:((Rows.branchTreeRow.inPlace==Tryz.pinned.checked.prog.inPlace 3):Bool)=true:=by kernel_rfl
theorem DZ:((Rows.branchTreeRow.unfollowed==Tryz.pinned.checked.prog.unfollowed 3):Bool)=true:=by kernel_rfl
theorem DY:((Rows.branchTreeRow.recurses==Tryz.pinned.checked.prog.recurses 3):Bool)=true:=by kernel_rfl
theorem DX:((Rows.branchTreeRow.named==Tryz.pinned.checked.prog.varsNamed 3):Bool)=true:=by kernel_rfl
theorem DW:((Rows.branchTreeRow.maps==(Tryz.f3.params.toList++Rows.branchTreeSpec.plain.varTypes Tryz.pinned.checked.prog).any (Tryz.pinned.checked.prog.mapsRec ·)):Bool)=true:=by kernel_rfl
theorem DV:((Rows.branchTreeRow.ifaces==(Tryz.f3.params.toList++Rows.branchTreeSpec.plain.varTypes Tryz.pinned.checked.prog).any (Tryz.pinned.checked.prog.ifacesRec ·)):Bool)=true:=by kernel_rfl
theorem DU:((Rows.branchTreeRow.mapsOut==Tryz.pinned.checked.prog.mapsAmong Tryz.f3.resultTypes.toList):Bool)=true:=by kernel_rfl
theorem DT:((Rows.branchTreeRow.loops==(Tryz.f3.params.toList++Rows.branchTreeSpec.plain.varTypes Tryz.pinned.checked.prog).any (Tryz.pinned.checked.prog.loopsFrom ·)):Bool)=true:=by kernel_rfl
theorem DS:((Rows.branchTreeRow.wideKeys==(Tryz.f3.params.toList++Rows.branchTreeSpec.plain.varTypes Tryz.pinned.checked.prog++Tryz.f3.resultTypes.toList).any (Tryz.pinned.checked.prog.wideKeysFrom ·)):Bool)=true:=by kernel_rfl
theorem DR:(Rows.branchTreeSpec.vars.all (Tryz.pinned.checked.prog.varReadable ·):Bool)=true:=by kernel_rfl
theorem DQ:(Tryz.f3.resultTypes.all (fun t=>Tryz.pinned.checked.prog.readableRec t&&decide (t<Tryz.pinned.checked.prog.types.size)):Bool)=true:=by kernel_rfl
theorem DP:((Rows.branchTreeRow.ifacesOut==Tryz.f3.resultTypes.toList.any (Tryz.pinned.checked.prog.ifacesRec ·)):Bool)=true:=by kernel_rfl
theorem DO:((Rows.branchTreeRow.loopsOut==Tryz.f3.resultTypes.toList.any (Tryz.pinned.checked.prog.loopsFrom ·)):Bool)=true:=by kernel_rfl
theorem DN:((Rows.branchTreeRow.plainKeys==Tryz.pinned.checked.prog.plainKeys):Bool)=true:=by kernel_rfl
theorem DM:(Rows.branchTreeRow.shortTexts.isNone:Bool)=true:=by kernel_rfl
theorem DL:(Tryz.pinned.checked.prog.stopsHeard:Bool)=true:=by kernel_rfl
theorem DK:(Tryz.pinned.checked.prog.mayEnter:Bool)=true:=by kernel_rfl
theorem DJ:((Rows.branchTreeRow.lifted==Tryz.pinned.checked.prog.liftsFinal):Bool)=true:=by kernel_rfl
theorem DI:((Tryz.pinned.checked.prog.make==some Rows.branchTreeRow.make):Bool)=true:=by kernel_rfl
theorem DH:((Rows.branchTreeRow.kinds==(if Rows.branchTreeRow.domain.isEmpty then [] else Tryz.f3.params.toList.map fun t=>match Tryz.pinned.checked.prog.underlying t with | some (.int k)=>some k | _=>none)):Bool)=true:=by kernel_rfl
theorem DG:((Rows.branchTreeRow.pinned==Rows.branchTreeRow.pinnedBy):Bool)=true:=by kernel_rfl
theorem DF:((Rows.branchTreeRow.veiled==(Tryz.f3.params.toList++Rows.branchTreeSpec.plain.varTypes Tryz.pinned.checked.prog++Tryz.f3.resultTypes.toList).any (Tryz.pinned.checked.prog.veiledRec ·)):Bool)=true:=by kernel_rfl
theorem DE:(Rows.branchTreeRow.veiledFits Tryz.pinned.checked.prog Tryz.f3.params.toList (Tryz.f3.params.toList++Rows.branchTreeSpec.plain.varTypes Tryz.pinned.checked.prog++Tryz.f3.resultTypes.toList):Bool)=true:=by kernel_rfl
theorem cv {a b:Bool} (h:a=true) (k:b=true):(a&&b)=true:=by rw [h,k]; rfl
theorem HM:joinedFacts Tryz.pinned.checked.prog 3 Tryz.f3 Rows.branchTreeSpec Rows.branchTreeRow=true:=by
 unfold joinedFacts
 exact cv (cv (cv (cv (cv (cv (cv (cv (cv (cv (cv (cv (cv (cv (cv (cv (cv (cv (cv (cv (cv (cv (cv (cv (cv (cv (cv (cv (cv (cv (cv (Gd) Gc) Gb) Ga) F9) F8) F7) F6) F5) F4) DZ) DY) DX) DW) DV) DU) DT) DS) DR) DQ) DP) DO) DN) DM) DL) DK) DJ) DI) DH) DG) DF) DE
theorem FZ (law:∀ avs,jr 8 Fd avs→ae Tryz.prog 3 avs (.bool true)):Rows.BranchTreeSaid:=
 OpenClaim.holds_of_wide (p:=Tryz.pinned) (s:=Rows.branchTreeSpec) (c:=Rows.branchTreeRow) 3 Tryz.f3 rfl rfl rfl rfl rfl rfl rfl ⟨rfl,rfl,rfl,rfl,rfl⟩ rfl rfl rfl rfl rfl (by kernel_rfl) Tryz.func3 HM
  (of_decide_eq_true (by kernel_rfl)) (by unfold Func.isWrapper; first | (rw [if_pos (by decide +kernel)]; kernel_rfl) | (rw [if_neg (by decide +kernel)]; exact ⟨rfl,rfl⟩))
  (fun os started H enc _=>yP law os started H enc)
theorem CM {n:Nat} {L:List Sh} {r:List (Bool×List Sh)} {avs:List AV} (h:jr n ((true,L)::r) avs):∃ cs q,avs = .agg cs::q∧Fa (fh n) L cs∧jr n r q:=by
 match avs,h with
 | _::q,h=>
  obtain ⟨⟨cs,rfl,h1⟩,h2⟩:=h
  exact ⟨cs,q,rfl,h1,h2⟩
 | [],h=>exact h.elim
theorem CL {n:Nat} {r:List (Bool×List Sh)} {avs:List AV} (h:jr (n+1) ((false,[.int .i64])::r) avs):∃ z q,avs = .int .i64 z::q∧inI z∧jr (n+1) r q:=by
 match avs,h with
 | _::q,h=>
  obtain ⟨⟨s,e,h1⟩,h2⟩:=h
  cases e
  obtain ⟨z,rfl,hz⟩:=bE h1
  exact ⟨z,q,rfl,hz,h2⟩
 | [],h=>exact h.elim
theorem IX {n:Nat} {e:List Sh} {r:List (Bool×List Sh)} {avs:List AV} (h:jr n ((false,[.sl e])::r) avs):∃ z q,avs=z::q∧fh n (.sl e) z∧jr n r q:=by
 match avs,h with
 | _::q,h=>
  obtain ⟨⟨s,e,h1⟩,h2⟩:=h
  cases e
  exact ⟨_,q,rfl,h1,h2⟩
 | [],h=>exact h.elim
theorem CK {n:Nat} {avs:List AV} (h:jr n [] avs):avs=[]:=by
 match avs,h with
 | [],_=>rfl
 | _::_,h=>exact h.elim
theorem IZ {n:Nat} {a:AV} (h:fh (n+2) (.sl [.int .i64]) a):∃ z:List Int,(∀ x∈z,inI x)∧a=aG z:=by
 obtain ⟨xs,rfl,h2⟩:=h
 suffices hs:∀ l:List (List AV),(∀ x∈l,Fa (fh (n+1)) [.int .i64] x)→∃ z:List Int,(∀ x∈z,inI x)∧l=z.map fun h=>[AV.int .i64 h] by
  obtain ⟨z,g1,g2⟩:=hs xs h2
  exact ⟨z,g1,congrArg (AV.sl .no 1) g2⟩
 intro l
 induction l with
 | nil=>exact fun _=>⟨[],by simp,rfl⟩
 | cons y r ih=>
  intro h
  obtain ⟨z,g1,rfl⟩:=ih (fun x hx=>h x (List.mem_cons_of_mem _ hx))
  obtain ⟨b,q,rfl,h0,h'⟩:=aL (h y List.mem_cons_self)
  obtain rfl:=j4 h'
  obtain ⟨w,rfl,hw⟩:=bE h0
  exact ⟨w::z,fun v hv=>by rcases List.mem_cons.1 hv with rfl | hv; exact hw; exact g1 v hv,rfl⟩
theorem EF {n:Nat} {a:AV} (h:fh (n+2) (.sl [.int .i64,.int .i64,.int .i64,.int .i64,.int .i64]) a):∃ z:List R5,(∀ x∈z,s8 x)∧a = .sl .no 5 (z.map j9):=by
 obtain ⟨xs,rfl,h2⟩:=h
 suffices hs:∀ l:List (List AV),(∀ x∈l,Fa (fh (n+1)) [.int .i64,.int .i64,.int .i64,.int .i64,.int .i64] x)→∃ z:List R5,(∀ x∈z,s8 x)∧l=z.map j9 by
  obtain ⟨z,g1,g2⟩:=hs xs h2
  exact ⟨z,g1,congrArg (AV.sl .no 5) g2⟩
 intro l
 induction l with
 | nil=>exact fun _=>⟨[],by simp,rfl⟩
 | cons y r ih=>
  intro h
  obtain ⟨z,g1,rfl⟩:=ih (fun x hx=>h x (List.mem_cons_of_mem _ hx))
  obtain ⟨b0,q,rfl,h0,h'⟩:=aL (h y List.mem_cons_self)
  obtain ⟨b1,q,rfl,h1,h'⟩:=aL h'
  obtain ⟨b2,q,rfl,h2,h'⟩:=aL h'
  obtain ⟨b3,q,rfl,h3,h'⟩:=aL h'
  obtain ⟨b4,q,rfl,h4,h'⟩:=aL h'
  obtain rfl:=j4 h'
  obtain ⟨z0,rfl,i0⟩:=bE h0
  obtain ⟨z1,rfl,i1⟩:=bE h1
  obtain ⟨z2,rfl,i2⟩:=bE h2
  obtain ⟨z3,rfl,i3⟩:=bE h3
  obtain ⟨z4,rfl,i4⟩:=bE h4
  exact ⟨⟨z0,z1,z2,z3,z4⟩::z,fun w hw=>by rcases List.mem_cons.1 hw with rfl | hw; exact ⟨i0,i1,i2,i3,i4⟩; exact g1 w hw,rfl⟩
theorem x6 {l:List Int} (h:∀ y∈l,inI y) (i:Nat):inI (l.getD i 0):=by
 rw [List.getD_eq_getElem?_getD]
 cases hi:l[i]? with
 | none=>show inI 0; unfold inI; omega
 | some y=>exact h y (List.mem_of_getElem? hi)
theorem HE {n:Nat} {cs:List AV} (h:Fa (fh (n+2)) FF cs):∃ c:bS,cs=FG c:=by
 obtain ⟨b0,q,rfl,h0,h⟩:=aL h
 obtain ⟨b1,q,rfl,h1,h⟩:=aL h
 obtain ⟨b2,q,rfl,h2,h⟩:=aL h
 obtain ⟨b3,q,rfl,h3,h⟩:=aL h
 obtain ⟨b4,q,rfl,h4,h⟩:=aL h
 obtain ⟨b5,q,rfl,h5,h⟩:=aL h
 obtain ⟨b6,q,rfl,h6,h⟩:=aL h
 obtain ⟨b7,q,rfl,h7,h⟩:=aL h
 obtain ⟨b8,q,rfl,h8,h⟩:=aL h
 obtain ⟨b9,q,rfl,h9,h⟩:=aL h
 obtain ⟨b10,q,rfl,h10,h⟩:=aL h
 obtain ⟨b11,q,rfl,h11,h⟩:=aL h
 obtain ⟨b12,q,rfl,h12,h⟩:=aL h
 obtain ⟨b13,q,rfl,h13,h⟩:=aL h
 obtain rfl:=j4 h
 obtain ⟨z0,rfl,i0⟩:=bE h0
 obtain ⟨z1,rfl,i1⟩:=bE h1
 obtain ⟨z2,rfl,i2⟩:=bE h2
 obtain ⟨z3,rfl,i3⟩:=bE h3
 obtain ⟨z4,rfl,i4⟩:=bE h4
 obtain ⟨z5,rfl,i5⟩:=bE h5
 obtain ⟨z6,rfl,i6⟩:=bE h6
 obtain ⟨z7,rfl,i7⟩:=bE h7
 obtain ⟨z8,rfl,i8⟩:=bE h8
 obtain ⟨z9,rfl,i9⟩:=bE h9
 obtain ⟨z10,rfl,i10⟩:=bE h10
 obtain ⟨z,hz,rfl⟩:=Hd h11
 obtain ⟨v,hv,rfl⟩:=EF h12
 obtain ⟨f,rfl,hf⟩:=bE h13
 exact ⟨⟨fun i=>[z0,z1,z2,z3,z4,z5,z6].getD i 0,fun i=>[z7,z8,z9,z10].getD i 0,z,v,f,x6 (by simp [*]),x6 (by simp [*]),hz,hv,hf⟩,rfl⟩
end Go.Proofs
namespace Go.Proofs.YtnbgjinkghhdoaaGreat
open Go Go.AI
theorem branchTree:Rows.BranchTreeSaid:=FZ fun avs h=>by
 obtain ⟨cs,q,rfl,h1,h⟩:=CM h
 obtain ⟨z1,q,rfl,i1,h⟩:=CL h
 obtain rfl:=CK h
 obtain ⟨c,rfl⟩:=HE h1
 exact Go.Proofs.Jd c z1 i1
end Go.Proofs.YtnbgjinkghhdoaaGreat
