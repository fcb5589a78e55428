/- Contracts of the functions and plain facts about what they reckon, part 6: called with arguments that read so, each hands back what is typed. The conditions are those typed. -/
import Derived.Test.YtnbgjinkghhdoaaGreatTConE
set_option linter.unusedSectionVars false
set_option linter.unusedVariables false
set_option linter.unusedSimpArgs false
namespace Go.Proofs
structure Br where
 a:Int
 o:Int
 s:Int
 y:Int
 n:Int
deriving DecidableEq,Inhabited
inductive BT where
 | stop
 | node (a o s:Int) (y n:BT)
def ixB (b:Br):List Br→Nat→Option Nat
 | [],_=>none
 | x::r,k=>if x=b then some k else ixB b r (k+1)
theorem xT {b:Br}:∀ {l:List Br} {k j:Nat},ixB b l k=some j→k≤j∧l[j - k]?=some b
 | [],_,_,h=>nomatch h
 | x::r,k,j,h=>by
  simp only [ixB] at h
  split at h
  ·cases h; rename_i e; simp [e]
  ·obtain ⟨h1,h2⟩:=xT h
   refine ⟨by omega,?_⟩
   rw [show j - k=(j - (k+1))+1 by omega,List.getElem?_cons_succ]; exact h2
theorem xU {b:Br}:∀ {l:List Br} {k:Nat},ixB b l k=none→b ∉ l
 | [],_,_=>by simp
 | x::r,k,h=>by
  simp only [ixB] at h
  split at h
  ·cases h
  ·rename_i e
   have:=xU h
   simp only [List.mem_cons,not_or]
   exact ⟨fun h=>e h.symm,this⟩
theorem Fh {b:Br}:∀ {l:List Br} {k j:Nat},l.Nodup→l[j]?=some b→ixB b l k=some (k+j)
 | [],_,_,_,h=>by simp at h
 | x::r,k,0,_,h=>by
  simp only [List.getElem?_cons_zero,Option.some.injEq] at h
  simp [ixB,h]
 | x::r,k,j+1,hd,h=>by
  simp only [List.getElem?_cons_succ] at h
  have hne:x≠b:=fun e=>(List.nodup_cons.1 hd).1 (e ▸ List.mem_of_getElem? h)
  rw [ixB,if_neg hne,Fh (List.nodup_cons.1 hd).2 h]
  congr 1; omega
def bw (b:Br) (S:List Br):Int×List Br:=match ixB b S 0 with
 | some k=>((k:Int),S)
 | none=>((S.length:Int),S++[b])
theorem iB (b:Br) (S:List Br):∃ E,(bw b S).2=S++E:=by
 unfold bw
 split
 ·exact ⟨[],by simp⟩
 ·exact ⟨[b],rfl⟩
theorem AW (b:Br) (S:List Br):0≤(bw b S).1∧(bw b S).2[(bw b S).1.toNat]?=some b:=by
 unfold bw
 split
 ·rename_i k h
  obtain ⟨_,h2⟩:=xT h
  exact ⟨by simp,by simpa using h2⟩
 ·exact ⟨by simp,by simp⟩
theorem ta {b:Br} {S:List Br} (h:S.Nodup):(bw b S).2.Nodup:=by
 unfold bw
 split
 ·exact h
 ·rename_i e
  have:=xU e
  rw [List.nodup_append]
  exact ⟨h,by simp,fun x hx y hy hxy=>by simp at hy; exact this (hy ▸ hxy ▸ hx)⟩
theorem AU {b:Br} {S:List Br} {k:Int} (h:S.Nodup) (h0:0≤k) (hk:S[k.toNat]?=some b):bw b S=(k,S):=by
 unfold bw
 rw [Fh h hk]
 simp; omega
theorem pQ (b:Br) (S:List Br):(bw b S).2.length≤S.length+1:=by
 unfold bw
 split <;> simp
def hc:BT→List Br→Int×List Br
 | .stop,S=>(-1,S)
 | .node a o s y n,S=>
  let p:=hc n S
  let q:=hc y p.2
  bw ⟨a,o,s,q.1,p.1⟩ q.2
def rep (S:List Br):BT→Int→Prop
 | .stop,k=>k = -1
 | .node a o s y n,k=>∃ ky kn,rep S y ky∧rep S n kn∧0≤k∧S[k.toNat]?=some ⟨a,o,s,ky,kn⟩
theorem rep.ext {S:List Br} (E:List Br):∀ {t:BT} {k:Int},rep S t k→rep (S++E) t k
 | .stop,_,h=>h
 | .node a o s y n,k,⟨ky,kn,h1,h2,h3,h4⟩=>⟨ky,kn,h1.ext E,h2.ext E,h3,by rw [List.getElem?_append_left (List.getElem?_eq_some_iff.1 h4).1]; exact h4⟩
theorem u5:∀ (t:BT) (S:List Br),∃ E,(hc t S).2=S++E
 | .stop,S=>⟨[],by simp [hc]⟩
 | .node a o s y n,S=>by
  obtain ⟨E1,h1⟩:=u5 n S
  obtain ⟨E2,h2⟩:=u5 y (hc n S).2
  obtain ⟨E3,h3⟩:=iB ⟨a,o,s,(hc y (hc n S).2).1,(hc n S).1⟩ (hc y (hc n S).2).2
  exact ⟨E1++(E2++E3),by simp only [hc]; rw [h3,h2,h1,List.append_assoc,List.append_assoc]⟩
theorem mY:∀ (t:BT) (S:List Br),rep (hc t S).2 t (hc t S).1
 | .stop,S=>rfl
 | .node a o s y n,S=>by
  have h1:=mY n S
  have h2:=mY y (hc n S).2
  obtain ⟨E2,e2⟩:=u5 y (hc n S).2
  obtain ⟨E3,e3⟩:=iB ⟨a,o,s,(hc y (hc n S).2).1,(hc n S).1⟩ (hc y (hc n S).2).2
  obtain ⟨h3,h4⟩:=AW ⟨a,o,s,(hc y (hc n S).2).1,(hc n S).1⟩ (hc y (hc n S).2).2
  refine ⟨_,_,?_,?_,h3,h4⟩
  ·simp only [hc]; rw [e3]; exact h2.ext E3
  ·simp only [hc]; rw [e3]
   have:=h1.ext (E2++E3)
   rw [← List.append_assoc,← e2] at this; exact this
theorem kU:∀ (t:BT) {S:List Br},S.Nodup→(hc t S).2.Nodup
 | .stop,_,h=>h
 | .node a o s y n,S,h=>ta (kU y (kU n h))
theorem qt {S:List Br}:∀ {t:BT} {k j:Int},S.Nodup→rep S t k→rep S t j→k=j
 | .stop,_,_,_,h1,h2=>h1.trans h2.symm
 | .node a o s y n,k,j,hd,⟨ky,kn,h1,h2,h3,h4⟩,⟨jy,jn,g1,g2,g3,g4⟩=>by
  have e1:=qt hd h1 g1
  have e2:=qt hd h2 g2
  subst e1; subst e2
  have:=(List.getElem?_inj (List.getElem?_eq_some_iff.1 h4).1 hd).1 (h4.trans g4.symm)
  omega
theorem lF:∀ {t:BT} {S:List Br} {k:Int},S.Nodup→rep S t k→hc t S=(k,S)
 | .stop,_,_,_,h=>by rw [hc,show _=(-1:Int) from h]
 | .node a o s y n,S,k,hd,⟨ky,kn,h1,h2,h3,h4⟩=>by
  have e1:=lF hd h2
  have e2:=lF hd h1
  simp only [hc,e1,e2]
  exact AU hd h3 h4
structure Pl where
 o:Int
 s:Int
 a:Int
 b:Int
deriving DecidableEq,Inhabited
abbrev Met:=List (List Int×Int)
def gU (k:List Int):Met→Option Int
 | []=>none
 | p::r=>if p.1=k then some p.2 else gU k r
def qc (k:List Int) (v:Int):Met→Met
 | []=>[(k,v)]
 | p::r=>if p.1=k then (k,v)::r else p::qc k v r
theorem jk (k j:List Int) (v:Int):∀ m:Met,gU j (qc k v m)=if k=j then some v else gU j m
 | []=>by simp only [qc,gU]
 | p::r=>by
  simp only [qc]
  split
  ·rename_i h
   simp only [gU]
   by_cases hk:k=j
   ·simp [hk]
   ·rw [if_neg hk,if_neg hk,if_neg (fun e=>hk (h ▸ e))]
  ·rename_i h
   simp only [gU,jk k j v r]
   by_cases hk:k=j
   ·simp only [hk,if_true]
    split
    ·rename_i h2; exact absurd (h2.trans hk.symm) h
    ·rfl
   ·simp only [hk,if_false]
def ig (d o:Int):Bool:=d.toNat.testBit o.toNat
def orD (d o:Int):Int:=((d.toNat ||| (1 <<< o.toNat):Nat):Int)
def G:List Pl→Int→BT
 | [],_ => .stop
 | p::r,d=>if ig d p.o then G r d else .node p.a p.o p.s (G r (orD d p.o)) (G r d)
def bn:List Pl→Nat→Int→Met→List Br→Int×Met×List Br
 | [],_,_,m,S=>(-1,m,S)
 | p::r,at_,d,m,S=>if ig d p.o then bn r (at_+1) d m S else
  match gU [(at_:Int),d] m with
  | some v=>(v,m,S)
  | none=>
   let x:=bn r (at_+1) d m S
   let z:=bn r (at_+1) (orD d p.o) x.2.1 x.2.2
   let k:=bw ⟨p.a,p.o,p.s,z.1,x.1⟩ z.2.2
   (k.1,qc [(at_:Int),d] k.1 z.2.1,k.2)
def zR (all:List Pl) (m:Met) (S:List Br):Prop:=∀ (i:Nat) (d v:Int),gU [(i:Int),d] m=some v→∃ p r,all.drop i=p::r∧ig d p.o=false∧rep S (G (p::r) d) v
theorem zR.ext {all:List Pl} {m:Met} {S:List Br} (h:zR all m S) (E:List Br):zR all m (S++E):=fun i d v hv=>by
 obtain ⟨p,r,h1,h2,h3⟩:=h i d v hv
 exact ⟨p,r,h1,h2,h3.ext E⟩
theorem jO (all:List Pl):∀ (l:List Pl) (i:Nat) (d:Int) (m:Met) (S:List Br),all.drop i=l→S.Nodup→zR all m S →
  (bn l i d m S).1=(hc (G l d) S).1∧(bn l i d m S).2.2=(hc (G l d) S).2∧zR all (bn l i d m S).2.1 (bn l i d m S).2.2
 | [],i,d,m,S,_,_,hm=>⟨rfl,rfl,hm⟩
 | p::r,i,d,m,S,hl,hd,hm=>by
  have hr:all.drop (i+1)=r:=by rw [← List.drop_drop,hl]; rfl
  simp only [bn,G]
  cases hb:ig d p.o with
  | true=>simpa using jO all r (i+1) d m S hr hd hm
  | false=>
   simp only [Bool.false_eq_true,if_false]
   cases hg:gU [(i:Int),d] m with
   | some v=>
    obtain ⟨p',r',h1,h2,h3⟩:=hm i d v hg
    rw [hl] at h1
    simp only [List.cons.injEq] at h1
    obtain ⟨rfl,rfl⟩:=h1
    simp only [G,hb,Bool.false_eq_true,if_false] at h3
    simp only [lF hd h3]
    exact ⟨trivial,trivial,hm⟩
   | none=>
    simp only
    obtain ⟨a1,a2,a3⟩:=jO all r (i+1) d m S hr hd hm
    have hd2:(bn r (i+1) d m S).2.2.Nodup:=by rw [a2]; exact kU _ hd
    obtain ⟨b1,b2,b3⟩:=jO all r (i+1) (orD d p.o) _ _ hr hd2 a3
    generalize bn r (i+1) d m S=x at *
    generalize bn r (i+1) (orD d p.o) x.2.1 x.2.2=z at *
    have e:hc (.node p.a p.o p.s (G r (orD d p.o)) (G r d)) S=bw ⟨p.a,p.o,p.s,z.1,x.1⟩ z.2.2:=by
     simp only [hc]; rw [← a1,← a2,← b1,← b2]
    refine ⟨by rw [e],by rw [e],fun j d' v hv=>?_⟩
    rw [jk] at hv
    split at hv
    ·rename_i hk
     simp only [List.cons.injEq,and_true] at hk
     obtain ⟨hk1,rfl⟩:=hk
     have hij:i=j:=by omega
     subst hij
     simp only [Option.some.injEq] at hv
     subst hv
     refine ⟨p,r,hl,hb,?_⟩
     simp only [G,hb,Bool.false_eq_true,if_false]
     rw [← e]; exact mY _ _
    ·obtain ⟨E,he⟩:=iB ⟨p.a,p.o,p.s,z.1,x.1⟩ z.2.2
     rw [he]
     exact (b3.ext E) j d' v hv
def bq (B:List Br):BT→Int→Met→List Br→Int×Met×List Br
 | t,k,m,S=>match gU [k] m with
  | some v=>(v,m,S)
  | none=>match t with
   | .stop=>(-1,m,S)
   | .node _ _ _ y n=>
    let b:=B.getD k.toNat default
    let x:=bq B n b.n m S
    let z:=bq B y b.y x.2.1 x.2.2
    let q:=bw ⟨b.a,b.o,b.s,z.1,x.1⟩ z.2.2
    (q.1,qc [k] q.1 z.2.1,q.2)
def sQ (B:List Br) (m:Met) (S:List Br):Prop:=gU [-1] m=some (-1)∧∀ (k v:Int) (t:BT),gU [k] m=some v→rep B t k→rep S t v
theorem sQ.ext {B:List Br} {m:Met} {S:List Br} (h:sQ B m S) (E:List Br):sQ B m (S++E):=⟨h.1,fun k v t h1 h2=>(h.2 k v t h1 h2).ext E⟩
theorem qV {S:List Br}:∀ {t u:BT} {k:Int},rep S t k→rep S u k→t=u
 | .stop,.stop,_,_,_=>rfl
 | .stop,.node ..,k,h1,⟨_,_,_,_,h2,_⟩=>by have:k = -1:=h1; omega
 | .node ..,.stop,k,⟨_,_,_,_,h2,_⟩,h1=>by have:k = -1:=h1; omega
 | .node ..,.node ..,k,⟨_,_,h1,h2,_,h4⟩,⟨_,_,g1,g2,_,g4⟩=>by
  rw [h4] at g4
  simp only [Option.some.injEq,Br.mk.injEq] at g4
  obtain ⟨rfl,rfl,rfl,rfl,rfl⟩:=g4
  rw [qV h1 g1,qV h2 g2]
theorem mX (B:List Br):∀ (t:BT) (k:Int) (m:Met) (S:List Br),rep B t k→S.Nodup→sQ B m S →
  (bq B t k m S).1=(hc t S).1∧(bq B t k m S).2.2=(hc t S).2∧sQ B (bq B t k m S).2.1 (bq B t k m S).2.2
 | .stop,k,m,S,hr,hd,hm=>by
  have hk:k = -1:=hr
  subst hk
  unfold bq
  simp only [hm.1,hc]
  exact ⟨trivial,trivial,hm⟩
 | .node a o s y n,k,m,S,hr,hd,hm=>by
  unfold bq
  cases hg:gU [k] m with
  | some v=>simp only [lF hd (hm.2 k v _ hg hr)]; exact ⟨trivial,trivial,hm⟩
  | none=>
   have hr':=hr
   obtain ⟨ky,kn,h1,h2,h3,h4⟩:=hr
   have hb:B.getD k.toNat default=⟨a,o,s,ky,kn⟩:=by rw [List.getD_eq_getElem?_getD,h4]; rfl
   simp only [hb]
   obtain ⟨a1,a2,a3⟩:=mX B n kn m S h2 hd hm
   have hd2:(bq B n kn m S).2.2.Nodup:=by rw [a2]; exact kU _ hd
   obtain ⟨b1,b2,b3⟩:=mX B y ky _ _ h1 hd2 a3
   generalize bq B n kn m S=x at *
   generalize bq B y ky x.2.1 x.2.2=z at *
   have e:hc (.node a o s y n) S=bw ⟨a,o,s,z.1,x.1⟩ z.2.2:=by
    simp only [hc]; rw [← a1,← a2,← b1,← b2]
   obtain ⟨E,he⟩:=iB ⟨a,o,s,z.1,x.1⟩ z.2.2
   refine ⟨by rw [e],by rw [e],?_,fun j v t hv ht=>?_⟩
   ·rw [jk,if_neg (fun h=>by simp only [List.cons.injEq,and_true] at h; omega)]; exact b3.1
   ·rw [jk] at hv
    split at hv
    ·rename_i hk
     simp only [List.cons.injEq,and_true] at hk
     subst hk
     simp only [Option.some.injEq] at hv
     subst hv
     rw [← qV hr' ht,← e]; exact mY _ _
    ·rw [he]; exact (b3.ext E).2 j v t hv ht
end Go.Proofs
namespace Go.Proofs
theorem oc (d o j:Int) (ho:0≤o) (hj:0≤j):ig (orD d o) j=(ig d j||decide (j=o)):=by
 unfold ig orD
 rw [Int.toNat_natCast,Nat.testBit_or,Nat.one_shiftLeft,Nat.testBit_two_pow]
 congr 1
 by_cases h:j=o
 ·simp [h]
 ·rw [decide_eq_false h,decide_eq_false (by omega)]
theorem rh (d o:Int):0≤orD d o:=Int.natCast_nonneg _
theorem ES {d o:Int} {m:Nat} (h0:0≤d) (h:d<2 ^ m) (ho:0≤o) (hm:o<m):orD d o<2 ^ m:=by
 unfold orD
 have h1:d.toNat<2 ^ m:=by
  have:((2 ^ m:Nat):Int)=(2:Int) ^ m:=by simp
  omega
 have h2:1 <<< o.toNat<2 ^ m:=by rw [Nat.one_shiftLeft]; exact Nat.pow_lt_pow_right (by omega) (by omega)
 have h3:=Nat.or_lt_two_pow h1 h2
 have:((2 ^ m:Nat):Int)=(2:Int) ^ m:=by simp
 omega
theorem CG {S:List Br} {t:BT} {k:Int} (h:rep S t k):k = -1∨0≤k∧k.toNat<S.length:=by
 cases t with
 | stop=>exact .inl h
 | node a o s y n=>
  obtain ⟨_,_,_,_,h3,h4⟩:=h
  exact .inr ⟨h3,(List.getElem?_eq_some_iff.1 h4).1⟩
def EV (all:List Pl) (m:Nat) (S:List Br) (i:Nat) (b:Br):Prop:=∃ (j:Nat) (p:Pl) (r:List Pl) (d:Int),all.drop j=p::r∧0≤d∧d<2 ^ m∧ig d p.o=false∧(b.a=p.a∧b.o=p.o∧b.s=p.s) ∧
 rep (S.take i) (G r (orD d p.o)) b.y∧rep (S.take i) (G r d) b.n
def tV (all:List Pl) (m:Nat) (S:List Br):Prop:=∀ (i:Nat) (b:Br),S[i]?=some b→EV all m S i b
theorem B7 (all:List Pl) (m:Nat) (ho:∀ p∈all,0≤p.o∧p.o<m):∀ (l:List Pl) (j:Nat) (d:Int) (S:List Br),all.drop j=l→0≤d→d<2 ^ m→tV all m S→tV all m (hc (G l d) S).2
 | [],j,d,S,_,_,_,h=>h
 | p::r,j,d,S,hl,h0,h1,h=>by
  have hr:all.drop (j+1)=r:=by rw [← List.drop_drop,hl]; rfl
  have hp:p∈all:=List.mem_of_mem_drop (i:=j) (by rw [hl]; exact List.mem_cons_self)
  simp only [G]
  cases hb:ig d p.o with
  | true=>simpa using B7 all m ho r (j+1) d S hr h0 h1 h
  | false=>
   simp only [Bool.false_eq_true,if_false,hc]
   have a1:=B7 all m ho r (j+1) d S hr h0 h1 h
   have b1:=B7 all m ho r (j+1) (orD d p.o) _ hr (rh _ _) (ES h0 h1 (ho p hp).1 (ho p hp).2) a1
   have a2:=mY (G r d) S
   have b2:=mY (G r (orD d p.o)) (hc (G r d) S).2
   obtain ⟨E,he⟩:=u5 (G r (orD d p.o)) (hc (G r d) S).2
   generalize hc (G r d) S=x at *
   generalize hc (G r (orD d p.o)) x.2=z at *
   intro i b hi
   unfold bw at hi ⊢
   split at hi
   ·exact b1 i b hi
   ·rename_i hn
    simp only at hi ⊢
    by_cases hlt:i<z.2.length
    ·rw [List.getElem?_append_left hlt] at hi
     obtain ⟨j',p',r',d',q1,q2,q3,q4,q5,q6,q7⟩:=b1 i b hi
     refine ⟨j',p',r',d',q1,q2,q3,q4,q5,?_,?_⟩
     ·rw [List.take_append_of_le_length (by omega)]; exact q6
     ·rw [List.take_append_of_le_length (by omega)]; exact q7
    ·have hz:i=z.2.length:=by
      have:=(List.getElem?_eq_some_iff.1 hi).1
      simp at this; omega
     subst hz
     rw [List.getElem?_append_right (Nat.le_refl _)] at hi
     simp at hi
     subst hi
     refine ⟨j,p,r,d,hl,h0,h1,hb,⟨rfl,rfl,rfl⟩,?_,?_⟩
     ·rw [List.take_left]; exact b2
     ·rw [List.take_left,he]; exact a2.ext E
theorem rep.of_take {S:List Br} {i:Nat} {t:BT} {k:Int} (h:rep (S.take i) t k):rep S t k:=by
 have:=h.ext (S.drop i)
 rwa [List.take_append_drop] at this
theorem En {α:Type} (l:List α) (i:Nat):(l.take i).length≤i:=by rw [List.length_take]; omega
theorem GT {a o s:Int} {y n:BT}:∀ {r:List Pl} {d:Int},G r d = .node a o s y n→∃ q∈r,a=q.a
 | [],_,h=>nomatch h
 | p::r,d,h=>by
  simp only [G] at h
  split at h
  ·obtain ⟨q,h1,h2⟩:=GT h
   exact ⟨q,List.mem_cons_of_mem _ h1,h2⟩
  ·simp only [BT.node.injEq] at h
   exact ⟨p,List.mem_cons_self,h.1.symm⟩
theorem EV.down {all:List Pl} {m:Nat} {S:List Br} {i:Nat} {b:Br} (hs:all.Pairwise fun p q=>p.a<q.a) (h:EV all m S i b) :
  (b.y = -1∨0≤b.y∧b.y.toNat<i∧∃ c,S[b.y.toNat]?=some c∧b.a<c.a)∧(b.n = -1∨0≤b.n∧b.n.toNat<i∧∃ c,S[b.n.toNat]?=some c∧b.a<c.a):=by
 obtain ⟨j,p,r,d,q1,q2,q3,q4,⟨q5,_,_⟩,q6,q7⟩:=h
 have hs':(p::r).Pairwise fun p q=>p.a<q.a:=by rw [← q1]; exact hs.sublist (List.drop_sublist _ _)
 have key:∀ (d:Int) (k:Int),rep (S.take i) (G r d) k→k = -1∨0≤k∧k.toNat<i∧∃ c,S[k.toNat]?=some c∧b.a<c.a:=by
  intro d k hk
  cases hg:G r d with
  | stop=>rw [hg] at hk; exact .inl hk
  | node a o s y n=>
   obtain ⟨q,hq,hqa⟩:=GT hg
   rw [hg] at hk
   obtain ⟨ky,kn,_,_,h3,h4⟩:=hk
   have hlt:=(List.getElem?_eq_some_iff.1 h4).1
   have:=En S i
   refine .inr ⟨h3,by omega,⟨a,o,s,ky,kn⟩,?_,?_⟩
   ·rw [List.getElem?_take] at h4
    split at h4
    ·exact h4
    ·cases h4
   ·show b.a<a
    rw [q5,hqa]
    exact (List.pairwise_cons.1 hs').1 q hq
 exact ⟨key _ _ q6,key _ _ q7⟩
def nL (acc:List Nat) (b:Br):Nat:=((1 <<< b.o.toNat) ||| (if b.n = -1 then 0 else acc.getD b.n.toNat 0)) ||| (if b.y = -1 then 0 else acc.getD b.y.toNat 0)
def dj:List Br→List Nat→List Nat
 | [],acc=>acc
 | b::r,acc=>dj r (acc++[nL acc b])
theorem oS (b:Br):∀ (S:List Br) (acc:List Nat),dj (S++[b]) acc=dj S acc++[nL (dj S acc) b]
 | [],_=>rfl
 | _::r,acc=>by rw [List.cons_append,dj,dj,oS b r]
theorem kN:∀ (S:List Br) (acc:List Nat),(dj S acc).length=acc.length+S.length
 | [],_=>rfl
 | _::r,acc=>by rw [dj,kN r]; simp; omega
theorem xH:∀ (S:List Br) (acc:List Nat),∃ E,dj S acc=acc++E
 | [],acc=>⟨[],by simp [dj]⟩
 | b::r,acc=>by
  obtain ⟨E,h⟩:=xH r (acc++[nL acc b])
  exact ⟨nL acc b::E,by rw [dj,h,List.append_assoc]; rfl⟩
theorem xI:∀ (S T:List Br) (acc:List Nat),dj (S++T) acc=dj T (dj S acc)
 | [],_,_=>rfl
 | _::r,T,acc=>by rw [List.cons_append,dj,dj,xI r T]
theorem lA (S:List Br) (i k:Nat) (h:k<i) (hi:i≤S.length):(dj S []).getD k 0=(dj (S.take i) []).getD k 0:=by
 have e:dj S []=dj (S.drop i) (dj (S.take i) []):=by rw [← xI,List.take_append_drop]
 obtain ⟨E,hE⟩:=xH (S.drop i) (dj (S.take i) [])
 rw [e,hE,List.getD_eq_getElem?_getD,List.getD_eq_getElem?_getD,List.getElem?_append_left (by rw [kN]; simp; omega)]
theorem Hn {S:List Br} {i:Nat} {b:Br} (h:S[i]?=some b):(dj S []).getD i 0=nL (dj (S.take i) []) b:=by
 have hi:=(List.getElem?_eq_some_iff.1 h).1
 rw [lA S (i+1) i (by omega) (by omega),List.take_add_one,h]
 show (dj (S.take i++[b]) []).getD i 0=_
 rw [oS,List.getD_eq_getElem?_getD,List.getElem?_append_right (by rw [kN]; simp; omega),kN]
 simp [Nat.min_eq_left (Nat.le_of_lt hi)]
def tO:BT→List Nat
 | .stop=>[]
 | .node _ o _ y n=>o.toNat::(tO y++tO n)
theorem oT {S:List Br} (hd:∀ (i:Nat) (b:Br),S[i]?=some b→b.y.toNat<i∨b.y = -1) (hd2:∀ (i:Nat) (b:Br),S[i]?=some b→b.n.toNat<i∨b.n = -1) :
  ∀ {t:BT} {k:Int},rep S t k→k≠-1→∀ o,((dj S []).getD k.toNat 0).testBit o=true→o∈tO t
 | .stop,k,h,hne,_,_=>absurd h hne
 | .node a o' s y n,k,h,_,o,hb=>by
  obtain ⟨ky,kn,h1,h2,h3,h4⟩:=h
  have hkl:=(List.getElem?_eq_some_iff.1 h4).1
  rw [Hn h4] at hb
  unfold nL at hb
  simp only [Nat.testBit_or,Bool.or_eq_true] at hb
  simp only [tO,List.mem_cons,List.mem_append]
  rcases hb with (hb | hb) | hb
  ·rw [Nat.one_shiftLeft,Nat.testBit_two_pow] at hb
   exact .inl (of_decide_eq_true hb).symm
  ·split at hb
   ·simp at hb
   ·rename_i hn
    have hlt:=(hd2 _ _ h4).resolve_right hn
    simp only at hlt
    rw [← lA S k.toNat kn.toNat hlt (by omega)] at hb
    exact .inr (.inr (oT hd hd2 h2 hn o hb))
  ·split at hb
   ·simp at hb
   ·rename_i hn
    have hlt:=(hd _ _ h4).resolve_right hn
    simp only at hlt
    rw [← lA S k.toNat ky.toNat hlt (by omega)] at hb
    exact .inr (.inl (oT hd hd2 h1 hn o hb))
theorem HN:∀ (r:List Pl) (d:Int),(∀ p∈r,0≤p.o)→∀ o∈tO (G r d),ig d (o:Int)=false
 | [],_,_,_,h=>by simp [G,tO] at h
 | p::r,d,hp,o,h=>by
  simp only [G] at h
  split at h
  ·exact HN r d (fun q hq=>hp q (List.mem_cons_of_mem _ hq)) o h
  ·rename_i hb
   have hp0:=hp p List.mem_cons_self
   simp only [tO,List.mem_cons,List.mem_append] at h
   rcases h with h | h | h
   ·rw [h,Int.toNat_of_nonneg hp0]; simpa using hb
   ·have:=HN r _ (fun q hq=>hp q (List.mem_cons_of_mem _ hq)) o h
    rw [oc _ _ _ hp0 (Int.natCast_nonneg _),Bool.or_eq_false_iff] at this
    exact this.1
   ·exact HN r d (fun q hq=>hp q (List.mem_cons_of_mem _ hq)) o h
theorem EV.opt {all:List Pl} {m:Nat} {S:List Br} (hs:all.Pairwise fun p q=>p.a<q.a) (ho:∀ p∈all,0≤p.o) (hA:tV all m S) {i:Nat} {b:Br} (hi:S[i]?=some b) (hy:b.y≠-1):((dj S []).getD b.y.toNat 0).testBit b.o.toNat=false:=by
 obtain ⟨j,p,r,d,q1,q2,q3,q4,⟨_,q5,_⟩,q6,q7⟩:=hA i b hi
 cases hb:((dj S []).getD b.y.toNat 0).testBit b.o.toNat with
 | false=>rfl
 | true=>
  have hmem:∀ q∈p::r,q∈all:=fun q hq=>List.mem_of_mem_drop (i:=j) (by rw [q1]; exact hq)
  have h1:=oT (S:=S) (fun i b hi=>by
   rcases (hA i b hi).down hs |>.1 with h | h
   ·exact .inr h
   ·exact .inl h.2.1) (fun i b hi=>by
   rcases (hA i b hi).down hs |>.2 with h | h
   ·exact .inr h
   ·exact .inl h.2.1) q6.of_take hy _ hb
  have h2:=HN r _ (fun q hq=>ho q (hmem q (List.mem_cons_of_mem _ hq))) _ h1
  have hp0:=ho p (hmem p List.mem_cons_self)
  rw [q5,Int.toNat_of_nonneg hp0,oc _ _ _ hp0 hp0] at h2
  simp at h2
theorem mg {α:Type} [DecidableEq α]:∀ {l k:List α},l.Nodup→(∀ x∈l,x∈k)→l.length≤k.length
 | [],_,_,_=>Nat.zero_le _
 | x::r,k,hd,h=>by
  have hx:=h x List.mem_cons_self
  have h2:=mg (l:=r) (k:=k.erase x) (List.nodup_cons.1 hd).2 fun y hy=>by
   have hne:y≠x:=fun e=>(List.nodup_cons.1 hd).1 (e ▸ hy)
   exact (List.mem_erase_of_ne hne).2 (h y (List.mem_cons_of_mem _ hy))
  rw [List.length_erase_of_mem hx] at h2
  have:=List.length_pos_of_mem hx
  simp only [List.length_cons]; omega
theorem ET {all:List Pl} {m:Nat} {S:List Br} (hd:S.Nodup) (hA:tV all m S):S.length≤all.length*2 ^ m:=by
 have hex:∀ i,i<S.length→∃ x:Nat×Nat,x.1<all.length∧x.2<2 ^ m∧∃ p r b,S[i]?=some b∧all.drop x.1=p::r∧(b.a=p.a∧b.o=p.o∧b.s=p.s)∧rep S (G r (orD (x.2:Int) p.o)) b.y∧rep S (G r (x.2:Int)) b.n:=fun i hi=>by
  obtain ⟨j,p,r,d,q1,q2,q3,q4,q5,q6,q7⟩:=hA i _ (List.getElem?_eq_getElem hi)
  have hdn:((d.toNat:Nat):Int)=d:=Int.toNat_of_nonneg q2
  refine ⟨(j,d.toNat),?_,?_,p,r,_,List.getElem?_eq_getElem hi,q1,q5,by simp only; rw [hdn]; exact q6.of_take,by simp only; rw [hdn]; exact q7.of_take⟩
  ·rcases Nat.lt_or_ge j all.length with h | h
   ·exact h
   ·rw [List.drop_of_length_le h] at q1; cases q1
  ·have:((2 ^ m:Nat):Int)=(2:Int) ^ m:=by simp
   simp only; omega
 have hf:∃ f:Nat→Nat×Nat,∀ i,i<S.length→(f i).1<all.length∧(f i).2<2 ^ m∧∃ p r b,S[i]?=some b∧all.drop (f i).1=p::r∧(b.a=p.a∧b.o=p.o∧b.s=p.s)∧rep S (G r (orD ((f i).2:Int) p.o)) b.y∧rep S (G r ((f i).2:Int)) b.n:=
  ⟨fun i=>if h:i<S.length then Classical.choose (hex i h) else (0,0),fun i h=>by simp only [h,dif_pos]; exact Classical.choose_spec (hex i h)⟩
 obtain ⟨f,hf⟩:=hf
 have hinj:∀ i j,i<S.length→j<S.length→f i=f j→i=j:=fun i j hi hj e=>by
  obtain ⟨_,_,p,r,b,a1,a2,⟨a3,a4,a5⟩,a6,a7⟩:=hf i hi
  obtain ⟨_,_,p',r',b',c1,c2,⟨c3,c4,c5⟩,c6,c7⟩:=hf j hj
  rw [e,c2] at a2
  simp only [List.cons.injEq] at a2
  obtain ⟨rfl,rfl⟩:=a2
  rw [e] at a6 a7
  have e1:=qt hd a6 c6
  have e2:=qt hd a7 c7
  have:b=b':=by
   cases b; cases b'
   simp only at *
   simp [a3,c3,a4,c4,a5,c5,e1,e2]
  exact (List.getElem?_inj hi hd).1 (a1.trans (by rw [this]; exact c1.symm))
 have:=mg (l:=(List.range S.length).map fun i=>(f i).1*2 ^ m+(f i).2) (k:=List.range (all.length*2 ^ m)) ?_ ?_
 ·simpa using this
 ·rw [List.Nodup,List.pairwise_map]
  refine List.Pairwise.imp_of_mem ?_ (List.nodup_range (n:=S.length))
  intro i j hi hj hne e
  have hi:=List.mem_range.1 hi
  have hj:=List.mem_range.1 hj
  obtain ⟨_,h1,_⟩:=hf i hi
  obtain ⟨_,h2,_⟩:=hf j hj
  have e2:(f i).2=(f j).2:=by
   have:=congrArg (· % 2 ^ m) e
   simp only [Nat.mul_add_mod_self_right,Nat.mod_eq_of_lt h1,Nat.mod_eq_of_lt h2] at this
   exact this
  have e1:(f i).1=(f j).1:=by
   rw [e2] at e
   exact Nat.eq_of_mul_eq_mul_right (Nat.two_pow_pos m) (by omega)
  exact hne (hinj i j hi hj (Prod.ext e1 e2))
 ·intro x hx
  obtain ⟨i,hi,rfl⟩:=List.mem_map.1 hx
  obtain ⟨h1,h2,_⟩:=hf i (List.mem_range.1 hi)
  rw [List.mem_range]
  have:((f i).1+1)*2 ^ m≤all.length*2 ^ m:=Nat.mul_le_mul_right _ h1
  rw [Nat.add_mul] at this
  omega
abbrev tv:=Int×Int×Bool
def fi (cf:Int→Int→Bool):List Pl→Int→List tv
 | [],_=>[]
 | p::r,d=>if ig d p.o then fi cf r d else (p.o,p.s,cf p.o p.s)::fi cf r (if cf p.o p.s then orD d p.o else d)
def iV (B:List Br) (cf:Int→Int→Bool):BT→Int→List (tv×Int)
 | .stop,_=>[]
 | .node _ _ _ y n,k=>
  let b:=B.getD k.toNat default
  if cf b.o b.s then ((b.o,b.s,true),b.y)::iV B cf y b.y else ((b.o,b.s,false),b.n)::iV B cf n b.n
theorem ls {B:List Br} (cf:Int→Int→Bool):∀ (l:List Pl) (d k:Int),rep B (G l d) k→(iV B cf (G l d) k).map (·.1)=fi cf l d
 | [],d,k,_=>rfl
 | p::r,d,k,h=>by
  simp only [G,fi] at h ⊢
  cases hb:ig d p.o with
  | true=>simp only [hb,if_true] at h ⊢; exact ls cf r d k h
  | false=>
   simp only [hb,Bool.false_eq_true,if_false] at h ⊢
   obtain ⟨ky,kn,h1,h2,h3,h4⟩:=h
   have hbk:B.getD k.toNat default=⟨p.a,p.o,p.s,ky,kn⟩:=by rw [List.getD_eq_getElem?_getD,h4]; rfl
   simp only [iV,hbk]
   cases hc:cf p.o p.s with
   | true=>simp only [if_true,List.map_cons]; rw [ls cf r _ ky h1]
   | false=>simp only [Bool.false_eq_true,if_false,List.map_cons]; rw [ls cf r _ kn h2]
def pF (cf:Int→Int→Bool):List Pl→Bool→List tv
 | [],_=>[]
 | _::_,true=>[]
 | p::r,false=>(p.o,p.s,cf p.o p.s)::pF cf r (cf p.o p.s)
theorem mL (cf:Int→Int→Bool) (l:List Pl):pF cf l true=[]:=by cases l <;> rfl
theorem nB (cf:Int→Int→Bool) (i:Int) (hi:0≤i):∀ (l:List Pl) (d:Int),(∀ p∈l,0≤p.o)→(fi cf l d).filter (fun x=>x.1==i)=pF cf (l.filter fun p=>p.o==i) (ig d i)
 | [],_,_=>rfl
 | p::r,d,h=>by
  have hp:=h p List.mem_cons_self
  have ih:=fun d=>nB cf i hi r d fun q hq=>h q (List.mem_cons_of_mem _ hq)
  simp only [fi]
  by_cases hpi:p.o=i
  ·have e1:(p::r).filter (fun p=>p.o==i)=p::r.filter fun p=>p.o==i:=List.filter_cons_of_pos (by simpa using hpi)
   rw [e1]
   cases hb:ig d p.o with
   | true=>
    simp only [if_true]
    rw [ih d,← hpi,hb,mL,mL]
   | false=>
    simp only [Bool.false_eq_true,if_false]
    rw [List.filter_cons_of_pos (by simpa using hpi),ih,← hpi,hb]
    simp only [pF]
    congr 1
    cases hc:cf p.o p.s with
    | true=>simp only [if_true]; rw [oc _ _ _ hp hp]; simp
    | false=>simp only [Bool.false_eq_true,if_false]; rw [hb]
  ·have e1:(p::r).filter (fun p=>p.o==i)=r.filter fun p=>p.o==i:=List.filter_cons_of_neg (by simpa using hpi)
   rw [e1]
   cases hb:ig d p.o with
   | true=>simp only [if_true]; exact ih d
   | false=>
    simp only [Bool.false_eq_true,if_false]
    rw [List.filter_cons_of_neg (by simpa using hpi),ih]
    congr 1
    cases hc:cf p.o p.s with
    | true=>simp only [if_true]; rw [oc _ _ _ hp hi,decide_eq_false (fun e=>hpi e.symm),Bool.or_false]
    | false=>simp only [Bool.false_eq_true,if_false]
theorem mM (cf:Int→Int→Bool):∀ (l:List Pl) (d:Int),∀ x∈fi cf l d,∃ p∈l,x.1=p.o
 | [],_,_,h=>by simp [fi] at h
 | p::r,d,x,h=>by
  simp only [fi] at h
  split at h
  ·obtain ⟨q,h1,h2⟩:=mM cf r d x h
   exact ⟨q,List.mem_cons_of_mem _ h1,h2⟩
  ·rcases List.mem_cons.1 h with rfl | h
   ·exact ⟨p,List.mem_cons_self,rfl⟩
   ·obtain ⟨q,h1,h2⟩:=mM cf r _ x h
    exact ⟨q,List.mem_cons_of_mem _ h1,h2⟩
theorem tQ (n:Nat):∀ (l:List tv),(∀ x∈l,0≤x.1∧x.1<n)→((List.range n).map fun (i:Nat)=>(l.filter fun x=>x.1==(i:Int)).length).sum=l.length
 | [],_=>by
  have key:∀ k:Nat,((List.range k).map fun (_:Nat)=>0).sum=0:=fun k=>by
   induction k with
   | zero=>rfl
   | succ k ih=>rw [List.range_succ,List.map_append,List.sum_append,ih]; rfl
  exact key n
 | x::r,h=>by
  have hx:=h x List.mem_cons_self
  have ih:=tQ n r fun y hy=>h y (List.mem_cons_of_mem _ hy)
  have key:∀ k:Nat,((List.range k).map fun (i:Nat)=>((x::r).filter fun x=>x.1==(i:Int)).length).sum=((List.range k).map fun (i:Nat)=>(r.filter fun x=>x.1==(i:Int)).length).sum+(if x.1<k then 1 else 0):=by
   intro k
   induction k with
   | zero=>simp; omega
   | succ k ihk=>
    rw [List.range_succ,List.map_append,List.map_append,List.sum_append,List.sum_append,ihk]
    simp only [List.map_cons,List.map_nil,List.sum_cons,List.sum_nil,Nat.add_zero]
    by_cases hk:x.1=k
    ·rw [List.filter_cons_of_pos (by simpa using hk),if_neg (by omega),if_pos (by omega),List.length_cons]; omega
    ·rw [List.filter_cons_of_neg (by simpa using hk)]
     by_cases h2:x.1<k
     ·rw [if_pos h2,if_pos (by omega)]; omega
     ·rw [if_neg h2,if_neg (by omega)]; omega
  rw [key n,ih,if_pos hx.2,List.length_cons]
end Go.Proofs
namespace Go.Proofs
open Go Go.AI
set_option maxRecDepth 10000
def brA (b:Br):List AV:=[.int .i64 b.a,.int .i64 b.o,.int .i64 b.s,.int .i64 b.y,.int .i64 b.n]
def brK (b:Br):List Int:=[b.a,b.o,b.s,b.y,b.n]
def eh (m:Met):List (List Int×AV):=m.map fun p=>(p.1,.int .i64 p.2)
def d8:Nat→List Br→Met
 | _,[]=>[]
 | i,b::r=>(brK b,(i:Int))::d8 (i+1) r
theorem jl (k:List Int):∀ m:Met,jP k (eh m)=(gU k m).map (AV.int .i64)
 | []=>rfl
 | p::r=>by
  have ih:=jl k r
  simp only [eh,List.map_cons,jP,gU] at ih ⊢
  split
  ·rfl
  ·exact ih
theorem fu (k:List Int) (v:Int):∀ m:Met,dZ k (.int .i64 v) (eh m)=eh (qc k v m)
 | []=>rfl
 | p::r=>by
  have ih:=fu k v r
  simp only [eh,List.map_cons,dZ,qc] at ih ⊢
  split
  ·rfl
  ·rw [ih]; rfl
theorem Ch {b c:Br} (h:brK b=brK c):b=c:=by
 cases b; cases c
 simp only [brK,List.cons.injEq,and_true] at h
 simp only [Br.mk.injEq]
 exact h
theorem rR (b:Br):∀ (S:List Br) (i:Nat),gU (brK b) (d8 i S)=(ixB b S i).map fun k=>(k:Int)
 | [],_=>rfl
 | c::r,i=>by
  simp only [d8,gU,ixB]
  by_cases h:c=b
  ·rw [if_pos (by rw [h]),if_pos h]; rfl
  ·rw [if_neg (fun e=>h (Ch e)),if_neg h]; exact rR b r (i+1)
theorem qG (b:Br):∀ (S:List Br) (i:Nat),ixB b S i=none→qc (brK b) ((i+S.length:Nat):Int) (d8 i S)=d8 i (S++[b])
 | [],i,_=>by simp [qc,d8]
 | c::r,i,h=>by
  simp only [ixB] at h
  by_cases e:c=b
  ·rw [if_pos e] at h; cases h
  ·rw [if_neg e] at h
   have ih:=qG b r (i+1) h
   simp only [d8,qc,List.cons_append,List.length_cons]
   rw [if_neg (fun x=>e (Ch x)),← ih]
   congr 3; omega
theorem AE (S:List Br) (i:Nat):∀ p∈eh (d8 i S),p.1.length=5:=by
 induction S generalizing i with
 | nil=>intro p hp; cases hp
 | cons b r ih=>
  intro p hp
  simp only [d8,eh,List.map_cons,List.mem_cons] at hp
  rcases hp with rfl | hp
  ·rfl
  ·exact ih (i+1) p hp
def LB (bg bk:Nat) (start:Int) (S:List Br):List (Nat×AV):=[(5002000,.me .box 5002000 bg [[.int .i64 start,.sl (.id 5004000) 5 (S.map brA),.lit (.map (some bk))]]),(5003000,.me .ents 5003000 bk (d3 true (eh (d8 0 S))))]
set_option maxHeartbeats 2000000 in
theorem qa (b:Br) (S:List Br) (bg bk:Nat) (start:Int) (hS:S.length≤100000):bD Tryz.prog 30 [5002000,5003000] [5004000] [.pin 5002000 bg 0 [],.agg (brA b)] (LB bg bk start S) (.int .i64 (bw b S).1) (LB bg bk start (bw b S).2):=by
 have hg:=jl (brK b) (d8 0 S)
 rw [rR] at hg
 have hkl:=AE S 0
 unfold bw
 cases hx:ixB b S 0 with
 | some k=>
  rw [hx] at hg
  simp only
  refine ECQ.ofB aa Tryz.func30 rfl (by kernel_rfl) af (Nat.le_of_ble_eq_true rfl) ?_
  intro F n' w0 m0 hG hro h1
  repeat' first|refine QE rfl hG aa pZ [] ?_|((conv=>whnf); first|refine anF ?_|refine anT ?_|refine anK ?_|refine Exists.intro 5003000 (Exists.intro (eh (d8 0 S)) (Exists.intro (brK b) (Exists.intro _ (And.intro (And.intro rfl (And.intro rfl (And.intro rfl (And.intro hkl hg)))) ?_))))|refine And.intro (fun h=>?_) (fun h=>?_)|refine Or.inl ?_)
  all_goals refine iO.mk (Or.inl rfl) (Exists.intro _ (Exists.intro _ (And.intro (And.intro rfl rfl) (And.intro (Or.inl (ac rfl)) (And.intro (by kernel_rfl) (by kernel_rfl))))))
 | none=>
  rw [hx] at hg
  simp only
  have e1:(S++[b]).map brA=S.map brA++[brA b]:=by simp
  have e2:dZ (brK b) (.int .i64 ((S.map brA).length:Nat)) (eh (d8 0 S))=eh (d8 0 (S++[b])):=by
   have:=qG b S 0 hx
   rw [fu,← this,List.length_map,Nat.zero_add]
  have n1:(S.map brA).length=S.length:=List.length_map _
  have e3:(S.length:Int)=((S.map brA).length:Nat):=by rw [n1]
  unfold LB
  rw [e1,← e2,e3]
  refine ECQ.ofB aa Tryz.func30 rfl (by kernel_rfl) af (Nat.le_of_ble_eq_true rfl) ?_
  intro F n' w0 m0 hG hro h1
  repeat' first|refine QE rfl hG aa pZ [] ?_|((conv=>whnf); first|refine anF ?_|refine anT ?_|refine anK ?_|refine Exists.intro 5003000 (Exists.intro (eh (d8 0 S)) (Exists.intro (brK b) (Exists.intro _ (And.intro (And.intro rfl (And.intro rfl (And.intro rfl (And.intro hkl hg)))) ?_))))|refine Exists.intro 5003000 (Exists.intro (eh (d8 0 S)) (Exists.intro (brK b) (And.intro (And.intro rfl (And.intro rfl (And.intro rfl hkl))) ?_)))|refine And.intro (show ((S.map brA).length+1)*40≤70368744177664 by omega) (And.intro (show (S.map brA).length+1≤4611686018427387904 by omega) ?_)|refine And.intro (fun h=>?_) (fun h=>?_)|refine Or.inl ?_)
  all_goals refine iO.mk (Or.inl rfl) (Exists.intro _ (Exists.intro _ (And.intro (And.intro rfl rfl) (And.intro (Or.inl (ac rfl)) (And.intro (by kernel_rfl) (by kernel_rfl))))))
theorem sP:ECQ Tryz.prog 28 [5002000,5003000] [5004000] [] [] (fun r L'=>∃ bg bk,r = .pin 5002000 bg 0 []∧L'=LB bg bk 0 []):=by
 refine ECQ.ofB aa Tryz.func28 rfl (by kernel_rfl) af (Nat.le_of_ble_eq_true rfl) ?_
 intro F n' w0 m0 hG hro h1
 repeat' first|refine Q1 ?_|refine Q2 ?_|refine SPB.drawE hG aa p8 [] (by kernel_rfl) ?_|refine SPB.regE hG aa p8 [] (by kernel_rfl) ?_|refine Q5 hG aa ?_|refine Q6 hG aa ?_|refine Q8 hG aa ?_|refine Q9 rfl ?_|refine QF rfl ?_|refine QC rfl ⟨fun h=>?_,fun h=>?_⟩|((conv=>whnf); first|refine anF ?_|refine anT ?_|refine anK ?_|refine fun bk=>?_|refine And.intro (fun h=>?_) (fun h=>?_)|refine Or.inl ?_)
 conv=>whnf
 refine SPB.ownBox 3 1 5004000 5 rfl rfl ?_
 conv=>whnf
 refine SPB.reX 1 5003000 (by kernel_rfl) rfl ?_
 refine SPB.pin 3 5002000 rfl rfl rfl (fun bg=>?_)
 refine Q7 hG aa ?_
 refine iO.mk (Or.inl rfl) (Exists.intro (.pin 5002000 bg 0 []) (Exists.intro (LB bg bk 0 []) (And.intro (Exists.intro bg (Exists.intro bk (And.intro rfl rfl))) (And.intro (Or.inl (ac rfl)) (And.intro (by kernel_rfl) (by kernel_rfl))))))
end Go.Proofs
namespace Go.Proofs
open Go Go.AI
set_option maxRecDepth 10000
def plA (p:Pl):List AV:=[.int .i64 p.o,.int .i64 p.s,.int .i64 p.a,.int .i64 p.b]
def IW (l:List Pl):AV := .sl .no 4 (l.map plA)
theorem ng {n:Nat} (h:n<2 ^ 63):IntKind.i64.wrap (n:Int)=(n:Int):=am (by omega) (by omega)
theorem jc {n:Nat} (h:n<2 ^ 64):(BitVec.ofInt 64 (n:Int)).toNat=n:=by rw [BitVec.ofInt_natCast,BitVec.toNat_ofNat,Nat.mod_eq_of_lt h]
theorem Ci {d o:Int} (h0:0≤d) (h1:d<256) (h2:0≤o) (h3:o<8):(eq .and .i64 (d.fdiv (2 ^ (min o.toNat IntKind.i64.bits))) 1==1)=ig d o:=by
 obtain ⟨n,rfl⟩:=Int.eq_ofNat_of_zero_le h0
 obtain ⟨k,rfl⟩:=Int.eq_ofNat_of_zero_le h2
 have hk:min ((k:Int).toNat) IntKind.i64.bits=k:=by rw [Int.toNat_natCast]; exact Nat.min_eq_left (show k≤64 by omega)
 have hd:((n:Int).fdiv (2 ^ k))=((n / 2 ^ k:Nat):Int):=by
  rw [show (2:Int) ^ k=((2 ^ k:Nat):Int) by simp,Int.fdiv_eq_ediv_of_nonneg _ (Int.natCast_nonneg _)]
  simp
 have hq:n / 2 ^ k≤n:=Nat.div_le_self _ _
 show (eq .and .i64 ((n:Int).fdiv (2 ^ (min (k:Int).toNat IntKind.i64.bits))) 1==1)=_
 rw [hk,hd]
 have e:eq .and .i64 ((n / 2 ^ k:Nat):Int) 1=((n / 2 ^ k % 2:Nat):Int):=by
  show IntKind.i64.wrap (((BitVec.ofInt 64 ((n / 2 ^ k:Nat):Int) &&& BitVec.ofInt 64 1).toNat:Nat):Int)=_
  rw [BitVec.toNat_and,jc (by omega),show (BitVec.ofInt 64 1).toNat=1 from rfl,Nat.and_one_is_mod]
  exact ng (by omega)
 rw [e]
 unfold ig
 rw [Int.toNat_natCast,Int.toNat_natCast,Nat.testBit_eq_decide_div_mod_eq]
 rcases Nat.mod_two_eq_zero_or_one (n / 2 ^ k) with h | h <;> simp [h]
theorem Is {d o:Int} (h0:0≤d) (h1:d<256) (h2:0≤o) (h3:o<8):eq .or .i64 d (IntKind.i64.wrap (1*2 ^ (min o.toNat IntKind.i64.bits)))=orD d o:=by
 obtain ⟨n,rfl⟩:=Int.eq_ofNat_of_zero_le h0
 obtain ⟨k,rfl⟩:=Int.eq_ofNat_of_zero_le h2
 have hk:min ((k:Int).toNat) IntKind.i64.bits=k:=by rw [Int.toNat_natCast]; exact Nat.min_eq_left (show k≤64 by omega)
 show eq .or .i64 (n:Int) (IntKind.i64.wrap (1*2 ^ (min (k:Int).toNat IntKind.i64.bits)))=_
 have hp:2 ^ k≤128:=by
  have:=Nat.pow_le_pow_right (n:=2) (by omega) (show k≤7 by omega)
  omega
 rw [hk,Int.one_mul,show (2:Int) ^ k=((2 ^ k:Nat):Int) by simp,ng (by omega)]
 show IntKind.i64.wrap (((BitVec.ofInt 64 (n:Int) ||| BitVec.ofInt 64 ((2 ^ k:Nat):Int)).toNat:Nat):Int)=_
 rw [BitVec.toNat_or,jc (by omega),jc (by omega)]
 have hlt:n ||| 2 ^ k<2 ^ 8:=Nat.or_lt_two_pow (by omega) (by omega)
 rw [ng (by omega)]
 unfold orD
 rw [Int.toNat_natCast,Int.toNat_natCast,Nat.one_shiftLeft]
theorem Hl {d o:Int} (h0:0≤d) (h1:d<256) (h2:0≤o) (h3:o<8):orD d o<256:=ES (m:=8) h0 h1 h2 h3
theorem jh:∀ (l:List Pl) (i:Nat) (d:Int) (m:Met) (S:List Br),(bn l i d m S).2.2.length+1≤S.length+2 ^ l.length
 | [],i,d,m,S=>by simp [bn]
 | p::r,i,d,m,S=>by
  have h2:2 ^ (p::r).length=2 ^ r.length+2 ^ r.length:=by rw [List.length_cons,Nat.pow_succ]; omega
  have hp:0<2 ^ r.length:=Nat.two_pow_pos _
  rw [h2]
  simp only [bn]
  split
  ·have:=jh r (i+1) d m S; omega
  ·split
   ·simp only; omega
   ·simp only
    have a1:=jh r (i+1) d m S
    have a2:=jh r (i+1) (orD d p.o) (bn r (i+1) d m S).2.1 (bn r (i+1) d m S).2.2
    have a3:=pQ ⟨p.a,p.o,p.s,(bn r (i+1) (orD d p.o) (bn r (i+1) d m S).2.1 (bn r (i+1) d m S).2.2).1,(bn r (i+1) d m S).1⟩ (bn r (i+1) (orD d p.o) (bn r (i+1) d m S).2.1 (bn r (i+1) d m S).2.2).2.2
    omega
def wH (n:Nat) (m:Met):Prop:=∀ p∈eh m,p.1.length=n
theorem wH.upd {n:Nat} {m:Met} (h:wH n m) {k:List Int} {v:Int} (hk:k.length=n):wH n (qc k v m):=by
 intro p hp
 rw [← fu] at hp
 rcases ni hp with rfl | hp
 ·exact hk
 ·exact h p hp
theorem jg:∀ (l:List Pl) (i:Nat) (d:Int) (m:Met) (S:List Br),wH 2 m→wH 2 (bn l i d m S).2.1
 | [],i,d,m,S,h=>h
 | p::r,i,d,m,S,h=>by
  simp only [bn]
  split
  ·exact jg r (i+1) d m S h
  ·split
   ·exact h
   ·exact (jg r _ _ _ _ (jg r _ _ _ _ h)).upd rfl
theorem o6 (k:List Int) (v:AV):∀ l:List (List Int×AV),jP k (dZ k v l)=some v
 | []=>by simp [dZ,jP]
 |(j,u)::r=>by
  simp only [dZ]
  split
  ·simp [jP]
  ·rename_i h
   simp only [jP,if_neg h]
   exact o6 k v r
def Fq (all:List Pl) (bm bG bg:Nat):List AV:=[.ref [IW all],.ref [.lit (.map (some bm))],.pin 5000000 bG 0 [],.ref [.pin 5002000 bg 0 []]]
def LG (all:List Pl) (bm bG bg bk:Nat) (m:Met) (S:List Br):List (Nat×AV):=(5000000,.me .box 5000000 bG [[.clo 29 (Fq all bm bG bg)]])::(5001000,.me .ents 5001000 bm (d3 true (eh m)))::LB bg bk 0 S
theorem Dh {all:List Pl} {x:Nat} (h:x<all.length):all.drop x=all.getD x default::all.drop (x+1):=by
 rw [List.drop_eq_getElem_cons h,List.getD_eq_getElem?_getD,List.getElem?_eq_getElem h]; rfl
set_option maxHeartbeats 16000000 in
theorem D2 (all:List Pl) (bm bG bg bk:Nat) (ha:all.length≤16) (hb:∀ p∈all,0≤p.o∧p.o<8):∀ (n i:Nat) (d:Int) (m:Met) (S:List Br),all.length - i≤n→i≤all.length→0≤d→d<256→wH 2 m→S.length+2 ^ (all.drop i).length≤100000 →
  bD Tryz.prog 29 [5000000,5001000,5002000,5003000] [5004000] (.agg [.int .i64 i,.int .i64 d]::Fq all bm bG bg) (LG all bm bG bg bk m S) (.int .i64 (bn (all.drop i) i d m S).1) (LG all bm bG bg bk (bn (all.drop i) i d m S).2.1 (bn (all.drop i) i d m S).2.2):=by
 intro n
 induction n using Nat.strongRecOn with
 | _ n ih=>
  intro i d m S hn hi d0 d1 hM hS
  refine ECQ.ofB aa Tryz.func29 rfl (by kernel_rfl) af (Nat.le_of_ble_eq_true rfl) ?_
  intro F n' w0 m0 hG hro h1
  repeat' first|refine QE rfl hG aa fT [59,71,85] ?_|((conv=>whnf); first|refine anF ?_|refine anT ?_|refine anK ?_|refine And.intro (fun h=>?_) (fun h=>?_)|refine Or.inl ?_)
  refine ar (X:=Nat) (fun x=>⟨[(6,.int .i64 0),(5,.loc 5 0),(1,.ref [IW all]),(2,.ref [.lit (.map (some bm))]),(3,.pin 5000000 bG 0 []),(4,.ref [.pin 5002000 bg 0 []]),(xk 5000000,.me .box 5000000 bG [[.clo 29 (Fq all bm bG bg)]]),(xk 5001000,.me .ents 5001000 bm (d3 true (eh m))),(xk 5002000,.me .box 5002000 bg [[.int .i64 0,.sl (.id 5004000) 5 (S.map brA),.lit (.map (some bk))]]),(xk 5003000,.me .ents 5003000 bk (d3 true (eh (d8 0 S))))],[(5,[.int .i64 x,.int .i64 d])]⟩) (fun x=>i≤x∧x≤all.length∧bn (all.drop x) x d m S=bn (all.drop i) i d m S) (fun x=>all.length - x) i ⟨Nat.le_refl _,hi,rfl⟩ (ai ?_ ?_) (fun x hx=>?_)
  ·repeat' (first | exact trivial | refine And.intro rfl ?_)
  ·repeat' (first | exact trivial | refine And.intro rfl ?_)
  ·obtain ⟨hx1,hx2,hx3⟩:=hx
   by_cases hlt:x<all.length
   ·have hdr:=Dh hlt
    have hpo:0≤(all.getD x default).o∧(all.getD x default).o<8:=hb _ (by rw [List.getD_eq_getElem?_getD,List.getElem?_eq_getElem hlt]; exact List.getElem_mem hlt)
    have hxi:(all.map plA)[(x:Int).toNat]?=some (plA (all.getD x default)):=by simp [List.getElem?_eq_getElem hlt]
    have hop:=hpo.1
    have bb1:decide ((x:Int)<((all.map plA).length:Int))=false→False:=fun h=>by have:=of_decide_eq_false h; simp at this; omega
    have bb2:((x:Int)==((all.map plA).length:Int))=true→False:=fun h=>by have:=eq_of_beq h; simp at this; omega
    have hraw:=Ci d0 d1 hpo.1 hpo.2
    rw [hdr] at hx3
    generalize hp:all.getD x default=p at *
    have hpl:plA p=[.int .i64 p.o,.int .i64 p.s,.int .i64 p.a,.int .i64 p.b]:=rfl
    cases hbit:ig d p.o with
    | true=>
     have bb3:(eq .and .i64 (d.fdiv (2 ^ (min p.o.toNat IntKind.i64.bits))) 1==1)=false→False:=fun h=>by rw [hraw,hbit] at h; cases h
     simp only [bn,hbit,if_true] at hx3
     repeat' first|exact (bb1 (by assumption)).elim|exact (bb3 (by assumption)).elim|refine QE rfl hG aa fT [59,71,85] ?_|((conv=>whnf); first|refine anF ?_|refine anT ?_|refine anK ?_|refine And.intro (Int.natCast_nonneg x) (Exists.intro _ (And.intro hxi ?_))|refine And.intro hop ?_|refine And.intro (fun h=>?_) (fun h=>?_)|refine Or.inl ?_)
     all_goals refine Exists.intro (x+1) (And.intro ⟨by omega,by omega,hx3⟩ (And.intro (by omega) (ai ?_ ?_)))
     ·repeat' (first | exact trivial | refine And.intro rfl ?_)
     ·refine And.intro (congrArg some ?_) ?_
      ·exact congrArg (fun z=>[z,AV.int .i64 d]) (aq (by omega))
      ·repeat' (first | exact trivial | refine And.intro rfl ?_)
    | false=>
     have bb3:(eq .and .i64 (d.fdiv (2 ^ (min p.o.toNat IntKind.i64.bits))) 1==1)=true→False:=fun h=>by rw [hraw,hbit] at h; cases h
     simp only [bn,hbit,Bool.false_eq_true,if_false] at hx3
     have hmg:=jl [(x:Int),d] m
     cases hgm:gU [(x:Int),d] m with
     | some v=>
      rw [hgm] at hx3 hmg
      repeat' first|exact (bb1 (by assumption)).elim|exact (bb2 (by assumption)).elim|exact (bb3 (by assumption)).elim|refine QE rfl hG aa fT [59,71,85] ?_|((conv=>whnf); first|refine anF ?_|refine anT ?_|refine anK ?_|refine Exists.intro 5001000 (Exists.intro (eh m) (Exists.intro [(x:Int),d] (Exists.intro _ (And.intro (And.intro rfl (And.intro rfl (And.intro rfl (And.intro hM hmg)))) ?_))))|refine And.intro (Int.natCast_nonneg x) (Exists.intro _ (And.intro hxi ?_))|refine And.intro hop ?_|refine And.intro (fun h=>?_) (fun h=>?_)|refine Or.inl ?_)
      all_goals refine iO.mk (Or.inl rfl) (Exists.intro (.int .i64 v) (Exists.intro (LG all bm bG bg bk m S) (And.intro (And.intro (by rw [← hx3]) (by rw [← hx3])) (And.intro (Or.inl (ac rfl)) (And.intro (by kernel_rfl) (by kernel_rfl))))))
     | none=>
      rw [hgm] at hx3 hmg
      have hw:IntKind.i64.wrap ((x:Int)+1)=((x+1:Nat):Int):=(am (by omega) (by omega)).trans (by omega)
      have hlen:(all.drop x).length=(all.drop (x+1)).length+1:=by rw [hdr]; rfl
      have hle:(all.drop x).length≤(all.drop i).length:=by simp only [List.length_drop]; omega
      have hpw:2 ^ (all.drop (x+1)).length+2 ^ (all.drop (x+1)).length≤2 ^ (all.drop i).length:=by
       have:=Nat.pow_le_pow_right (n:=2) (by omega) hle
       rw [hlen,Nat.pow_succ] at this; omega
      have hq0:=Nat.two_pow_pos (all.drop (x+1)).length
      have c1:=ih (all.length - (x+1)) (by omega) (x+1) d m S (Nat.le_refl _) (by omega) d0 d1 hM (by omega)
      have g1:=jh (all.drop (x+1)) (x+1) d m S
      have m1:=jg (all.drop (x+1)) (x+1) d m S hM
      generalize bn (all.drop (x+1)) (x+1) d m S=u at *
      have c2:=ih (all.length - (x+1)) (by omega) (x+1) (orD d p.o) u.2.1 u.2.2 (Nat.le_refl _) (by omega) (rh _ _) (Hl d0 d1 hpo.1 hpo.2) m1 (by omega)
      have g2:=jh (all.drop (x+1)) (x+1) (orD d p.o) u.2.1 u.2.2
      have m2:=jg (all.drop (x+1)) (x+1) (orD d p.o) u.2.1 u.2.2 m1
      generalize bn (all.drop (x+1)) (x+1) (orD d p.o) u.2.1 u.2.2=z at *
      rw [← Is d0 d1 hpo.1 hpo.2,← hw] at c2
      rw [← hw] at c1
      have c3:=qa ⟨p.a,p.o,p.s,z.1,u.1⟩ z.2.2 bg bk 0 (by omega)
      generalize bw ⟨p.a,p.o,p.s,z.1,u.1⟩ z.2.2=q at *
      have m3:∀ y∈dZ [(x:Int),d] (AV.int .i64 q.1) (eh z.2.1),y.1.length=2:=by rw [fu]; exact m2.upd rfl
      have g3:=o6 [(x:Int),d] (.int .i64 q.1) (eh z.2.1)
      repeat' first|exact (bb1 (by assumption)).elim|exact (bb2 (by assumption)).elim|exact (bb3 (by assumption)).elim|refine QE rfl hG aa fT [59,71,85] ?_|((conv=>whnf); first|refine anF ?_|refine anT ?_|refine anK ?_|refine Exists.intro 5001000 (Exists.intro (eh m) (Exists.intro [(x:Int),d] (Exists.intro _ (And.intro (And.intro rfl (And.intro rfl (And.intro rfl (And.intro hM hmg)))) ?_))))|refine Exists.intro 5001000 (Exists.intro (dZ [(x:Int),d] (AV.int .i64 q.1) (eh z.2.1)) (Exists.intro [(x:Int),d] (Exists.intro _ (And.intro (And.intro rfl (And.intro rfl (And.intro rfl (And.intro m3 g3)))) ?_))))|refine Exists.intro 5001000 (Exists.intro (eh z.2.1) (Exists.intro [(x:Int),d] (And.intro (And.intro rfl (And.intro rfl (And.intro rfl m2))) ?_)))|refine Exists.intro _ (Exists.intro _ (Exists.intro _ (Exists.intro _ (Exists.intro _ (And.intro (And.intro (by kernel_rfl) (And.intro (by kernel_rfl) (c1))) ?_)))))|refine Exists.intro _ (Exists.intro _ (Exists.intro _ (Exists.intro _ (Exists.intro _ (And.intro (And.intro (by kernel_rfl) (And.intro (by kernel_rfl) (c2))) ?_)))))|refine Exists.intro _ (Exists.intro _ (Exists.intro _ (Exists.intro _ (Exists.intro _ (And.intro (And.intro (by kernel_rfl) (And.intro (by kernel_rfl) (c3))) ?_)))))|refine And.intro (Int.natCast_nonneg x) (Exists.intro _ (And.intro hxi ?_))|refine And.intro hop ?_|refine And.intro (fun h=>?_) (fun h=>?_)|refine Or.inl ?_)
      all_goals refine iO.mk (Or.inl rfl) (Exists.intro (.int .i64 q.1) (Exists.intro ((5000000,.me .box 5000000 bG [[.clo 29 (Fq all bm bG bg)]])::(5001000,.me .ents 5001000 bm (d3 true (dZ [(x:Int),d] (.int .i64 q.1) (eh z.2.1))))::LB bg bk 0 q.2) (And.intro (And.intro (by rw [← hx3]) (by rw [← hx3,fu]; rfl)) (And.intro (Or.inl (ac rfl)) (And.intro (by kernel_rfl) (by kernel_rfl))))))
   ·have hxe:x=all.length:=by omega
    have bb1:decide ((x:Int)<((all.map plA).length:Int))=true→False:=fun h=>by have:=of_decide_eq_true h; simp at this; omega
    have bb2:((x:Int)==((all.map plA).length:Int))=false→False:=fun h=>by simp at h; omega
    have hdr:all.drop x=[]:=List.drop_of_length_le (by omega)
    rw [hdr] at hx3
    simp only [bn] at hx3
    repeat' first|exact (bb1 (by assumption)).elim|exact (bb2 (by assumption)).elim|refine QE rfl hG aa fT [59,71,85] ?_|((conv=>whnf); first|refine anF ?_|refine anT ?_|refine anK ?_|refine And.intro (fun h=>?_) (fun h=>?_)|refine Or.inl ?_)
    all_goals refine iO.mk (Or.inl rfl) (Exists.intro (.int .i64 (-1)) (Exists.intro (LG all bm bG bg bk m S) (And.intro (And.intro (by rw [← hx3]) (by rw [← hx3])) (And.intro (Or.inl (ac rfl)) (And.intro (by kernel_rfl) (by kernel_rfl))))))
end Go.Proofs
namespace Go.Proofs
open Go Go.AI
set_option maxRecDepth 10000
def eK (st:Int) (B:List Br):List AV:=[.int .i64 st,.sl .no 5 (B.map brA)]
def tsz:BT→Nat
 | .stop=>1
 | .node _ _ _ y n=>tsz y+tsz n
theorem jv:∀ t:BT,0<tsz t
 | .stop=>Nat.one_pos
 | .node _ _ _ y n=>by have:=jv y; simp only [tsz]; omega
theorem Bu:∀ (l:List Pl) (d:Int),tsz (G l d)≤2 ^ l.length
 | [],_=>by simp [G,tsz]
 | p::r,d=>by
  have h2:2 ^ (p::r).length=2 ^ r.length+2 ^ r.length:=by rw [List.length_cons,Nat.pow_succ]; omega
  rw [h2]
  simp only [G]
  split
  ·have:=Bu r d; omega
  ·have a:=Bu r d; have b:=Bu r (orD d p.o); simp only [tsz]; omega
theorem lD (B:List Br):∀ (t:BT) (k:Int) (m:Met) (S:List Br),(bq B t k m S).2.2.length+1≤S.length+tsz t
 | .stop,k,m,S=>by unfold bq; split <;> simp [tsz]
 | .node a o s y n,k,m,S=>by
  have p1:=jv y
  have p2:=jv n
  unfold bq
  split
  ·simp only [tsz]; omega
  ·simp only [tsz]
   have a1:=lD B n (B.getD k.toNat default).n m S
   have a2:=lD B y (B.getD k.toNat default).y (bq B n (B.getD k.toNat default).n m S).2.1 (bq B n (B.getD k.toNat default).n m S).2.2
   have a3:=fun b=>pQ b (bq B y (B.getD k.toNat default).y (bq B n (B.getD k.toNat default).n m S).2.1 (bq B n (B.getD k.toNat default).n m S).2.2).2.2
   have a4:=a3 ⟨(B.getD k.toNat default).a,(B.getD k.toNat default).o,(B.getD k.toNat default).s,(bq B y (B.getD k.toNat default).y (bq B n (B.getD k.toNat default).n m S).2.1 (bq B n (B.getD k.toNat default).n m S).2.2).1,(bq B n (B.getD k.toNat default).n m S).1⟩
   omega
theorem lC (B:List Br):∀ (t:BT) (k:Int) (m:Met) (S:List Br),wH 1 m→wH 1 (bq B t k m S).2.1
 | .stop,k,m,S,h=>by unfold bq; split <;> exact h
 | .node a o s y n,k,m,S,h=>by
  unfold bq
  split
  ·exact h
  ·exact (lC B y _ _ _ (lC B n _ _ _ h)).upd rfl
theorem rA (B:List Br):∀ (t:BT) (k:Int) (m:Met) (S:List Br),rep B t k→gU [-1] m=some (-1)→gU [-1] (bq B t k m S).2.1=some (-1)
 | .stop,k,m,S,_,h=>by unfold bq; split <;> exact h
 | .node a o s y n,k,m,S,hr,h=>by
  obtain ⟨ky,kn,h1,h2,h3,h4⟩:=hr
  have hb:B.getD k.toNat default=⟨a,o,s,ky,kn⟩:=by rw [List.getD_eq_getElem?_getD,h4]; rfl
  unfold bq
  split
  ·exact h
  ·simp only [hb]
   rw [jk,if_neg (fun e=>by simp only [List.cons.injEq,and_true] at e; omega)]
   exact rA B y _ _ _ h1 (rA B n _ _ _ h2 h)
def Iy (st:Int) (B:List Br) (bm bG bg:Nat):List AV:=[.ref [.lit (.map (some bm))],.ref (eK st B),.pin 5000000 bG 0 [],.ref [.pin 5002000 bg 0 []]]
def LH (st:Int) (B:List Br) (bm bG bg bk:Nat) (m:Met) (S:List Br):List (Nat×AV):=(5000000,.me .box 5000000 bG [[.clo 110 (Iy st B bm bG bg)]])::(5001000,.me .ents 5001000 bm (d3 false (eh m)))::LB bg bk 0 S
set_option maxHeartbeats 8000000 in
theorem D6 (st:Int) (B:List Br) (bm bG bg bk:Nat) (hB:B.length≤100000):∀ (t:BT) (k:Int) (m:Met) (S:List Br),rep B t k→gU [-1] m=some (-1)→wH 1 m→S.length+tsz t≤100000 →
  bD Tryz.prog 110 [5000000,5001000,5002000,5003000] [5004000] (.int .i64 k::Iy st B bm bG bg) (LH st B bm bG bg bk m S) (.int .i64 (bq B t k m S).1) (LH st B bm bG bg bk (bq B t k m S).2.1 (bq B t k m S).2.2):=by
 intro t
 induction t with
 | stop=>
  intro k m S hr hm1 hM hS
  have hk:k = -1:=hr
  subst hk
  have hmg:=jl [(-1:Int)] m
  unfold bq
  rw [hm1] at hmg ⊢
  refine ECQ.ofB aa Tryz.func110 rfl (by kernel_rfl) af (Nat.le_of_ble_eq_true rfl) ?_
  intro F n' w0 m0 hG hro h1
  repeat' first|refine QE rfl hG aa jX [26,31,37] ?_|((conv=>whnf); first|refine anF ?_|refine anT ?_|refine anK ?_|refine Exists.intro 5001000 (Exists.intro (eh m) (Exists.intro [(-1:Int)] (Exists.intro _ (And.intro (And.intro rfl (And.intro rfl (And.intro rfl (And.intro hM hmg)))) ?_))))|refine And.intro (fun h=>?_) (fun h=>?_)|refine Or.inl ?_)
  all_goals refine iO.mk (Or.inl rfl) (Exists.intro _ (Exists.intro _ (And.intro (And.intro rfl rfl) (And.intro (Or.inl (ac rfl)) (And.intro (by kernel_rfl) (by kernel_rfl))))))
 | node a o s y n ihy ihn=>
  intro k m S hr hm1 hM hS
  have hmg:=jl [k] m
  unfold bq
  cases hgm:gU [k] m with
  | some v=>
   rw [hgm] at hmg
   simp only
   refine ECQ.ofB aa Tryz.func110 rfl (by kernel_rfl) af (Nat.le_of_ble_eq_true rfl) ?_
   intro F n' w0 m0 hG hro h1
   repeat' first|refine QE rfl hG aa jX [26,31,37] ?_|((conv=>whnf); first|refine anF ?_|refine anT ?_|refine anK ?_|refine Exists.intro 5001000 (Exists.intro (eh m) (Exists.intro [k] (Exists.intro _ (And.intro (And.intro rfl (And.intro rfl (And.intro rfl (And.intro hM hmg)))) ?_))))|refine And.intro (fun h=>?_) (fun h=>?_)|refine Or.inl ?_)
   all_goals refine iO.mk (Or.inl rfl) (Exists.intro _ (Exists.intro _ (And.intro (And.intro rfl rfl) (And.intro (Or.inl (ac rfl)) (And.intro (by kernel_rfl) (by kernel_rfl))))))
  | none=>
   rw [hgm] at hmg
   obtain ⟨ky,kn,r1,r2,r3,r4⟩:=hr
   have hb:B.getD k.toNat default=⟨a,o,s,ky,kn⟩:=by rw [List.getD_eq_getElem?_getD,r4]; rfl
   simp only [hb]
   have hxi:(B.map brA)[k.toNat]?=some (brA ⟨a,o,s,ky,kn⟩):=by rw [List.getElem?_map,r4]; rfl
   have p1:=jv y
   have p2:=jv n
   simp only [tsz] at hS
   have c1:=ihn kn m S r2 hm1 hM (by omega)
   have g1:=lD B n kn m S
   have m1:=lC B n kn m S hM
   have q1:=rA B n kn m S r2 hm1
   generalize bq B n kn m S=u at *
   have c2:=ihy ky u.2.1 u.2.2 r1 q1 m1 (by omega)
   have g2:=lD B y ky u.2.1 u.2.2
   have m2:=lC B y ky u.2.1 u.2.2 m1
   generalize bq B y ky u.2.1 u.2.2=z at *
   have c3:=qa ⟨a,o,s,z.1,u.1⟩ z.2.2 bg bk 0 (by omega)
   generalize bw ⟨a,o,s,z.1,u.1⟩ z.2.2=q at *
   have m3:∀ y∈dZ [k] (AV.int .i64 q.1) (eh z.2.1),y.1.length=1:=by rw [fu]; exact m2.upd rfl
   have g3:=o6 [k] (.int .i64 q.1) (eh z.2.1)
   refine ECQ.ofB aa Tryz.func110 rfl (by kernel_rfl) af (Nat.le_of_ble_eq_true rfl) ?_
   intro F n' w0 m0 hG hro h1
   repeat' first|refine QE rfl hG aa jX [26,31,37] ?_|((conv=>whnf); first|refine anF ?_|refine anT ?_|refine anK ?_|refine Exists.intro 5001000 (Exists.intro (eh m) (Exists.intro [k] (Exists.intro _ (And.intro (And.intro rfl (And.intro rfl (And.intro rfl (And.intro hM hmg)))) ?_))))|refine Exists.intro 5001000 (Exists.intro (dZ [k] (AV.int .i64 q.1) (eh z.2.1)) (Exists.intro [k] (Exists.intro _ (And.intro (And.intro rfl (And.intro rfl (And.intro rfl (And.intro m3 g3)))) ?_))))|refine Exists.intro 5001000 (Exists.intro (eh z.2.1) (Exists.intro [k] (And.intro (And.intro rfl (And.intro rfl (And.intro rfl m2))) ?_)))|refine Exists.intro _ (Exists.intro _ (Exists.intro _ (Exists.intro _ (Exists.intro _ (And.intro (And.intro (by kernel_rfl) (And.intro (by kernel_rfl) (c1))) ?_)))))|refine Exists.intro _ (Exists.intro _ (Exists.intro _ (Exists.intro _ (Exists.intro _ (And.intro (And.intro (by kernel_rfl) (And.intro (by kernel_rfl) (c2))) ?_)))))|refine Exists.intro _ (Exists.intro _ (Exists.intro _ (Exists.intro _ (Exists.intro _ (And.intro (And.intro (by kernel_rfl) (And.intro (by kernel_rfl) (c3))) ?_)))))|refine And.intro r3 (Exists.intro _ (And.intro hxi ?_))|refine And.intro (fun h=>?_) (fun h=>?_)|refine Or.inl ?_)
   all_goals refine iO.mk (Or.inl rfl) (Exists.intro (.int .i64 q.1) (Exists.intro ((5000000,.me .box 5000000 bG [[.clo 110 (Iy st B bm bG bg)]])::(5001000,.me .ents 5001000 bm (d3 false (dZ [k] (.int .i64 q.1) (eh z.2.1))))::LB bg bk 0 q.2) (And.intro (And.intro rfl (by rw [fu]; rfl)) (And.intro (Or.inl (ac rfl)) (And.intro (by kernel_rfl) (by kernel_rfl))))))
set_option maxHeartbeats 8000000 in
theorem DD (st k:Int) (B:List Br) (t:BT) (hB:B.length≤100000) (hr:rep B t k) (hS:tsz t≤100000):ae Tryz.prog 61 [.agg (eK st B),.int .i64 k] (.agg (eK (bq B t k [([-1],-1)] []).1 (bq B t k [([-1],-1)] []).2.2)):=by
 refine ah aa Tryz.func61 rfl (by kernel_rfl) af (Nat.le_of_ble_eq_true rfl) ?_
 intro F n' w0 m0 hG hro h1
 refine Q1 ?_
 repeat' first|refine Q2 ?_|refine SPB.drawE hG aa cj [] (by kernel_rfl) ?_|refine SPB.regE hG aa cj [] (by kernel_rfl) ?_|refine Q5 hG aa ?_|refine Q6 hG aa ?_|refine Q7 hG aa ?_|refine Q8 hG aa ?_|refine Q9 rfl ?_|refine QF rfl ?_|refine QC rfl ⟨fun h=>?_,fun h=>?_⟩|((conv=>whnf); first|refine anF ?_|refine anT ?_|refine anK ?_|refine And.intro (fun h=>?_) (fun h=>?_)|refine Or.inl ?_)
 refine Q1 ?_
 refine SPB.regNew hG aa cj 0 (by kernel_rfl) ?_
 conv=>whnf
 refine Exists.intro _ (Exists.intro _ (Exists.intro _ (Exists.intro _ (And.intro (And.intro (by kernel_rfl) (And.intro (by kernel_rfl) (sP))) ?_))))
 rintro r L2 ⟨bg,bk,rfl,rfl⟩
 conv=>whnf
 repeat' first|refine Q2 ?_|refine SPB.drawE hG aa cj [] (by kernel_rfl) ?_|refine SPB.regE hG aa cj [] (by kernel_rfl) ?_|refine Q5 hG aa ?_|refine Q6 hG aa ?_|refine Q7 hG aa ?_|refine Q8 hG aa ?_|refine Q9 rfl ?_|refine QF rfl ?_|refine QC rfl ⟨fun h=>?_,fun h=>?_⟩|((conv=>whnf); first|refine anF ?_|refine anT ?_|refine anK ?_|refine And.intro (fun h=>?_) (fun h=>?_)|refine Or.inl ?_)
 refine Q1 ?_
 repeat' first|refine Q2 ?_|refine SPB.drawE hG aa cj [] (by kernel_rfl) ?_|refine SPB.regE hG aa cj [] (by kernel_rfl) ?_|refine Q5 hG aa ?_|refine Q6 hG aa ?_|refine Q7 hG aa ?_|refine Q8 hG aa ?_|refine Q9 rfl ?_|refine QF rfl ?_|refine QC rfl ⟨fun h=>?_,fun h=>?_⟩|((conv=>whnf); first|refine anF ?_|refine anT ?_|refine anK ?_|refine fun bm=>?_|refine Exists.intro 9 (Exists.intro [] (Exists.intro [-1] (And.intro (And.intro rfl (And.intro rfl (And.intro rfl (by simp)))) ?_)))|refine And.intro (fun h=>?_) (fun h=>?_)|refine Or.inl ?_)
 conv=>whnf
 refine SPB.reX 9 5001000 (by kernel_rfl) rfl ?_
 conv=>whnf
 refine Q1 ?_
 repeat' first|refine Q2 ?_|refine SPB.drawE hG aa cj [] (by kernel_rfl) ?_|refine SPB.regE hG aa cj [] (by kernel_rfl) ?_|refine Q5 hG aa ?_|refine Q6 hG aa ?_|refine Q7 hG aa ?_|refine Q8 hG aa ?_|refine Q9 rfl ?_|refine QF rfl ?_|refine QC rfl ⟨fun h=>?_,fun h=>?_⟩|((conv=>whnf); first|refine anF ?_|refine anT ?_|refine anK ?_|refine And.intro (fun h=>?_) (fun h=>?_)|refine Or.inl ?_)
 refine SPB.pin 7 5000000 rfl rfl rfl (fun bG=>?_)
 have c1:=D6 st B bm bG bg bk hB t k [([-1],-1)] [] hr rfl (by intro p hp; simp [eh] at hp; subst hp; rfl) (by simp; omega)
 generalize bq B t k [([-1],-1)] []=q at *
 repeat' first|refine QE rfl hG aa cj [15] ?_|((conv=>whnf); first|refine anF ?_|refine anT ?_|refine anK ?_|refine Exists.intro _ (Exists.intro _ (Exists.intro _ (Exists.intro _ (Exists.intro _ (And.intro (And.intro (by kernel_rfl) (And.intro (by kernel_rfl) (c1))) ?_)))))|refine And.intro (fun h=>?_) (fun h=>?_)|refine Or.inl ?_)
 all_goals exact Ends.mk (Or.inl rfl) (ac rfl)
end Go.Proofs
namespace Go.Proofs
def lX (l:List Pl) (j:Nat):List Pl:=(l.set (j+1) (l.getD j default)).set j (l.getD (j+1) default)
def qd:Nat→List Pl→List Pl
 | 0,l=>l
 | j+1,l=>if (l.getD (j+1) default).a<(l.getD j default).a then qd j (lX l j) else l
def dB:Nat→List Pl→List Pl
 | 0,l=>l
 | n+1,l=>qd n (dB n l)
theorem ly (l:List Pl) (j:Nat):(lX l j).length=l.length:=by simp [lX]
theorem wY:∀ (j:Nat) (l:List Pl),(qd j l).length=l.length
 | 0,_=>rfl
 | j+1,l=>by
  unfold qd
  split
  ·rw [wY j,ly]
  ·rfl
theorem fz:∀ (n:Nat) (l:List Pl),(dB n l).length=l.length
 | 0,_=>rfl
 | n+1,l=>by rw [dB,wY,fz n]
theorem Af {l:List Pl} {j:Nat} (h:j+1<l.length):(lX l j).Perm l:=by
 have e1:l=l.take j++(l[j]::l[j+1]::l.drop (j+2)):=by
  conv=>lhs; rw [← List.take_append_drop j l]
  rw [List.drop_eq_getElem_cons (by omega),List.drop_eq_getElem_cons h]
 have hl:(l.take j).length=j:=by rw [List.length_take]; omega
 have d1:l.getD j default=l[j]:=by rw [List.getD_eq_getElem?_getD,List.getElem?_eq_getElem]; rfl
 have d2:l.getD (j+1) default=l[j+1]:=by rw [List.getD_eq_getElem?_getD,List.getElem?_eq_getElem h]; rfl
 have e2:lX l j=l.take j++(l[j+1]::l[j]::l.drop (j+2)):=by
  unfold lX
  rw [d1,d2]
  generalize l[j]=x at *
  generalize l[j+1]=y at *
  generalize l.drop (j+2)=r at *
  generalize l.take j=p at *
  subst e1
  rw [List.set_append,if_neg (by omega),List.set_append,if_neg (by omega),hl,show j+1 - j=1 by omega,Nat.sub_self]
  rfl
 rw [e2]
 conv=>rhs; rw [e1]
 exact List.Perm.append_left _ (List.Perm.swap _ _ _)
theorem tD:∀ (j:Nat) {l:List Pl},j<l.length→(qd j l).Perm l
 | 0,_,_ => .refl _
 | j+1,l,h=>by
  unfold qd
  split
  ·exact (tD j (by rw [ly]; omega)).trans (Af h)
  ·exact .refl _
theorem kP:∀ (n:Nat) {l:List Pl},n≤l.length→(dB n l).Perm l
 | 0,_,_ => .refl _
 | n+1,l,h=>(tD n (by rw [fz]; omega)).trans (kP n (by omega))
theorem lz (l:List Pl) (j k:Nat) (h:j+1<l.length):(lX l j).getD k default=if k=j then l.getD (j+1) default else if k=j+1 then l.getD j default else l.getD k default:=by
 unfold lX
 simp only [List.getD_eq_getElem?_getD,List.getElem?_set,List.length_set]
 by_cases h1:k=j
 ·subst h1; simp [show k<l.length by omega]
 ·by_cases h2:k=j+1
  ·subst h2; simp [h]
  ·rw [if_neg (Ne.symm h1),if_neg (Ne.symm h2),if_neg h1,if_neg h2]
def Jf (l:List Pl) (i j:Nat):Prop:=(∀ p q,p<q→q≤i→p≠j→q≠j→(l.getD p default).a≤(l.getD q default).a)∧∀ q,j<q→q≤i→(l.getD j default).a≤(l.getD q default).a
def GO (l:List Pl) (i:Nat):Prop:=∀ p q,p<q→q≤i→(l.getD p default).a≤(l.getD q default).a
theorem tC:∀ (j i:Nat) (l:List Pl),i<l.length→j≤i→Jf l i j→GO (qd j l) i
 | 0,i,l,hi,hj,⟨h1,h2⟩=>fun p q hpq hq=>by
  by_cases hp:p=0
  ·subst hp; exact h2 q hpq hq
  ·exact h1 p q hpq hq hp (by omega)
 | j+1,i,l,hi,hj,⟨h1,h2⟩=>by
  unfold qd
  split
  ·rename_i hlt
   refine tC j i _ (by rw [ly]; exact hi) (by omega) ⟨fun p q hpq hq hp hqj=>?_,fun q hjq hq=>?_⟩
   ·rw [lz l j p (by omega),lz l j q (by omega)]
    rw [if_neg hp,if_neg hqj]
    by_cases e1:p=j+1
    ·rw [if_pos e1,if_neg (by omega)]
     exact h1 j q (by omega) hq (by omega) (by omega)
    ·rw [if_neg e1]
     by_cases e2:q=j+1
     ·rw [if_pos e2]
      exact h1 p j (by omega) (by omega) e1 (by omega)
     ·rw [if_neg e2]
      exact h1 p q hpq hq e1 e2
   ·rw [lz l j j (by omega),if_pos rfl,lz l j q (by omega),if_neg (by omega)]
    by_cases e:q=j+1
    ·rw [if_pos e]; omega
    ·rw [if_neg e]
     exact h2 q (by omega) hq
  ·rename_i hnl
   intro p q hpq hq
   by_cases e1:p=j+1
   ·rw [e1]; exact h2 q (by omega) hq
   ·by_cases e2:q=j+1
    ·subst e2
     by_cases e3:p=j
     ·subst e3; omega
     ·have:=h1 p j (by omega) (by omega) e1 (by omega); omega
    ·exact h1 p q hpq hq e1 e2
theorem pK:∀ (n:Nat) (l:List Pl),n<l.length→GO (dB (n+1) l) n
 | 0,l,_=>fun p q h1 h2=>by omega
 | n+1,l,h=>by
  have ih:=pK n l (by omega)
  show GO (qd (n+1) (dB (n+1) l)) (n+1)
  exact tC (n+1) (n+1) _ (by rw [fz]; exact h) (Nat.le_refl _) ⟨fun p q h1 h2 h3 h4=>ih p q h1 (by omega),fun q h1 h2=>by omega⟩
theorem s7 (l:List Pl):(dB l.length l).Pairwise fun p q=>p.a≤q.a:=by
 rcases Nat.eq_zero_or_pos l.length with h | h
 ·rw [h]; rw [List.length_eq_zero_iff] at h; subst h; exact .nil
 ·have hs:=pK (l.length - 1) l (by omega)
  rw [show l.length - 1+1=l.length by omega] at hs
  rw [List.pairwise_iff_getElem]
  intro i j hi hj hij
  have:=hs i j hij (by rw [fz] at hj; omega)
  rw [List.getD_eq_getElem?_getD,List.getD_eq_getElem?_getD,List.getElem?_eq_getElem hi,List.getElem?_eq_getElem hj] at this
  exact this
end Go.Proofs
namespace Go.Proofs
open Go Go.AI
set_option maxRecDepth 10000
theorem yN (p:Pl):ae Tryz.prog 59 [.agg (plA p)] (.int .i64 p.a):=by
 refine ah aa Tryz.func59 rfl (by kernel_rfl) af (Nat.le_of_ble_eq_true rfl) ?_
 intro F n' w0 m0 hG hro h1
 repeat' first|refine QS rfl hG aa y9 ?_|((conv=>whnf); first|refine anF ?_|refine anT ?_|refine anK ?_|refine And.intro (fun h=>?_) (fun h=>?_)|refine Or.inl ?_)
 all_goals exact Ends.mk (Or.inl rfl) (ac rfl)
def cfA:AV := .clo 108 [.ref [.fn 59]]
theorem A3 (p q:Pl):ae Tryz.prog 108 [.agg (plA p),.agg (plA q),.ref [.fn 59]] (.int .i64 (dN p.a q.a)):=by
 refine ah aa Tryz.func108 rfl (by kernel_rfl) af (Nat.le_of_ble_eq_true rfl) ?_
 intro F n' w0 m0 hG hro h1
 repeat' first|refine QS rfl hG aa wv ?_|((conv=>whnf); first|refine anF ?_|refine anT ?_|refine anK ?_|refine Exists.intro _ (And.intro (yN _) ?_)|refine Exists.intro _ (And.intro (jq _ _) ?_)|refine And.intro (fun h=>?_) (fun h=>?_)|refine Or.inl ?_)
 all_goals exact Ends.mk (Or.inl rfl) (ac rfl)
theorem FD (x y:Int):decide (dN x y<0)=decide (x<y):=by
 unfold dN
 by_cases h:x<y <;> by_cases g:y<x <;> simp [h,g]
def aY (l:List Pl):List (List AV):=l.map plA
theorem ir (p:Pl):∀ (l:List Pl) (j:Nat),bB (aY l) j (plA p)=aY (l.set j p)
 | [],j=>by cases j <;> rfl
 | x::r,0=>rfl
 | x::r,j+1=>by
  have ih:=ir p r j
  simp only [aY,List.map_cons,bB,List.set_cons_succ] at ih ⊢
  rw [ih]
theorem kG {{l:List Pl}} {{j:Nat}} (h:j<l.length):(aY l)[(j:Int).toNat]?=some (plA (l.getD j default)):=by
 simp [aY,List.getElem?_eq_getElem h]
theorem eM (l:List Pl):(aY l).length=l.length:=List.length_map _
set_option maxHeartbeats 8000000 in
theorem wC (l:List Pl) (n:Nat) (hl:l.length=n) (h1n:1≤n) (hn:n≤1000):bD Tryz.prog 152 [7000000] [] [.me .sl 7000000 n [],.int .i64 0,.int .i64 n,cfA] [(7000000,.me .arr 7000000 4 (aY l))] (.tup []) [(7000000,.me .arr 7000000 4 (aY (dB n l)))]:=by
 refine ECQ.ofB aa Tryz.func152 rfl (by kernel_rfl) af (Nat.le_of_ble_eq_true rfl) ?_
 intro F n' w0 m0 hG hro h1
 repeat' first|refine QE rfl hG aa dH [] ?_|((conv=>whnf); first|refine anF ?_|refine anT ?_|refine anK ?_|refine And.intro (fun h=>?_) (fun h=>?_)|refine Or.inl ?_)
 refine ar (X:=Nat) (fun x=>⟨[(8,.int .i64 x),(0,.me .sl 7000000 n []),(1,.int .i64 0),(2,.int .i64 n),(3,cfA),(xk 7000000,.me .arr 7000000 4 (aY (dB x l)))],[]⟩) (fun x=>1≤x∧x≤n) (fun x=>n - x) 1 ⟨Nat.le_refl _,h1n⟩ (ai ?_ ?_) (fun x hx=>?_)
 ·repeat' (first | exact trivial | refine And.intro rfl ?_)
 ·repeat' (first | exact trivial | refine And.intro rfl ?_)
 ·by_cases hlt:x<n
  ·have bb1:decide ((x:Int)<(n:Int))=false→False:=fun h=>by have:=of_decide_eq_false h; omega
   have hw8:IntKind.i64.wrap ((x:Int)+1)=((x+1:Nat):Int):=(am (by omega) (by omega)).trans (by omega)
   repeat' first|exact (bb1 (by assumption)).elim|refine QE rfl hG aa dH [] ?_|((conv=>whnf); first|refine anF ?_|refine anT ?_|refine anK ?_|refine And.intro (fun h=>?_) (fun h=>?_)|refine Or.inl ?_)
   refine ar (X:=Nat×List Pl) (fun y=>⟨[(9,.int .i64 y.1),(8,.int .i64 x),(0,.me .sl 7000000 n []),(1,.int .i64 0),(2,.int .i64 n),(3,cfA),(xk 7000000,.me .arr 7000000 4 (aY y.2))],[]⟩) (fun y=>y.1≤x∧y.2.length=n∧qd y.1 y.2=dB (x+1) l) (fun y=>y.1) (x,dB x l) ⟨Nat.le_refl _,by rw [fz,hl],rfl⟩ (ai ?_ ?_) (fun y hy=>?_)
   ·repeat' (first | exact trivial | refine And.intro rfl ?_)
   ·repeat' (first | exact trivial | refine And.intro rfl ?_)
   ·obtain ⟨j,r⟩:=y
    obtain ⟨hj,hr,hs⟩:=hy
    simp only at hj hr hs
    dsimp only
    rcases j with _ | j
    ·have bb2:decide ((0:Int)>0)=true→False:=fun h=>by simp at h
     have bb3:decide (((0:Nat):Int)>((0:Nat):Int))=true→False:=fun h=>by simp at h
     have bb4:decide (((0:Nat):Int)>0)=true→False:=fun h=>by simp at h
     simp only [qd] at hs
     repeat' first|exact (bb2 (by assumption)).elim|exact (bb3 (by assumption)).elim|exact (bb4 (by assumption)).elim|refine QE rfl hG aa dH [] ?_|((conv=>whnf); first|refine anF ?_|refine anT ?_|refine anK ?_|refine And.intro (fun h=>?_) (fun h=>?_)|refine Or.inl ?_)
     all_goals refine Exists.intro (x+1) (And.intro ⟨by omega,by omega⟩ (And.intro (by omega) (ai ?_ ?_)))
     ·refine And.intro (congrArg some (aq (by omega))) ?_
      repeat' (refine And.intro rfl ?_)
      exact And.intro (congrArg (fun z=>some (AV.me .arr 7000000 4 (aY z))) hs) trivial
     ·repeat' (first | exact trivial | refine And.intro rfl ?_)
    ·have hj1:j+1<r.length:=by omega
     have hx0:(aY r)[((j+1:Nat):Int).toNat]?=some (plA (r.getD (j+1) default)):=kG hj1
     have hwj:IntKind.i64.wrap (((j+1:Nat):Int) - 1)=((j:Nat):Int):=(am (by omega) (by omega)).trans (by omega)
     have hx1:(aY r)[(IntKind.i64.wrap (((j+1:Nat):Int) - 1)).toNat]?=some (plA (r.getD j default)):=by rw [hwj]; exact kG (by omega)
     have p0:(0:Int)≤((j+1:Nat):Int):=Int.natCast_nonneg _
     have p1:((j+1:Nat):Int)<(n:Int):=by omega
     have q0:(0:Int)≤IntKind.i64.wrap (((j+1:Nat):Int) - 1):=by rw [hwj]; exact Int.natCast_nonneg _
     have q1:IntKind.i64.wrap (((j+1:Nat):Int) - 1)<(n:Int):=by rw [hwj]; omega
     have bb2:decide (((j+1:Nat):Int)>0)=false→False:=fun h=>by have:=of_decide_eq_false h; omega
     have hcmp:=A3 (r.getD (j+1) default) (r.getD j default)
     have hneg:=FD (r.getD (j+1) default).a (r.getD j default).a
     have e1:bB (bB (aY r) ((j+1:Nat):Int).toNat (plA (r.getD j default))) (IntKind.i64.wrap (((j+1:Nat):Int) - 1)).toNat (plA (r.getD (j+1) default))=aY (lX r j):=by
      rw [hwj,Int.toNat_natCast,Int.toNat_natCast,ir,ir]; rfl
     have hx2:(bB (aY r) ((j+1:Nat):Int).toNat (plA (r.getD j default)))[(IntKind.i64.wrap (((j+1:Nat):Int) - 1)).toNat]?=some (plA (r.getD j default)):=by
      rw [hwj,Int.toNat_natCast,Int.toNat_natCast,ir]
      have:=kG (l:=r.set (j+1) (r.getD j default)) (j:=j) (by rw [List.length_set]; omega)
      rw [Int.toNat_natCast] at this
      rw [this]
      simp [List.getD_eq_getElem?_getD,List.getElem?_set]
     simp only [qd] at hs
     repeat' first|exact (bb2 (by assumption)).elim|refine QE rfl hG aa dH [] ?_|((conv=>whnf); first|refine anF ?_|refine anT ?_|refine anK ?_|refine Exists.intro _ (And.intro (hcmp) ?_)|refine And.intro p0 (And.intro p1 ?_)|refine And.intro q0 (And.intro q1 ?_)|refine Exists.intro _ (And.intro hx0 ?_)|refine Exists.intro _ (And.intro hx1 ?_)|refine Exists.intro _ (And.intro hx2 ?_)|refine And.intro (fun h=>?_) (fun h=>?_)|refine Or.inl ?_)
     ·refine Exists.intro (j,lX r j) (And.intro ⟨by omega,by rw [ly]; exact hr,?_⟩ (And.intro (by simp) (ai ?_ ?_)))
      ·have ht:=(by assumption:decide (dN (r.getD (j+1) default).a (r.getD j default).a<0)=true)
       rw [hneg] at ht
       rw [if_pos (of_decide_eq_true ht)] at hs
       exact hs
      ·refine And.intro (congrArg (fun z=>some (AV.int .i64 z)) hwj) ?_
       repeat' (refine And.intro rfl ?_)
       exact And.intro (congrArg (fun z=>some (AV.me .arr 7000000 4 z)) e1) trivial
      ·repeat' (first | exact trivial | refine And.intro rfl ?_)
     ·have ht:=(by assumption:decide (dN (r.getD (j+1) default).a (r.getD j default).a<0)=false)
      rw [hneg] at ht
      rw [if_neg (of_decide_eq_false ht)] at hs
      refine Exists.intro (x+1) (And.intro ⟨by omega,by omega⟩ (And.intro (by omega) (ai ?_ ?_)))
      ·refine And.intro (congrArg some (aq (by omega))) ?_
       repeat' (refine And.intro rfl ?_)
       exact And.intro (congrArg (fun z=>some (AV.me .arr 7000000 4 (aY z))) hs) trivial
      ·repeat' (first | exact trivial | refine And.intro rfl ?_)
  ·have hxe:x=n:=by omega
   have bb1:decide ((x:Int)<(n:Int))=true→False:=fun h=>by have:=of_decide_eq_true h; omega
   subst hxe
   repeat' first|exact (bb1 (by assumption)).elim|refine QE rfl hG aa dH [] ?_|((conv=>whnf); first|refine anF ?_|refine anT ?_|refine anK ?_|refine And.intro (fun h=>?_) (fun h=>?_)|refine Or.inl ?_)
   all_goals refine iO.mk (Or.inr rfl) (Exists.intro _ (Exists.intro _ (And.intro (And.intro rfl rfl) (And.intro (Or.inl (ac rfl)) (And.intro (by kernel_rfl) (by kernel_rfl))))))
set_option maxHeartbeats 8000000 in
theorem yE (l:List Pl) (n:Nat) (hl:l.length=n) (h1n:1≤n) (hn:n<20):bD Tryz.prog 134 [7000000] [] [.me .sl 7000000 n [],.int .i64 n,cfA] [(7000000,.me .arr 7000000 4 (aY l))] (.tup []) [(7000000,.me .arr 7000000 4 (aY (dB n l)))]:=by
 have c1:=wC l n hl h1n (by omega)
 have bb1:decide ((20:Int)≤(n:Int))=true→False:=fun h=>by have:=of_decide_eq_true h; omega
 have bb2:decide ((20:Int)<(n:Int))=true→False:=fun h=>by have:=of_decide_eq_true h; omega
 refine ECQ.ofB aa Tryz.func134 rfl (by kernel_rfl) af (Nat.le_of_ble_eq_true rfl) ?_
 intro F n' w0 m0 hG hro h1
 repeat' first|refine QE rfl hG aa ej [27] ?_|((conv=>whnf); first|refine anF ?_|refine anT ?_|refine anK ?_|refine And.intro (fun h=>?_) (fun h=>?_)|refine Or.inl ?_)
 refine ar (X:=Unit) (fun _=>⟨[(8,.int .i64 20),(7,.int .i64 0),(6,.int .i64 20),(0,.me .sl 7000000 n []),(1,.int .i64 n),(2,cfA),(xk 7000000,.me .arr 7000000 4 (aY l))],[]⟩) (fun _=>True) (fun _=>0) () trivial (ai ?_ ?_) (fun x hx=>?_)
 ·repeat' (first | exact trivial | refine And.intro rfl ?_)
 ·repeat' (first | exact trivial | refine And.intro rfl ?_)
 ·generalize dB n l=l' at *
  repeat' first|exact (bb1 (by assumption)).elim|refine QE rfl hG aa ej [27] ?_|((conv=>whnf); first|refine anF ?_|refine anT ?_|refine anK ?_|refine Exists.intro _ (Exists.intro _ (Exists.intro _ (Exists.intro _ (Exists.intro _ (And.intro (And.intro (by kernel_rfl) (And.intro (by kernel_rfl) (c1))) ?_)))))|refine And.intro (fun h=>?_) (fun h=>?_)|refine Or.inl ?_)
  refine ar (X:=Unit) (fun _=>⟨[(7,.int .i64 0),(6,.int .i64 20),(0,.me .sl 7000000 n []),(1,.int .i64 n),(2,cfA),(xk 7000000,.me .arr 7000000 4 (aY l'))],[]⟩) (fun _=>True) (fun _=>0) () trivial (ai ?_ ?_) (fun x hx=>?_)
  ·repeat' (first | exact trivial | refine And.intro rfl ?_)
  ·repeat' (first | exact trivial | refine And.intro rfl ?_)
  ·clear c1
   repeat' first|exact (bb2 (by assumption)).elim|refine QE rfl hG aa ej [27] ?_|((conv=>whnf); first|refine anF ?_|refine anT ?_|refine anK ?_|refine And.intro (fun h=>?_) (fun h=>?_)|refine Or.inl ?_)
   all_goals refine iO.mk (Or.inr rfl) (Exists.intro _ (Exists.intro _ (And.intro (And.intro rfl rfl) (And.intro (Or.inl (ac rfl)) (And.intro (by kernel_rfl) (by kernel_rfl))))))
theorem qp (l:List Pl) (n:Nat) (hl:l.length=n) (h1n:1≤n) (hn:n<20):bD Tryz.prog 107 [7000000] [] [.me .sl 7000000 n [],cfA] [(7000000,.me .arr 7000000 4 (aY l))] (.tup []) [(7000000,.me .arr 7000000 4 (aY (dB n l)))]:=by
 have c1:=yE l n hl h1n hn
 generalize dB n l=l' at *
 refine ECQ.ofB aa Tryz.func107 rfl (by kernel_rfl) af (Nat.le_of_ble_eq_true rfl) ?_
 intro F n' w0 m0 hG hro h1
 repeat' first|refine QE rfl hG aa ov [8] ?_|((conv=>whnf); first|refine anF ?_|refine anT ?_|refine anK ?_|refine Exists.intro _ (Exists.intro _ (Exists.intro _ (Exists.intro _ (Exists.intro _ (And.intro (And.intro (by kernel_rfl) (And.intro (by kernel_rfl) (c1))) ?_)))))|refine And.intro (fun h=>?_) (fun h=>?_)|refine Or.inl ?_)
 all_goals refine iO.mk (Or.inr rfl) (Exists.intro _ (Exists.intro _ (And.intro (And.intro rfl rfl) (And.intro (Or.inl (ac rfl)) (And.intro (by kernel_rfl) (by kernel_rfl))))))
theorem wF (l:List Pl) (h1n:1≤l.length) (hn:l.length<20):ECQ Tryz.prog 106 [5006000] [] [.sl .no 4 (aY l)] [] (fun r L'=>r = .me .sl 5006000 l.length []∧L'=[(5006000,.me .arr 5006000 4 (aY l))]):=by
 have hne:aY l=[]→False:=fun h=>by
  have h2:(aY l).length=0:=by rw [h]; rfl
  rw [eM] at h2; omega
 have hlt:0<(aY l).length:=by rw [eM]; omega
 have hr1:(aY l).length*32≤70368744177664:=by rw [eM]; omega
 have hr2:(aY l).length≤4611686018427387904:=by rw [eM]; omega
 refine ECQ.ofB aa Tryz.func106 rfl (by kernel_rfl) af (Nat.le_of_ble_eq_true rfl) ?_
 intro F n' w0 m0 hG hro h1
 repeat' first|refine Q1 ?_|refine Q2 ?_|refine SPB.drawE hG aa ek [] (by kernel_rfl) ?_|refine SPB.regM hG aa (M:=fun t=>t=194) g9 ek (by kernel_rfl) ?_|refine SPB.regE hG aa ek [] (by kernel_rfl) ?_|refine Q5 hG aa ?_|refine Q6 hG aa ?_|refine Q8 hG aa ?_|refine Q9 rfl ?_|refine QF rfl ?_|refine QC rfl ⟨fun h=>?_,fun h=>?_⟩|((conv=>whnf); first|refine anF ?_|refine anT ?_|refine anK ?_|refine And.intro (fun h=>(hne h).elim) ?_|refine Or.inr (And.intro rfl (And.intro hlt (And.intro hr1 (And.intro hr2 ?_))))|refine And.intro (fun h=>?_) (fun h=>?_)|refine Or.inl ?_)
 refine SPB.reX 7 5006000 (by kernel_rfl) rfl ?_
 conv=>whnf
 refine Q7 hG aa ?_
 exact iO.mk (Or.inl rfl) (Exists.intro _ (Exists.intro _ (And.intro (And.intro (congrArg (fun z=>AV.me .sl 5006000 z []) (eM l)) rfl) (And.intro (Or.inr (And.intro rfl (by kernel_rfl))) (And.intro (by kernel_rfl) (by kernel_rfl))))))
theorem tt:ae Tryz.prog 106 [.sl .no 4 []] (.sl .no 4 []):=by
 refine ah aa Tryz.func106 rfl (by kernel_rfl) af (Nat.le_of_ble_eq_true rfl) ?_
 intro F n' w0 m0 hG hro h1
 repeat' first|refine Q1 ?_|refine Q2 ?_|refine Q3 hG aa ek (by kernel_rfl) ?_|refine SPB.regM hG aa (M:=fun t=>t=194) g9 ek (by kernel_rfl) ?_|refine Q4 hG aa ek (by kernel_rfl) ?_|refine Q5 hG aa ?_|refine Q6 hG aa ?_|refine Q7 hG aa ?_|refine Q8 hG aa ?_|refine Q9 rfl ?_|refine QF rfl ?_|refine QC rfl ⟨fun h=>?_,fun h=>?_⟩|((conv=>whnf); first|refine anF ?_|refine anT ?_|refine anK ?_|refine And.intro (Nat.le_of_ble_eq_true rfl) (And.intro (Nat.le_of_ble_eq_true rfl) ?_)|refine And.intro (fun _=>?_) ?_|refine And.intro (fun h=>?_) (fun h=>?_)|refine Or.inl ?_)
 all_goals (first | exact Ends.mk (Or.inl rfl) (ac rfl) | (dsimp only; exact Ends.mk (Or.inl rfl) (ac rfl)) | (show AI.Ends _ _ _ _ _; exact Ends.mk (Or.inl rfl) (ac rfl)))
theorem zA:ae Tryz.prog 152 [.sl .no 4 [],.int .i64 0,.int .i64 0,cfA] (.tup []):=by
 have bb1:decide ((1:Int)<0)=true→False:=fun h=>by simp at h
 refine ah aa Tryz.func152 rfl (by kernel_rfl) af (Nat.le_of_ble_eq_true rfl) ?_
 intro F n' w0 m0 hG hro h1
 repeat' first|refine QS rfl hG aa dH ?_|((conv=>whnf); first|refine anF ?_|refine anT ?_|refine anK ?_|refine And.intro (fun h=>?_) (fun h=>?_)|refine Or.inl ?_)
 refine ar (X:=Unit) (fun _=>⟨[(8,.int .i64 1),(0,.sl .no 4 []),(1,.int .i64 0),(2,.int .i64 0),(3,cfA)],[]⟩) (fun _=>True) (fun _=>0) () trivial (ai ?_ ?_) (fun x hx=>?_)
 ·repeat' (first | exact trivial | refine And.intro rfl ?_)
 ·repeat' (first | exact trivial | refine And.intro rfl ?_)
 ·skip
  repeat' first|exact (bb1 (by assumption)).elim|refine QS rfl hG aa dH ?_|((conv=>whnf); first|refine anF ?_|refine anT ?_|refine anK ?_|refine And.intro (fun h=>?_) (fun h=>?_)|refine Or.inl ?_)
  all_goals exact Ends.mk (Or.inr rfl) (ac rfl)
theorem su:ae Tryz.prog 134 [.sl .no 4 [],.int .i64 0,cfA] (.tup []):=by
 have bb1:decide ((20:Int)≤0)=true→False:=fun h=>by simp at h
 have bb2:decide ((20:Int)<0)=true→False:=fun h=>by simp at h
 refine ah aa Tryz.func134 rfl (by kernel_rfl) af (Nat.le_of_ble_eq_true rfl) ?_
 intro F n' w0 m0 hG hro h1
 repeat' first|refine QS rfl hG aa ej ?_|((conv=>whnf); first|refine anF ?_|refine anT ?_|refine anK ?_|refine And.intro (fun h=>?_) (fun h=>?_)|refine Or.inl ?_)
 refine ar (X:=Unit) (fun _=>⟨[(8,.int .i64 20),(7,.int .i64 0),(6,.int .i64 20),(0,.sl .no 4 []),(1,.int .i64 0),(2,cfA)],[]⟩) (fun _=>True) (fun _=>0) () trivial (ai ?_ ?_) (fun x hx=>?_)
 ·repeat' (first | exact trivial | refine And.intro rfl ?_)
 ·repeat' (first | exact trivial | refine And.intro rfl ?_)
 ·skip
  repeat' first|exact (bb1 (by assumption)).elim|refine QS rfl hG aa ej ?_|((conv=>whnf); first|refine anF ?_|refine anT ?_|refine anK ?_|refine Exists.intro _ (And.intro (zA) ?_)|refine And.intro (fun h=>?_) (fun h=>?_)|refine Or.inl ?_)
  refine ar (X:=Unit) (fun _=>⟨[(7,.int .i64 0),(6,.int .i64 20),(0,.sl .no 4 []),(1,.int .i64 0),(2,cfA)],[]⟩) (fun _=>True) (fun _=>0) () trivial (ai ?_ ?_) (fun x hx=>?_)
  ·repeat' (first | exact trivial | refine And.intro rfl ?_)
  ·repeat' (first | exact trivial | refine And.intro rfl ?_)
  ·skip
   repeat' first|exact (bb2 (by assumption)).elim|refine QS rfl hG aa ej ?_|((conv=>whnf); first|refine anF ?_|refine anT ?_|refine anK ?_|refine And.intro (fun h=>?_) (fun h=>?_)|refine Or.inl ?_)
   all_goals exact Ends.mk (Or.inr rfl) (ac rfl)
theorem ne:ae Tryz.prog 107 [.sl .no 4 [],cfA] (.tup []):=by
 refine ah aa Tryz.func107 rfl (by kernel_rfl) af (Nat.le_of_ble_eq_true rfl) ?_
 intro F n' w0 m0 hG hro h1
 repeat' first|refine QS rfl hG aa ov ?_|((conv=>whnf); first|refine anF ?_|refine anT ?_|refine anK ?_|refine Exists.intro _ (And.intro (su) ?_)|refine And.intro (fun h=>?_) (fun h=>?_)|refine Or.inl ?_)
 all_goals exact Ends.mk (Or.inr rfl) (ac rfl)
theorem yF (l:List Pl) (hn:l.length<20):ae Tryz.prog 58 [.sl .no 4 (aY l),.fn 59] (.sl .no 4 (aY (dB l.length l))):=by
 rcases Nat.eq_zero_or_pos l.length with h0 | hpos
 ·rw [List.length_eq_zero_iff] at h0
  subst h0
  refine ah aa Tryz.func58 rfl (by kernel_rfl) af (Nat.le_of_ble_eq_true rfl) ?_
  intro F n' w0 m0 hG hro h1
  repeat' first|refine QS rfl hG aa dt ?_|((conv=>whnf); first|refine anF ?_|refine anT ?_|refine anK ?_|refine Exists.intro _ (And.intro (tt) ?_)|refine Exists.intro _ (And.intro (ne) ?_)|refine And.intro (fun h=>?_) (fun h=>?_)|refine Or.inl ?_)
  all_goals exact Ends.mk (Or.inl rfl) (ac rfl)
 ·have c1:=qp l l.length rfl hpos hn
  have c2:=wF l hpos hn
  generalize dB l.length l=l' at *
  generalize l.length=n at *
  refine ah aa Tryz.func58 rfl (by kernel_rfl) af (Nat.le_of_ble_eq_true rfl) ?_
  intro F n' w0 m0 hG hro h1
  refine Q1 ?_
  repeat' first|refine Q2 ?_|refine SPB.drawE hG aa dt [] (by kernel_rfl) ?_|refine SPB.regE hG aa dt [] (by kernel_rfl) ?_|refine Q5 hG aa ?_|refine Q6 hG aa ?_|refine Q7 hG aa ?_|refine Q8 hG aa ?_|refine Q9 rfl ?_|refine QF rfl ?_|refine QC rfl ⟨fun h=>?_,fun h=>?_⟩|((conv=>whnf); first|refine anF ?_|refine anT ?_|refine anK ?_|refine And.intro (fun h=>?_) (fun h=>?_)|refine Or.inl ?_)
  refine Q1 ?_
  refine SPB.regNew hG aa dt 1 (by kernel_rfl) ?_
  conv=>whnf
  refine Exists.intro _ (Exists.intro _ (Exists.intro _ (Exists.intro _ (And.intro (And.intro (by kernel_rfl) (And.intro (by kernel_rfl) (c2))) ?_))))
  rintro r L2 ⟨rfl,rfl⟩
  conv=>whnf
  refine SPB.reX 5006000 7000000 (by kernel_rfl) rfl ?_
  conv=>whnf
  refine Q1 ?_
  repeat' first|refine Q2 ?_|refine SPB.drawE hG aa dt [10] (by kernel_rfl) ?_|refine SPB.regE hG aa dt [10] (by kernel_rfl) ?_|refine Q5 hG aa ?_|refine Q6 hG aa ?_|refine Q7 hG aa ?_|refine Q8 hG aa ?_|refine Q9 rfl ?_|refine QF rfl ?_|refine QC rfl ⟨fun h=>?_,fun h=>?_⟩|((conv=>whnf); first|refine anF ?_|refine anT ?_|refine anK ?_|refine Exists.intro _ (Exists.intro _ (Exists.intro _ (Exists.intro _ (Exists.intro _ (And.intro (And.intro (by kernel_rfl) (And.intro (by kernel_rfl) (c1))) ?_)))))|refine And.intro (fun h=>?_) (fun h=>?_)|refine Or.inl ?_)
  refine Q1 ?_
  repeat' first|refine Q2 ?_|refine SPB.drawE hG aa dt [] (by kernel_rfl) ?_|refine SPB.regE hG aa dt [] (by kernel_rfl) ?_|refine Q5 hG aa ?_|refine Q6 hG aa ?_|refine Q8 hG aa ?_|refine Q9 rfl ?_|refine QF rfl ?_|refine QC rfl ⟨fun h=>?_,fun h=>?_⟩|((conv=>whnf); first|refine anF ?_|refine anT ?_|refine anK ?_|refine And.intro (fun h=>?_) (fun h=>?_)|refine Or.inl ?_)
  refine SPB.frz [.tmp 4] ?_
  conv=>whnf
  refine Q7 hG aa ?_
  exact Ends.mk (Or.inl rfl) (ac rfl)
end Go.Proofs
namespace Go.Proofs
open Go Go.AI
def kw (i:Nat) (o:Opt):Nat→List Pl
 | 0=>[]
 | y+1=>kw i o y++[⟨i,y,(aN o y).a,(aN o y).b⟩]
def ge (l:List Opt):Nat→List Pl
 | 0=>[]
 | x+1=>ge l x++kw x (ap l x) (ap l x).sl.length
def qg (l:List Opt):List Pl:=ge l l.length
def aw (l:List Opt):List Pl:=dB (qg l).length (qg l)
def kF (l:List Opt):Nat→List (List Int×AV)
 | 0=>[]
 | x+1=>dZ [(ap l x).id] (.bool true) (kF l x)
structure Bm (l:List Opt):Prop where
 len:l.length≤8
 can:∀ x,x<l.length→na (ap l x)=true
 ids:∀ x y,x<y→y<l.length→(ap l x).id≠(ap l y).id
 sat:∀ x,x<l.length→(ap l x).sat=(ap l 0).sat
 pas:∀ x,x<l.length→∀ y,y<(ap l x).sl.length→inS (aN (ap l x) y).p 0 63=true
 few:(qg l).length<20
 apart:∀ i,i+1<(aw l).length→((aw l).getD i default).b≤((aw l).getD (i+1) default).a
theorem nr (i:Nat) (o:Opt):∀ y,(kw i o y).length=y
 | 0=>rfl
 | y+1=>by rw [kw,List.length_append,nr i o y]; rfl
theorem nq {i:Nat} {o:Opt} {p:Pl}:∀ {y:Nat},p∈kw i o y↔∃ z,z<y∧p=⟨i,z,(aN o z).a,(aN o z).b⟩
 | 0=>by simp [kw]
 | y+1=>by
  rw [kw,List.mem_append,nq]
  constructor
  ·rintro (⟨z,h1,h2⟩ | h)
   ·exact ⟨z,by omega,h2⟩
   ·exact ⟨y,by omega,by simpa using h⟩
  ·rintro ⟨z,h1,h2⟩
   by_cases e:z=y
   ·subst e; exact .inr (by simpa using h2)
   ·exact .inl ⟨z,by omega,h2⟩
theorem nA {l:List Opt} {p:Pl}:∀ {x:Nat},p∈ge l x↔∃ u,u<x∧∃ z,z<(ap l u).sl.length∧p=⟨u,z,(aN (ap l u) z).a,(aN (ap l u) z).b⟩
 | 0=>by simp [ge]
 | x+1=>by
  rw [ge,List.mem_append,nA,nq]
  constructor
  ·rintro (⟨u,h1,h2⟩ | h)
   ·exact ⟨u,by omega,h2⟩
   ·exact ⟨x,by omega,h⟩
  ·rintro ⟨u,h1,h2⟩
   by_cases e:u=x
   ·subst e; exact .inr h2
   ·exact .inl ⟨u,by omega,h2⟩
theorem CI (l:List Opt) {x y:Nat} (h:x≤y):(ge l x).length≤(ge l y).length:=by
 induction h with
 | refl=>exact Nat.le_refl _
 | step _ ih=>rw [ge,List.length_append]; omega
theorem nT {k j:List Int} (v:AV) (h:k≠j):∀ l:List (List Int×AV),jP j (dZ k v l)=jP j l
 | []=>by simp [dZ,jP,h]
 |(a,u)::r=>by
  simp only [dZ]
  split
  ·rename_i e; subst e; simp only [jP,if_neg h]
  ·simp only [jP,nT v h r]
theorem qR {l:List Opt} (h:Bm l) {y:Nat} (hy:y<l.length):∀ x,x≤y→jP [(ap l y).id] (kF l x)=none
 | 0,_=>rfl
 | x+1,hx=>by
  rw [kF,nT _ (fun e=>h.ids x y (by omega) hy (by simpa using e))]
  exact qR h hy x (by omega)
theorem tJ (l:List Opt):∀ x,∀ p∈kF l x,p.1.length=1
 | 0=>by intro p hp; cases hp
 | x+1=>by
  intro p hp
  rw [kF] at hp
  rcases ni hp with rfl | hp
  ·rfl
  ·exact tJ l x p hp
end Go.Proofs
namespace Go.Proofs
open Go Go.AI
set_option maxRecDepth 10000
theorem fb (n a b:Int):ae Tryz.prog 32 [.int .i64 n,.int .i64 a,.int .i64 b] (.bool (inS n a b)):=by
 refine ah aa Tryz.func32 rfl (by kernel_rfl) af (Nat.le_of_ble_eq_true rfl) ?_
 intro F n' w0 m0 hG hro h1
 repeat' first|refine QS rfl hG aa zp ?_|((conv=>whnf); first|refine anF ?_|refine anT ?_|refine anK ?_|refine And.intro (fun h=>?_) (fun h=>?_)|refine Or.inl ?_)
 all_goals refine Ends.mk (Or.inl rfl) (ac (congrArg AV.bool ?_))
 all_goals (simp_all [inS] <;> omega)
set_option maxHeartbeats 16000000 in
theorem pT (l:List Opt) (hP:Bm l):ae Tryz.prog 27 [aZ l] (.tup [.sl .no 4 (aY (aw l)),.bool true]):=by
 have hl8:=hP.len
 have bb0:decide (((l.map aA).length:Int)>8)=true→False:=fun g=>by have:=of_decide_eq_true g; simp at this; omega
 refine ah aa Tryz.func27 rfl (by kernel_rfl) af (Nat.le_of_ble_eq_true rfl) ?_
 intro F n' w0 m0 hG hro h1
 repeat' first|exact (bb0 (by assumption)).elim|refine QS rfl hG aa ec ?_|((conv=>whnf); first|refine anF ?_|refine anT ?_|refine anK ?_|refine fun b=>?_|refine And.intro (fun h=>?_) (fun h=>?_)|refine Or.inl ?_)
 refine ar (X:=Nat) (fun x=>⟨[(19,.int .i64 x),(18,.int .i64 (l.map aA).length),(17,aZ l),(0,aZ l),(4,.sl (.id 4) 4 (aY (ge l x))),(5,.lit (.map (some b))),(xk 16,.me .ents 16 b (d3 false (kF l x)))],[]⟩) (fun x=>x≤l.length) (fun x=>l.length - x) 0 (Nat.zero_le _) (ai ?_ ?_) (fun x hx=>?_)
 ·repeat' (first | exact trivial | refine And.intro rfl ?_)
 ·repeat' (first | exact trivial | refine And.intro rfl ?_)
 ·by_cases hlt:x<l.length
  ·have bb1:decide ((x:Int)<((l.map aA).length:Int))=false→False:=fun h=>by have:=of_decide_eq_false h; simp at this; omega
   have hxi:(l.map aA)[(x:Int).toNat]?=some (aA (ap l x)):=fX hlt
   have hx0:(l.map aA)[(0:Int).toNat]?=some (aA (ap l 0)):=fX (i:=0) (by omega)
   have hcan:=hP.can x hlt
   have hcl:=vi hcan
   have cw:=sr (ap l x) (by omega) hcan
   have hsat:=hP.sat x hlt
   have hpas:=hP.pas x hlt
   have hg:=qR hP hlt x (Nat.le_refl _)
   have hM:=tJ l x
   have hsn:kF l (x+1)=dZ [(ap l x).id] (.bool true) (kF l x):=rfl
   have hpn:ge l (x+1)=ge l x++kw x (ap l x) (ap l x).sl.length:=rfl
   have hfew:(ge l (x+1)).length<20:=Nat.lt_of_le_of_lt (CI l hlt) hP.few
   rw [hpn,List.length_append,nr] at hfew
   generalize hs0:(ap l 0).sat=sat0 at *
   have hx0':∃ c0 c1 c2 c4 c5 c6 c7 c8,aA (ap l 0)=[.int .i64 c0,.int .i64 c1,.int .i64 c2,.int .i64 sat0,.int .i64 c4,.int .i64 c5,.int .i64 c6,.int .i64 c7,mD c8]:=⟨_,_,_,_,_,_,_,_,by rw [← hs0]; rfl⟩
   obtain ⟨c0,c1,c2,c4,c5,c6,c7,c8,hc⟩:=hx0'
   rw [hc] at hx0
   have bb3:(!(sat0==sat0))=true→False:=fun h=>by simp at h
   have hoA:aA (ap l x)=[.int .i64 (ap l x).id,.int .i64 (ap l x).ord,.int .i64 (ap l x).cl,.int .i64 sat0,.int .i64 (ap l x).a,.int .i64 (ap l x).b,.int .i64 (ap l x).look,.int .i64 (ap l x).size,mD (ap l x).sl]:=by rw [← hsat]; rfl
   have hoA':AV.agg (aA (ap l x)) = .agg [.int .i64 (ap l x).id,.int .i64 (ap l x).ord,.int .i64 (ap l x).cl,.int .i64 sat0,.int .i64 (ap l x).a,.int .i64 (ap l x).b,.int .i64 (ap l x).look,.int .i64 (ap l x).size,mD (ap l x).sl]:=by rw [hoA]
   rw [hoA] at hxi
   rw [hoA'] at cw
   generalize ap l x=o at *
   repeat' first|exact (bb1 (by assumption)).elim|exact (bb3 (by assumption)).elim|refine QS rfl hG aa ec ?_|((conv=>whnf); first|refine anF ?_|refine anT ?_|refine anK ?_|refine Exists.intro _ (And.intro (cw) ?_)|refine Exists.intro 16 (Exists.intro (kF l x) (Exists.intro [o.id] (Exists.intro _ (And.intro (And.intro rfl (And.intro rfl (And.intro rfl (And.intro hM hg)))) ?_))))|refine Exists.intro 16 (Exists.intro (kF l x) (Exists.intro [o.id] (And.intro (And.intro rfl (And.intro rfl (And.intro rfl hM))) ?_)))|refine And.intro (Int.natCast_nonneg x) (Exists.intro _ (And.intro hxi ?_))|refine And.intro (Int.le_refl 0) (Exists.intro _ (And.intro hx0 ?_))|refine And.intro (fun h=>?_) (fun h=>?_)|refine Or.inl ?_)
   refine ar (X:=Nat) (fun y=>⟨[(52,.int .i64 y),(51,.int .i64 (o.sl.map ax).length),(50,mD o.sl),(6,.int .i64 x),(19,.int .i64 x),(18,.int .i64 (l.map aA).length),(17,aZ l),(0,aZ l),(4,.sl (.id 4) 4 (aY (ge l x++kw x o y))),(5,.lit (.map (some b))),(xk 16,.me .ents 16 b (d3 false (kF l (x+1))))],[]⟩) (fun y=>y≤o.sl.length) (fun y=>o.sl.length - y) 0 (Nat.zero_le _) (ai ?_ ?_) (fun y hy=>?_)
   ·refine And.intro rfl (And.intro rfl (And.intro rfl (And.intro rfl ?_)))
    repeat' (first | exact trivial | refine And.intro rfl ?_)
    exact And.intro (congrArg (fun z=>some (AV.sl (.id 4) 4 (aY z))) (List.append_nil _).symm) (And.intro rfl (And.intro (congrArg (fun z=>some (AV.me .ents 16 b (d3 false z))) hsn.symm) trivial))
   ·repeat' (first | exact trivial | refine And.intro rfl ?_)
   ·by_cases hly:y<o.sl.length
    ·have bb4:decide ((y:Int)<((o.sl.map ax).length:Int))=false→False:=fun h=>by have:=of_decide_eq_false h; simp at this; omega
     have hyi:(o.sl.map ax)[(y:Int).toNat]?=some (ax (aN o y)):=by simp [aN,List.getElem?_eq_getElem hly]
     have ci:=fb (aN o y).p 0 63
     rw [hpas y hly] at ci
     have hrl:(aY (ge l x++kw x o y)).length<20:=by rw [eM,List.length_append,nr]; omega
     have hr1:((aY (ge l x++kw x o y)).length+1)*32≤70368744177664:=by omega
     have hr2:(aY (ge l x++kw x o y)).length+1≤4611686018427387904:=by omega
     have hrow:aY (ge l x++kw x o y)++[[AV.int .i64 x,.int .i64 y,.int .i64 (aN o y).a,.int .i64 (aN o y).b]]=aY (ge l x++kw x o (y+1)):=by simp [aY,kw,plA]
     repeat' first|exact (bb4 (by assumption)).elim|refine QS rfl hG aa ec ?_|((conv=>whnf); first|refine anF ?_|refine anT ?_|refine anK ?_|refine Exists.intro _ (And.intro (ci) ?_)|refine And.intro (Int.natCast_nonneg y) (Exists.intro _ (And.intro hyi ?_))|refine And.intro (Nat.le_of_ble_eq_true rfl) (And.intro hr1 (And.intro hr2 ?_))|refine And.intro hr1 (And.intro hr2 ?_)|refine And.intro (fun h=>?_) (fun h=>?_)|refine Or.inl ?_)
     refine Exists.intro (y+1) (And.intro (by omega) (And.intro (by omega) (ai ?_ ?_)))
     ·refine And.intro (congrArg some (aq (by omega))) ?_
      iterate 7 refine And.intro rfl ?_
      refine And.intro (congrArg (fun z=>some (AV.sl (.id 4) 4 z)) hrow) ?_
      repeat' (first | exact trivial | refine And.intro rfl ?_)
     ·repeat' (first | exact trivial | refine And.intro rfl ?_)
    ·have bb4:decide ((y:Int)<((o.sl.map ax).length:Int))=true→False:=fun h=>by have:=of_decide_eq_true h; simp at this; omega
     have hye:y=o.sl.length:=by omega
     subst hye
     repeat' first|exact (bb4 (by assumption)).elim|refine QS rfl hG aa ec ?_|((conv=>whnf); first|refine anF ?_|refine anT ?_|refine anK ?_|refine And.intro (fun h=>?_) (fun h=>?_)|refine Or.inl ?_)
     refine Exists.intro (x+1) (And.intro (by omega) (And.intro (by omega) (ai ?_ ?_)))
     ·refine And.intro (congrArg some (aq (by omega))) ?_
      iterate 3 refine And.intro rfl ?_
      refine And.intro (congrArg (fun z=>some (AV.sl (.id 4) 4 (aY z))) hpn.symm) ?_
      repeat' (first | exact trivial | refine And.intro rfl ?_)
     ·repeat' (first | exact trivial | refine And.intro rfl ?_)
  ·have hxe:x=l.length:=by omega
   have bb1:decide ((x:Int)<((l.map aA).length:Int))=true→False:=fun h=>by have:=of_decide_eq_true h; simp at this; omega
   subst hxe
   have hre:ge l l.length=qg l:=rfl
   rw [hre]
   have cs:=yF (qg l) hP.few
   rw [show dB (qg l).length (qg l)=aw l from rfl] at cs
   have hap:=hP.apart
   have hsl:(aw l).length<20:=by unfold aw; rw [fz]; exact hP.few
   generalize aw l=q at *
   generalize qg l=rw0 at *
   repeat' first|exact (bb1 (by assumption)).elim|refine QS rfl hG aa ec ?_|((conv=>whnf); first|refine anF ?_|refine anT ?_|refine anK ?_|refine Exists.intro _ (And.intro (cs) ?_)|refine And.intro (fun h=>?_) (fun h=>?_)|refine Or.inl ?_)
   refine ar (X:=Nat) (fun i=>⟨[(12,.int .i64 i),(4,.sl .no 4 (aY q))],[]⟩) (fun i=>1≤i∧i≤q.length+1) (fun i=>q.length+1 - i) 1 ⟨Nat.le_refl _,by omega⟩ (ai ?_ ?_) (fun i hi=>?_)
   ·repeat' (first | exact trivial | refine And.intro rfl ?_)
   ·repeat' (first | exact trivial | refine And.intro rfl ?_)
   ·by_cases hli:i<q.length
    ·have bb5:decide ((i:Int)<((aY q).length:Int))=false→False:=fun h=>by have:=of_decide_eq_false h; rw [eM] at this; omega
     obtain ⟨j,rfl⟩:∃ j,i=j+1:=⟨i - 1,by omega⟩
     have hwj:IntKind.i64.wrap (((j+1:Nat):Int) - 1)=((j:Nat):Int):=(am (by omega) (by omega)).trans (by omega)
     have hx1:(aY q)[((j+1:Nat):Int).toNat]?=some (plA (q.getD (j+1) default)):=kG hli
     have hx2:(aY q)[(IntKind.i64.wrap (((j+1:Nat):Int) - 1)).toNat]?=some (plA (q.getD j default)):=by rw [hwj]; exact kG (by omega)
     have p0:(0:Int)≤IntKind.i64.wrap (((j+1:Nat):Int) - 1):=by rw [hwj]; exact Int.natCast_nonneg _
     have hjj:=hap j hli
     have bb6:decide ((q.getD (j+1) default).a<(q.getD j default).b)=true→False:=fun h=>by have:=of_decide_eq_true h; omega
     have hA1:plA (q.getD (j+1) default)=[.int .i64 (q.getD (j+1) default).o,.int .i64 (q.getD (j+1) default).s,.int .i64 (q.getD (j+1) default).a,.int .i64 (q.getD (j+1) default).b]:=rfl
     repeat' first|exact (bb5 (by assumption)).elim|exact (bb6 (by assumption)).elim|refine QS rfl hG aa ec ?_|((conv=>whnf); first|refine anF ?_|refine anT ?_|refine anK ?_|refine And.intro (Int.natCast_nonneg (j+1)) (Exists.intro _ (And.intro hx1 ?_))|refine And.intro p0 (Exists.intro _ (And.intro hx2 ?_))|refine And.intro (fun h=>?_) (fun h=>?_)|refine Or.inl ?_)
     refine Exists.intro (j+1+1) (And.intro ⟨by omega,by omega⟩ (And.intro (by omega) (ai ?_ ?_)))
     ·refine And.intro (congrArg some (aq (by omega))) ?_
      repeat' (first | exact trivial | refine And.intro rfl ?_)
     ·repeat' (first | exact trivial | refine And.intro rfl ?_)
    ·have bb5:decide ((i:Int)<((aY q).length:Int))=true→False:=fun h=>by have:=of_decide_eq_true h; rw [eM] at this; omega
     repeat' first|exact (bb5 (by assumption)).elim|refine QS rfl hG aa ec ?_|((conv=>whnf); first|refine anF ?_|refine anT ?_|refine anK ?_|refine And.intro (fun h=>?_) (fun h=>?_)|refine Or.inl ?_)
     all_goals exact Ends.mk (Or.inl rfl) (ac rfl)
end Go.Proofs
namespace Go.Proofs
open Go Go.AI
set_option maxRecDepth 10000
def bQ (all:List Pl):Int×Met×List Br:=bn all 0 0 [] []
theorem G8 {l:List Opt} (h:Bm l):∀ p∈aw l,0≤p.o∧p.o<8:=by
 intro p hp
 have hq:=(kP (qg l).length (l:=qg l) (Nat.le_refl _)).mem_iff.1 hp
 obtain ⟨u,h1,z,h2,rfl⟩:=nA.1 hq
 have:=h.len
 exact ⟨Int.natCast_nonneg _,by show (u:Int)<8; omega⟩
set_option maxHeartbeats 16000000 in
theorem Bg (l:List Opt) (hP:Bm l) (h16:(aw l).length≤16) (hB:(bQ (aw l)).2.2.length≤1500):ae Tryz.prog 10 [aZ l] (.tup [.agg (eK (bQ (aw l)).1 (bQ (aw l)).2.2),.int .i64 0]):=by
 have cp:=pT l hP
 have ho:=G8 hP
 rw [show aY (aw l)=(aw l).map plA from rfl] at cp
 generalize aw l=all at *
 have g0:∀ bm bG bg bk,bD Tryz.prog 29 [5000000,5001000,5002000,5003000] [5004000] (.agg [.int .i64 0,.int .i64 0]::Fq all bm bG bg) (LG all bm bG bg bk [] []) (.int .i64 (bQ all).1) (LG all bm bG bg bk (bQ all).2.1 (bQ all).2.2):=fun bm bG bg bk=>by
  have h2:2 ^ all.length≤2 ^ 16:=Nat.pow_le_pow_right (by omega) h16
  exact D2 all bm bG bg bk h16 ho all.length 0 0 [] [] (Nat.le_refl _) (Nat.zero_le _) (by omega) (by omega) (by intro p hp; cases hp) (by simpa using Nat.le_trans h2 (by decide))
 generalize bQ all=q at *
 have bb1:decide (((q.2.2.map brA).length:Int)>1500)=true→False:=fun g=>by have:=of_decide_eq_true g; simp at this; omega
 refine ah aa Tryz.func10 rfl (by kernel_rfl) af (Nat.le_of_ble_eq_true rfl) ?_
 intro F n' w0 m0 hG hro h1
 refine Q1 ?_
 repeat' first|refine Q2 ?_|refine SPB.drawE hG aa aW [] (by kernel_rfl) ?_|refine SPB.regE hG aa aW [] (by kernel_rfl) ?_|refine Q5 hG aa ?_|refine Q6 hG aa ?_|refine Q7 hG aa ?_|refine Q8 hG aa ?_|refine Q9 rfl ?_|refine QF rfl ?_|refine QC rfl ⟨fun h=>?_,fun h=>?_⟩|((conv=>whnf); first|refine anF ?_|refine anT ?_|refine anK ?_|refine And.intro (fun h=>?_) (fun h=>?_)|refine Or.inl ?_)
 refine Q1 ?_
 repeat' first|refine Q2 ?_|refine SPB.drawE hG aa aW [] (by kernel_rfl) ?_|refine SPB.regE hG aa aW [] (by kernel_rfl) ?_|refine Q5 hG aa ?_|refine Q6 hG aa ?_|refine Q7 hG aa ?_|refine Q8 hG aa ?_|refine Q9 rfl ?_|refine QF rfl ?_|refine QC rfl ⟨fun h=>?_,fun h=>?_⟩|((conv=>whnf); first|refine anF ?_|refine anT ?_|refine anK ?_|refine Exists.intro _ (And.intro (cp) ?_)|refine And.intro (fun h=>?_) (fun h=>?_)|refine Or.inl ?_)
 refine Q1 ?_
 repeat' first|refine Q2 ?_|refine SPB.drawE hG aa aW [] (by kernel_rfl) ?_|refine SPB.regE hG aa aW [] (by kernel_rfl) ?_|refine Q5 hG aa ?_|refine Q6 hG aa ?_|refine Q7 hG aa ?_|refine Q8 hG aa ?_|refine Q9 rfl ?_|refine QF rfl ?_|refine QC rfl ⟨fun h=>?_,fun h=>?_⟩|((conv=>whnf); first|refine anF ?_|refine anT ?_|refine anK ?_|refine And.intro (fun h=>?_) (fun h=>?_)|refine Or.inl ?_)
 refine Q1 ?_
 repeat' first|refine Q2 ?_|refine SPB.drawE hG aa aW [] (by kernel_rfl) ?_|refine SPB.regE hG aa aW [] (by kernel_rfl) ?_|refine Q5 hG aa ?_|refine Q6 hG aa ?_|refine Q7 hG aa ?_|refine Q8 hG aa ?_|refine Q9 rfl ?_|refine QF rfl ?_|refine QC rfl ⟨fun h=>?_,fun h=>?_⟩|((conv=>whnf); first|refine anF ?_|refine anT ?_|refine anK ?_|refine And.intro (fun h=>?_) (fun h=>?_)|refine Or.inl ?_)
 refine Q1 ?_
 refine SPB.regNew hG aa aW 0 (by kernel_rfl) ?_
 conv=>whnf
 refine Exists.intro _ (Exists.intro _ (Exists.intro _ (Exists.intro _ (And.intro (And.intro (by kernel_rfl) (And.intro (by kernel_rfl) (sP))) ?_))))
 rintro r L2 ⟨bg,bk,rfl,rfl⟩
 conv=>whnf
 repeat' first|refine Q2 ?_|refine SPB.drawE hG aa aW [] (by kernel_rfl) ?_|refine SPB.regE hG aa aW [] (by kernel_rfl) ?_|refine Q5 hG aa ?_|refine Q6 hG aa ?_|refine Q7 hG aa ?_|refine Q8 hG aa ?_|refine Q9 rfl ?_|refine QF rfl ?_|refine QC rfl ⟨fun h=>?_,fun h=>?_⟩|((conv=>whnf); first|refine anF ?_|refine anT ?_|refine anK ?_|refine And.intro (fun h=>?_) (fun h=>?_)|refine Or.inl ?_)
 refine Q1 ?_
 repeat' first|refine Q2 ?_|refine SPB.drawE hG aa aW [] (by kernel_rfl) ?_|refine SPB.regE hG aa aW [] (by kernel_rfl) ?_|refine Q5 hG aa ?_|refine Q6 hG aa ?_|refine Q7 hG aa ?_|refine Q8 hG aa ?_|refine Q9 rfl ?_|refine QF rfl ?_|refine QC rfl ⟨fun h=>?_,fun h=>?_⟩|((conv=>whnf); first|refine anF ?_|refine anT ?_|refine anK ?_|refine fun bm=>?_|refine And.intro (fun h=>?_) (fun h=>?_)|refine Or.inl ?_)
 conv=>whnf
 refine SPB.reX 18 5001000 (by kernel_rfl) rfl ?_
 conv=>whnf
 refine Q1 ?_
 repeat' first|refine Q2 ?_|refine SPB.drawE hG aa aW [] (by kernel_rfl) ?_|refine SPB.regE hG aa aW [] (by kernel_rfl) ?_|refine Q5 hG aa ?_|refine Q6 hG aa ?_|refine Q7 hG aa ?_|refine Q8 hG aa ?_|refine Q9 rfl ?_|refine QF rfl ?_|refine QC rfl ⟨fun h=>?_,fun h=>?_⟩|((conv=>whnf); first|refine anF ?_|refine anT ?_|refine anK ?_|refine And.intro (fun h=>?_) (fun h=>?_)|refine Or.inl ?_)
 refine SPB.pin 8 5000000 rfl rfl rfl (fun bG=>?_)
 conv=>whnf
 have g1:=g0 bm bG bg bk
 repeat' first|exact (bb1 (by assumption)).elim|refine QE rfl hG aa aW [23] ?_|((conv=>whnf); first|refine anF ?_|refine anT ?_|refine anK ?_|refine Exists.intro _ (Exists.intro _ (Exists.intro _ (Exists.intro _ (Exists.intro _ (And.intro (And.intro (by kernel_rfl) (And.intro (by kernel_rfl) (g1))) ?_)))))|refine And.intro (fun h=>?_) (fun h=>?_)|refine Or.inl ?_)
 all_goals exact Ends.mk (Or.inl rfl) (ac rfl)
end Go.Proofs
namespace Go.Proofs
open Go Go.AI
def BZ (B:List Br) (i:Nat) (a c:Int):Prop:=c = -1∨∃ (j:Nat) (x:Br),c=(j:Int)∧j<i∧B[j]?=some x∧a<x.a
structure Jo (l:List Opt) (B:List Br) (i:Nat) (b:Br):Prop where
 o:∃ u:Nat,b.o=(u:Int)∧u<l.length∧∃ z:Nat,b.s=(z:Int)∧z<(ap l u).sl.length∧(aN (ap l u) z).a=b.a
 n:BZ B i b.a b.n
 y:BZ B i b.a b.y
 bit:b.y≠-1→((dj B []).getD b.y.toNat 0).testBit b.o.toNat=false
structure IL (l:List Opt) (st:Int) (B:List Br):Prop where
 len:B.length≤1500
 st:inS st (-1) ((B.length:Int) - 1)=true
 br:∀ (i:Nat) (b:Br),B[i]?=some b→Jo l B i b
theorem G9 {u:Nat} (h:u<8):IntKind.i64.wrap (1*2 ^ (min ((u:Nat):Int).toNat IntKind.i64.bits))=((1 <<< u:Nat):Int):=by
 have hk:min ((u:Int).toNat) IntKind.i64.bits=u:=by rw [Int.toNat_natCast]; exact Nat.min_eq_left (show u≤64 by omega)
 have hp:2 ^ u≤128:=by
  have:=Nat.pow_le_pow_right (n:=2) (by omega) (show u≤7 by omega)
  omega
 rw [hk,Int.one_mul,show (2:Int) ^ u=((2 ^ u:Nat):Int) by simp,ng (by omega),Nat.one_shiftLeft]
theorem It {a b:Nat} (ha:a<256) (hb:b<256):eq .or .i64 (a:Int) (b:Int)=((a ||| b:Nat):Int):=by
 show IntKind.i64.wrap (((BitVec.ofInt 64 (a:Int) ||| BitVec.ofInt 64 (b:Int)).toNat:Nat):Int)=_
 rw [BitVec.toNat_or,jc (by omega),jc (by omega)]
 have hlt:a ||| b<2 ^ 8:=Nat.or_lt_two_pow (by omega) (by omega)
 rw [ng (by omega)]
theorem uJ {u:Nat} (h:u<8):1 <<< u<256:=by
 rw [Nat.one_shiftLeft]
 have:=Nat.pow_le_pow_right (n:=2) (by omega) (show u≤7 by omega)
 omega
theorem rg {a b:Nat} (ha:a<256) (hb:b<256):a ||| b<256:=Nat.or_lt_two_pow (n:=8) ha hb
theorem BS:∀ (S:List Br) (acc:List Nat),(∀ b∈S,b.o.toNat<8)→(∀ k,acc.getD k 0<256)→∀ k,(dj S acc).getD k 0<256
 | [],acc,_,h,k=>h k
 | b::r,acc,hb,h,k=>by
  rw [dj]
  refine BS r _ (fun c hc=>hb c (List.mem_cons_of_mem _ hc)) (fun j=>?_) k
  rw [List.getD_eq_getElem?_getD,List.getElem?_append]
  split
  ·have:=h j; rwa [List.getD_eq_getElem?_getD] at this
  ·have hx:nL acc b<256:=by
    unfold nL
    refine rg (rg (uJ (hb b List.mem_cons_self)) ?_) ?_
    ·split
     ·omega
     ·exact h _
    ·split
     ·omega
     ·exact h _
   cases hq:j - acc.length with
   | zero=>simpa using hx
   | succ q=>simp
def gh (acc:List Nat) (n:Nat):List (List AV):=acc.map (fun (x:Nat)=>[AV.int .i64 ((x:Nat):Int)])++List.replicate (n - acc.length) [AV.int .i64 0]
theorem uR {acc:List Nat} {n k:Nat} (h:k<acc.length):(gh acc n)[(k:Int).toNat]?=some [.int .i64 ((acc.getD k 0:Nat):Int)]:=by
 rw [Int.toNat_natCast,gh,List.getElem?_append_left (by simpa using h)]
 simp [List.getElem?_eq_getElem h]
theorem CP {acc:List Nat} {n:Nat} (h:acc.length<n):(gh acc n)[((acc.length:Nat):Int).toNat]?=some [.int .i64 0]:=by
 rw [Int.toNat_natCast,gh,List.getElem?_append_right (by simp),List.length_map,Nat.sub_self]
 rw [List.getElem?_replicate,if_pos (by omega)]
theorem qQ {α:Type} (b:α) (R:List α):∀ L:List α,∀ x,bB (L++x::R) L.length b=L++b::R
 | [],x=>rfl
 | y::L,x=>by simp only [List.cons_append,List.length_cons,bB,qQ b R L x]
theorem EQ {acc:List Nat} {n v:Nat} (h:acc.length<n):bB (gh acc n) ((acc.length:Nat):Int).toNat [.int .i64 ((v:Nat):Int)]=gh (acc++[v]) n:=by
 rw [Int.toNat_natCast]
 unfold gh
 rw [show n - acc.length=(n - (acc++[v]).length)+1 by simp; omega,List.replicate_succ]
 have:=qQ [AV.int .i64 ((v:Nat):Int)] (List.replicate (n - (acc++[v]).length) [AV.int .i64 0]) (acc.map fun (x:Nat)=>[AV.int .i64 ((x:Nat):Int)]) [AV.int .i64 0]
 rw [List.length_map] at this
 rw [this]
 simp
theorem CO {acc:List Nat} {n v w:Nat}:bB (gh (acc++[v]) n) ((acc.length:Nat):Int).toNat [.int .i64 ((w:Nat):Int)]=gh (acc++[w]) n:=by
 rw [Int.toNat_natCast]
 unfold gh
 have:=qQ [AV.int .i64 ((w:Nat):Int)] (List.replicate (n - (acc++[v]).length) [AV.int .i64 0]) (acc.map fun (x:Nat)=>[AV.int .i64 ((x:Nat):Int)]) [AV.int .i64 ((v:Nat):Int)]
 rw [List.length_map] at this
 simp only [List.map_append,List.map_cons,List.map_nil,List.append_assoc,List.singleton_append]
 rw [this]
 simp
end Go.Proofs
namespace Go.Proofs
open Go Go.AI
set_option maxRecDepth 10000
theorem FK {B:List Br} {i:Nat} (h:i<B.length):(B.map brA)[(i:Int).toNat]?=some (brA (B.getD i default)):=by simp [List.getElem?_eq_getElem h]
theorem D5 (B:List Br) (hB:B.length≤100000):ae Tryz.prog 109 [.sl .no 5 (B.map brA),.sl .no 5 (B.map brA)] (.bool true):=by
 have bb0:(!(((B.map brA).length:Int)==((B.map brA).length:Int)))=true→False:=fun h=>by simp at h
 have bb0':(((B.map brA).length:Int)!=((B.map brA).length:Int))=true→False:=fun h=>by simp at h
 refine ah aa Tryz.func109 rfl (by kernel_rfl) af (Nat.le_of_ble_eq_true rfl) ?_
 intro F n' w0 m0 hG hro h1
 repeat' first|exact (bb0 (by assumption)).elim|exact (bb0' (by assumption)).elim|refine QS rfl hG aa jY ?_|((conv=>whnf); first|refine anF ?_|refine anT ?_|refine anK ?_|refine And.intro (fun h=>?_) (fun h=>?_)|refine Or.inl ?_)
 refine ar (X:=Nat) (fun x=>⟨[(13,.int .i64 x),(12,.int .i64 (B.map brA).length),(0,.sl .no 5 (B.map brA)),(1,.sl .no 5 (B.map brA))],[]⟩) (fun x=>x≤B.length) (fun x=>B.length - x) 0 (Nat.zero_le _) (ai ?_ ?_) (fun x hx=>?_)
 ·repeat' (first | exact trivial | refine And.intro rfl ?_)
 ·repeat' (first | exact trivial | refine And.intro rfl ?_)
 ·by_cases hlt:x<B.length
  ·have bb1:decide ((x:Int)<((B.map brA).length:Int))=false→False:=fun h=>by have:=of_decide_eq_false h; simp at this; omega
   have hxi:=FK hlt
   generalize B.getD x default=e at *
   have bb2:(!(e.a==e.a&&(e.o==e.o&&(e.s==e.s&&(e.y==e.y&&(e.n==e.n&&true))))))=true→False:=fun h=>by simp at h
   repeat' first|exact (bb1 (by assumption)).elim|exact (bb2 (by assumption)).elim|refine QS rfl hG aa jY ?_|((conv=>whnf); first|refine anF ?_|refine anT ?_|refine anK ?_|refine And.intro (Int.natCast_nonneg x) (Exists.intro _ (And.intro hxi ?_))|refine And.intro (fun h=>?_) (fun h=>?_)|refine Or.inl ?_)
   refine Exists.intro (x+1) (And.intro hlt (And.intro (by omega) (ai ?_ ?_)))
   ·refine And.intro (congrArg some (aq (by omega))) ?_
    repeat' (first | exact trivial | refine And.intro rfl ?_)
   ·repeat' (first | exact trivial | refine And.intro rfl ?_)
  ·have bb1:decide ((x:Int)<((B.map brA).length:Int))=true→False:=fun h=>by have:=of_decide_eq_true h; simp at this; omega
   repeat' first|exact (bb1 (by assumption)).elim|refine QS rfl hG aa jY ?_|((conv=>whnf); first|refine anF ?_|refine anT ?_|refine anK ?_|refine And.intro (fun h=>?_) (fun h=>?_)|refine Or.inl ?_)
   all_goals exact Ends.mk (Or.inl rfl) (ac rfl)
theorem td (st:Int) (B:List Br) (hB:B.length≤100000):ae Tryz.prog 60 [.agg (eK st B),.agg (eK st B)] (.bool true):=by
 have cE:=D5 B hB
 have bb:(st==st)=false→False:=fun h=>by simp at h
 refine ah aa Tryz.func60 rfl (by kernel_rfl) af (Nat.le_of_ble_eq_true rfl) ?_
 intro F n' w0 m0 hG hro h1
 repeat' first|exact (bb (by assumption)).elim|refine QS rfl hG aa y8 ?_|((conv=>whnf); first|refine anF ?_|refine anT ?_|refine anK ?_|refine Exists.intro _ (And.intro (cE) ?_)|refine And.intro (fun h=>?_) (fun h=>?_)|refine Or.inl ?_)
 all_goals exact Ends.mk (Or.inl rfl) (ac rfl)
end Go.Proofs
namespace Go.Proofs
open Go Go.AI
set_option maxRecDepth 10000
def oY (acc:List Nat) (c:Int):Nat:=if c = -1 then 0 else acc.getD c.toNat 0
def vW (acc:List Nat) (u:Nat) (n y:Int):Nat→Nat
 | 0=>1 <<< u
 | 1=>(1 <<< u) ||| oY acc n
 | _=>((1 <<< u) ||| oY acc n) ||| oY acc y
set_option maxHeartbeats 32000000 in
theorem yD (l:List Opt) (st:Int) (B:List Br) (hP:Bm l) (hT:IL l st B) (cL:ae Tryz.prog 61 [.agg (eK st B),.int .i64 st] (.agg (eK st B))):ae Tryz.prog 31 [.agg (eK st B),aZ l] (.bool true):=by
 have cp:=pT l hP
 generalize aw l=all at cp
 have hl8:=hP.len
 have hlen:=hT.len
 have hlB:((B.map brA).length:Int)=(B.length:Int):=by rw [List.length_map]
 have cS:=td st B (by omega)
 have bb1:decide (((B.map brA).length:Int)>1500)=true→False:=fun g=>by have:=of_decide_eq_true g; simp at this; omega
 have hw:IntKind.i64.wrap (((B.map brA).length:Int) - 1)=(B.length:Int) - 1:=by rw [hlB]; exact am (by omega) (by omega)
 have c1:=fb st (-1) (IntKind.i64.wrap (((B.map brA).length:Int) - 1))
 rw [hw,hT.st,← hw] at c1
 have hlw:IntKind.i64.wrap (((l.map aA).length:Int) - 1)=(l.length:Int) - 1:=by rw [List.length_map]; exact am (by omega) (by omega)
 have r0:(0:Int)≤((B.map brA).length:Int):=Int.natCast_nonneg _
 have r1:eA ((B.map brA).length:Int).toNat 8:=by simp [eA]; omega
 have r2:((B.map brA).length:Int)≤4611686018427387904:=by rw [hlB]; omega
 refine ah aa Tryz.func31 rfl (by kernel_rfl) af (Nat.le_of_ble_eq_true rfl) ?_
 intro F n' w0 m0 hG hro h1
 repeat' first|exact (bb1 (by assumption)).elim|refine QE rfl hG aa du [2000000038] ?_|((conv=>whnf); first|refine anF ?_|refine anT ?_|refine anK ?_|refine Exists.intro _ (And.intro (cp) ?_)|refine Exists.intro _ (And.intro (c1) ?_)|refine And.intro r0 (And.intro (Int.le_refl _) (And.intro r1 (And.intro r2 ?_)))|refine And.intro (fun h=>?_) (fun h=>?_)|refine Or.inl ?_)
 refine ar (X:=Nat) (fun x=>⟨[(42,.int .i64 x),(40,.sl .no 5 (B.map brA)),(41,.int .i64 (B.map brA).length),(1,aZ l),(2,.loc 2 0),(7,.me .sl 38 B.length []),(xk 38,.me .arr 38 1 (gh (dj (B.take x) []) B.length))],[(2,eK st B)]⟩) (fun x=>x≤B.length) (fun x=>B.length - x) 0 (Nat.zero_le _) (ai ?_ ?_) (fun x hx=>?_)
 ·refine And.intro rfl (And.intro rfl (And.intro rfl (And.intro rfl (And.intro rfl (And.intro ?_ (And.intro ?_ trivial))))))
  ·exact congrArg (fun z=>some (AV.me .sl 38 z [])) (by simp)
  ·exact congrArg (fun z=>some (AV.me .arr 38 1 z)) (by simp [gh,dj])
 ·repeat' (first | exact trivial | refine And.intro rfl ?_)
 ·by_cases hlt:x<B.length
  ·have bb2:decide ((x:Int)<((B.map brA).length:Int))=false→False:=fun h=>by have:=of_decide_eq_false h; simp at this; omega
   have hbr:=hT.br x (B.getD x default) (by rw [List.getD_eq_getElem?_getD,List.getElem?_eq_getElem hlt]; rfl)
   have hxi:=FK hlt
   have hsn:dj (B.take (x+1)) []=dj (B.take x) []++[nL (dj (B.take x) []) (B.getD x default)]:=by
    rw [List.take_add_one,List.getElem?_eq_getElem hlt,← oS,List.getD_eq_getElem?_getD,List.getElem?_eq_getElem hlt]; rfl
   have hal:(dj (B.take x) []).length=x:=by rw [kN,List.length_take]; simp; omega
   have hpre:∀ j,j<x→(dj B []).getD j 0=(dj (B.take x) []).getD j 0:=fun j hj=>lA B x j hj hx
   have h8:∀ b∈B,b.o.toNat<8:=fun b hb=>by
    obtain ⟨i,hi⟩:=List.mem_iff_getElem?.1 hb
    obtain ⟨⟨u,h1,h2,_⟩,_,_,_⟩:=hT.br i b hi
    rw [h1]; simp; omega
   have hlt8:∀ j,(dj (B.take x) []).getD j 0<256:=BS _ _ (fun b hb=>h8 b (List.mem_of_mem_take hb)) (fun k=>by simp)
   generalize B.getD x default=e at *
   obtain ⟨a,o,s,y,n⟩:=e
   obtain ⟨⟨u,ho,hu,z,hs,hz,ha⟩,hn,hy,hbit⟩:=hbr
   simp only at ho hs ha hn hy hbit
   subst ho; subst hs; subst ha
   have hu8:u<8:=by omega
   have hou:=fX hu
   generalize hop:ap l u=op at *
   have hsl:(op.sl.map ax)[(z:Int).toNat]?=some (ax (aN op z)):=by simp [aN,List.getElem?_eq_getElem hz]
   generalize aN op z=sz at *
   have hA1:brA ⟨sz.a,u,z,y,n⟩=[.int .i64 sz.a,.int .i64 u,.int .i64 z,.int .i64 y,.int .i64 n]:=rfl
   rw [hA1] at hxi
   have d1:=fb (u:Int) 0 (IntKind.i64.wrap (((l.map aA).length:Int) - 1))
   rw [hlw,show inS (u:Int) 0 ((l.length:Int) - 1)=true by simp [inS]; omega,← hlw] at d1
   have hsw:IntKind.i64.wrap (((op.sl.map ax).length:Int) - 1)=(op.sl.length:Int) - 1:=by rw [List.length_map]; exact am (by omega) (by have:=hP.can u hu; rw [hop] at this; have:=(vi this).2; omega)
   have d2:=fb (z:Int) 0 (IntKind.i64.wrap (((op.sl.map ax).length:Int) - 1))
   rw [hsw,show inS (z:Int) 0 ((op.sl.length:Int) - 1)=true by simp [inS]; omega,← hsw] at d2
   have u0:(0:Int)≤(u:Int):=Int.natCast_nonneg _
   have bb3:(sz.a != sz.a)=true→False:=fun h=>by simp at h
   have hx0:(0:Int)≤(x:Int):=Int.natCast_nonneg _
   have hxn:(x:Int)<((B.length:Nat):Int):=by omega
   generalize hacc:dj (B.take x) []=acc at *
   have hrx:(gh acc B.length)[(x:Int).toNat]?=some [.int .i64 0]:=by have:=CP (acc:=acc) (n:=B.length) (by omega); rw [hal] at this; exact this
   have hr0:bB (gh acc B.length) (x:Int).toNat [.int .i64 (IntKind.i64.wrap (1*2 ^ (min (u:Int).toNat IntKind.i64.bits)))]=gh (acc++[1 <<< u]) B.length:=by
    rw [G9 hu8]
    have:=EQ (acc:=acc) (n:=B.length) (v:=1 <<< u) (by omega)
    rw [hal] at this; exact this
   repeat' first|exact (bb2 (by assumption)).elim|exact (bb3 (by assumption)).elim|refine QE rfl hG aa du [] ?_|((conv=>whnf); first|refine anF ?_|refine anT ?_|refine anK ?_|refine Exists.intro _ (And.intro (d1) ?_)|refine Exists.intro _ (And.intro (d2) ?_)|refine And.intro u0 (Exists.intro _ (And.intro hou ?_))|refine And.intro hx0 (Exists.intro _ (And.intro hxi ?_))|refine And.intro (Int.natCast_nonneg z) (Exists.intro _ (And.intro hsl ?_))|refine And.intro hx0 (And.intro hxn ?_)|refine Exists.intro _ (And.intro hrx ?_)|refine And.intro u0 ?_|refine And.intro (fun h=>?_) (fun h=>?_)|refine Or.inl ?_)
   refine ar (X:=Nat) (fun w=>⟨[(96,.int .i64 w),(95,.agg [.int .i64 n,.int .i64 y]),(9,.loc 9 0),(8,.int .i64 x),(42,.int .i64 x),(40,.sl .no 5 (B.map brA)),(41,.int .i64 (B.map brA).length),(1,aZ l),(2,.loc 2 0),(7,.me .sl 38 B.length []),(xk 38,.me .arr 38 1 (gh (acc++[vW acc u n y w]) B.length))],[(9,[.int .i64 sz.a,.int .i64 u,.int .i64 z,.int .i64 y,.int .i64 n]),(2,eK st B)]⟩) (fun w=>w≤2) (fun w=>2 - w) 0 (Nat.zero_le _) (ai ?_ ?_) (fun w hw2=>?_)
   ·iterate 10 refine And.intro rfl ?_
    exact And.intro (congrArg (fun z=>some (AV.me .arr 38 1 z)) hr0) trivial
   ·repeat' (first | exact trivial | refine And.intro rfl ?_)
   ·have hall:(acc++[vW acc u n y w]).length=x+1:=by simp [hal]
    have kx:BZ B x sz.a (if w=0 then n else y)∨w=2:=by
     by_cases e:w=0
     ·rw [if_pos e]; exact .inl hn
     ·rw [if_neg e]; exact .inl hy
    have hg8:∀ c,oY acc c<256:=fun c=>by
     unfold oY
     split
     ·omega
     ·exact hlt8 _
    have hv8:vW acc u n y w<256:=by
     unfold vW
     split
     ·exact uJ hu8
     ·exact rg (uJ hu8) (hg8 _)
     ·exact rg (rg (uJ hu8) (hg8 _)) (hg8 _)
    have hwx:IntKind.i64.wrap ((x:Int) - 1)=(x:Int) - 1:=am (by omega) (by omega)
    have hrx1:∀ v,(gh (acc++[v]) B.length)[(x:Int).toNat]?=some [.int .i64 ((v:Nat):Int)]:=fun v=>by
     have:=uR (acc:=acc++[v]) (n:=B.length) (k:=x) (by simp [hal])
     rw [this]
     congr 3
     rw [List.getD_eq_getElem?_getD,List.getElem?_append_right (by omega),hal]; simp
    have hset:∀ v j,v<256→j<256→bB (gh (acc++[v]) B.length) (x:Int).toNat [.int .i64 (eq .or .i64 ((v:Nat):Int) ((j:Nat):Int))]=gh (acc++[v ||| j]) B.length:=fun v j h1 h2=>by
     rw [It h1 h2]
     have:=CO (acc:=acc) (n:=B.length) (v:=v) (w:=v ||| j)
     rw [hal] at this; exact this
    rcases w with _ | _ | w
    ·have hcw:=hset (vW acc u n y 0) (oY acc n) hv8 (hg8 _)
     have ia0:(0:Int)≤((0:Nat):Int):=Int.natCast_nonneg _
     have ia1:((0:Nat):Int)<((2:Nat):Int):=by omega
     rcases hn with rfl | ⟨j,cb,rfl,hj,hcb,hca⟩
     ·have e1:=fb (-1) (-1) (IntKind.i64.wrap ((x:Int) - 1))
      rw [hwx,show inS (-1) (-1) ((x:Int) - 1)=true by simp [inS]; omega,← hwx] at e1
      have bb4:((-1:Int) == -1)=false→False:=fun h=>by simp at h
      have hv1:vW acc u (-1) y 1=vW acc u (-1) y 0:=by simp [vW,oY]
      repeat' first|exact (bb4 (by assumption)).elim|refine QE rfl hG aa du [] ?_|((conv=>whnf); first|refine anF ?_|refine anT ?_|refine anK ?_|refine And.intro ia0 (And.intro ia1 (And.intro (Nat.le_of_ble_eq_true rfl) ?_))|refine Exists.intro _ (And.intro (e1) ?_)|refine And.intro (fun h=>?_) (fun h=>?_)|refine Or.inl ?_)
      refine Exists.intro 1 (And.intro (by omega) (And.intro (by omega) (ai ?_ ?_)))
      ·refine And.intro rfl ?_
       iterate 9 refine And.intro rfl ?_
       exact And.intro (congrArg (fun z=>some (AV.me .arr 38 1 (gh (acc++[z]) B.length))) hv1.symm) trivial
      ·repeat' (first | exact trivial | refine And.intro rfl ?_)
     ·have e1:=fb ((j:Nat):Int) (-1) (IntKind.i64.wrap ((x:Int) - 1))
      rw [hwx,show inS ((j:Nat):Int) (-1) ((x:Int) - 1)=true by simp [inS]; omega,← hwx] at e1
      have bb4:(((j:Nat):Int) == -1)=true→False:=fun h=>by have:=eq_of_beq h; omega
      have j0:(0:Int)≤((j:Nat):Int):=Int.natCast_nonneg _
      have jn:((j:Nat):Int)<((B.length:Nat):Int):=by omega
      have hxj:(B.map brA)[((j:Nat):Int).toNat]?=some (brA cb):=by rw [List.getElem?_map,Int.toNat_natCast,hcb]; rfl
      have hA2:brA cb=[.int .i64 cb.a,.int .i64 cb.o,.int .i64 cb.s,.int .i64 cb.y,.int .i64 cb.n]:=rfl
      rw [hA2] at hxj
      have bb5:decide (cb.a≤sz.a)=true→False:=fun h=>by have:=of_decide_eq_true h; omega
      have hkv:oY acc ((j:Nat):Int)=acc.getD j 0:=by unfold oY; rw [if_neg (by omega),Int.toNat_natCast]
      rw [hkv] at hcw
      have hrj:∀ v,(gh (acc++[v]) B.length)[((j:Nat):Int).toNat]?=some [.int .i64 ((acc.getD j 0:Nat):Int)]:=fun v=>by
       have:=uR (acc:=acc++[v]) (n:=B.length) (k:=j) (by simp; omega)
       rw [this]
       congr 3
       rw [List.getD_eq_getElem?_getD,List.getElem?_append_left (by omega),List.getD_eq_getElem?_getD]
      have hrjv:=hrj (vW acc u ((j:Nat):Int) y 0)
      have hrxv:=hrx1 (vW acc u ((j:Nat):Int) y 0)
      have hvv:vW acc u ((j:Nat):Int) y 1=vW acc u ((j:Nat):Int) y 0 ||| acc.getD j 0:=by rw [← hkv]; rfl
      repeat' first|exact (bb4 (by assumption)).elim|exact (bb5 (by assumption)).elim|refine QE rfl hG aa du [] ?_|((conv=>whnf); first|refine anF ?_|refine anT ?_|refine anK ?_|refine And.intro ia0 (And.intro ia1 (And.intro (Nat.le_of_ble_eq_true rfl) ?_))|refine Exists.intro _ (And.intro (e1) ?_)|refine And.intro j0 (Exists.intro _ (And.intro hxj ?_))|refine And.intro j0 (And.intro jn ?_)|refine And.intro hx0 (And.intro hxn ?_)|refine Exists.intro _ (And.intro hrjv ?_)|refine Exists.intro _ (And.intro hrxv ?_)|refine And.intro u0 ?_|refine And.intro (fun h=>?_) (fun h=>?_)|refine Or.inl ?_)
      refine Exists.intro 1 (And.intro (by omega) (And.intro (by omega) (ai ?_ ?_)))
      ·refine And.intro rfl ?_
       iterate 9 refine And.intro rfl ?_
       rw [hvv]
       exact And.intro (congrArg (fun z=>some (AV.me .arr 38 1 z)) hcw) trivial
      ·repeat' (first | exact trivial | refine And.intro rfl ?_)
    ·have hcw:=hset (vW acc u n y 1) (oY acc y) hv8 (hg8 _)
     have ia0:(0:Int)≤((1:Nat):Int):=Int.natCast_nonneg _
     have ia1:((1:Nat):Int)<((2:Nat):Int):=by omega
     rcases hy with rfl | ⟨j,cb,rfl,hj,hcb,hca⟩
     ·have e1:=fb (-1) (-1) (IntKind.i64.wrap ((x:Int) - 1))
      rw [hwx,show inS (-1) (-1) ((x:Int) - 1)=true by simp [inS]; omega,← hwx] at e1
      have bb4:((-1:Int) == -1)=false→False:=fun h=>by simp at h
      have hv1:vW acc u n (-1) 2=vW acc u n (-1) 1:=by simp [vW,oY]
      repeat' first|exact (bb4 (by assumption)).elim|refine QE rfl hG aa du [] ?_|((conv=>whnf); first|refine anF ?_|refine anT ?_|refine anK ?_|refine And.intro ia0 (And.intro ia1 (And.intro (Nat.le_of_ble_eq_true rfl) ?_))|refine Exists.intro _ (And.intro (e1) ?_)|refine And.intro (fun h=>?_) (fun h=>?_)|refine Or.inl ?_)
      refine Exists.intro 2 (And.intro (by omega) (And.intro (by omega) (ai ?_ ?_)))
      ·refine And.intro rfl ?_
       iterate 9 refine And.intro rfl ?_
       exact And.intro (congrArg (fun z=>some (AV.me .arr 38 1 (gh (acc++[z]) B.length))) hv1.symm) trivial
      ·repeat' (first | exact trivial | refine And.intro rfl ?_)
     ·have e1:=fb ((j:Nat):Int) (-1) (IntKind.i64.wrap ((x:Int) - 1))
      rw [hwx,show inS ((j:Nat):Int) (-1) ((x:Int) - 1)=true by simp [inS]; omega,← hwx] at e1
      have bb4:(((j:Nat):Int) == -1)=true→False:=fun h=>by have:=eq_of_beq h; omega
      have j0:(0:Int)≤((j:Nat):Int):=Int.natCast_nonneg _
      have jn:((j:Nat):Int)<((B.length:Nat):Int):=by omega
      have hxj:(B.map brA)[((j:Nat):Int).toNat]?=some (brA cb):=by rw [List.getElem?_map,Int.toNat_natCast,hcb]; rfl
      have hA2:brA cb=[.int .i64 cb.a,.int .i64 cb.o,.int .i64 cb.s,.int .i64 cb.y,.int .i64 cb.n]:=rfl
      rw [hA2] at hxj
      have bb5:decide (cb.a≤sz.a)=true→False:=fun h=>by have:=of_decide_eq_true h; omega
      have hkv:oY acc ((j:Nat):Int)=acc.getD j 0:=by unfold oY; rw [if_neg (by omega),Int.toNat_natCast]
      rw [hkv] at hcw
      have hrj:∀ v,(gh (acc++[v]) B.length)[((j:Nat):Int).toNat]?=some [.int .i64 ((acc.getD j 0:Nat):Int)]:=fun v=>by
       have:=uR (acc:=acc++[v]) (n:=B.length) (k:=j) (by simp; omega)
       rw [this]
       congr 3
       rw [List.getD_eq_getElem?_getD,List.getElem?_append_left (by omega),List.getD_eq_getElem?_getD]
      have hrjv:=hrj (vW acc u n ((j:Nat):Int) 1)
      have hrxv:=hrx1 (vW acc u n ((j:Nat):Int) 1)
      have hvv:vW acc u n ((j:Nat):Int) 2=vW acc u n ((j:Nat):Int) 1 ||| acc.getD j 0:=by rw [← hkv]; rfl
      have hbt:=hbit (by omega)
      rw [Int.toNat_natCast,hpre j hj,Int.toNat_natCast] at hbt
      have hbr:=Ci (d:=((acc.getD j 0:Nat):Int)) (o:=(u:Int)) (by omega) (by have:=hlt8 j; omega) (by omega) (by omega)
      rw [show ig ((acc.getD j 0:Nat):Int) (u:Int)=false by unfold ig; rw [Int.toNat_natCast,Int.toNat_natCast]; exact hbt] at hbr
      have bb6:(eq .and .i64 (((acc.getD j 0:Nat):Int).fdiv (2 ^ (min (u:Int).toNat IntKind.i64.bits))) 1==1)=true→False:=fun h=>by rw [hbr] at h; cases h
      repeat' first|exact (bb4 (by assumption)).elim|exact (bb5 (by assumption)).elim|exact (bb6 (by assumption)).elim|refine QE rfl hG aa du [] ?_|((conv=>whnf); first|refine anF ?_|refine anT ?_|refine anK ?_|refine And.intro ia0 (And.intro ia1 (And.intro (Nat.le_of_ble_eq_true rfl) ?_))|refine Exists.intro _ (And.intro (e1) ?_)|refine And.intro j0 (Exists.intro _ (And.intro hxj ?_))|refine And.intro j0 (And.intro jn ?_)|refine And.intro hx0 (And.intro hxn ?_)|refine Exists.intro _ (And.intro hrjv ?_)|refine Exists.intro _ (And.intro hrxv ?_)|refine And.intro u0 ?_|refine And.intro (fun h=>?_) (fun h=>?_)|refine Or.inl ?_)
      refine Exists.intro 2 (And.intro (by omega) (And.intro (by omega) (ai ?_ ?_)))
      ·refine And.intro rfl ?_
       iterate 9 refine And.intro rfl ?_
       rw [hvv]
       exact And.intro (congrArg (fun z=>some (AV.me .arr 38 1 z)) hcw) trivial
      ·repeat' (first | exact trivial | refine And.intro rfl ?_)
    ·have hw0:w=0:=by omega
     subst hw0
     repeat' first|refine QE rfl hG aa du [] ?_|((conv=>whnf); first|refine anF ?_|refine anT ?_|refine anK ?_|refine And.intro (fun h=>?_) (fun h=>?_)|refine Or.inl ?_)
     refine Exists.intro (x+1) (And.intro hlt (And.intro (by omega) (ai ?_ ?_)))
     ·refine And.intro (congrArg some (aq (by omega))) ?_
      iterate 5 refine And.intro rfl ?_
      exact And.intro (congrArg (fun z=>some (AV.me .arr 38 1 (gh z B.length))) hsn.symm) trivial
     ·repeat' (first | exact trivial | refine And.intro rfl ?_)
  ·have bb2:decide ((x:Int)<((B.map brA).length:Int))=true→False:=fun h=>by have:=of_decide_eq_true h; simp at this; omega
   repeat' first|exact (bb2 (by assumption)).elim|refine QE rfl hG aa du [] ?_|((conv=>whnf); first|refine anF ?_|refine anT ?_|refine anK ?_|refine Exists.intro _ (And.intro (cL) ?_)|refine Exists.intro _ (And.intro (cS) ?_)|refine And.intro (fun h=>?_) (fun h=>?_)|refine Or.inl ?_)
   all_goals exact Ends.mk (Or.inl rfl) (ac rfl)
end Go.Proofs
namespace Go.Proofs
open Go Go.AI
set_option maxRecDepth 10000
def cfL (l:List Opt) (lost:List Int) (o s:Int):Bool := !(inP lost (aN (ap l o.toNat) s.toNat).p)
def cfC (l:List Opt) (lost:List Int):List AV:=[.ref [aG lost],.ref [aZ l]]
theorem wE (l:List Opt) (lost:List Int) (hl:lost.length≤1000000) (a y n:Int) (u z:Nat) (hu:u<l.length) (hz:z<(ap l u).sl.length):ae Tryz.prog 34 (.agg (brA ⟨a,(u:Int),(z:Int),y,n⟩)::cfC l lost) (.bool (cfL l lost u z)):=by
 have hou:=fX hu
 have hsl:((ap l u).sl.map ax)[(z:Int).toNat]?=some (ax (aN (ap l u) z)):=by simp [aN,List.getElem?_eq_getElem hz]
 have hcf:cfL l lost (u:Int) (z:Int) = !(inP lost (aN (ap l u) z).p):=rfl
 rw [hcf]
 have ci:=hU lost (aN (ap l u) z).p hl
 generalize ap l u=op at *
 generalize aN op z=sz at *
 generalize inP lost sz.p=q at *
 refine ah aa Tryz.func34 rfl (by kernel_rfl) af (Nat.le_of_ble_eq_true rfl) ?_
 intro F n' w0 m0 hG hro h1
 repeat' first|refine QS rfl hG aa zn ?_|((conv=>whnf); first|refine anF ?_|refine anT ?_|refine anK ?_|refine Exists.intro _ (And.intro (ci) ?_)|refine And.intro (Int.natCast_nonneg u) (Exists.intro _ (And.intro hou ?_))|refine And.intro (Int.natCast_nonneg z) (Exists.intro _ (And.intro hsl ?_))|refine And.intro (fun h=>?_) (fun h=>?_)|refine Or.inl ?_)
 all_goals exact Ends.mk (Or.inl rfl) (ac rfl)
theorem Dy (st:Int) (B:List Br) (g:FuncId) (cap:List AV):ae Tryz.prog 33 [.agg (eK st B),.clo g cap] (.clo 62 [.ref (eK st B),.ref [.clo g cap]]):=by
 refine ah aa Tryz.func33 rfl (by kernel_rfl) af (Nat.le_of_ble_eq_true rfl) ?_
 intro F n' w0 m0 hG hro h1
 repeat' first|refine QS rfl hG aa zo ?_|((conv=>whnf); first|refine anF ?_|refine anT ?_|refine anK ?_|refine And.intro (fun h=>?_) (fun h=>?_)|refine Or.inl ?_)
 all_goals exact Ends.mk (Or.inl rfl) (ac rfl)
def ki (x:tv):List AV:=[.int .i64 x.1,.int .i64 x.2.1,.bool x.2.2]
def wA (x:tv×Int):List AV:=[.agg (ki x.1),.int .i64 x.2]
set_option maxHeartbeats 8000000 in
theorem yC (st:Int) (B:List Br) (t:BT) (hr:rep B t st) (g:FuncId) (cap:List AV) (cf:Int→Int→Bool) (hcf:∀ b∈B,ae Tryz.prog g (.agg (brA b)::cap) (.bool (cf b.o b.s))):kf Tryz.prog wA 62 [.ref (eK st B),.ref [.clo g cap]] (iV B cf t st):=by
 refine kf.of Tryz.func62 rfl (by kernel_rfl) af (Nat.le_of_ble_eq_true rfl) rfl ?_
 intro F n m y J Jx hY
 repeat' first|refine MPB.seq ?_|refine MPB.block ?_|refine MPB.reg hY aa dq (by kernel_rfl) ?_|refine MPB.skip ?_|refine MPB.label ?_|refine MPB.ret ?_|refine MPB.exit ?_|refine MPB.condT rfl ?_|refine MPB.condF rfl ?_|refine MPB.cond rfl (And.intro (fun h=>?_) (fun h=>?_))|((conv=>whnf); first|refine anF ?_|refine anT ?_|refine anK ?_|refine And.intro (fun h=>?_) (fun h=>?_)|refine Or.inl ?_)
 refine MPB.loop (X:=Nat×BT×Int) (fun x=>((false,x.1),⟨[(4,.int .i64 x.2.2),(0,.lit (.func (.yield y) #[] #[])),(1,.ref (eK st B)),(2,.ref [.clo g cap])],[]⟩)) (fun x=>x.1≤(iV B cf t st).length∧rep B x.2.1 x.2.2∧(iV B cf t st).drop x.1=iV B cf x.2.1 x.2.2) (fun x=>tsz x.2.1) (0,t,st) ⟨Nat.zero_le _,hr,rfl⟩ rfl (ai ?_ ?_) (fun x hx=>?_)
 ·repeat' (first | exact trivial | refine And.intro rfl ?_)
 ·repeat' (first | exact trivial | refine And.intro rfl ?_)
 ·obtain ⟨c,t',kk⟩:=x
  obtain ⟨hc,hr',hd⟩:=hx
  simp only at hc hr' hd
  dsimp only
  cases t' with
  | stop=>
   have hk:kk = -1:=hr'
   subst hk
   have bb1:(!((-1:Int) == -1))=true→False:=fun h=>by simp at h
   have bb1':((-1:Int) != -1)=true→False:=fun h=>by simp at h
   have hce:c=(iV B cf t st).length:=by
    have:=congrArg List.length hd
    simp [iV] at this; omega
   repeat' first|exact (bb1 (by assumption)).elim|exact (bb1' (by assumption)).elim|refine MPB.seq ?_|refine MPB.block ?_|refine MPB.reg hY aa dq (by kernel_rfl) ?_|refine MPB.skip ?_|refine MPB.label ?_|refine MPB.ret ?_|refine MPB.exit ?_|refine MPB.condT rfl ?_|refine MPB.condF rfl ?_|refine MPB.cond rfl (And.intro (fun h=>?_) (fun h=>?_))|((conv=>whnf); first|refine anF ?_|refine anT ?_|refine anK ?_|refine And.intro (fun h=>?_) (fun h=>?_)|refine Or.inl ?_)
   exact fp.mk (Or.inr rfl) (Or.inl (congrArg (Prod.mk false) hce))
  | node a o s yt nt=>
   obtain ⟨ky,kn,r1,r2,r3,r4⟩:=hr'
   have hb:B.getD kk.toNat default=⟨a,o,s,ky,kn⟩:=by rw [List.getD_eq_getElem?_getD,r4]; rfl
   have hxi:(B.map brA)[kk.toNat]?=some (brA ⟨a,o,s,ky,kn⟩):=by rw [List.getElem?_map,r4]; rfl
   have cc:=hcf _ (List.mem_of_getElem? r4)
   have bb1:(kk != -1)=false→False:=fun h=>by simp at h; omega
   have p1:=jv yt
   have p2:=jv nt
   simp only [iV,hb] at hd
   simp only at cc
   have hget:∀ (it:tv×Int) (r:List (tv×Int)),(iV B cf t st).drop c=it::r→(iV B cf t st)[c]?=some it∧(iV B cf t st).drop (c+1)=r∧c+1≤(iV B cf t st).length:=fun it r h=>by
    have h1:c<(iV B cf t st).length:=by
     have:=congrArg List.length h
     simp at this; omega
    rw [List.drop_eq_getElem_cons h1] at h
    simp only [List.cons.injEq] at h
    exact ⟨by rw [List.getElem?_eq_getElem h1,h.1],h.2,h1⟩
   generalize hW:iV B cf t st=items at *
   cases hcfv:cf o s with
   | true=>
    simp only [hcfv,if_true,Bool.false_eq_true,if_false] at hd
    rw [hcfv] at cc
    obtain ⟨hg,hd2,hc2⟩:=hget _ _ hd
    repeat' first|exact (bb1 (by assumption)).elim|refine MPB.seq ?_|refine MPB.block ?_|refine MPB.reg hY aa dq (by kernel_rfl) ?_|refine MPB.skip ?_|refine MPB.label ?_|refine MPB.ret ?_|refine MPB.exit ?_|refine MPB.condT rfl ?_|refine MPB.condF rfl ?_|refine MPB.cond rfl (And.intro (fun h=>?_) (fun h=>?_))|((conv=>whnf); first|refine anF ?_|refine anT ?_|refine anK ?_|refine Exists.intro _ (And.intro (cc) ?_)|refine And.intro r3 (Exists.intro _ (And.intro hxi ?_))|refine And.intro (fun h=>?_) (fun h=>?_)|refine Or.inl ?_)
    refine Exists.intro ((o,s,true),ky) (And.intro hg (And.intro rfl (fun t ht=>?_)))
    subst ht
    refine And.intro ?_ ?_
    ·repeat' first|refine MPB.seq ?_|refine MPB.block ?_|refine MPB.reg hY aa dq (by kernel_rfl) ?_|refine MPB.skip ?_|refine MPB.label ?_|refine MPB.ret ?_|refine MPB.exit ?_|refine MPB.condT rfl ?_|refine MPB.condF rfl ?_|refine MPB.cond rfl (And.intro (fun h=>?_) (fun h=>?_))|((conv=>whnf); first|refine anF ?_|refine anT ?_|refine anK ?_|refine And.intro (fun h=>?_) (fun h=>?_)|refine Or.inl ?_)
     refine Exists.intro (c+1,yt,ky) (And.intro ⟨hc2,r1,hd2⟩ (And.intro (by simp only [tsz]; omega) (And.intro rfl (ai ?_ ?_))))
     ·repeat' (first | exact trivial | refine And.intro rfl ?_)
     ·repeat' (first | exact trivial | refine And.intro rfl ?_)
    ·repeat' first|refine MPB.seq ?_|refine MPB.block ?_|refine MPB.reg hY aa dq (by kernel_rfl) ?_|refine MPB.skip ?_|refine MPB.label ?_|refine MPB.ret ?_|refine MPB.exit ?_|refine MPB.condT rfl ?_|refine MPB.condF rfl ?_|refine MPB.cond rfl (And.intro (fun h=>?_) (fun h=>?_))|((conv=>whnf); first|refine anF ?_|refine anT ?_|refine anK ?_|refine And.intro (fun h=>?_) (fun h=>?_)|refine Or.inl ?_)
     exact fp.mk (Or.inl rfl) (Or.inr rfl)
   | false=>
    simp only [hcfv,if_true,Bool.false_eq_true,if_false] at hd
    rw [hcfv] at cc
    obtain ⟨hg,hd2,hc2⟩:=hget _ _ hd
    repeat' first|exact (bb1 (by assumption)).elim|refine MPB.seq ?_|refine MPB.block ?_|refine MPB.reg hY aa dq (by kernel_rfl) ?_|refine MPB.skip ?_|refine MPB.label ?_|refine MPB.ret ?_|refine MPB.exit ?_|refine MPB.condT rfl ?_|refine MPB.condF rfl ?_|refine MPB.cond rfl (And.intro (fun h=>?_) (fun h=>?_))|((conv=>whnf); first|refine anF ?_|refine anT ?_|refine anK ?_|refine Exists.intro _ (And.intro (cc) ?_)|refine And.intro r3 (Exists.intro _ (And.intro hxi ?_))|refine And.intro (fun h=>?_) (fun h=>?_)|refine Or.inl ?_)
    refine Exists.intro ((o,s,false),kn) (And.intro hg (And.intro rfl (fun t ht=>?_)))
    subst ht
    refine And.intro ?_ ?_
    ·repeat' first|refine MPB.seq ?_|refine MPB.block ?_|refine MPB.reg hY aa dq (by kernel_rfl) ?_|refine MPB.skip ?_|refine MPB.label ?_|refine MPB.ret ?_|refine MPB.exit ?_|refine MPB.condT rfl ?_|refine MPB.condF rfl ?_|refine MPB.cond rfl (And.intro (fun h=>?_) (fun h=>?_))|((conv=>whnf); first|refine anF ?_|refine anT ?_|refine anK ?_|refine And.intro (fun h=>?_) (fun h=>?_)|refine Or.inl ?_)
     refine Exists.intro (c+1,nt,kn) (And.intro ⟨hc2,r2,hd2⟩ (And.intro (by simp only [tsz]; omega) (And.intro rfl (ai ?_ ?_))))
     ·repeat' (first | exact trivial | refine And.intro rfl ?_)
     ·repeat' (first | exact trivial | refine And.intro rfl ?_)
    ·repeat' first|refine MPB.seq ?_|refine MPB.block ?_|refine MPB.reg hY aa dq (by kernel_rfl) ?_|refine MPB.skip ?_|refine MPB.label ?_|refine MPB.ret ?_|refine MPB.exit ?_|refine MPB.condT rfl ?_|refine MPB.condF rfl ?_|refine MPB.cond rfl (And.intro (fun h=>?_) (fun h=>?_))|((conv=>whnf); first|refine anF ?_|refine anT ?_|refine anK ?_|refine And.intro (fun h=>?_) (fun h=>?_)|refine Or.inl ?_)
     exact fp.mk (Or.inl rfl) (Or.inr rfl)
end Go.Proofs
namespace Go.Proofs
open Go Go.AI
set_option maxRecDepth 10000
def Cp (l:List tv):AV := .sl .no 3 (l.map ki)
structure GQ (lost:List Int):Prop where
 len:lost.length≤1000
 rng:∀ i,i<lost.length→inS (lost.getD i 0) 0 63=true
 asc:∀ i,i+1<lost.length→lost.getD i 0<lost.getD (i+1) 0
theorem u4 {l:List Int} {i:Nat} (h:i<l.length):(l.map fun h=>[AV.int .i64 h])[(i:Int).toNat]?=some [.int .i64 (l.getD i 0)]:=by simp [List.getElem?_eq_getElem h]
set_option maxHeartbeats 16000000 in
theorem wD (l:List Opt) (st:Int) (B:List Br) (t:BT) (lost:List Int) (hP:Bm l) (hT:IL l st B) (cL:ae Tryz.prog 61 [.agg (eK st B),.int .i64 st] (.agg (eK st B))) (hr:rep B t st) (hL:GQ lost) (hlen:(iV B (cfL l lost) t st).length≤1000) :
  ae Tryz.prog 11 [.agg (eK st B),aZ l,aG lost] (.tup [Cp ((iV B (cfL l lost) t st).map (·.1)),.int .i64 0]):=by
 have cV:=yD l st B hP hT cL
 have hseq:=yC st B t hr 34 (cfC l lost) (cfL l lost) (fun b hb=>by
  obtain ⟨i,hi⟩:=List.mem_iff_getElem?.1 hb
  obtain ⟨⟨u,h1,h2,z,h3,h4,_⟩,_,_,_⟩:=hT.br i b hi
  obtain ⟨a,o,s,y,n⟩:=b
  simp only at h1 h3
  subst h1; subst h3
  exact wE l lost (by have:=hL.len; omega) a y n u z h2 h4)
 have hll:=hL.len
 generalize iV B (cfL l lost) t st=items at *
 refine ah aa Tryz.func11 rfl (by kernel_rfl) af (Nat.le_of_ble_eq_true rfl) ?_
 intro F n' w0 m0 hG hro h1
 repeat' first|refine QS rfl hG aa eQ ?_|((conv=>whnf); first|refine anF ?_|refine anT ?_|refine anK ?_|refine Exists.intro _ (And.intro (cV) ?_)|refine And.intro (fun h=>?_) (fun h=>?_)|refine Or.inl ?_)
 refine ar (X:=Nat) (fun x=>⟨[(18,.int .i64 x),(17,.int .i64 (lost.map fun h=>[AV.int .i64 h]).length),(16,aG lost),(3,.loc 3 0),(4,.loc 4 0),(5,.loc 5 0)],[(5,[aG lost]),(4,[aZ l]),(3,eK st B)]⟩) (fun x=>x≤lost.length) (fun x=>lost.length - x) 0 (Nat.zero_le _) (ai ?_ ?_) (fun x hx=>?_)
 ·repeat' (first | exact trivial | refine And.intro rfl ?_)
 ·repeat' (first | exact trivial | refine And.intro rfl ?_)
 ·by_cases hlt:x<lost.length
  ·have bb1:decide ((x:Int)<((lost.map fun h=>[AV.int .i64 h]).length:Int))=false→False:=fun h=>by have:=of_decide_eq_false h; simp at this; omega
   have hxi:=u4 hlt
   have c1:=fb (lost.getD x 0) 0 63
   rw [hL.rng x hlt] at c1
   have hwx:IntKind.i64.wrap ((x:Int) - 1)=(x:Int) - 1:=am (by omega) (by omega)
   have hprev:decide ((x:Int)>0)=true→0≤IntKind.i64.wrap ((x:Int) - 1)∧(lost.map fun h=>[AV.int .i64 h])[(IntKind.i64.wrap ((x:Int) - 1)).toNat]?=some [.int .i64 (lost.getD (x - 1) 0)]:=fun h=>by
    have h:=of_decide_eq_true h
    rw [hwx]
    refine ⟨by omega,?_⟩
    have e:((x:Int) - 1)=((x - 1:Nat):Int):=by omega
    rw [e]
    exact u4 (by omega)
   have bb2:decide ((x:Int)>0)=true→decide (lost.getD x 0≤lost.getD (x - 1) 0)=true→False:=fun g h=>by
    have g:=of_decide_eq_true g
    have h:=of_decide_eq_true h
    have:=hL.asc (x - 1) (by omega)
    rw [show x - 1+1=x by omega] at this; omega
   generalize lost.getD x 0=v at *
   generalize lost.getD (x - 1) 0=pv at *
   repeat' first|exact (bb1 (by assumption)).elim|exact (bb2 (by assumption) (by assumption)).elim|refine QS rfl hG aa eQ ?_|((conv=>whnf); first|refine anF ?_|refine anT ?_|refine anK ?_|refine Exists.intro _ (And.intro (c1) ?_)|refine And.intro (Int.natCast_nonneg x) (Exists.intro _ (And.intro hxi ?_))|refine And.intro (hprev (by assumption)).1 (Exists.intro _ (And.intro (hprev (by assumption)).2 ?_))|refine And.intro (fun h=>?_) (fun h=>?_)|refine Or.inl ?_)
   all_goals refine Exists.intro (x+1) (And.intro hlt (And.intro (by omega) (ai (And.intro (congrArg some (aq (by omega))) ?_) ?_)))
   all_goals repeat' (first | exact trivial | refine And.intro rfl ?_)
  ·have bb1:decide ((x:Int)<((lost.map fun h=>[AV.int .i64 h]).length:Int))=true→False:=fun h=>by have:=of_decide_eq_true h; simp at this; omega
   repeat' first|exact (bb1 (by assumption)).elim|refine QS rfl hG aa eQ ?_|((conv=>whnf); first|refine anF ?_|refine anT ?_|refine anK ?_|refine Exists.intro _ (And.intro (Dy _ _ _ _) ?_)|refine And.intro (fun h=>?_) (fun h=>?_)|refine Or.inl ?_)
   refine SPB.resize 10 0 1010000 3 rfl rfl ?_
   conv=>whnf
   refine ⟨SP.rangeM hG hro h1 (α:=tv×Int) wA (f:=62) (cap:=[.ref (eK st B),.ref [.clo 34 (cfC l lost)]]) (items:=items) rfl hseq (fun _=>rfl) (fun _=>[(10,.loc 10 0)]) [10] (fun _=>rfl)
    (fun p=>[(10,[.sl (.id 1010000) 3 ((p.map (·.1)).map ki)])]) (ai ?_ ?_) (by kernel_rfl) (by decide) ?_ ?_⟩
   ·repeat' (first | exact trivial | refine And.intro rfl ?_)
   ·repeat' (first | exact trivial | refine And.intro rfl ?_)
   ·intro F' n'' m' hG' pre y rest hy
    clear hG
    have hG:=hG'
    have hpl:pre.length<1000:=by
     have:=congrArg List.length hy
     simp at this; omega
    have hrow:((pre++[y]).map (·.1)).map ki=(pre.map (·.1)).map ki++[ki y.1]:=by simp
    have hln:((pre.map (·.1)).map ki).length<1000:=by simpa using hpl
    generalize (pre.map (·.1)).map ki=row at hrow hln
    obtain ⟨⟨yo,ys,yb⟩,yk⟩:=y
    refine SPB.out (Q4 hG aa eQ (by kernel_rfl) ?_)
    conv=>whnf
    refine And.intro rfl (And.intro (ai ?_ ?_) ?_)
    ·repeat' (first | exact trivial | refine And.intro rfl ?_)
    ·repeat' (first | exact trivial | refine And.intro rfl ?_)
    refine SPB.out ?_
    repeat' first|refine QS rfl hG aa eQ ?_|((conv=>whnf); first|refine anF ?_|refine anT ?_|refine anK ?_|refine And.intro (show (row.length+1)*24≤70368744177664 by omega) (And.intro (show row.length+1≤4611686018427387904 by omega) ?_)|refine And.intro (fun h=>?_) (fun h=>?_)|refine Or.inl ?_)
    refine ai ?_ ?_
    ·repeat' (first | exact trivial | refine And.intro rfl ?_)
    ·dsimp only; rw [hrow]; repeat' (first | exact trivial | refine And.intro rfl ?_)
   ·conv=>whnf
    repeat' first|refine QS rfl hG aa eQ ?_|((conv=>whnf); first|refine anF ?_|refine anT ?_|refine anK ?_|refine And.intro (fun h=>?_) (fun h=>?_)|refine Or.inl ?_)
    all_goals exact Ends.mk (Or.inl rfl) (ac rfl)
end Go.Proofs
namespace Go.Proofs
open Go Go.AI
theorem py {s0 m d n:Int} {ps:List ao} {t0:Int} (hn:0≤n):∀ k,((dw s0 m d n ps t0 k).2.length:Int)≤n
 | 0=>by simpa [dw] using hn
 | k+1=>by
  have ih:=py (s0:=s0) (m:=m) (d:=d) (n:=n) (ps:=ps) (t0:=t0) hn k
  rw [gd]
  unfold kr
  split
  ·rename_i h; simp; omega
  ·exact ih
theorem nF {s:Nat→Int} {ps:List ao} {from_ id:Int} {z:List R5} (hz:∀ x∈z,s8 x):∀ i,i≤z.length→∀ o∈cN s ps from_ id z i,o.sl.length≤3
 | 0,_,o,ho=>nomatch ho
 | i+1,hi,o,ho=>by
  rw [cN,List.mem_append] at ho
  rcases ho with ho | ho
  ·exact nF hz i (by omega) o ho
  ·split at ho
   ·simp only [List.mem_singleton] at ho
    subst ho
    have hx:s8 (z.getD i r50):=by rw [List.getD_eq_getElem?_getD,List.getElem?_eq_getElem (by omega)]; exact hz _ (List.getElem_mem (by omega))
    obtain ⟨_,_,_,_,he⟩:=hx
    have hp:0≤al (w64 ((z.getD i r50).e.tdiv 4)) 3∧al (w64 ((z.getD i r50).e.tdiv 4)) 3<3:=by
     exact aJ (lu _) (by omega)
    have:=py (s0:=s 0) (m:=1+al (z.getD i r50).d 4) (d:=al (w64 ((z.getD i r50).d.tdiv 4)) 3) (ps:=ps) (t0:=from_+al (z.getD i r50).a 40+1+al (z.getD i r50).b 5) (n:=1+al (w64 ((z.getD i r50).e.tdiv 4)) 3) (by omega) ps.length
    show (dw _ _ _ _ _ _ _).2.length≤3
    omega
   ·nomatch ho
theorem pL:∀ (t:Int) (l:List aS),eH t l=true→l.Pairwise (fun x y=>x.b≤y.a)∧∀ x∈l,t≤x.a∧x.a<x.b
 | _,[],_=>⟨.nil,fun x hx=>nomatch hx⟩
 | t,x::r,h=>by
  simp only [eH,lS,Bool.and_eq_true,decide_eq_true_eq] at h
  obtain ⟨h1,h2⟩:=pL x.b r h.2
  refine ⟨List.pairwise_cons.2 ⟨fun y hy=>(h2 y hy).1,h1⟩,fun y hy=>?_⟩
  rcases List.mem_cons.1 hy with rfl | hy
  ·omega
  ·have:=h2 y hy; omega
structure GS (l:List Opt):Prop where
 len:l.length≤5
 three:∀ o∈l,o.sl.length≤3
 track:∃ s ps a b,a8 s l ps a b=true∧ps.length≤6
 apart:l.Pairwise fun x y=>¬ zS x y
theorem px {s:Nat→Int} {ps:List ao} {z:Int}:∀ (t:Int) (l:List aS),bj s ps z t l=true→∀ x∈l,∃ t,ez s ps z t x=true
 | _,[],_,x,hx=>nomatch hx
 | t,y::r,h,x,hx=>by
  simp only [bj,Bool.and_eq_true] at h
  rcases List.mem_cons.1 hx with rfl | hx
  ·exact ⟨t,h.1⟩
  ·exact px y.b r h.2 x hx
theorem jC {o:Opt} {z:Nat} (h:z<o.sl.length):aN o z∈o.sl:=by
 rw [aN,List.getD_eq_getElem?_getD,List.getElem?_eq_getElem h]; exact List.getElem_mem h
theorem cT {l:List Opt} {x:Nat} (h:x<l.length):ap l x∈l:=by rw [bN h]; exact List.getElem_mem h
def apP (p q:Pl):Prop:=p.b≤q.a∨q.b≤p.a
theorem tB {o:Opt} (hp:o.sl.Pairwise fun x y=>x.b≤y.a) (i:Nat):∀ y,y≤o.sl.length→(kw i o y).Pairwise fun p q=>p.b≤q.a
 | 0,_ => .nil
 | y+1,h=>by
  rw [kw,List.pairwise_append]
  refine ⟨tB hp i y (by omega),List.pairwise_singleton _ _,fun p h1 q h2=>?_⟩
  obtain ⟨z,h3,rfl⟩:=nq.1 h1
  simp only [List.mem_singleton] at h2
  subst h2
  have:=List.pairwise_iff_getElem.1 hp z y (by omega) (by omega) h3
  simp only [aN,List.getD_eq_getElem?_getD]
  rw [List.getElem?_eq_getElem (by omega),List.getElem?_eq_getElem (by omega)]
  exact this
theorem xl {l:List Opt} (hs:∀ o∈l,o.sl.Pairwise (fun x y=>x.b≤y.a)) (hb:∀ o∈l,∀ x∈o.sl,x.a<x.b) (ha:l.Pairwise fun x y=>¬ zS x y):∀ x,x≤l.length→(ge l x).Pairwise apP
 | 0,_ => .nil
 | x+1,h=>by
  rw [ge,List.pairwise_append]
  have hx:=cT (l:=l) (x:=x) (by omega)
  refine ⟨xl hs hb ha x (by omega),(tB (hs _ hx) x _ (Nat.le_refl _)).imp fun h => .inl h,fun p h1 q h2=>?_⟩
  obtain ⟨u,h3,z,h4,rfl⟩:=nA.1 h1
  obtain ⟨w,h5,rfl⟩:=nq.1 h2
  have hu:=cT (l:=l) (x:=u) (by omega)
  have hm:=List.pairwise_iff_getElem.1 ha u x (by omega) (by omega) h3
  rw [← bN,← bN] at hm
  have m1:=jC h4
  have m2:=jC h5
  have b1:=hb _ hu _ m1
  have b2:=hb _ hx _ m2
  unfold apP
  by_cases g:(aN (ap l u) z).b≤(aN (ap l x) w).a
  ·exact .inl g
  ·refine .inr ?_
   by_cases g2:(aN (ap l x) w).b≤(aN (ap l u) z).a
   ·exact g2
   ·refine absurd ⟨_,List.mem_map.2 ⟨_,m1,rfl⟩,_,List.mem_map.2 ⟨_,m2,rfl⟩,?_⟩ hm
    show max (aN (ap l u) z).a (aN (ap l x) w).a<min (aN (ap l u) z).b (aN (ap l x) w).b
    omega
theorem xt {l:List Opt} (h3:∀ o∈l,o.sl.length≤3):∀ x,x≤l.length→(ge l x).length≤3*x
 | 0,_=>Nat.le_refl _
 | x+1,h=>by
  rw [ge,List.length_append,nr]
  have:=xt h3 x (by omega)
  have:=h3 _ (cT (l:=l) (x:=x) (by omega))
  omega
end Go.Proofs
namespace Go.Proofs
open Go Go.AI
theorem EN {α:Type} {R:α→α→Prop} (hsym:∀ x y,R x y→R y x) {l m:List α} (h:l.Perm m) (hl:l.Pairwise R):m.Pairwise R:=(h.pairwise_iff fun h=>hsym _ _ h).1 hl
structure oE (l:List Opt):Prop where
 ok:Bm l
 few:(aw l).length≤15
 up:(aw l).Pairwise fun p q=>p.a<q.a
 mem:∀ p,p∈aw l↔∃ u,u<l.length∧∃ z,z<(ap l u).sl.length∧p=⟨u,z,(aN (ap l u) z).a,(aN (ap l u) z).b⟩
 inc:∀ u,u<l.length→(ap l u).sl.Pairwise fun x y=>x.b≤y.a
 wid:∀ u,u<l.length→∀ x∈(ap l u).sl,x.a<x.b
theorem GS.facts {l:List Opt} (h:GS l):oE l:=by
 obtain ⟨s,ps,a,b,ht,h6⟩:=h.track
 obtain ⟨t1,t2,t3,t4,t5,t6,t7⟩:=bz.1 ht
 obtain ⟨_,_,hfit⟩:=qq.of ht
 have hfo:∀ o∈l,o.sl.Pairwise (fun x y=>x.b≤y.a)∧∀ x∈o.sl,x.a<x.b:=fun o ho=>by
  have hc:=(hfit o ho).can
  simp only [na,Bool.and_eq_true] at hc
  obtain ⟨f1,f2⟩:=pL _ _ hc.1
  exact ⟨f1,fun x hx=>(f2 x hx).2⟩
 have hperm:(aw l).Perm (qg l):=kP _ (Nat.le_refl _)
 have hmem:∀ p,p∈aw l↔∃ u,u<l.length∧∃ z,z<(ap l u).sl.length∧p=⟨u,z,(aN (ap l u) z).a,(aN (ap l u) z).b⟩:=fun p=>by
  rw [hperm.mem_iff]; exact nA
 have hfew:(qg l).length≤15:=by
  have:=xt h.three l.length (Nat.le_refl _)
  have:=h.len
  show (ge l l.length).length≤15
  omega
 have hap:(aw l).Pairwise apP:=EN (fun x y h=>h.symm) hperm.symm (xl (fun o ho=>(hfo o ho).1) (fun o ho=>(hfo o ho).2) h.apart _ (Nat.le_refl _))
 have hle:(aw l).Pairwise fun p q=>p.a≤q.a:=s7 _
 have hw:∀ p∈aw l,p.a<p.b:=fun p hp=>by
  obtain ⟨u,h1,z,h2,rfl⟩:=(hmem p).1 hp
  exact (hfo _ (cT h1)).2 _ (jC h2)
 have hcl:∀ i j (hi:i<(aw l).length) (hj:j<(aw l).length),i<j→(aw l)[i].b≤(aw l)[j].a:=fun i j hi hj hij=>by
  have h1:=List.pairwise_iff_getElem.1 hap i j hi hj hij
  have h2:=List.pairwise_iff_getElem.1 hle i j hi hj hij
  have h3:=hw _ (List.getElem_mem hi)
  have h4:=hw _ (List.getElem_mem hj)
  rcases h1 with h1 | h1 <;> omega
 refine ⟨⟨by have:=h.len; omega,fun x hx=>(hfit _ (cT hx)).can,fun x y hxy hy=>?_,fun x hx=>?_,fun x hx y hy=>?_,by omega,fun i hi=>?_⟩,by rw [hperm.length_eq]; exact hfew,?_,hmem,fun u hu=>(hfo _ (cT hu)).1,fun u hu=>(hfo _ (cT hu)).2⟩
 ·have:=List.pairwise_iff_getElem.1 t7 x y (by omega) hy hxy
  rwa [← bN,← bN] at this
 ·have key:∀ x,x<l.length→(ap l x).sat=s 0:=fun x hx=>by
   have hf:=(t6 _ (cT hx)).1
   simp only [cY,mm,Bool.and_eq_true,beq_iff_eq] at hf
   exact hf.1.1.1.1.2
  rw [key x hx,key 0 (by omega)]
 ·have hf:=(t6 _ (cT hx)).1
  simp only [cY,Bool.and_eq_true] at hf
  obtain ⟨t,hsl⟩:=px _ _ hf.2 _ (jC hy)
  simp only [ez,Bool.and_eq_true] at hsl
  have h1:=hsl.1
  rw [am (by omega) (by omega)] at h1
  simp only [inS,Bool.and_eq_true,decide_eq_true_eq] at h1 ⊢
  omega
 ·have:=hcl i (i+1) (by omega) hi (by omega)
  rw [List.getD_eq_getElem?_getD,List.getD_eq_getElem?_getD,List.getElem?_eq_getElem hi,List.getElem?_eq_getElem (by omega)]
  exact this
 ·rw [List.pairwise_iff_getElem]
  intro i j hi hj hij
  have h1:=hcl i j hi hj hij
  have h2:=hw _ (List.getElem_mem hi)
  omega
end Go.Proofs
namespace Go.Proofs
open Go Go.AI
structure Je (l:List Opt) (st:Int) (B:List Br):Prop where
 tr:IL l st B
 rp:rep B (G (aw l) 0) st
 lf:(bq B (G (aw l) 0) st [([-1],-1)] []).1=st∧(bq B (G (aw l) 0) st [([-1],-1)] []).2.2=B
 sz:tsz (G (aw l) 0)≤100000
theorem oP (cf:Int→Int→Bool):∀ (l:List Pl) (d:Int),(fi cf l d).length≤l.length
 | [],_=>Nat.le_refl _
 | p::r,d=>by
  simp only [fi]
  split
  ·have:=oP cf r d; simp only [List.length_cons]; omega
  ·have:=oP cf r (if cf p.o p.s then orD d p.o else d); simp only [List.length_cons]; omega
theorem oE.tree {l:List Opt} (h:oE l) (h5:l.length≤5):Je l (bQ (aw l)).1 (bQ (aw l)).2.2:=by
 have ho:∀ p∈aw l,0≤p.o∧p.o<((5:Nat):Int):=fun p hp=>by
  obtain ⟨u,h1,z,h2,rfl⟩:=(h.mem p).1 hp
  exact ⟨Int.natCast_nonneg _,by show (u:Int)<_; omega⟩
 obtain ⟨g1,g2,_⟩:=jO (aw l) (aw l) 0 0 [] [] rfl List.nodup_nil (fun i d v hv=>nomatch hv)
 have hnd:(bQ (aw l)).2.2.Nodup:=by
  show (bn (aw l) 0 0 [] []).2.2.Nodup
  rw [g2]; exact kU _ List.nodup_nil
 have hrp:rep (bQ (aw l)).2.2 (G (aw l) 0) (bQ (aw l)).1:=by
  show rep (bn (aw l) 0 0 [] []).2.2 _ (bn (aw l) 0 0 [] []).1
  rw [g1,g2]; exact mY _ _
 have hok:tV (aw l) 5 (bQ (aw l)).2.2:=by
  show tV _ _ (bn (aw l) 0 0 [] []).2.2
  rw [g2]
  exact B7 (aw l) 5 ho (aw l) 0 0 [] rfl (by omega) (by decide) (fun i b hb=>by simp at hb)
 have hlen:(bQ (aw l)).2.2.length≤1500:=by
  have:=ET hnd hok
  have:=h.few
  have:(aw l).length*2 ^ 5≤15*2 ^ 5:=Nat.mul_le_mul_right _ h.few
  omega
 have hst:=CG hrp
 have hlf:=mX (bQ (aw l)).2.2 (G (aw l) 0) (bQ (aw l)).1 [([-1],-1)] [] hrp List.nodup_nil ⟨rfl,fun k v t hv ht=>by
  simp only [gU] at hv
  split at hv
  ·rename_i e
   simp only [List.cons.injEq,and_true] at e
   simp only [Option.some.injEq] at hv
   subst e; subst hv
   cases t with
   | stop=>rfl
   | node a o s y n=>
    obtain ⟨_,_,_,_,h3,_⟩:=ht
    omega
  ·cases hv⟩
 have hlf1:(hc (G (aw l) 0) [])=((bQ (aw l)).1,(bQ (aw l)).2.2):=by
  show _=((bn (aw l) 0 0 [] []).1,(bn (aw l) 0 0 [] []).2.2)
  rw [g1,g2]
 rw [hlf1] at hlf
 refine ⟨⟨hlen,?_,fun i b hb=>?_⟩,hrp,⟨hlf.1,hlf.2.1⟩,?_⟩
 ·simp only [inS,Bool.and_eq_true,decide_eq_true_eq]
  rcases hst with e | e <;> omega
 ·obtain ⟨d1,d2⟩:=(hok i b hb).down h.up
  have hbit:=EV.opt h.up (fun p hp=>(ho p hp).1) hok hb
  obtain ⟨j,p,r,d,q1,_,_,_,⟨q5,q6,q7⟩,_,_⟩:=hok i b hb
  have hp:p∈aw l:=List.mem_of_mem_drop (i:=j) (by rw [q1]; exact List.mem_cons_self)
  obtain ⟨u,u1,z,u2,rfl⟩:=(h.mem p).1 hp
  have kid:∀ c:Int,(c = -1∨0≤c∧c.toNat<i∧∃ x,(bQ (aw l)).2.2[c.toNat]?=some x∧b.a<x.a)→BZ (bQ (aw l)).2.2 i b.a c:=fun c hc=>by
   rcases hc with hc | ⟨c0,c1,x,c2,c3⟩
   ·exact .inl hc
   ·exact .inr ⟨c.toNat,x,by omega,c1,c2,c3⟩
  exact ⟨⟨u,q6,u1,z,q7,u2,q5.symm⟩,kid _ d2,kid _ d1,hbit⟩
 ·have:=Bu (aw l) 0
  have:2 ^ (aw l).length≤2 ^ 15:=Nat.pow_le_pow_right (by omega) h.few
  omega
end Go.Proofs
namespace Go.Proofs
open Go Go.AI
def slR (i:Nat):Nat→List aS→List Pl
 | _,[]=>[]
 | y,x::r=>⟨i,y,x.a,x.b⟩::slR i (y+1) r
theorem uI {i:Nat} {p:Pl}:∀ {sl:List aS} {y:Nat},p∈slR i y sl↔∃ z,z<sl.length∧p=⟨i,(y+z:Nat),(sl.getD z gH).a,(sl.getD z gH).b⟩
 | [],y=>by simp [slR]
 | x::r,y=>by
  rw [slR,List.mem_cons,uI]
  constructor
  ·rintro (h | ⟨z,h1,h2⟩)
   ·exact ⟨0,by simp,h⟩
   ·refine ⟨z+1,by simpa using h1,?_⟩
    rw [h2,show y+1+z=y+(z+1) by omega]; rfl
  ·rintro ⟨z,h1,h2⟩
   rcases z with _ | z
   ·exact .inl h2
   ·refine .inr ⟨z,by simpa using h1,?_⟩
    rw [h2,show y+1+z=y+(z+1) by omega]; rfl
theorem Eu {i:Nat}:∀ {sl:List aS} {y:Nat},sl.Pairwise (fun x y=>x.b≤y.a)→(∀ x∈sl,x.a<x.b)→(slR i y sl).Pairwise fun p q=>p.a<q.a
 | [],_,_,_ => .nil
 | x::r,y,h,hw=>by
  obtain ⟨h1,h2⟩:=List.pairwise_cons.1 h
  rw [slR]
  refine List.pairwise_cons.2 ⟨fun q hq=>?_,Eu h2 fun z hz=>hw z (List.mem_cons_of_mem _ hz)⟩
  obtain ⟨z,h3,rfl⟩:=uI.1 hq
  have hm:r.getD z gH∈r:=by rw [List.getD_eq_getElem?_getD,List.getElem?_eq_getElem h3]; exact List.getElem_mem h3
  have:=h1 _ hm
  have:=hw x List.mem_cons_self
  show x.a<(r.getD z gH).a
  omega
theorem Ek:∀ {l m:List Pl},l.Pairwise (fun p q=>p.a<q.a)→m.Pairwise (fun p q=>p.a<q.a)→(∀ x,x∈l↔x∈m)→l=m
 | [],[],_,_,_=>rfl
 | [],y::m,_,_,h=>absurd ((h y).2 List.mem_cons_self) (by simp)
 | x::l,[],_,_,h=>absurd ((h x).1 List.mem_cons_self) (by simp)
 | x::l,y::m,hl,hm,h=>by
  obtain ⟨hl1,hl2⟩:=List.pairwise_cons.1 hl
  obtain ⟨hm1,hm2⟩:=List.pairwise_cons.1 hm
  have hxy:x=y:=by
   rcases List.mem_cons.1 ((h x).1 List.mem_cons_self) with e | e
   ·exact e
   ·rcases List.mem_cons.1 ((h y).2 List.mem_cons_self) with e2 | e2
    ·exact e2.symm
    ·have:=hm1 x e; have:=hl1 y e2; omega
  subst hxy
  congr 1
  refine Ek hl2 hm2 fun z=>⟨fun hz=>?_,fun hz=>?_⟩
  ·rcases List.mem_cons.1 ((h z).1 (List.mem_cons_of_mem _ hz)) with e | e
   ·subst e; have:=hl1 z hz; omega
   ·exact e
  ·rcases List.mem_cons.1 ((h z).2 (List.mem_cons_of_mem _ hz)) with e | e
   ·subst e; have:=hm1 z hz; omega
   ·exact e
theorem oE.part {l:List Opt} (h:oE l) {i:Nat} (hi:i<l.length):(aw l).filter (fun p=>p.o==(i:Int))=slR i 0 (ap l i).sl:=by
 refine Ek (h.up.filter _) (Eu (h.inc i hi) (h.wid i hi)) fun p=>?_
 rw [List.mem_filter,h.mem,uI]
 constructor
 ·rintro ⟨⟨u,h1,z,h2,rfl⟩,h3⟩
  have:u=i:=by have:=eq_of_beq h3; simp only at this; omega
  subst this
  exact ⟨z,h2,by rw [Nat.zero_add]; rfl⟩
 ·rintro ⟨z,h1,rfl⟩
  exact ⟨⟨i,hi,z,h1,by rw [Nat.zero_add]; rfl⟩,by simp⟩
theorem tM (cf:Int→Int→Bool) (i:Nat) (p:aS→Bool):∀ (sl:List aS) (y:Nat),(∀ z,z<sl.length→cf (i:Int) ((y+z:Nat):Int)=p (sl.getD z gH)) →
  ((pF cf (slR i y sl) false).length:Int)=(if bC p sl y<0 then (sl.length:Int) else bC p sl y+1 - y) ∧
  (∀ x∈pF cf (slR i y sl) false,(y:Int)≤x.2.1∧x.2.1<y+(if bC p sl y<0 then (sl.length:Int) else bC p sl y+1 - y)∧x.2.2=(x.2.1==bC p sl y))∧(bC p sl y = -1∨(y:Int)≤bC p sl y)
 | [],y,_=>by simp [slR,pF,bC]
 | x::r,y,h=>by
  have h0:=h 0 (by simp)
  simp only [Nat.add_zero,List.getD_cons_zero] at h0
  obtain ⟨i1,i2,i3⟩:=tM cf i p r (y+1) fun z hz=>by
   have:=h (z+1) (by simpa using hz)
   rw [show y+1+z=y+(z+1) by omega,this]; rfl
  rw [slR,pF,h0,bC]
  cases hp:p x with
  | true=>
   simp only [if_true,mL]
   refine ⟨?_,fun q hq=>?_,.inr (Int.le_refl _)⟩
   ·rw [if_neg (by omega)]; simp; omega
   ·rw [if_neg (by omega)]
    simp only [List.mem_singleton] at hq
    subst hq
    refine ⟨Int.le_refl _,by show (y:Int)<_; omega,by simp⟩
  | false=>
   simp only [Bool.false_eq_true,if_false]
   refine ⟨?_,fun q hq=>?_,?_⟩
   ·rw [List.length_cons]
    split at i1
    ·rename_i g; rw [if_pos g]; simp; omega
    ·rename_i g; rw [if_neg g]; omega
   ·rcases List.mem_cons.1 hq with rfl | hq
    ·refine ⟨Int.le_refl _,?_,?_⟩
     ·show (y:Int)<_
      split
      ·simp; omega
      ·rename_i g; rcases i3 with e | e <;> omega
     ·show false=((y:Int)==bC p r (y+1))
      symm
      rw [beq_eq_false_iff_ne]
      rcases i3 with e | e <;> omega
    ·obtain ⟨j1,j2,j3⟩:=i2 q hq
     refine ⟨by omega,?_,j3⟩
     split at j2
     ·rename_i g; rw [if_pos g]; simp; omega
     ·rename_i g; rw [if_neg g]; omega
   ·rcases i3 with e | e
    ·exact .inl e
    ·exact .inr (by omega)
def nOf (l:List Opt) (lost:List Int) (i:Nat):Int:=if dL (ap l i) lost<0 then ((ap l i).sl.length:Int) else dL (ap l i) lost+1
theorem oE.acks {l:List Opt} (h:oE l) (lost:List Int) {i:Nat} (hi:i<l.length) :
  (((fi (cfL l lost) (aw l) 0).filter fun x=>x.1==(i:Int)).length:Int)=nOf l lost i ∧
  ∀ x∈fi (cfL l lost) (aw l) 0,x.1=(i:Int)→0≤x.2.1∧x.2.1<nOf l lost i∧x.2.2=(x.2.1==dL (ap l i) lost):=by
 have ho:∀ p∈aw l,0≤p.o:=fun p hp=>by
  obtain ⟨u,h1,z,h2,rfl⟩:=(h.mem p).1 hp
  exact Int.natCast_nonneg _
 have hf:=nB (cfL l lost) (i:Int) (Int.natCast_nonneg _) (aw l) 0 ho
 rw [h.part hi,show ig 0 (i:Int)=false by simp [ig]] at hf
 obtain ⟨h1,h2,_⟩:=tM (cfL l lost) i (fun x:aS => !inP lost x.p) (ap l i).sl 0 fun z hz=>by
  show (!(inP lost (aN (ap l ((i:Int)).toNat) (((0+z:Nat):Int)).toNat).p))=_
  rw [Int.toNat_natCast,Int.toNat_natCast,Nat.zero_add]; rfl
 rw [hf]
 have e:(if dL (ap l i) lost<0 then ((ap l i).sl.length:Int) else dL (ap l i) lost+1 - ((0:Nat):Int))=nOf l lost i:=by
  unfold nOf; split <;> omega
 refine ⟨h1.trans e,fun x hx hxi=>?_⟩
 have hm:x∈(fi (cfL l lost) (aw l) 0).filter fun x=>x.1==(i:Int):=List.mem_filter.2 ⟨hx,by simpa using hxi⟩
 rw [hf] at hm
 obtain ⟨q1,q2,q3⟩:=h2 x hm
 have e2:x.2.1<((0:Nat):Int)+nOf l lost i:=by rw [← e]; exact q2
 exact ⟨by omega,by omega,q3⟩
theorem oE.total {l:List Opt} (h:oE l) (lost:List Int):((List.range l.length).map fun i=>nOf l lost i).sum=((fi (cfL l lost) (aw l) 0).length:Int):=by
 have hp:=tQ l.length (fi (cfL l lost) (aw l) 0) fun x hx=>by
  obtain ⟨p,hp,e⟩:=mM _ _ _ x hx
  obtain ⟨u,h1,z,h2,rfl⟩:=(h.mem p).1 hp
  rw [e]
  exact ⟨Int.natCast_nonneg _,by show (u:Int)<_; omega⟩
 rw [← hp]
 have key:∀ n,n≤l.length→((List.range n).map fun i=>nOf l lost i).sum=((((List.range n).map fun (i:Nat)=>((fi (cfL l lost) (aw l) 0).filter fun x=>x.1==(i:Int)).length).sum:Nat):Int):=by
  intro n hn
  induction n with
  | zero=>rfl
  | succ n ih=>
   rw [List.range_succ,List.map_append,List.map_append,List.sum_append,List.sum_append,ih (by omega)]
   have:=(h.acks lost (i:=n) (by omega)).1
   simp only [List.map_cons,List.map_nil,List.sum_cons,List.sum_nil,Int.natCast_add]
   omega
 exact key _ (Nat.le_refl _)
end Go.Proofs
namespace Go.Proofs
open Go Go.AI
def jL (k:List Opt) (o:Opt):Bool:=k.all fun y=>decide (rr y o<0)
def aK (l:List Opt):Nat→List Opt
 | 0=>[]
 | i+1=>aK l i++if jL (aK l i) (ap l i) then [ap l i] else []
theorem kO (l:List Opt):∀ i,i≤l.length→(aK l i).Sublist (l.take i)
 | 0,_=>by simp [aK]
 | i+1,h=>by
  rw [aK,List.take_add_one,List.getElem?_eq_getElem (by omega)]
  refine (kO l i (by omega)).append ?_
  split
  ·rw [bN (by omega)]; exact List.Sublist.refl _
  ·exact List.nil_sublist _
theorem rG (l:List Opt) (hs:∀ o∈l,∀ x∈o.sl,0≤x.a):∀ i,i≤l.length→(aK l i).Pairwise fun x y=>¬ zS x y
 | 0,_ => .nil
 | i+1,h=>by
  rw [aK,List.pairwise_append]
  refine ⟨rG l hs i (by omega),?_,fun x hx y hy=>?_⟩
  ·split
   ·exact List.pairwise_singleton _ _
   ·exact .nil
  ·split at hy
   ·rename_i hk
    simp only [List.mem_singleton] at hy
    subst hy
    unfold jL at hk
    rw [List.all_eq_true] at hk
    have:=of_decide_eq_true (hk x hx)
    have hx':x∈l:=List.mem_of_mem_take ((kO l i (by omega)).subset hx)
    intro hm
    have:=(C3 (hs x hx')).2 hm
    omega
   ·cases hy
theorem bS.keepH (c:bS):GS (aK c.gl c.gl.length)∧a8 c.s (aK c.gl c.gl.length) c.gps c.ga c.gb=true:=by
 have hT:=c.gvalid
 have hsub:=kO c.gl c.gl.length (Nat.le_refl _)
 rw [List.take_length] at hsub
 have ht:=Cw hT hsub
 obtain ⟨_,_,hfit⟩:=qq.of hT
 refine ⟨⟨Nat.le_trans hsub.length_le c.glen,fun o ho=>nF c.hv _ (Nat.min_le_left _ _) o (hsub.subset ho),⟨_,_,_,_,ht,c.gpasses.2.1⟩,rG _ (fun o ho x hx=>((hfit o ho).slot x hx).1) _ (Nat.le_refl _)⟩,ht⟩
theorem oH {f:List Int} (hf:asc f) (b:Nat):∀ i,i≤f.length→asc (dK f b i)∧∀ x∈dK f b i,∃ j,j<i∧f[j]?=some x
 | 0,_=>⟨by simp [dK,asc],fun x hx=>by simp [dK] at hx⟩
 | i+1,h=>by
  obtain ⟨h1,h2⟩:=oH hf b i (by omega)
  rw [mB (by omega)]
  have hfi:f[i]?=some (f.getD i 0):=by rw [List.getD_eq_getElem?_getD,List.getElem?_eq_getElem (by omega)]; rfl
  refine ⟨List.pairwise_append.2 ⟨h1,?_,fun x hx y hy=>?_⟩,fun x hx=>?_⟩
  ·split
   ·exact List.pairwise_singleton _ _
   ·exact .nil
  ·split at hy
   ·simp only [List.mem_singleton] at hy
    subst hy
    obtain ⟨j,h3,h4⟩:=h2 x hx
    obtain ⟨h5,h6⟩:=List.getElem?_eq_some_iff.1 h4
    have:=List.pairwise_iff_getElem.1 hf j i h5 (by omega) h3
    rw [List.getD_eq_getElem?_getD,List.getElem?_eq_getElem (by omega),← h6]
    exact this
   ·cases hy
  ·rcases List.mem_append.1 hx with hx | hx
   ·obtain ⟨j,h3,h4⟩:=h2 x hx
    exact ⟨j,by omega,h4⟩
   ·split at hx
    ·simp only [List.mem_singleton] at hx
     subst hx
     exact ⟨i,by omega,hfi⟩
    ·cases hx
theorem Cz {f:List Int} (hf:asc f) (b:Nat):iw f (dh f b)=true:=by
 obtain ⟨h1,h2⟩:asc (dh f b)∧∀ x∈dh f b,∃ j,j<f.length∧f[j]?=some x:=oH hf b f.length (Nat.le_refl _)
 unfold iw
 rw [List.all_eq_true]
 intro i hi
 have hi:=List.mem_range.1 hi
 have hl:aQ (dh f b) i=(dh f b)[i]:=by rw [aQ,List.getD_eq_getElem?_getD,List.getElem?_eq_getElem hi]; rfl
 simp only [m4,Bool.and_eq_true,Bool.or_eq_true,decide_eq_true_eq]
 refine ⟨?_,?_⟩
 ·obtain ⟨j,_,h4⟩:=h2 _ (List.getElem_mem (l:=dh f b) hi)
  unfold inP
  rw [List.any_eq_true]
  exact ⟨_,List.mem_of_getElem? h4,by rw [hl]; simp⟩
 ·rcases Nat.eq_zero_or_pos i with e | e
  ·exact .inl e
  ·refine .inr ?_
   have hp:aQ (dh f b) (i - 1)=(dh f b)[i - 1]:=by rw [aQ,List.getD_eq_getElem?_getD,List.getElem?_eq_getElem (by omega)]; rfl
   rw [hl,hp]
   exact List.pairwise_iff_getElem.1 h1 (i - 1) i (by omega) hi (by omega)
theorem Cy {f:List Int} (hf:asc f) (h6:f.length≤6) (hr:∀ x∈f,0≤x∧x<64) (b:Nat):GQ (dh f b):=by
 obtain ⟨h1,h2⟩:asc (dh f b)∧∀ x∈dh f b,∃ j,j<f.length∧f[j]?=some x:=oH hf b f.length (Nat.le_refl _)
 have hl:=iY f b f.length
 refine ⟨by show (dK f b f.length).length≤_; omega,fun i hi=>?_,fun i hi=>?_⟩
 ·have e:(dh f b).getD i 0=(dh f b)[i]:=by rw [List.getD_eq_getElem?_getD,List.getElem?_eq_getElem hi]; rfl
  obtain ⟨j,_,h4⟩:=h2 _ (List.getElem_mem (l:=dh f b) hi)
  have:=hr _ (List.mem_of_getElem? h4)
  rw [e]
  simp only [inS,Bool.and_eq_true,decide_eq_true_eq]
  omega
 ·rw [List.getD_eq_getElem?_getD,List.getD_eq_getElem?_getD,List.getElem?_eq_getElem hi,List.getElem?_eq_getElem (by omega)]
  exact List.pairwise_iff_getElem.1 h1 i (i+1) (by omega) hi (by omega)
theorem Hg:((List.range 64).all fun b=>(List.range 6).all fun i=>((((b:Int).fdiv (2 ^ (min (i:Int).toNat IntKind.i64.bits))).tmod 2)==1)==sd b i)=true:=by kernel_rfl
theorem Ip {b i:Nat} (hb:b<64) (hi:i<6):((((b:Int).fdiv (2 ^ (min (i:Int).toNat IntKind.i64.bits))).tmod 2)==1)=sd b i:=by
 have h:=Hg
 rw [List.all_eq_true] at h
 have h:=h b (List.mem_range.2 hb)
 rw [List.all_eq_true] at h
 exact eq_of_beq (h i (List.mem_range.2 hi))
end Go.Proofs
