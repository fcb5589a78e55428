/- Part 19 of the proof: an abstract interpreter for the code, contracts of the functions, and plain facts; the conditions are those typed. -/
import Derived.Test.YtapmehbkgihgaaaGreatDoorNH
set_option linter.unusedSectionVars false
set_option linter.unusedVariables false
set_option linter.unusedSimpArgs false
namespace Go.Proofs
open Go Go.AI
set_option maxRecDepth 100000
set_option maxHeartbeats 4000000
theorem I0 (x y:bQ):kl x y=true↔(x.ca<y.ca\/x.ca=y.ca/\(x.sat<y.sat\/x.sat=y.sat/\(x.st<y.st\/x.st=y.st/\(x.sa<y.sa\/x.sa=y.sa/\x.cb<y.cb)))):=by
 grind [kl]
theorem Ub (x y:bQ):kl x y=decide (wH x y<0):=by rw [DP]; rfl
theorem Aa {x y z:bQ} (h1:kl x y=true) (h2:kl y z=true):kl x z=true:=by
 rw [I0] at *;omega
theorem ML {x y:bQ} (h:kl x y=true):kl y x=false:=by
 cases a:kl y x with
 | false=>rfl
 | true=>
  grind [Aa,I0]
def Ha (l:List bQ):Prop:=l.Pairwise fun a b=>kl b a=false
theorem OT {α:Type} {q:α->Bool}:∀ {l:List α} {z:α} {r:List α},l.dropWhile q=z::r->q z=false
 | a::l,z,r,h=>by
  rw [Li] at h;split at h
  ·exact OT h
  ·cases h; simp_all
theorem Sn {α:Type} {q:α->Bool}:∀ {l:List α} {z:α},z∈l.takeWhile q->q z=true
 | a::l,z,h=>by
  rw [Le] at h;split at h
  ·rcases bF.1 h with rfl | h
   ·assumption
   ·exact Sn h
  ·cases h
theorem Ta {p:bQ} {l:List bQ} (h:Ha l):Ha (uu p l):=by
 have i:Ha (l.takeWhile (fun y => !kl p y)++l.dropWhile (fun y => !kl p y)):=by rw [R7]; exact h
 unfold Ha at *;rw [iP] at i;obtain ⟨h1,h2,n⟩:=i;unfold uu;rw [iP,tA]
 have m:∀ z∈l.dropWhile (fun y => !kl p y),kl z p=false:=by
  intro z hz
  cases d:l.dropWhile (fun y => !kl p y) with
  | nil=>rw [d] at hz; cases hz
  | cons z0 r=>
   have e:kl p z0=true:=by have:=OT d; simpa using this
   rw [d] at hz h2;rcases bF.1 hz with rfl | hz
   ·exact ML e
   ·have f:=(tA.1 h2).1 z hz
    cases c:kl z p with
    | false=>rfl
    | true=>rw [Aa c e] at f; cases f
 refine ⟨h1,⟨m,h2⟩,fun a j b c=>?_⟩;rcases bF.1 c with rfl | c
 ·have:=Sn j;simpa using this
 ·exact n a j b c
theorem Iu:∀ {l a:List bQ},Ha a->Ha (td a l)
 | [],_,h=>h
 | p::l,a,h=>by
  show Ha (td (uu p a) l);exact Iu (Ta h)
theorem OV (d:bS):∀ n,Ha (R0 d n)
 | 0=>List.Pairwise.nil
 | n+1=>by rw [uF]; exact Iu (OV d n)
theorem ZA {l:List bQ} (h:Ha l):HG l=true:=by
 unfold HG;rw [aN];intro i hi;have hi:=bB.1 hi;have h1:=fO.1 h i (i+1) ar ar ar;rw [Ub] at h1;rw [gt (by omega:i+1<l.length),gt (by omega:i<l.length),h1];rfl
theorem cK.sta {d:bS} (h:cK d) (i:Nat) (hi:i<3):BS (fF d i)=true/\(fF d i).id=(i:Int):=by
 have h1:nR (IntKind.i64.wrap (d.loss+(i:Int))):=nq _;have h2:=bN h1 (n:=2) ar;have f:=bN (nq ((IntKind.i64.wrap (d.loss+(i:Int))).tdiv 2)) (n:=9) ar
 have c:(fF d i).ant=1+aF (IntKind.i64.wrap (d.loss+(i:Int))) 2:=by
  show bW (1+aF (IntKind.i64.wrap (d.loss+(i:Int))) 2)=_;exact aZ ar ar
 have b:(fF d i).skew=aF (bW ((IntKind.i64.wrap (d.loss+(i:Int))).tdiv 2)) 9:=rfl
 have a:(fF d i).id=(i:Int)/\(fF d i).x=(i:Int)/\(fF d i).y=(i:Int)/\(fF d i).reach=(i:Int):=by
  obtain rfl | rfl | rfl:i=0\/i=1\/i=2:=by omega
  all_goals exact ⟨by rfl,by rfl,by rfl,by rfl⟩
 refine ⟨?_,a.1⟩;unfold BS;rw [a.1,a.2.1,a.2.2.1,a.2.2.2,c,b]
 have e:kC ((i:Int),(i:Int))=true:=by
  obtain rfl | rfl | rfl:i=0\/i=1\/i=2:=by omega
  all_goals decide
 rw [e];simp only [cQ,al,aP,cr];omega
theorem xj {sat:Int}:∀ {z:List (Int×Int×Int)} {r:Int×List bQ},(∀ x∈z,uv x)->(∀ p∈r.2,p.sat=sat/\0<=p.st/\p.st<3)->∀ p∈(z.foldl (iv sat) r).2,p.sat=sat/\0<=p.st/\p.st<3
 | [],_,_,h=>h
 | x::z,r,hz,h=>xj (z:=z) (r:=iv sat r x) (fun y hy=>hz y (a6 _ hy)) fun p a=>by
  simp only [iv,eT,cv] at a;rcases a with a | rfl
  ·exact h p a
  ·exact ⟨rfl,bN (hz x (a7 ..)).2.2 ar⟩
theorem cK.passAt {d:bS} (h:cK d) {p:bQ} (a:p∈fz d):(∃ i,i<(fy d).length/\p.sat=nh d i 0)/\(0<=p.st/\p.st<3)/\gH p=true:=by
 obtain ⟨i,hi,hm⟩:=Dj a;have h1:i<(fy d).length:=dm hi (dP _ _);have h2:i<d.pss.length:=dm hi (gR _ _);have hz:∀ x∈(d.pss.getD i []).take 6,uv x:=fun x hx=>h.pss _ (c8 [] h2) x (dy hx);obtain ⟨g1,g2⟩:=xj (sat:=nh d i 0) (r:=(Qf d,[])) hz (fun p a=>by cases a) p hm;refine ⟨⟨i,h1,g1⟩,g2,?_⟩;have b:=(h.passOf hi).1;simp only [jq,al] at b;grind
theorem cK.passOK {d:bS} (h:cK d):jq (fz d)=true:=by
 unfold jq;have h1:(fz d).length<=64:=bC pV ar
 have h2:(fz d).any (fun p => !gH p)=false:=by
  rw [eJ];intro p a;simp [(h.passAt a).2.2]
 rw [h2,show HG (fz d)=true from ZA (OV d (Qe d))];simp [h1]
theorem HN {d:bS} {i:Nat} (hi:i<(fy d).length):jB (fy d) (nh d i 0)=some (nh d i):=by
 unfold jB;rw [List.find?_eq_some_iff_getElem];refine ⟨by simp,i,hi,pj d hi,fun j hj=>?_⟩;simp only [cI,jx];intro e;rw [pj d ar,cK.id ar,cK.id hi] at e;omega
theorem cK.sky {d:bS} (h:cK d):Sw (ir d)=true:=by
 have hf:=h.from_;have hl:=jJ d;have j:(ir d).b=aF d.t0 5000+200:=aZ ar ar;have o:(ir d).a=aF d.t0 5000:=rfl
 have h1:C5 (fy d)=true:=by
  unfold C5 up mq;simp only [al,aP,aN,bB];refine ⟨by omega,fun i hi=>?_⟩;unfold wl;rw [show (fy d).getD i iM=nh d i from rfl,h.satOK hi,bG]
  cases i with
  | zero=>rfl
  | succ i=>
   rw [show (fy d).getD (i+1 - 1) iM=nh d i from rfl];show (decide (i+1=0)||decide (nh d i 0<nh d (i+1) 0))=true;rw [cK.id ar,cK.id hi];grind
 have c:∀ i,i<3->((List.range 3).map (fF d)).getD i LH=fF d i:=fun i hi=>by
  grind
 have h2:CZ ((List.range 3).map (fF d))=true:=by
  unfold CZ up mq;simp only [al,aP,aN,bB];refine ⟨by simp,fun i hi=>?_⟩;have hi:i<3:=by simpa using hi
  unfold wl;rw [c i hi,(h.sta i hi).1,bG]
  cases i with
  | zero=>rfl
  | succ i=>
   rw [show i+1 - 1=i from rfl,c i ar,(h.sta i ar).2,(h.sta (i+1) hi).2];grind
 have m:(fz d).any (Pk (ir d))=false:=by
  rw [eJ];intro p l;obtain ⟨⟨i,hi,e⟩,⟨g1,g2⟩,_⟩:=h.passAt l
  have n:(jB (ir d).sats p.sat).isSome=true:=by
   show (jB (fy d) p.sat).isSome=true;rw [e,HN hi]; rfl
  have f:(ir d).stas.any (fun t=>decide (t.id=p.st))=true:=by
   rw [List.any_eq_true];refine ⟨fF d p.st.toNat,bp.2 ⟨p.st.toNat,bB.2 ar,rfl⟩,?_⟩;rw [(h.sta p.st.toNat ar).2];simp only [aP];omega
  unfold Pk;rw [n,f];simp
 unfold Sw VV;rw [j,o,show (ir d).sats=fy d from rfl,show (ir d).stas=(List.range 3).map (fF d) from rfl,show (ir d).passes=fz d from rfl,h1,h2,m,h.passOK];simp only [cQ,al,aP,ep,cr,bG];omega
theorem SE (d:bS):yi d 16=(List.range 16).map (quoI d):=by simp [yi]
theorem cK.quoI {d:bS} (h:cK d) (i:Nat):0<=Go.Proofs.quoI d i/\Go.Proofs.quoI d i<=19:=by
 unfold Go.Proofs.quoI;split
 ·rename_i hi;have:=bN (h.quo _ (c8 0 hi)) (n:=20) ar;omega
 ·omega
theorem cK.rest {d:bS} (h:cK d):Od (ir d)=true:=by
 have h1:(d7 d).length<=4:=pm d 4;have h2:=bN h.loss (n:=3) ar
 have a:(yi d 16).any (fun n => !cQ n 0 1000000)=false:=by
  rw [SE,eJ];intro x hx;obtain ⟨i,_,rfl⟩:=bp.1 hx;have:=h.quoI i;simp only [cQ,yp,iq,al,aP];omega
 unfold Od;rw [show (ir d).ords=d7 d from rfl,show (ir d).quo=yi d 16 from rfl,show (ir d).loss=aF d.loss 3 from rfl,a,uE d (ba _)];simp only [cQ,al,aP,ep,tq];omega
theorem Wu {d:bS} {o:kM} (e:o∈d7 d):∃ (i k:Nat),i<4/\k<(cB d).length/\((cB d).getD k dt).ord=(i:Int)/\o=TR d i k:=by
 obtain ⟨i,hi,hm⟩:=pT.1 e;have hi:=bB.1 hi;unfold A9 at hm
 cases a:(cB d).findIdx? (zQ i) with
 | none=>rw [a] at hm; cases hm
 | some k=>
  rw [a] at hm;obtain ⟨b,c,_⟩:=iC.1 a;refine ⟨i,k,hi,b,?_,by simpa using hm⟩;rw [aK,ai b];exact aH c
theorem OX {d:bS}:(vO d).length<=10:=by
 have:=zS d d.buns.length (ba _);unfold mo at this;rw [dl] at this;exact this
theorem Px {l:List d4} {a b:Int} {u:jY} (h:u∈mP l a b):u=⟨(l.getD a.toNat dt).ord,[a,b]⟩/\(l.getD a.toNat dt).ord=(l.getD b.toNat dt).ord/\a<b:=by
 grind [mP]
theorem Wv {d:bS} {u:jY} (h:u∈vO d):(∃ i,i<rf d/\u=⟨((cB d).getD i dt).ord,[(i:Int)]⟩)\/∃ z∈d.buns,(cB d).length>1/\u∈mP (cB d) (aF z.1 (cB d).length) (aF z.2.1 (cB d).length):=by
 have key:∀ (l:List (Int×Int×Int)) (B:List jY),u∈l.foldl (lC (cB d)) B->u∈B\/∃ z∈l,(cB d).length>1/\u∈mP (cB d) (aF z.1 (cB d).length) (aF z.2.1 (cB d).length):=by
  intro l
  induction l with
  | nil=>grind
  | cons z l a=>
   grind [lC,List.mem_cons_self,List.mem_cons_of_mem]
 rcases key d.buns _ h with h1 | h1
 ·obtain ⟨i,hi,rfl⟩:=bp.1 h1;grind
 ·exact .inr h1
theorem zh {s:Nat->Int} {ps:List bQ} {f id:Int} {z:List R5} (hz:∀ x∈z,wv x):∀ i,i<=z.length->∀ o∈ge s ps f id z i,0<=o.ord/\o.ord<4/\o.cl=0
 | 0,_,o,h=>by cases h
 | i+1,hi,o,h=>by
  simp only [ge] at h;rcases eT.1 h with h | h
  ·exact zh hz i ar o h
  ·split at h
   ·have:o=sx s ps f (id+i) (z.getD i VC):=by simpa using h
    subst this;have h1:=(hz _ (c8 VC (by omega:i<z.length))).2.2.2.2;have h2:=bN h1 (n:=4) ar;exact ⟨h2.1,h2.2,rfl⟩
   ·cases h
theorem cK.optOrd {d:bS} (h:cK d) {o:d4} (a:o∈cB d):0<=o.ord/\o.ord<4/\o.cl=0:=by
 obtain ⟨i,hi,hm⟩:=pT.1 a;have hi:=bB.1 hi;have h2:i<d.opts.length:=dm hi (gR _ _);have hz:∀ x∈(d.opts.getD i []).take 4,wv x:=fun x hx=>h.opts _ (c8 [] h2) x (dy hx);exact zh hz _ (dP _ _) o hm
theorem cK.hasOrd {d:bS} (h:cK d) {o:d4} (a:o∈cB d):∃ q∈d7 d,q.id=o.ord:=by
 obtain ⟨h1,h2,_⟩:=h.optOrd a
 cases b:(cB d).findIdx? (zQ o.ord.toNat) with
 | none=>
  grind [zQ,decide_eq_false_iff_not]
 | some k=>
  refine ⟨TR d o.ord.toNat k,pT.2 ⟨o.ord.toNat,bB.2 ar,?_⟩,?_⟩
  ·unfold A9;rw [b]; simp
  ·show ((o.ord.toNat:Nat):Int)=o.ord;omega
theorem cK.bun {d:bS} (h:cK d) {u:jY} (hu:u∈vO d):(1<=u.opts.length/\u.opts.length<=2)/\(∀ j∈u.opts,0<=j/\j<((cB d).length:Int)/\(qI (cB d) j).ord=u.ord)/\u.opts.Pairwise (·<·):=by
 rcases Wv hu with ⟨i,hi,rfl⟩ | ⟨z,hz,hl,e⟩
 ·have:i<(cB d).length:=dm hi (dP _ _);refine ⟨by simp,fun j hj=>?_,by simp⟩;have:j=(i:Int):=by simpa using hj
  subst this;exact ⟨by omega,by omega,rfl⟩
 ·obtain ⟨rfl,h1,h2⟩:=Px e;have b:=h.buns z hz;have a:=bN b.1 (n:=((cB d).length:Int)) ar;have c:=bN b.2.1 (n:=((cB d).length:Int)) ar;refine ⟨by simp,fun j hj=>?_,by simpa using h2⟩;have:j=aF z.1 ((cB d).length:Int)\/j=aF z.2.1 ((cB d).length:Int):=by simpa using hj
  rcases this with rfl | rfl
  ·exact ⟨a.1,a.2,rfl⟩
  ·exact ⟨c.1,c.2,h1.symm⟩
open Go Go.AI
set_option maxRecDepth 100000
theorem yR (x:Int) {n:Int} (h:0<n):-n<x.tmod n/\x.tmod n<n/\(0<=x->0<=x.tmod n):=by
 by_cases hx:0<=x
 ·rw [ip hx];have h1:=AT x (by omega:n≠0);have h2:=tB x h;omega
 ·have e:x.tmod n = -((-x).tmod n):=by rw [Int.neg_tmod,Int.neg_neg]
  rw [e,ip ar];have h1:=AT (-x) (by omega:n≠0);have h2:=tB (-x) h;omega
theorem rH {n:Int} (h:-10000000<=n/\n<=10000000):-10000000<=iS n/\iS n<=10000000/\(0<=n->0<=iS n):=by
 obtain ⟨h1,h2⟩:=h
 have a:-3333334<=n.tdiv 3/\n.tdiv 3<=3333334/\(0<=n->0<=n.tdiv 3/\3*n.tdiv 3<=n):=by
  by_cases hx:0<=n
  ·grind
  ·grind
 grind [iS,aZ]
theorem O4 {a b:Int} (c:-100000000<=a/\a<=100000000) (d:-100000000<=b/\b<=100000000):0<=qd a b/\qd a b<=200000000/\(0<=a->0<=b->qd a b<=max a b):=by
 grind [qd,aZ]
theorem Mp {c:Int×Int} {t:Int} (hx:0<=c.1/\c.1<=47) (hy:0<=c.2/\c.2<=23) (l:0<=t):-90<=ky c t/\ky c t<=90:=by
 have f:0<=sA t/\sA t<48000:=by
  have h1:0<=t.tmod 1440/\t.tmod 1440<1440:=by have:=yR t (n:=1440) ar; omega
  have h2:=rH (n:=bW (bW (1440 - t.tmod 1440)*100)) (by grind [aZ]);have o:=h2.2.2 (by grind [aZ]);unfold sA;generalize iS (bW (bW (1440 - t.tmod 1440)*100))=x at *;have:=yR x (n:=48000) ar;omega
 have e:-100000000<=jl t/\jl t<=100000000:=by
  have j:-360<=iy t/\iy t<=360:=by unfold iy; have:=yR (bW (t.tdiv 1440)) (n:=360) ar; omega
  unfold jl;generalize iy t=d at *;rw [aZ (n:=100*d) ar ar,aZ (n:=180 - d) ar ar,aZ (n:=d - 360) ar ar,aZ (n:=100*(180 - d)) ar ar,aZ (n:=100*(d - 360)) ar ar];have t1:=rH (n:=100*d) ar;have t2:=rH (n:=100*(180 - d)) ar;have t3:=rH (n:=100*(d - 360)) ar;rw [aZ (n:=12000+iS (100*d)) ar ar,aZ (n:=12000+iS (100*(180 - d))) ar ar,aZ (n:=12000+iS (100*(d - 360))) ar ar];split
  ·omega
  ·split <;> omega
 have h:=O4 (a:=1000*c.1+500) (b:=sA t) ar ar;have a2:=O4 (a:=1000*c.2+500) (b:=jl t) ar e;have a3:=h.2.2 ar f.1;unfold ky;dsimp only;rw [aZ (n:=1000*c.1) ar ar,aZ (n:=1000*c.1+500) ar ar,aZ (n:=1000*c.2) ar ar,aZ (n:=1000*c.2+500) ar ar];generalize qd (1000*c.1+500) (sA t)=a at *;generalize qd (1000*c.2+500) (jl t)=b at *;rw [aZ (n:=48000 - a) ar ar];generalize hm:min a (48000 - a)=m at *;have i:0<=m/\m<=48000:=by omega
 clear hm;rw [aZ (n:=m+b) ar ar,aZ (n:=75*(m+b)) ar ar];grind [Int.tdiv_eq_ediv_of_nonneg,aZ]
theorem BR:∀ (l:List (Int×Int×Int)) (q:Int×Int),(∀ p∈l,-90<=zC p/\zC p<=90)->(-90<=q.1/\q.1<=1000/\-1000<=q.2/\q.2<=90)->(-90<=(ko q l).1/\(ko q l).1<=q.1/\-1000<=(ko q l).2/\(ko q l).2<=90)/\(l≠[]->(ko q l).1<=90)
 | [],q,_,h=>⟨⟨h.1,qn _,h.2.2⟩,fun e=>absurd rfl e⟩
 | p::l,q,a,h=>by
  have h1:=a p (a7 ..);have b:=BR l (min q.1 (zC p),max q.2 (zC p)) (fun x hx=>a x (a6 _ hx)) (by dsimp only; omega);have e:ko q (p::l)=ko (min q.1 (zC p),max q.2 (zC p)) l:=rfl;grind
theorem BQ {o:Nat->Int} {a b k:Int} (h:Az o a b k 0):∀ n,n<=(2*o 6+1).toNat->(-90<=(iI o a b k n).1/\(iI o a b k n).1<=1000/\-1000<=(iI o a b k n).2/\(iI o a b k n).2<=90)/\(0<n->(iI o a b k n).1<=90)
 | 0,_=>⟨by show (-90:Int)<=1000/\(1000:Int)<=1000/\(-1000:Int)<=-1000/\(-1000:Int)<=90; omega,fun h=>absurd h bq⟩
 | n+1,j=>by
  obtain ⟨h1,h2⟩:=BQ h n ar;have hl:=h.late (-(o 6)+(n:Int)) ar ar
  have d:=BR (Lq o a b k (-(o 6)+(n:Int))) (iI o a b k n) (fun p c=>by
   have:=hl.rng p c;have i:=h.a0;exact Mp ⟨this.1,this.2.1⟩ ⟨this.2.2.1,this.2.2.2.1⟩ ar) h1
  have e:iI o a b k (n+1)=ko (iI o a b k n) (Lq o a b k (-(o 6)+(n:Int))):=rfl;rw [e];refine ⟨by omega,fun _=>d.2 fun e=>?_⟩;have:=C3 o a b k (-(o 6)+(n:Int));rw [e] at this;have f:=h.ab;grind
theorem V7 {o:Nat->Int} {a b k:Int} {y:Nat->Int} (h:Az o a b k 0) (hy:∀ i,nR (y i)) (z:a<=900000):fS (x4 o a b k y)=true:=by
 obtain ⟨h1,h2⟩:=HS h;have w:=h.s1;have j:=h.l0;have p:=h.a0;have l:=BQ h (2*o 6+1).toNat (ba _);have v:=l.2 ar;have x:=bN (hy 0) (n:=30) ar;have p1:=bN (hy 1) (n:=60) ar;have p2:=bN (hy 1) (n:=5) ar;unfold fS x4 S6;dsimp only;rw [h1];generalize iI o a b k (2*o 6+1).toNat=q at *;generalize aF (y 0) 30=c at *;generalize aF (y 1) 60=e at *;generalize aF (y 1) 5=d at *;have r:IntKind.i64.wrap (a - c)=a - c:=aZ ar ar;have m:IntKind.i64.wrap (a+1)=a+1:=aZ ar ar;have t:IntKind.i64.wrap (a+1+e)=a+1+e:=aZ ar ar;have u:IntKind.i64.wrap (q.1 - 5)=q.1 - 5:=aZ ar ar;rw [r,m,t,u];have f:IntKind.i64.wrap (max (max 0 (q.1 - 5)) q.2+d)=max (max 0 (q.1 - 5)) q.2+d:=aZ ar ar;rw [f];simp only [cQ,al,aP,true_and];omega
theorem Tl {o:Nat->Int} {a b k:Int} {y:Nat->Int} (h:Az o a b k 0) (hy:∀ i,nR (y i)) (f:a<=900000):kc (xu o a b k y)=true/\ma (xu o a b k y)/\(jv (xu o a b k y)).length=1:=by
 have d:=V7 h hy f
 have c:(x4 o a b k y).rows.length<=1000000:=by
  have:(ub o a b k).length=24:=by
   have:=(HS h).1;simp only [oq,al,aP] at this;exact this.1
  show (ub o a b k).length<=1000000;omega
 have p1:=bN (hy 3) (n:=120) ar;have p2:=bN (hy 3) (n:=60) ar;have e:IntKind.i64.wrap (1+aF (y 3) 60)=1+aF (y 3) 60:=aZ ar ar;unfold xu;generalize x4 o a b k y=S at *;split
 ·have hv:kc (ix (aF (y 3) 120) S)=true:=by
   show (cQ (aF (y 3) 120) 0 1000000&&fS S)=true;rw [d]; simp only [cQ,al,aP,tq]; omega
  exact ⟨hv,.D _ _ c,by unfold jv; rw [hv]; rfl⟩
 ·split
  ·have hv:kc (eL (IntKind.i64.wrap (1+aF (y 3) 60)) S)=true:=by
    show (cQ (IntKind.i64.wrap (1+aF (y 3) 60)) 1 1000000&&fS S)=true;rw [d,e]; simp only [cQ,al,aP,tq]; omega
   exact ⟨hv,.P _ _ c,by unfold jv; rw [hv]; rfl⟩
  ·have hv:kc (gA S)=true:=by
    show fS S=true;exact d
   exact ⟨hv,.S _ c,by unfold jv; rw [hv]; rfl⟩
open Go Go.AI
set_option maxRecDepth 100000
set_option maxHeartbeats 4000000
theorem rV {α:Type} {d:α} {ok:α->Bool} {key:α->Int} {l:List α} (h1:∀ x∈l,ok x=true) (h2:l.Pairwise fun a b=>key a<key b):mq l (wl d ok key l)=true:=by
 unfold mq;rw [aN];intro i hi;have hi:=bB.1 hi;have e:l.getD i d=l[i]:=by rw [aK,ai hi]; rfl
 unfold wl;rw [e,h1 _ (bT hi),bG]
 cases i with
 | zero=>rfl
 | succ i=>
  have c:l.getD (i+1 - 1) d=l[i]:=by rw [Nat.add_sub_cancel,aK,ai ar]; rfl
  rw [c];have:=fO.1 h2 i (i+1) ar hi ar;simp [this]
theorem OU {d:bS} {i:Nat} {o:kM} (h:o∈A9 d i):o.id=(i:Int):=by
 unfold A9 at h;split at h
 ·cases h
 ·have:o=_:=cv.1 h;rw [this]; rfl
theorem DI (d:bS):∀ n,(Hn d n).Pairwise (fun a b=>a.id<b.id)/\∀ o∈Hn d n,o.id<(n:Int)
 | 0=>⟨by simp [Hn],by simp [Hn]⟩
 | n+1=>by
  obtain ⟨h1,h2⟩:=DI d n;rw [zP];refine ⟨iP.2 ⟨h1,?_,fun a e b f=>?_⟩,fun o c=>?_⟩
  ·unfold A9; split <;> simp
  ·have:=h2 a e; have:=OU f; omega
  ·rcases eT.1 c with c | c
   ·have:=h2 o c; omega
   ·have:=OU c; omega
theorem cK.optB {d:bS} (h:cK d) {o:d4} (u:o∈cB d):0<=o.a/\o.a<o.b/\o.b - o.a<=60/\uq o<=Qf d+186/\o.b<uq o/\1<=o.sl.length/\o.sl.length<=6/\∀ x∈o.sl,0<=x.p/\x.p<((fz d).length:Int):=by
 obtain ⟨i,hi,c,z,_⟩:=h.optOf u;have hl:=pV (d:=d);have hf:js (nh d i) o (fz d)=true:=by simp only [jp,al] at c; exact c.2
 have j:=IC hf;have h1:=P9 (m:=Qf d+186) (fun p c=>(h.pass c).2.2) ar hf;have q:=h.from_;simp only [js,tY,g9,Cl,wt,al,aP] at hf;obtain ⟨⟨⟨_,⟨⟨⟨_,⟨⟨s1,s2⟩,w⟩,e⟩,_⟩,_⟩,v⟩,_⟩,n⟩:=hf;rw [aZ ar ar] at e
 have key:∀ (l:List dZ) (t:Int),fG (nh d i) (fz d) o.size t l=true->∀ x∈l,t<x.b/\0<=x.p/\x.p<((fz d).length:Int):=by
  intro l
  induction l with
  | nil=>intro _ _ x hx; cases hx
  | cons y r A=>
   intro t f x hx;simp only [fG,mI,al,cQ,aP] at f;obtain ⟨⟨⟨g1,g2⟩,⟨⟨⟨_,g3⟩,_⟩,g4⟩,_⟩,g5⟩:=f;rw [aZ ar ar] at g2;grind
 have hm:LJ o (o.sl.length - 1)∈o.sl:=c8 XD ar;have:=key o.sl o.b n _ hm;refine ⟨s1,s2,e,h1,this.1,j.1,j.2,fun x hx=>(key o.sl o.b n x hx).2⟩
theorem cK.ord {d:bS} (h:cK d) {o:kM} (l:o∈d7 d):xl o=true/\ma o.goal/\(jv o.goal).length=1/\0<=o.own/\o.own<=2/\-1<=o.group/\o.group<=1:=by
 obtain ⟨i,k,hi,e,he,rfl⟩:=Wu l;have hm:(cB d).getD k dt∈cB d:=c8 dt e;have c:=h.optB hm;have b:=h.from_;obtain ⟨_,_,m,_⟩:=h.goal _ hm;have hy:∀ j,nR (Cv d i j):=fun j=>zH h.ords i (fun _=>PX) j;have p:=c.2.1;have u:Qf d=aF d.t0 5000:=rfl;obtain ⟨g1,g2,g3⟩:=Tl m hy ar;have q:=bN (hy 0) (n:=3) ar;have p1:=bN (hy 1) (n:=1000) ar;have p2:=bN (nq ((Cv d i 2).tdiv 4)) (n:=3) ar;have t:=bN (hy 3) (n:=101) ar;have r:IntKind.i64.wrap (aF d.t0 5000+100)=aF d.t0 5000+100:=aZ ar ar;have f:IntKind.i64.wrap (aF d.t0 5000+100+aF (Cv d i 3) 101)=aF d.t0 5000+100+aF (Cv d i 3) 101:=aZ ar ar;have a:IntKind.i64.wrap (aF (IntKind.i64.wrap ((Cv d i 2).tdiv 4)) 3 - 1)=aF (bW ((Cv d i 2).tdiv 4)) 3 - 1:=aZ (by change _<=aF (bW _) 3 - 1; omega) (by change aF (bW _) 3 - 1<=_; omega);refine ⟨?_,g2,g3,q.1,by show aF (Cv d i 0) 3<=2; omega,by show -1<=IntKind.i64.wrap _; rw [a]; omega,by show IntKind.i64.wrap _<=1; rw [a]; omega⟩;unfold xl;rw [show kc (TR d i k).goal=true from g1,cr];unfold TR;dsimp only;rw [r,f,a];simp only [cQ,al,aP];omega
theorem sZ {l:List kM} {o:kM} {id:Int} (b:o∈l) (e:o.id=id):∃ q,gW l id=some q/\q∈l:=by
 have h:(gW l id).isSome=true:=by
  unfold gW;rw [List.find?_isSome];exact ⟨o,b,by simp [e]⟩
 obtain ⟨q,a⟩:=my.1 h;exact ⟨q,a,Zs a⟩
theorem cK.wanted {d:bS} (h:cK d):oS (ir d)=true:=by
 have h1:Oo (d7 d)=true:=rV (fun x hx=>(h.ord hx).1) (DI d 4).1
 have j:(vN d (d7 d).length).Pairwise (·<·):=by
  unfold vN;rw [List.pairwise_map];have t:((List.range (d7 d).length).filter (T8 d.prom)).Pairwise (·<·):=List.Pairwise.filter _ List.pairwise_lt_range;refine t.imp_of_mem fun {a b} c e f=>?_;have c:=bB.1 (gx.1 c).1;have e:=bB.1 (gx.1 e).1;have:=fO.1 (DI d 4).1 a b c e f;have u:(d7 d).getD a jO=(d7 d)[a]:=by rw [aK,ai c]; rfl
  have o:(d7 d).getD b jO=(d7 d)[b]:=by rw [aK,ai e]; rfl
  rw [u,o];exact this
 have m:∀ p∈vN d (d7 d).length,(gW (d7 d) p).isSome=true:=by
  intro p r;obtain ⟨a,c,rfl⟩:=bp.1 r;have c:=bB.1 (gx.1 c).1;obtain ⟨q,n,_⟩:=sZ (c8 jO c) rfl;rw [n]; rfl
 have h2:H0 (d7 d) (vN d (d7 d).length)=true:=by
  have:=rV (d:=0) (ok:=fun p=>(gW (d7 d) p).isSome) (key:=fun x=>x) (l:=vN d (d7 d).length) m j;unfold H0;unfold mq at this ⊢;rw [aN] at this ⊢;intro i hi;have:=this i hi;unfold Wq dW;unfold wl at this;exact this
 unfold oS;rw [show (ir d).ords=d7 d from rfl,show (ir d).prom=vN d (d7 d).length from rfl,h1,h2,h.rest];rfl
theorem Cd {s:Nat->Int} {ps:List bQ} {from_ id:Int} {z:List R5} (hz:∀ x∈z,wv x):∀ i,i<=z.length->(ge s ps from_ id z i).Pairwise fun x y=>x.id<y.id
 | 0,_ => .nil
 | i+1,hi=>by
  rw [ge,iP];refine ⟨Cd hz i ar,by split <;> simp,fun x hx y hy=>?_⟩;have:=o3 hz i ar x hx;split at hy
  ·rw [cv.1 hy];show x.id<id+(i:Int);omega
  ·cases hy
theorem cK.optIds {d:bS} (h:cK d):∀ n,n<=nk d->(DK d n).Pairwise (fun a b=>a.id<b.id)/\∀ o∈DK d n,o.id<10*((n:Int)+1)
 | 0,_=>⟨by simp [DK],by simp [DK]⟩
 | n+1,f=>by
  obtain ⟨h1,h2⟩:=h.optIds n ar;have i2:n<d.opts.length:=dm (by omega:n<nk d) (gR _ _);have hz:∀ x∈(d.opts.getD n []).take 4,wv x:=fun x hx=>h.opts _ (c8 [] i2) x (dy hx);have hl:((d.opts.getD n []).take 4).length<=4:=Lg _ _
  have hm:∀ o∈Bb d n,10*((n:Int)+1)<=o.id/\o.id<10*((n:Int)+1)+4:=fun o c=>by
   obtain ⟨_,_,g3,g4⟩:=o3 (s:=nh d n) (ps:=fz d) (from_:=aF d.t0 5000) (id:=10*((n:Int)+1)) hz (min ((d.opts.getD n []).take 4).length 5) (dP _ _) o c;omega
  rw [zR];refine ⟨iP.2 ⟨h1,Cd hz _ (dP _ _),fun a i b e=>?_⟩,fun o c=>?_⟩
  ·grind
  grind
theorem cK.satOf {d:bS} (h:cK d) {o:d4} (b:o∈cB d):∃ i,i<(fy d).length/\jB (fy d) o.sat=some (nh d i)/\o.sat=nh d i 0/\jp (nh d i) (fz d) o=true:=by
 obtain ⟨i,hi,a,_⟩:=h.optOf b;have:=(BZ a).1;grind [HN]
theorem cK.ways {d:bS} (h:cK d):tL (ir d)=true:=by
 have B:(cB d).length<=8:=OW d (by have:=jJ d; omega);have y:=OX (d:=d);have A:=h.from_;have hF:Qf d=aF d.t0 5000:=rfl;have E:(ir d).b=aF d.t0 5000+200:=aZ ar ar;have v:(ir d).opts=cB d:=rfl;have N:(ir d).buns=vO d:=rfl;have X:(ir d).sats=fy d:=rfl;have w:(ir d).ords=d7 d:=rfl;have z:(ir d).a=aF d.t0 5000:=rfl;have H:(ir d).passes=fz d:=rfl
 have o1:mq (cB d) (L0 (ir d))=true:=by
  have e:=(h.optIds (nk d) (ba _)).1
  have key:=rV (d:=dt) (ok:=fun o=>(jB (fy d) o.sat).isSome&&(gW (d7 d) o.ord).isSome&&yb ((jB (fy d) o.sat).getD iM) o (fz d)&&(decide (aF d.t0 5000<=o.a)&&decide (Ip o<=aF d.t0 5000+200)&&decide (o.cl<((jv ((gW (d7 d) o.ord).getD jO).goal).length:Int)))) (key:=d4.id) (l:=cB d) (fun o c=>by
   obtain ⟨i,hi,hs,_,p⟩:=h.satOf c;obtain ⟨q,f,he⟩:=h.hasOrd c;obtain ⟨r,t,m⟩:=sZ f he;have hg:=(h.ord m).2.2.1;have hc:=(h.optOrd c).2.2;have hB:=h.optB c;obtain ⟨_,_,_,ha,_⟩:=h.optOf c;have hL:Ip o=uq o:=rfl
   have hP:yb (nh d i) o (fz d)=true:=by
    simp only [jp,yb,al] at p ⊢;exact p
   grind) e
  unfold mq at key ⊢;rw [aN] at key ⊢;intro i hi;have k:=key i hi;have hi:=bB.1 hi;unfold wl at k;simp only [al] at k;obtain ⟨⟨⟨⟨k1,k2⟩,k3⟩,⟨k4,J⟩,Q⟩,F⟩:=k
  have U:DO (((cB d).map d4.sat).take (i+1)) ((cB d).getD i dt).sat<=8:=by
   unfold DO;refine bC (iu _ _) ?_;rw [dA,az];omega
  unfold L0 Ou Ot;rw [v,X,w,z,H,E,k1,k2,k3,k4,J,Q,F];simp only [aP,cr,bG];omega
 have b1:mq (vO d) (MG (ir d))=true:=by
  unfold mq;rw [aN];intro i hi;have hi:=bB.1 hi;have hm:(vO d).getD i h9∈vO d:=c8 h9 hi;unfold MG;rw [N,v,w];generalize (vO d).getD i h9=u at *;obtain ⟨⟨u1,u2⟩,n,M⟩:=h.bun hm
  have P:(gW (d7 d) u.ord).isSome=true:=by
   cases hu:u.opts with
   | nil=>grind
   | cons j r=>
    obtain ⟨j1,j2,D⟩:=n j (by grind);obtain ⟨q,f,he⟩:=h.hasOrd (c8 dt (by omega:j.toNat<(cB d).length));obtain ⟨r,t,_⟩:=sZ f (he.trans (by show (qI (cB d) j).ord=_; exact D));rw [t]; rfl
  have Z:y7 (cB d).length u.opts=true:=by
   have:=rV (d:=0) (ok:=fun j=>decide (0<=j)&&decide (j<((cB d).length:Int))) (key:=fun x=>x) (l:=u.opts) (fun j hj=>by grind) M;unfold y7;unfold mq at this ⊢;rw [aN] at this ⊢;intro k G;have:=this k G;unfold wl at this;unfold zq dW;simp only [al,cq,aP] at this ⊢;omega
  have L:(u.opts.any fun j=>decide ((qI (cB d) j).ord≠u.ord))=false:=by
   rw [eJ];intro j hj;have:=(n j hj).2.2;simp [this]
  rw [P,Z,L];simp [cQ];omega
 grind [tL]
theorem cK.ok {d:bS} (h:cK d):tX (ir d)=true:=by
 unfold tX;rw [h.sky,h.wanted,h.ways]; rfl
open Go Go.AI
set_option maxRecDepth 10000
def Zq (b:Nat) (G:List yo):Nat×AV:=(xk 5000011,.me .box 5000011 b [[.sl (.id 5004000) 4 (G.map gQ),.sl .full 0 []]])
set_option maxHeartbeats 16000000 in
theorem xW (s:eo) (w:s.Fit) (q:tX s=true) (M:s.sats.length<=100) (E:(Nat->Int)->List yo) (t:∀ x∈s.sats,(E x).length<=5/\aq Tryz.prog 29 [.agg (bM x),cH [],cZ s.passes,.agg (cj s.a s.b)] (.tup [jr (E x),.int .i64 0])) (P:List yo)
  (J:∀ b (G:List yo),G.length<=500->bX Tryz.prog 32 [5000011] [5004000] [cA b s,bu [],cH []] (LP b G) (.tup []) (LP b (G++P)))
  (y:∀ b id,aq Tryz.prog 30 [cA b s,cH [],.int .i64 id] (bu [])):aq Tryz.prog 6 [.agg (gz s),bu []] (.tup [jr (s.sats.flatMap E++P),.int .i64 0]):=by
 have e:=w.toSmall;have r:=jb s w;rw [q] at r;have u:=nH [] (s.buns.map fH).length bq (by rw [az]; exact e.buns);rw [show y7 (s.buns.map fH).length []=true from rfl] at u;refine aM je Tryz.func6 ?_;intro F Q w0 m0 hG A h1 kp;refine aJ.seq ?_
 repeat' first|refine du ?_|((conv=>whnf); first|refine ⟨fun h=>?_,fun h=>?_⟩|refine ak ?_)
 refine aJ.seq ?_;refine aJ.seq ?_
 repeat' first|refine du ?_|((conv=>whnf); first|refine ae _ (aa (r) ?_)|refine ae _ (aa (u) ?_)|refine ⟨fun h=>?_,fun h=>?_⟩|refine ak ?_)
 repeat' first|refine du ?_|((conv=>whnf); first|refine ⟨fun h=>?_,fun h=>?_⟩|refine ak ?_)
 conv=>whnf
 refine aJ.seq ?_;refine aJ.reg hG af je aI ?_
 conv=>whnf
 refine ii 36 11 5004000 4 rfl rfl ?_
 conv=>whnf
 refine aJ.pin 36 5000011 rfl rfl rfl (fun b=>?_)
 conv=>whnf
 refine aJ.seq ?_;refine mZ hG af je [7] aI ?_
 conv=>whnf
 have D:=jd b s e ⟨0,[]⟩ bq (fun j hj=>(nomatch hj))
 iterate 2
  repeat' first
   | refine QE [] rfl hG af kp ?_
   |((conv=>whnf); first
     | refine cX ?_
     | refine cW ?_
     | refine aa aI ?_
     | refine ae _ (aa (Bo 0) ?_)
     | refine ae _ (aa (D) ?_)
     | refine ak ?_)
  refine aJ.unroll 1 ?_
 repeat' first
  | refine QE [] rfl hG af kp ?_
  |((conv=>whnf); first
    | refine cX ?_
    | refine cW ?_
    | refine aa aI ?_
    | refine ak ?_)
 have f:∀ i,((s.sats.take i).flatMap E).length<=500:=fun i=>by
  have h1:=Dy E 5 (s.sats.take i) fun x hx=>(t x (dy hx)).1;rw [dA] at h1;omega
 refine aJ.loop (X:=Nat) (fun i=>⟨[(78,.int .i64 i),(77,.int .i64 (s.sats.map bM).length),(76,qC s.sats),(10,cH []),(2,.loc 2 0),(1,bu []),(6,.pin 5000011 b 0 (gz s)),Zq b ((s.sats.take i).flatMap E)],[(2,gz s)]⟩) (fun i=>i<=s.sats.length) (fun i=>s.sats.length - i) 0 (aU _) LE (fun i hi=>?_);by_cases d:i<s.sats.length
 ·have c:=dF (show (i:Int)<((s.sats.map bM).length:Int) by grind);have hx:=cG bM iM d;obtain ⟨N,L⟩:=t _ (c8 iM d);have H:=f i;have m:(s.sats.take (i+1)).flatMap E=(s.sats.take i).flatMap E++E (s.sats.getD i iM):=by rw [dz iM d]; simp
  generalize s.sats.getD i iM=x at *;generalize (s.sats.take i).flatMap E=G at *;generalize E x=v at *;have p:((G.map gQ).length+(v.map gQ).length)*32<=70368744177664:=by rw [az,az]; omega
  have l:(G.map gQ).length+(v.map gQ).length<=4611686018427387904:=by rw [az,az]; omega
  repeat' first
   | exact (c bf).elim
   | refine QE [] rfl hG af kp ?_
   |((conv=>whnf); first
     | refine cX ?_
     | refine cW ?_
     | refine aa aI ?_
     | refine aa (au i) (ae _ (aa hx ?_))
     | refine ae _ (aa (At) ?_)
     | refine ae _ (aa (G8 _ _) ?_)
     | refine ae _ (aa (L) ?_)
     | refine aa p (aa l ?_)
     | refine ⟨fun h=>?_,fun h=>?_⟩
     | refine ak ?_)
  refine ae (i+1) (aa d (aa ar (St.le.of ?_ RF)));rw [m];refine aa (ax some (bL ar)) (aa rfl (aa rfl (aa rfl (aa rfl (aa rfl (aa rfl (aa (ax (fun z=>some (AV.me .box 5000011 b [[AV.sl (.id 5004000) 4 z,AV.sl .full 0 []]])) c7.symm) trivial)))))))
 ·have c:=dT (show ¬((i:Int)<((s.sats.map bM).length:Int)) by grind);have o:i=s.sats.length:=by omega
  subst o;rw [dl];have n:=f s.sats.length;rw [dl] at n;generalize s.sats.flatMap E=G at *
  repeat' first
   | exact (c bf).elim
   | refine QE [] rfl hG af kp ?_
   |((conv=>whnf); first
     | refine cX ?_
     | refine cW ?_
     | refine aa aI ?_
     | refine ⟨fun h=>?_,fun h=>?_⟩
     | refine ak ?_)
  refine aJ.loop (X:=Nat) (fun i=>⟨[(111,.int .i64 i),(110,.int .i64 (s.stas.map eB).length),(109,yV s.stas),(10,cH []),(2,.loc 2 0),(1,bu []),(6,.pin 5000011 b 0 (gz s)),Zq b G],[(2,gz s)]⟩) (fun i=>i<=s.stas.length) (fun i=>s.stas.length - i) 0 (aU _) LE (fun i hi=>?_);by_cases d:i<s.stas.length
  ·have c:=dF (show (i:Int)<((s.stas.map eB).length:Int) by grind);have hx:=cG eB LH d;have B:=e.stas;generalize s.stas.getD i LH=x at *;have cb:=y b x.id
   repeat' first
    | exact (c bf).elim
    | refine aJ.unroll 1 ?_
    | refine QE [] rfl hG af kp ?_
    |((conv=>whnf); first
      | refine cX ?_
      | refine cW ?_
      | refine aa aI ?_
      | refine aa (au i) (ae _ (aa hx ?_))
      | refine ae _ (aa (cb) ?_)
      | refine ⟨fun h=>?_,fun h=>?_⟩
      | refine ak ?_)
   refine ae (i+1) (aa d (aa ar (St.le.of ?_ RF)));exact aa (ax some (bL ar)) RF
  ·have c:=dT (show ¬((i:Int)<((s.stas.map eB).length:Int)) by grind);have ca:=J b G ar
   repeat' first
    | exact (c bf).elim
    | refine QE [146] rfl hG af kp ?_
    |((conv=>whnf); first
      | refine cX ?_
      | refine cW ?_
      | refine aa aI ?_
      | refine xE ca ?_
      | refine ⟨fun h=>?_,fun h=>?_⟩
      | refine ak ?_)
   exact Ez
open Go Go.AI
set_option maxRecDepth 10000
def w16 (W:Nat->Int) (g:Nat):Nat->Int:=fun k=>if k=g then IntKind.i64.wrap (W g+1) else W k
set_option maxHeartbeats 16000000 in
theorem xX (b:Nat) (s:eo) (hs:s.Small) (L:∀ o∈s.ords,o.group<16) (hq:∀ g,g<16->0<=s.quo.getD g 0) (hql:s.quo.length=16) (hp:s.prom.length<=1000) (G:List yo) (hGl:G.length<=500):bX Tryz.prog 32 [5000011] [5004000] [cA b s,bu [],cH []] (LP b G) (.tup []) (LP b (G++s.prom.map fun p=>⟨9,p,0,0⟩)):=by
 refine lP.ofB af Tryz.func32 rfl aI bh (ah rfl) ?_;intro F n' w0 m0 hG hro h1;have kp:KP lI := .mk;have hso:=hs.ords
 repeat' first
  | refine QE [] rfl hG af kp ?_
  |((conv=>whnf); first
    | refine cX ?_
    | refine cW ?_
    | refine aa aI ?_
    | refine fun m=>?_
    | refine ak ?_)
 refine aJ.unroll 1 ?_
 repeat' first
  | refine QE [] rfl hG af kp ?_
  |((conv=>whnf); first
    | refine cX ?_
    | refine cW ?_
    | refine aa aI ?_
    | refine ak ?_)
 rename_i q;refine aJ.loop (X:=Nat×(Nat->Int)) (fun x=>⟨[(62,.int .i64 x.1),(61,.int .i64 (s.ords.map fb).length),(60,zg s.ords),(10,.loc 10 0),(11,.loc 11 0),(xk 24,.me .ents 24 q (f8 false [])),(6,.lit (.map (some q))),Zq b G,(0,cA b s),(2,cH [])],[(11,R1 fun _=>0),(10,R1 x.2)]⟩) (fun x=>x.1<=s.ords.length) (fun x=>s.ords.length - x.1) (0,fun _=>0) (aU _) LE (fun x hi=>?_);obtain ⟨i,W⟩:=x;dsimp only at hi;by_cases c:i<s.ords.length
 ·have a:=dF (show (i:Int)<((s.ords.map fb).length:Int) by grind);have hx:=cG fb jO c;have hg16:=L _ (c8 jO c);generalize s.ords.getD i jO=o at *;obtain ⟨r,Z,B,v,d,P,t,Q⟩:=o;dsimp only at *;by_cases y:d>=0
  ·obtain ⟨g,rfl⟩:∃ g:Nat,d=(g:Int):=⟨d.toNat,by omega⟩;have D:(0:Int)<=(g:Int):=au g;have e:(g:Int)<((16:Nat):Int):=by omega
   have j:=dF (show (g:Int)>=0 by omega);have u:g<16:=by omega
   have n:=yI W u;have J:=(am.1 n).1;have l:=yI (fun _=>0) u;have N:=(am.1 l).1;have eW:=Pb W (w16 W g) (g:=g) (IntKind.i64.wrap (W g+1)) (by simp [w16]) (fun k hk=>by simp [w16,hk]);have eV:=Pb (fun _=>0) (fun _=>0) (g:=g) 0 rfl (fun _ _=>rfl)
   repeat' first
    | exact (a bf).elim
    | exact (j bf).elim
    | refine oE hG af lI [] aI ?_
    | refine QE [] rfl hG af kp ?_
    |((conv=>whnf); first
      | refine cX ?_
      | refine cW ?_
      | refine aa aI ?_
      | refine aa (au i) (ae _ (aa hx ?_))
      | refine PQ 24 [] [r] rfl ?_
      | refine aa D (aa e ?_)
      | refine ae _ (aa n ?_)
      | refine ae _ (aa l ?_)
      | refine ae _ (aa rfl ?_)
      | refine aa J ?_
      | refine aa N ?_
      | refine ⟨fun h=>?_,fun h=>?_⟩
      | refine ak ?_)
   all_goals
    refine ae (i+1,w16 W g) (aa c (aa (by dsimp only; omega) (St.le.of ?_ ?_)))
    ·exact aa (ax some (bL ar)) RF
    ·exact aa (ax some eV) (aa (ax some eW) trivial)
  ·have j:=dT y
   repeat' first
    | exact (a bf).elim
    | exact (j bf).elim
    | refine QE [] rfl hG af kp ?_
    |((conv=>whnf); first
      | refine cX ?_
      | refine cW ?_
      | refine aa aI ?_
      | refine aa (au i) (ae _ (aa hx ?_))
      | refine PQ 24 [] [r] rfl ?_
      | refine ⟨fun h=>?_,fun h=>?_⟩
      | refine ak ?_)
   all_goals
    refine ae (i+1,W) (aa c (aa (by dsimp only; omega) (St.le.of ?_ RF)));exact aa (ax some (bL ar)) RF
 ·have a:=dT (show ¬((i:Int)<((s.ords.map fb).length:Int)) by grind)
  repeat' first
   | exact (a bf).elim
   | refine QE [] rfl hG af kp ?_
   |((conv=>whnf); first
     | refine cX ?_
     | refine cW ?_
     | refine aa aI ?_
     | refine ⟨fun h=>?_,fun h=>?_⟩
     | refine ak ?_)
  refine aJ.loop (X:=Nat) (fun i=>⟨[(121,.int .i64 i),(120,.int .i64 (s.prom.map fun h=>[AV.int .i64 h]).length),(119,bu s.prom),(xk 24,.me .ents 24 q (f8 false [])),(6,.lit (.map (some q))),(11,.loc 11 0),Zq b (G++(s.prom.take i).map fun p=>⟨9,p,0,0⟩),(0,cA b s),(2,cH [])],[(11,R1 fun _=>0)]⟩) (fun i=>i<=s.prom.length) (fun i=>s.prom.length - i) 0 (aU _) (St.le.of ?_ RF) (fun i hi=>?_)
  ·exact aa rfl (aa rfl (aa rfl (aa rfl (aa rfl (aa rfl (aa (ax (fun (z:List yo)=>some (AV.me .box 5000011 b [[AV.sl (.id 5004000) 4 (z.map gQ),AV.sl .full 0 []]])) (bR G).symm) (aa rfl (aa rfl trivial))))))))
  by_cases c:i<s.prom.length
  ·have a:=dF (show (i:Int)<((s.prom.map fun h=>[AV.int .i64 h]).length:Int) by grind);have hx:=cG (fun h=>[AV.int .i64 h]) (0:Int) c;have A:((s.prom.take (i+1)).map fun p=>(⟨9,p,0,0⟩:yo))=((s.prom.take i).map fun p=>(⟨9,p,0,0⟩:yo))++[⟨9,s.prom.getD i 0,0,0⟩]:=by rw [dz (0:Int) c,c7]; rfl
   generalize s.prom.getD i 0=U at *;have c1:=vt b s (G++(s.prom.take i).map fun p=>⟨9,p,0,0⟩) (by rw [bY,az,dA]; omega) 9 U 0 0;generalize ((s.prom.take i).map fun p=>(⟨9,p,0,0⟩:yo))=H at *
   repeat' first
    | exact (a bf).elim
    | refine QE [131] rfl hG af kp ?_
    |((conv=>whnf); first
      | refine cX ?_
      | refine cW ?_
      | refine aa aI ?_
      | refine aa (au i) (ae _ (aa hx ?_))
      | refine PQ 24 [] [U] rfl ?_
      | refine xE c1 ?_
      | refine ⟨fun h=>?_,fun h=>?_⟩
      | refine ak ?_)
   all_goals
    refine ae (i+1) (aa c (aa ar (St.le.of ?_ RF)));rw [A];exact aa (ax some (bL ar)) (aa rfl (aa rfl (aa rfl (aa rfl (aa rfl (aa (ax (fun (z:List yo)=>some (AV.me .box 5000011 b [[AV.sl (.id 5004000) 4 (z.map gQ),AV.sl .full 0 []]])) (n4 _ _ _)) (aa rfl (aa rfl trivial))))))))
  ·have a:=dT (show ¬((i:Int)<((s.prom.map fun h=>[AV.int .i64 h]).length:Int)) by grind);have M:i=s.prom.length:=by omega
   subst M;rw [dl];generalize (G++s.prom.map fun p=>(⟨9,p,0,0⟩:yo))=H at *
   repeat' first
    | exact (a bf).elim
    | refine QE [] rfl hG af kp ?_
    |((conv=>whnf); first
      | refine cX ?_
      | refine cW ?_
      | refine aa aI ?_
      | refine ⟨fun h=>?_,fun h=>?_⟩
      | refine ak ?_)
   refine aJ.loop (X:=Nat) (fun g=>⟨[(134,.int .i64 g),(133,.agg (R1 fun _=>0)),Zq b H,(0,cA b s),(2,cH [])],[]⟩) (fun g=>g<=16) (fun g=>16 - g) 0 (aU _) LE (fun g u=>?_);by_cases c:g<16
   ·have a:=dF (show (g:Int)<16 by omega);have w:(0:Int)<=(g:Int):=au g;have e:(g:Int)<((16:Nat):Int):=by omega
    have f:(R1 fun _=>0)[(g:Int).toNat]?=some (.int .i64 0):=by have:=yI (fun _=>0) c; rwa [bI,gO] at this
    repeat' first
     | exact (a bf).elim
     | refine oE hG af lI [] aI ?_
     | refine QE [] rfl hG af kp ?_
     |((conv=>whnf); first
       | refine cX ?_
       | refine cW ?_
       | refine aa aI ?_
       | refine aa w (aa e (ae _ (aa f ?_)))
       | refine ⟨fun h=>?_,fun h=>?_⟩
       | refine ak ?_)
    all_goals
     refine ae (g+1) (aa c (aa ar (St.le.of ?_ ?_)))
     ·exact aa (ax some (bL ar)) RF
     ·exact RF
   ·have a:=dT (show ¬((g:Int)<16) by omega)
    repeat' first
     | exact (a bf).elim
     | refine QE [] rfl hG af kp ?_
     |((conv=>whnf); first
       | refine cX ?_
       | refine cW ?_
       | refine aa aI ?_
       | refine ⟨fun h=>?_,fun h=>?_⟩
       | refine ak ?_)
    refine aJ.unroll 1 ?_
    repeat' first
     | refine QE [] rfl hG af kp ?_
     |((conv=>whnf); first
       | refine cX ?_
       | refine cW ?_
       | refine aa aI ?_
       | refine ak ?_)
    refine aJ.loop (X:=Nat) (fun g=>⟨[(174,.int .i64 g),(173,.agg (R1 fun _=>0)),Zq b H,(0,cA b s)],[]⟩) (fun g=>g<=16) (fun g=>16 - g) 0 (aU _) LE (fun g u=>?_);by_cases c:g<16
    ·have a:=dF (show (g:Int)<16 by omega);have w:(0:Int)<=(g:Int):=au g;have e:(g:Int)<((16:Nat):Int):=by omega
     have f:(R1 fun _=>0)[(g:Int).toNat]?=some (.int .i64 0):=by have:=yI (fun _=>0) c; rwa [bI,gO] at this
     have hx:=cG (fun h=>[AV.int .i64 h]) (0:Int) (show g<s.quo.length by omega);have E:=dT (show ¬((0:Int)>s.quo.getD g 0) by have:=hq g c; omega);generalize s.quo.getD g 0=qv at *
     repeat' first
      | exact (a bf).elim
      | exact (E bf).elim
      | refine oE hG af lI [] aI ?_
      | refine QE [] rfl hG af kp ?_
      |((conv=>whnf); first
        | refine cX ?_
        | refine cW ?_
        | refine aa aI ?_
        | refine aa w (aa e (ae _ (aa f ?_)))
        | refine aa w (ae _ (aa hx ?_))
        | refine ⟨fun h=>?_,fun h=>?_⟩
        | refine ak ?_)
     all_goals
      refine ae (g+1) (aa c (aa ar (St.le.of ?_ ?_)))
      ·exact aa (ax some (bL ar)) RF
      ·exact RF
    ·have a:=dT (show ¬((g:Int)<16) by omega)
     repeat' first
      | exact (a bf).elim
      | refine QE [] rfl hG af kp ?_
      |((conv=>whnf); first
        | refine cX ?_
        | refine cW ?_
        | refine aa aI ?_
        | refine ⟨fun h=>?_,fun h=>?_⟩
        | refine ak ?_)
     exact gc.mk (bA rfl) (ae (.tup []) (ae _ (aa (aa rfl rfl) (aa (ak (ay rfl)) (aa aI aI)))))
end Go.Proofs
