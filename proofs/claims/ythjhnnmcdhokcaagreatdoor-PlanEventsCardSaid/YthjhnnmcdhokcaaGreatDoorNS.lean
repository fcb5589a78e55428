/- Part 19 of the proof: an abstract interpreter for the code, contracts of the functions, and plain facts; the conditions are those typed. -/
import Derived.Test.YthjhnnmcdhokcaaGreatDoorNH
set_option linter.unusedSectionVars false
set_option linter.unusedVariables false
set_option linter.unusedSimpArgs false
namespace Go.Proofs
open Go Go.AI
set_option maxRecDepth 100000
set_option maxHeartbeats 4000000
theorem Jy (x y:bU):ko x y=true↔(x.ca<y.ca\/x.ca=y.ca/\(x.sat<y.sat\/x.sat=y.sat/\(x.st<y.st\/x.st=y.st/\(x.sa<y.sa\/x.sa=y.sa/\x.cb<y.cb)))):=by
 grind [ko]
theorem UR (x y:bU):ko x y=decide (wZ x y<0):=by rw [Ev]; rfl
theorem AD {x y z:bU} (h1:ko x y=true) (h2:ko y z=true):ko x z=true:=by
 rw [Jy] at *;omega
theorem Nm {x y:bU} (h:ko x y=true):ko y x=false:=by
 cases a:ko y x with
 | false=>rfl
 | true=>
  grind [AD,Jy]
def HG (l:List bU):Prop:=l.Pairwise fun a b=>ko b a=false
theorem Pu {α:Type} {q:α->Bool}:∀ {l:List α} {z:α} {r:List α},l.dropWhile q=z::r->q z=false
 | a::l,z,r,h=>by
  rw [LW] at h;split at h
  ·exact Pu h
  ·cases h; simp_all
theorem Td {α:Type} {q:α->Bool}:∀ {l:List α} {z:α},z∈l.takeWhile q->q z=true
 | a::l,z,h=>by
  rw [LQ] at h;split at h
  ·rcases bC.1 h with rfl | h
   ·assumption
   ·exact Td h
  ·cases h
theorem TY {p:bU} {l:List bU} (h:HG l):HG (uJ p l):=by
 have i:HG (l.takeWhile (fun y => !ko p y)++l.dropWhile (fun y => !ko p y)):=by rw [SU]; exact h
 unfold HG at *;rw [iR] at i;obtain ⟨h1,h2,n⟩:=i;unfold uJ;rw [iR,tP]
 have m:∀ z∈l.dropWhile (fun y => !ko p y),ko z p=false:=by
  intro z hz
  cases d:l.dropWhile (fun y => !ko p y) with
  | nil=>rw [d] at hz; cases hz
  | cons z0 r=>
   have e:ko p z0=true:=by have:=Pu d; simpa using this
   rw [d] at hz h2;rcases bC.1 hz with rfl | hz
   ·exact Nm e
   ·have f:=(tP.1 h2).1 z hz
    cases c:ko z p with
    | false=>rfl
    | true=>rw [AD c e] at f; cases f
 refine ⟨h1,⟨m,h2⟩,fun a j b c=>?_⟩;rcases bC.1 c with rfl | c
 ·have:=Td j;simpa using this
 ·exact n a j b c
theorem I1:∀ {l a:List bU},HG a->HG (tv a l)
 | [],_,h=>h
 | p::l,a,h=>by
  show HG (tv (uJ p a) l);exact I1 (TY h)
theorem Pw (d:bQ):∀ n,HG (SN d n)
 | 0=>List.Pairwise.nil
 | n+1=>by rw [uW]; exact I1 (Pw d n)
theorem aaz {l:List bU} (h:HG l):Ig l=true:=by
 unfold Ig;rw [aN];intro i hi;have hi:=bz.1 hi;have h1:=eF.1 h i (i+1) am am am;rw [UR] at h1;rw [gD (by omega:i+1<l.length),gD (by omega:i<l.length),h1];rfl
theorem cG.sta {d:bQ} (h:cG d) (i:Nat) (hi:i<3):Cy (fN d i)=true/\(fN d i).id=(i:Int):=by
 have h1:n3 (IntKind.i64.wrap (d.loss+(i:Int))):=nC _;have h2:=bO h1 (n:=2) am;have f:=bO (nC ((IntKind.i64.wrap (d.loss+(i:Int))).tdiv 2)) (n:=9) am
 have c:(fN d i).ant=1+aH (IntKind.i64.wrap (d.loss+(i:Int))) 2:=by
  show cm (1+aH (IntKind.i64.wrap (d.loss+(i:Int))) 2)=_;exact a6 am am
 have b:(fN d i).skew=aH (cm ((IntKind.i64.wrap (d.loss+(i:Int))).tdiv 2)) 9:=rfl
 have a:(fN d i).id=(i:Int)/\(fN d i).x=(i:Int)/\(fN d i).y=(i:Int)/\(fN d i).reach=(i:Int):=by
  obtain rfl | rfl | rfl:i=0\/i=1\/i=2:=by omega
  all_goals exact ⟨by rfl,by rfl,by rfl,by rfl⟩
 refine ⟨?_,a.1⟩;unfold Cy;rw [a.1,a.2.1,a.2.2.1,a.2.2.2,c,b]
 have e:kE ((i:Int),(i:Int))=true:=by
  obtain rfl | rfl | rfl:i=0\/i=1\/i=2:=by omega
  all_goals decide
 rw [e];simp only [cT,al,aO,cH];omega
theorem xK {sat:Int}:∀ {z:List (Int×Int×Int)} {r:Int×List bU},(∀ x∈z,uL x)->(∀ p∈r.2,p.sat=sat/\0<=p.st/\p.st<3)->∀ p∈(z.foldl (iw sat) r).2,p.sat=sat/\0<=p.st/\p.st<3
 | [],_,_,h=>h
 | x::z,r,hz,h=>xK (z:=z) (r:=iw sat r x) (fun y hy=>hz y (aS _ hy)) fun p a=>by
  simp only [iw,eY,cg] at a;rcases a with a | rfl
  ·exact h p a
  ·exact ⟨rfl,bO (hz x (aW ..)).2.2 am⟩
theorem cG.passAt {d:bQ} (h:cG d) {p:bU} (a:p∈fz d):(∃ i,i<(fP d).length/\p.sat=nv d i 0)/\(0<=p.st/\p.st<3)/\gN p=true:=by
 obtain ⟨i,hi,hm⟩:=DS a;have h1:i<(fP d).length:=dv hi (dU _ _);have h2:i<d.pss.length:=dv hi (gY _ _);have hz:∀ x∈(d.pss.getD i []).take 6,uL x:=fun x hx=>h.pss _ (cF [] h2) x (dN hx);obtain ⟨g1,g2⟩:=xK (sat:=nv d i 0) (r:=(Pz d,[])) hz (fun p a=>by cases a) p hm;refine ⟨⟨i,h1,g1⟩,g2,?_⟩;have b:=(h.passOf hi).1;simp only [j9,al] at b;grind
theorem cG.passOK {d:bQ} (h:cG d):j9 (fz d)=true:=by
 unfold j9;have h1:(fz d).length<=64:=bH pY am
 have h2:(fz d).any (fun p => !gN p)=false:=by
  rw [fF];intro p a;simp [(h.passAt a).2.2]
 rw [h2,show Ig (fz d)=true from aaz (Pw d (QV d))];simp [h1]
theorem Io {d:bQ} {i:Nat} (hi:i<(fP d).length):iJ (fP d) (nv d i 0)=some (nv d i):=by
 unfold iJ;rw [List.find?_eq_some_iff_getElem];refine ⟨by simp,i,hi,uV d hi,fun j hj=>?_⟩;simp only [c8,gB];intro e;rw [uV d am,cG.id am,cG.id hi] at e;omega
theorem cG.sky {d:bQ} (h:cG d):To (jr d)=true:=by
 have hf:=h.from_;have hl:=jR d;have j:(jr d).b=aH d.t0 5000+200:=a6 am am;have o:(jr d).a=aH d.t0 5000:=rfl
 have h1:DE (fP d)=true:=by
  unfold DE uE kH;simp only [al,aO,aN,bz];refine ⟨by omega,fun i hi=>?_⟩;unfold wG;rw [show (fP d).getD i jp=nv d i from rfl,h.satOK hi,bG]
  cases i with
  | zero=>rfl
  | succ i=>
   rw [show (fP d).getD (i+1 - 1) jp=nv d i from rfl];show (decide (i+1=0)||decide (nv d i 0<nv d (i+1) 0))=true;rw [cG.id am,cG.id hi];grind
 have c:∀ i,i<3->((List.range 3).map (fN d)).getD i Tk=fN d i:=fun i hi=>by
  grind
 have h2:Dw ((List.range 3).map (fN d))=true:=by
  unfold Dw uE kH;simp only [al,aO,aN,bz];refine ⟨by simp,fun i hi=>?_⟩;have hi:i<3:=by simpa using hi
  unfold wG;rw [c i hi,(h.sta i hi).1,bG]
  cases i with
  | zero=>rfl
  | succ i=>
   rw [show i+1 - 1=i from rfl,c i am,(h.sta i am).2,(h.sta (i+1) hi).2];grind
 have m:(fz d).any (PX (jr d))=false:=by
  rw [fF];intro p l;obtain ⟨⟨i,hi,e⟩,⟨g1,g2⟩,_⟩:=h.passAt l
  have n:(iJ (jr d).sats p.sat).isSome=true:=by
   show (iJ (fP d) p.sat).isSome=true;rw [e,Io hi]; rfl
  have f:(jr d).stas.any (fun t=>decide (t.id=p.st))=true:=by
   rw [List.any_eq_true];refine ⟨fN d p.st.toNat,bp.2 ⟨p.st.toNat,bz.2 am,rfl⟩,?_⟩;rw [(h.sta p.st.toNat am).2];simp only [aO];omega
  unfold PX;rw [n,f];simp
 unfold To WP;rw [j,o,show (jr d).sats=fP d from rfl,show (jr d).stas=(List.range 3).map (fN d) from rfl,show (jr d).passes=fz d from rfl,h1,h2,m,h.passOK];simp only [cT,al,aO,eu,cH,bG];omega
theorem Zk (d:bQ):y8 d 16=(List.range 16).map (quoI d):=by simp [y8]
theorem cG.quoI {d:bQ} (h:cG d) (i:Nat):0<=Go.Proofs.quoI d i/\Go.Proofs.quoI d i<=19:=by
 unfold Go.Proofs.quoI;split
 ·rename_i hi;have:=bO (h.quo _ (cF 0 hi)) (n:=20) am;omega
 ·omega
theorem cG.rest {d:bQ} (h:cG d):OP (jr d)=true:=by
 have h1:(d8 d).length<=4:=rS d 4;have h2:=bO h.loss (n:=3) am
 have a:(y8 d 16).any (fun n => !cT n 0 1000000)=false:=by
  rw [Zk,fF];intro x hx;obtain ⟨i,_,rfl⟩:=bp.1 hx;have:=h.quoI i;simp only [cT,yP,iv,al,aO];omega
 unfold OP;rw [show (jr d).ords=d8 d from rfl,show (jr d).quo=y8 d 16 from rfl,show (jr d).loss=aH d.loss 3 from rfl,a,y6 d (ba _)];simp only [cT,al,aO,eu,tH];omega
theorem Xp {d:bQ} {o:kQ} (c:o∈d8 d):∃ (i k:Nat),i<4/\k<(bT d).length/\((bT d).getD k de).ord=(i:Int)/\o=Uz d i k:=by
 obtain ⟨i,hi,hm⟩:=yM.1 c;have hi:=bz.1 hi;unfold BA at hm
 cases a:(bT d).findIdx? (Aq i) with
 | none=>rw [a] at hm; cases hm
 | some k=>
  rw [a] at hm;obtain ⟨hk,b,_⟩:=iD.1 a;refine ⟨i,k,hi,hk,?_,by simpa using hm⟩;rw [aG,ai hk];exact aF b
theorem PA {d:bQ}:(sN d).length<=10:=by
 have:=As d d.buns.length (ba _);unfold mw at this;rw [ej] at this;exact this
theorem Qe {l:List dZ} {a b:Int} {u:iu} (h:u∈mV l a b):u=⟨(l.getD a.toNat de).ord,[a,b]⟩/\(l.getD a.toNat de).ord=(l.getD b.toNat de).ord/\a<b:=by
 grind [mV]
theorem Xq {d:bQ} {u:iu} (h:u∈sN d):(∃ i,i<rh d/\u=⟨((bT d).getD i de).ord,[(i:Int)]⟩)\/∃ z∈d.buns,(bT d).length>1/\u∈mV (bT d) (aH z.1 (bT d).length) (aH z.2.1 (bT d).length):=by
 have key:∀ (l:List (Int×Int×Int)) (B:List iu),u∈l.foldl (lD (bT d)) B->u∈B\/∃ z∈l,(bT d).length>1/\u∈mV (bT d) (aH z.1 (bT d).length) (aH z.2.1 (bT d).length):=by
  intro l
  induction l with
  | nil=>grind
  | cons z l a=>
   grind [lD,List.mem_cons_self,List.mem_cons_of_mem]
 rcases key d.buns _ h with h1 | h1
 ·obtain ⟨i,hi,rfl⟩:=bp.1 h1;grind
 ·exact .inr h1
theorem zK {s:Nat->Int} {ps:List bU} {f id:Int} {z:List R5} (hz:∀ x∈z,wO x):∀ i,i<=z.length->∀ o∈gl s ps f id z i,0<=o.ord/\o.ord<4/\o.cl=0
 | 0,_,o,h=>by cases h
 | i+1,hi,o,h=>by
  simp only [gl] at h;rcases eY.1 h with h | h
  ·exact zK hz i am o h
  ·split at h
   ·have:o=sE s ps f (id+i) (z.getD i Ws):=by simpa using h
    subst this;have h1:=(hz _ (cF Ws (by omega:i<z.length))).2.2.2.2;have h2:=bO h1 (n:=4) am;exact ⟨h2.1,h2.2,rfl⟩
   ·cases h
theorem cG.optOrd {d:bQ} (h:cG d) {o:dZ} (a:o∈bT d):0<=o.ord/\o.ord<4/\o.cl=0:=by
 obtain ⟨i,hi,hm⟩:=yM.1 a;have hi:=bz.1 hi;have h2:i<d.opts.length:=dv hi (gY _ _);have hz:∀ x∈(d.opts.getD i []).take 4,wO x:=fun x hx=>h.opts _ (cF [] h2) x (dN hx);exact zK hz _ (dU _ _) o hm
theorem cG.hasOrd {d:bQ} (h:cG d) {o:dZ} (a:o∈bT d):∃ q∈d8 d,q.id=o.ord:=by
 obtain ⟨h1,h2,_⟩:=h.optOrd a
 cases b:(bT d).findIdx? (Aq o.ord.toNat) with
 | none=>
  grind [Aq,decide_eq_false_iff_not]
 | some k=>
  refine ⟨Uz d o.ord.toNat k,yM.2 ⟨o.ord.toNat,bz.2 am,?_⟩,?_⟩
  ·unfold BA;rw [b]; simp
  ·show ((o.ord.toNat:Nat):Int)=o.ord;omega
theorem cG.bun {d:bQ} (h:cG d) {u:iu} (hu:u∈sN d):(1<=u.opts.length/\u.opts.length<=2)/\(∀ j∈u.opts,0<=j/\j<((bT d).length:Int)/\(eR (bT d) j).ord=u.ord)/\u.opts.Pairwise (·<·):=by
 rcases Xq hu with ⟨i,hi,rfl⟩ | ⟨z,hz,hl,e⟩
 ·have:i<(bT d).length:=dv hi (dU _ _);refine ⟨by simp,fun j hj=>?_,by simp⟩;have:j=(i:Int):=by simpa using hj
  subst this;exact ⟨by omega,by omega,rfl⟩
 ·obtain ⟨rfl,h1,h2⟩:=Qe e;have b:=h.buns z hz;have a:=bO b.1 (n:=((bT d).length:Int)) am;have c:=bO b.2.1 (n:=((bT d).length:Int)) am;refine ⟨by simp,fun j hj=>?_,by simpa using h2⟩;have:j=aH z.1 ((bT d).length:Int)\/j=aH z.2.1 ((bT d).length:Int):=by simpa using hj
  rcases this with rfl | rfl
  ·exact ⟨a.1,a.2,rfl⟩
  ·exact ⟨c.1,c.2,h1.symm⟩
open Go Go.AI
set_option maxRecDepth 100000
theorem zn (x:Int) {n:Int} (h:0<n):-n<x.tmod n/\x.tmod n<n/\(0<=x->0<=x.tmod n):=by
 by_cases hx:0<=x
 ·rw [fG hx];have h1:=Bj x (by omega:n≠0);have h2:=tR x h;omega
 ·have e:x.tmod n = -((-x).tmod n):=by rw [Int.neg_tmod,Int.neg_neg]
  rw [e,fG am];have h1:=Bj (-x) (by omega:n≠0);have h2:=tR (-x) h;omega
theorem rJ {n:Int} (h:-10000000<=n/\n<=10000000):-10000000<=iU n/\iU n<=10000000/\(0<=n->0<=iU n):=by
 obtain ⟨h1,h2⟩:=h
 have a:-3333334<=n.tdiv 3/\n.tdiv 3<=3333334/\(0<=n->0<=n.tdiv 3/\3*n.tdiv 3<=n):=by
  by_cases hx:0<=n
  ·grind
  ·grind
 grind [iU,a6]
theorem PG {a b:Int} (c:-100000000<=a/\a<=100000000) (d:-100000000<=b/\b<=100000000):0<=qf a b/\qf a b<=200000000/\(0<=a->0<=b->qf a b<=max a b):=by
 grind [qf,a6]
theorem Ad {c:Int×Int} {t:Int} (hx:0<=c.1/\c.1<=47) (hy:0<=c.2/\c.2<=23) (l:0<=t):-90<=jO c t/\jO c t<=90:=by
 have f:0<=sG t/\sG t<48000:=by
  have h1:0<=t.tmod 1440/\t.tmod 1440<1440:=by have:=zn t (n:=1440) am; omega
  have h2:=rJ (n:=cm (cm (1440 - t.tmod 1440)*100)) (by grind [a6]);have o:=h2.2.2 (by grind [a6]);unfold sG;generalize iU (cm (cm (1440 - t.tmod 1440)*100))=x at *;have:=zn x (n:=48000) am;omega
 have e:-100000000<=jo t/\jo t<=100000000:=by
  have j:-360<=iA t/\iA t<=360:=by unfold iA; have:=zn (cm (t.tdiv 1440)) (n:=360) am; omega
  unfold jo;generalize iA t=d at *;rw [a6 (n:=100*d) am am,a6 (n:=180 - d) am am,a6 (n:=d - 360) am am,a6 (n:=100*(180 - d)) am am,a6 (n:=100*(d - 360)) am am];have t1:=rJ (n:=100*d) am;have t2:=rJ (n:=100*(180 - d)) am;have t3:=rJ (n:=100*(d - 360)) am;rw [a6 (n:=12000+iU (100*d)) am am,a6 (n:=12000+iU (100*(180 - d))) am am,a6 (n:=12000+iU (100*(d - 360))) am am];split
  ·omega
  ·split <;> omega
 have h:=PG (a:=1000*c.1+500) (b:=sG t) am am;have a2:=PG (a:=1000*c.2+500) (b:=jo t) am e;have a3:=h.2.2 am f.1;unfold jO;dsimp only;rw [a6 (n:=1000*c.1) am am,a6 (n:=1000*c.1+500) am am,a6 (n:=1000*c.2) am am,a6 (n:=1000*c.2+500) am am];generalize qf (1000*c.1+500) (sG t)=a at *;generalize qf (1000*c.2+500) (jo t)=b at *;rw [a6 (n:=48000 - a) am am];generalize hm:min a (48000 - a)=m at *;have i:0<=m/\m<=48000:=by omega
 clear hm;rw [a6 (n:=m+b) am am,a6 (n:=75*(m+b)) am am];grind [Int.tdiv_eq_ediv_of_nonneg,a6]
theorem Cu:∀ (l:List (Int×Int×Int)) (q:Int×Int),(∀ p∈l,-90<=Ac p/\Ac p<=90)->(-90<=q.1/\q.1<=1000/\-1000<=q.2/\q.2<=90)->(-90<=(ku q l).1/\(ku q l).1<=q.1/\-1000<=(ku q l).2/\(ku q l).2<=90)/\(l≠[]->(ku q l).1<=90)
 | [],q,_,h=>⟨⟨h.1,qp _,h.2.2⟩,fun e=>absurd rfl e⟩
 | p::l,q,a,h=>by
  have h1:=a p (aW ..);have b:=Cu l (min q.1 (Ac p),max q.2 (Ac p)) (fun x hx=>a x (aS _ hx)) (by dsimp only; omega);have e:ku q (p::l)=ku (min q.1 (Ac p),max q.2 (Ac p)) l:=rfl;grind
theorem Ct {o:Nat->Int} {a b k:Int} (h:rD o a b k 0):∀ n,n<=(2*o 6+1).toNat->(-90<=(iI o a b k n).1/\(iI o a b k n).1<=1000/\-1000<=(iI o a b k n).2/\(iI o a b k n).2<=90)/\(0<n->(iI o a b k n).1<=90)
 | 0,_=>⟨by show (-90:Int)<=1000/\(1000:Int)<=1000/\(-1000:Int)<=-1000/\(-1000:Int)<=90; omega,fun h=>absurd h bt⟩
 | n+1,j=>by
  obtain ⟨h1,h2⟩:=Ct h n am;have hl:=h.late (-(o 6)+(n:Int)) am am
  have d:=Cu (Bp o a b k (-(o 6)+(n:Int))) (iI o a b k n) (fun p c=>by
   have:=hl.rng p c;have i:=h.a0;exact Ad ⟨this.1,this.2.1⟩ ⟨this.2.2.1,this.2.2.2.1⟩ am) h1
  have e:iI o a b k (n+1)=ku (iI o a b k n) (Bp o a b k (-(o 6)+(n:Int))):=rfl;rw [e];refine ⟨by omega,fun _=>d.2 fun e=>?_⟩;have:=yT o a b k (-(o 6)+(n:Int));rw [e] at this;have f:=h.ab;grind
theorem WU {o:Nat->Int} {a b k:Int} {y:Nat->Int} (h:rD o a b k 0) (hy:∀ i,n3 (y i)) (z:a<=900000):fX (yp o a b k y)=true:=by
 obtain ⟨h1,h2⟩:=It h;have w:=h.s1;have j:=h.l0;have p:=h.a0;have l:=Ct h (2*o 6+1).toNat (ba _);have v:=l.2 am;have x:=bO (hy 0) (n:=30) am;have p1:=bO (hy 1) (n:=60) am;have p2:=bO (hy 1) (n:=5) am;unfold fX yp TU;dsimp only;rw [h1];generalize iI o a b k (2*o 6+1).toNat=q at *;generalize aH (y 0) 30=c at *;generalize aH (y 1) 60=e at *;generalize aH (y 1) 5=d at *;have r:IntKind.i64.wrap (a - c)=a - c:=a6 am am;have m:IntKind.i64.wrap (a+1)=a+1:=a6 am am;have t:IntKind.i64.wrap (a+1+e)=a+1+e:=a6 am am;have u:IntKind.i64.wrap (q.1 - 5)=q.1 - 5:=a6 am am;rw [r,m,t,u];have f:IntKind.i64.wrap (max (max 0 (q.1 - 5)) q.2+d)=max (max 0 (q.1 - 5)) q.2+d:=a6 am am;rw [f];simp only [cT,al,aO,true_and];omega
theorem Ua {o:Nat->Int} {a b k:Int} {y:Nat->Int} (h:rD o a b k 0) (hy:∀ i,n3 (y i)) (f:a<=900000):kd (xR o a b k y)=true/\j4 (xR o a b k y)/\(ep (xR o a b k y)).length=1:=by
 have d:=WU h hy f
 have c:(yp o a b k y).rows.length<=1000000:=by
  have:(uo o a b k).length=24:=by
   have:=(It h).1;simp only [mi,al,aO] at this;exact this.1
  show (uo o a b k).length<=1000000;omega
 have p1:=bO (hy 3) (n:=120) am;have p2:=bO (hy 3) (n:=60) am;have e:IntKind.i64.wrap (1+aH (y 3) 60)=1+aH (y 3) 60:=a6 am am;unfold xR;generalize yp o a b k y=S at *;split
 ·have hv:kd (iz (aH (y 3) 120) S)=true:=by
   show (cT (aH (y 3) 120) 0 1000000&&fX S)=true;rw [d]; simp only [cT,al,aO,tH]; omega
  exact ⟨hv,.D _ _ c,by unfold ep; rw [hv]; rfl⟩
 ·split
  ·have hv:kd (eP (IntKind.i64.wrap (1+aH (y 3) 60)) S)=true:=by
    show (cT (IntKind.i64.wrap (1+aH (y 3) 60)) 1 1000000&&fX S)=true;rw [d,e]; simp only [cT,al,aO,tH]; omega
   exact ⟨hv,.P _ _ c,by unfold ep; rw [hv]; rfl⟩
  ·have hv:kd (gP S)=true:=by
    show fX S=true;exact d
   exact ⟨hv,.S _ c,by unfold ep; rw [hv]; rfl⟩
open Go Go.AI
set_option maxRecDepth 100000
set_option maxHeartbeats 4000000
theorem rW {α:Type} {d:α} {ok:α->Bool} {key:α->Int} {l:List α} (h1:∀ x∈l,ok x=true) (h2:l.Pairwise fun a b=>key a<key b):kH l (wG d ok key l)=true:=by
 unfold kH;rw [aN];intro i hi;have hi:=bz.1 hi;have e:l.getD i d=l[i]:=by rw [aG,ai hi]; rfl
 unfold wG;rw [e,h1 _ (bX hi),bG]
 cases i with
 | zero=>rfl
 | succ i=>
  have c:l.getD (i+1 - 1) d=l[i]:=by rw [Nat.add_sub_cancel,aG,ai am]; rfl
  rw [c];have:=eF.1 h2 i (i+1) am hi am;simp [this]
theorem Pv {d:bQ} {i:Nat} {o:kQ} (h:o∈BA d i):o.id=(i:Int):=by
 unfold BA at h;split at h
 ·cases h
 ·have:o=_:=cg.1 h;rw [this]; rfl
theorem Eo (d:bQ):∀ n,(HS d n).Pairwise (fun a b=>a.id<b.id)/\∀ o∈HS d n,o.id<(n:Int)
 | 0=>⟨by simp [HS],by simp [HS]⟩
 | n+1=>by
  obtain ⟨h1,h2⟩:=Eo d n;rw [Ap];refine ⟨iR.2 ⟨h1,?_,fun a e b f=>?_⟩,fun o c=>?_⟩
  ·unfold BA; split <;> simp
  ·have:=h2 a e; have:=Pv f; omega
  ·rcases eY.1 c with c | c
   ·have:=h2 o c; omega
   ·have:=Pv c; omega
theorem cG.optB {d:bQ} (h:cG d) {o:dZ} (u:o∈bT d):0<=o.a/\o.a<o.b/\o.b - o.a<=60/\uG o<=Pz d+186/\o.b<uG o/\1<=o.sl.length/\o.sl.length<=6/\∀ x∈o.sl,0<=x.p/\x.p<((fz d).length:Int):=by
 obtain ⟨i,hi,c,z,_⟩:=h.optOf u;have hl:=pY (d:=d);have hf:jI (nv d i) o (fz d)=true:=by simp only [jv,al] at c; exact c.2
 have j:=Jb hf;have h1:=QP (m:=Pz d+186) (fun p c=>(h.pass c).2.2) am hf;have q:=h.from_;simp only [jI,ui,eG,CV,wM,al,aO] at hf;obtain ⟨⟨⟨_,⟨⟨⟨_,⟨⟨s1,s2⟩,w⟩,e⟩,_⟩,_⟩,v⟩,_⟩,n⟩:=hf;rw [a6 am am] at e
 have key:∀ (l:List ea) (t:Int),fO (nv d i) (fz d) o.size t l=true->∀ x∈l,t<x.b/\0<=x.p/\x.p<((fz d).length:Int):=by
  intro l
  induction l with
  | nil=>intro _ _ x hx; cases hx
  | cons y r A=>
   intro t f x hx;simp only [fO,mP,al,cT,aO] at f;obtain ⟨⟨⟨g1,g2⟩,⟨⟨⟨_,g3⟩,_⟩,g4⟩,_⟩,g5⟩:=f;rw [a6 am am] at g2;grind
 have hm:Mm o (o.sl.length - 1)∈o.sl:=cF Yz am;have:=key o.sl o.b n _ hm;refine ⟨s1,s2,e,h1,this.1,j.1,j.2,fun x hx=>(key o.sl o.b n x hx).2⟩
theorem cG.ord {d:bQ} (h:cG d) {o:kQ} (f:o∈d8 d):xL o=true/\j4 o.goal/\(ep o.goal).length=1/\0<=o.own/\o.own<=2/\-1<=o.group/\o.group<=1:=by
 obtain ⟨i,k,hi,hk,he,rfl⟩:=Xp f;have hm:(bT d).getD k de∈bT d:=cF de hk;have c:=h.optB hm;have b:=h.from_;obtain ⟨_,_,l,_⟩:=h.goal _ hm;have hy:∀ j,n3 (C5 d i j):=fun j=>Ah h.ords i (fun _=>QC) j;have m:=c.2.1;have t:Pz d=aH d.t0 5000:=rfl;obtain ⟨g1,g2,g3⟩:=Ua l hy am;have p:=bO (hy 0) (n:=3) am;have p1:=bO (hy 1) (n:=1000) am;have p2:=bO (nC ((C5 d i 2).tdiv 4)) (n:=3) am;have r:=bO (hy 3) (n:=101) am;have q:IntKind.i64.wrap (aH d.t0 5000+100)=aH d.t0 5000+100:=a6 am am;have e:IntKind.i64.wrap (aH d.t0 5000+100+aH (C5 d i 3) 101)=aH d.t0 5000+100+aH (C5 d i 3) 101:=a6 am am;have a:IntKind.i64.wrap (aH (IntKind.i64.wrap ((C5 d i 2).tdiv 4)) 3 - 1)=aH (cm ((C5 d i 2).tdiv 4)) 3 - 1:=a6 (by change _<=aH (cm _) 3 - 1; omega) (by change aH (cm _) 3 - 1<=_; omega);refine ⟨?_,g2,g3,p.1,by show aH (C5 d i 0) 3<=2; omega,by show -1<=IntKind.i64.wrap _; rw [a]; omega,by show IntKind.i64.wrap _<=1; rw [a]; omega⟩;unfold xL;rw [show kd (Uz d i k).goal=true from g1,cH];unfold Uz;dsimp only;rw [q,e,a];simp only [cT,al,aO];omega
theorem tg {l:List kQ} {o:kQ} {id:Int} (b:o∈l) (e:o.id=id):∃ q,fK l id=some q/\q∈l:=by
 have h:(fK l id).isSome=true:=by
  unfold fK;rw [List.find?_isSome];exact ⟨o,b,by simp [e]⟩
 obtain ⟨q,a⟩:=mE.1 h;exact ⟨q,a,vU a⟩
theorem cG.wanted {d:bQ} (h:cG d):oU (jr d)=true:=by
 have h1:O1 (d8 d)=true:=rW (fun x hx=>(h.ord hx).1) (Eo d 4).1
 have j:(wY d (d8 d).length).Pairwise (·<·):=by
  unfold wY;rw [List.pairwise_map];have t:((List.range (d8 d).length).filter (UO d.prom)).Pairwise (·<·):=List.Pairwise.filter _ List.pairwise_lt_range;refine t.imp_of_mem fun {a b} c e f=>?_;have c:=bz.1 (gF.1 c).1;have e:=bz.1 (gF.1 e).1;have:=eF.1 (Eo d 4).1 a b c e f;have u:(d8 d).getD a jB=(d8 d)[a]:=by rw [aG,ai c]; rfl
  have o:(d8 d).getD b jB=(d8 d)[b]:=by rw [aG,ai e]; rfl
  rw [u,o];exact this
 have m:∀ p∈wY d (d8 d).length,(fK (d8 d) p).isSome=true:=by
  intro p r;obtain ⟨a,c,rfl⟩:=bp.1 r;have c:=bz.1 (gF.1 c).1;obtain ⟨q,n,_⟩:=tg (cF jB c) rfl;rw [n]; rfl
 have h2:IB (d8 d) (wY d (d8 d).length)=true:=by
  have:=rW (d:=0) (ok:=fun p=>(fK (d8 d) p).isSome) (key:=fun x=>x) (l:=wY d (d8 d).length) m j;unfold IB;unfold kH at this ⊢;rw [aN] at this ⊢;intro i hi;have:=this i hi;unfold Xk d4;unfold wG at this;exact this
 unfold oU;rw [show (jr d).ords=d8 d from rfl,show (jr d).prom=wY d (d8 d).length from rfl,h1,h2,h.rest];rfl
theorem CN {s:Nat->Int} {ps:List bU} {from_ id:Int} {z:List R5} (hz:∀ x∈z,wO x):∀ i,i<=z.length->(gl s ps from_ id z i).Pairwise fun x y=>x.id<y.id
 | 0,_ => .nil
 | i+1,hi=>by
  rw [gl,iR];refine ⟨CN hz i am,by split <;> simp,fun x hx y hy=>?_⟩;have:=o7 hz i am x hx;split at hy
  ·rw [cg.1 hy];show x.id<id+(i:Int);omega
  ·cases hy
theorem cG.optIds {d:bQ} (h:cG d):∀ n,n<=na d->(Er d n).Pairwise (fun a b=>a.id<b.id)/\∀ o∈Er d n,o.id<10*((n:Int)+1)
 | 0,_=>⟨by simp [Er],by simp [Er]⟩
 | n+1,f=>by
  obtain ⟨h1,h2⟩:=h.optIds n am;have i2:n<d.opts.length:=dv (by omega:n<na d) (gY _ _);have hz:∀ x∈(d.opts.getD n []).take 4,wO x:=fun x hx=>h.opts _ (cF [] i2) x (dN hx);have hl:((d.opts.getD n []).take 4).length<=4:=LV _ _
  have hm:∀ o∈BC d n,10*((n:Int)+1)<=o.id/\o.id<10*((n:Int)+1)+4:=fun o c=>by
   obtain ⟨_,_,g3,g4⟩:=o7 (s:=nv d n) (ps:=fz d) (from_:=aH d.t0 5000) (id:=10*((n:Int)+1)) hz (min ((d.opts.getD n []).take 4).length 5) (dU _ _) o c;omega
  rw [Ar];refine ⟨iR.2 ⟨h1,CN hz _ (dU _ _),fun a i b e=>?_⟩,fun o c=>?_⟩
  ·grind
  grind
theorem cG.satOf {d:bQ} (h:cG d) {o:dZ} (b:o∈bT d):∃ i,i<(fP d).length/\iJ (fP d) o.sat=some (nv d i)/\o.sat=nv d i 0/\jv (nv d i) (fz d) o=true:=by
 obtain ⟨i,hi,a,_⟩:=h.optOf b;have:=(wD a).1;grind [Io]
theorem cG.ways {d:bQ} (h:cG d):tZ (jr d)=true:=by
 have B:(bT d).length<=8:=Px d (by have:=jR d; omega);have y:=PA (d:=d);have A:=h.from_;have hF:Pz d=aH d.t0 5000:=rfl;have E:(jr d).b=aH d.t0 5000+200:=a6 am am;have v:(jr d).opts=bT d:=rfl;have M:(jr d).buns=sN d:=rfl;have Q:(jr d).sats=fP d:=rfl;have w:(jr d).ords=d8 d:=rfl;have z:(jr d).a=aH d.t0 5000:=rfl;have G:(jr d).passes=fz d:=rfl
 have o1:kH (bT d) (My (jr d))=true:=by
  have e:=(h.optIds (na d) (ba _)).1
  have key:=rW (d:=de) (ok:=fun o=>(iJ (fP d) o.sat).isSome&&(fK (d8 d) o.ord).isSome&&yy ((iJ (fP d) o.sat).getD jp) o (fz d)&&(decide (aH d.t0 5000<=o.a)&&decide (mh o<=aH d.t0 5000+200)&&decide (o.cl<((ep ((fK (d8 d) o.ord).getD jB).goal).length:Int)))) (key:=dZ.id) (l:=bT d) (fun o c=>by
   obtain ⟨i,hi,hs,_,p⟩:=h.satOf c;obtain ⟨q,f,he⟩:=h.hasOrd c;obtain ⟨r,t,m⟩:=tg f he;have hg:=(h.ord m).2.2.1;have hc:=(h.optOrd c).2.2;have hB:=h.optB c;obtain ⟨_,_,_,ha,_⟩:=h.optOf c;have hL:mh o=uG o:=rfl
   have hP:yy (nv d i) o (fz d)=true:=by
    simp only [jv,yy,al] at p ⊢;exact p
   grind) e
  unfold kH at key ⊢;rw [aN] at key ⊢;intro i hi;have k:=key i hi;have hi:=bz.1 hi;unfold wG at k;simp only [al] at k;obtain ⟨⟨⟨⟨k1,k2⟩,k3⟩,⟨X,H⟩,N⟩,F⟩:=k
  have P:Eu (((bT d).map dZ.sat).take (i+1)) ((bT d).getD i de).sat<=8:=by
   unfold Eu;refine bH (kT _ _) ?_;rw [di,ay];omega
  unfold My O5 O4;rw [v,Q,w,z,G,E,k1,k2,k3,X,H,N,F];simp only [aO,cH,bG];omega
 have b1:kH (sN d) (Ni (jr d))=true:=by
  unfold kH;rw [aN];intro i hi;have hi:=bz.1 hi;have hm:(sN d).getD i fA∈sN d:=cF fA hi;unfold Ni;rw [M,v,w];generalize (sN d).getD i fA=u at *;obtain ⟨⟨u1,u2⟩,n,L⟩:=h.bun hm
  have hO:(fK (d8 d) u.ord).isSome=true:=by
   cases hu:u.opts with
   | nil=>grind
   | cons j r=>
    obtain ⟨Z,j2,D⟩:=n j (by grind);obtain ⟨q,f,he⟩:=h.hasOrd (cF de (by omega:j.toNat<(bT d).length));obtain ⟨r,t,_⟩:=tg f (he.trans (by show (eR (bT d) j).ord=_; exact D));rw [t]; rfl
  have U:Bw (bT d).length u.opts=true:=by
   have:=rW (d:=0) (ok:=fun j=>decide (0<=j)&&decide (j<((bT d).length:Int))) (key:=fun x=>x) (l:=u.opts) (fun j hj=>by grind) L;unfold Bw;unfold kH at this ⊢;rw [aN] at this ⊢;intro k hk;have:=this k hk;unfold wG at this;unfold zV d4;simp only [al,cu,aO] at this ⊢;omega
  have J:(u.opts.any fun j=>decide ((eR (bT d) j).ord≠u.ord))=false:=by
   rw [fF];intro j hj;have:=(n j hj).2.2;simp [this]
  rw [hO,U,J];simp [cT];omega
 grind [tZ]
theorem cG.ok {d:bQ} (h:cG d):su (jr d)=true:=by
 unfold su;rw [h.sky,h.wanted,h.ways]; rfl
open Go Go.AI
set_option maxRecDepth 100000
set_option maxHeartbeats 4000000
theorem cG.small {d:bQ} (h:cG d):(jr d).Small where
 sats:=by have:=jR d; show (fP d).length<=_; omega
 stas:=by show ((List.range 3).map (fN d)).length<=_; simp
 passes:=by have:=pY (d:=d); show (fz d).length<=_; omega
 ords:=by have:=rS d 4; show (HS d 4).length<=_; omega
 opts:=by have:=Px d (by have:=jR d; omega); show (bT d).length<=_; omega
 buns:=by have:=PA (d:=d); show (sN d).length<=_; omega
 prom:=by have:=Py d (d8 d).length; have:=rS d 4; show (wY d (d8 d).length).length<=_; unfold d8 at *; omega
 quo:=by show (y8 d 16).length<=_; rw [y6 d (ba _)]; omega
 slots:=fun o a=>by have:=(h.optB (o:=o) a).2.2.2.2.2.2.1; omega
 bopts:=fun b c=>by have:=(h.bun (u:=b) c).1; omega
theorem cG.fit {d:bQ} (h:cG d):(jr d).Fit where
 toSmall:=h.small
 goals:=fun o a=>(h.ord (o:=o) a).2.1
 sl:=h.small.slots
open Go Go.AI
set_option maxRecDepth 100000
set_option maxHeartbeats 4000000
theorem uZ (e f:jl):lG e f<0↔e.at'<f.at'\/(e.at'=f.at'/\(e.kind<f.kind\/(e.kind=f.kind/\e.img<f.img))):=by
 simp only [lG,O2,gT];grind
def H3 (k:Int) (l:List jl) (id:Int):Nat->Int
 | 0 => -1
 | n+1=>if (l.getD n qw).img=id/\(l.getD n qw).kind=k then (l.getD n qw).at' else H3 k l id n
theorem abb {a b:jl} (f:jw a=true) (e:jw b=true) (h:lG a b<0) (c:a.kind=1) (d:b.kind=2):yH [a,b]=true:=by
 show (([0,1]:List Nat).all (Uu [a,b])&&decide (2<=120))=true;simp [Uu,Wp,f,e,h,c,d]
theorem aba {w x y z:jl} (a:jw w=true) (hx:jw x=true) (hy:jw y=true) (hz:jw z=true) (h1:lG w x<0) (h2:lG x y<0) (b:lG y z<0)
  (d1:w.kind=1->x.kind=1->w.img≠x.img) (d2:w.kind=1->y.kind=1->w.img≠y.img) (c:w.kind=1->z.kind=1->w.img≠z.img) (d:x.kind=1->y.kind=1->x.img≠y.img) (e:x.kind=1->z.kind=1->x.img≠z.img) (f:y.kind=1->z.kind=1->y.img≠z.img):yH [w,x,y,z]=true:=by
 show (([0,1,2,3]:List Nat).all (Uu [w,x,y,z])&&decide (4<=120))=true;simp [Uu,Wp,a,hx,hy,hz,h1,h2,b];grind
theorem abW {a b:jl} (h:¬ lG b a<0):jH 2 [a,b]=[a,b]:=by
 simp [jH,uh,zq,h]
theorem abV {a b c d:jl} (i:¬ lG b a<0) (f:¬ lG d c<0):jH 4 [a,b,c,d]=if lG c b<0 then (if lG c a<0 then (if lG d b<0 then (if lG d a<0 then [c,d,a,b] else [c,a,d,b]) else [c,a,b,d]) else (if lG d b<0 then [a,c,d,b] else [a,c,b,d])) else [a,b,c,d]:=by
 simp only [jH,uh,zq,mc,mf,List.set_cons_zero,On,bS,aY i];by_cases h1:lG c b<0
 ·simp only [aV h1,mc,mf];by_cases h2:lG c a<0
  ·simp only [aV h2,mc,mf];by_cases e:lG d b<0
   ·simp only [aV e,mc,mf,List.set_cons_zero,On];by_cases h:lG d a<0
    ·simp [h,f]
    ·simp [h]
   ·simp [e]
  ·simp only [aY h2,mc,mf];by_cases e:lG d b<0
   ·simp [e,f]
   ·simp [e]
 ·simp [h1,f]
theorem aca {a b:jl} (h:jw a=true) (f:jw b=true) (c:a.kind=1) (d:b.kind=2) (e:b.img=a.img) (lt:a.at'<b.at'):yH (jH 2 [a,b])=true/\H3 1 (jH 2 [a,b]) a.img 2=a.at'/\H3 2 (jH 2 [a,b]) a.img 2=b.at':=by
 rw [abW (by rw [uZ]; omega)];refine ⟨abb h f (by rw [uZ]; omega) c d,?_,?_⟩
 all_goals simp [H3,c,d,e]
theorem ab9 {a b c d:jl} (p:jw a=true) (o:jw b=true) (q:jw c=true) (n:jw d=true) (e:a.kind=1) (m:b.kind=2) (i:c.kind=1) (f:d.kind=2) (j:b.img=a.img) (l:d.img=c.img) (ne:a.img≠c.img) (lt:a.at'<b.at') (mt:c.at'<d.at') :
  yH (jH 4 [a,b,c,d])=true/\(H3 1 (jH 4 [a,b,c,d]) a.img 4=a.at'/\H3 2 (jH 4 [a,b,c,d]) a.img 4=b.at')/\H3 1 (jH 4 [a,b,c,d]) c.img 4=c.at'/\H3 2 (jH 4 [a,b,c,d]) c.img 4=d.at':=by
 have ne':c.img≠a.img:=fun h=>ne h.symm;rw [abV (by rw [uZ]; omega) (by rw [uZ]; omega)]
 repeat' split
 all_goals
  refine ⟨?_,?_⟩
  ·refine aba a8 a8 a8 a8 ?_ ?_ ?_ ?_ ?_ ?_ ?_ ?_ ?_
   all_goals first
    |(simp only [uZ] at *; omega)
    |(intro h1 h2; omega)
  ·simp [H3,e,m,i,f,j,l,ne,ne']
structure abr (s:dY) (u:iu) (l:List jl):Prop where
 ok:Wm s u
 v:yH l=true
 r:∀ e∈l,e.rows.length<=1000000
 n:l.length=2*u.opts.length
 w:∀ j∈u.opts,(H3 1 l (eR s.opts j).id l.length=(eR s.opts j).a/\H3 2 l (eR s.opts j).id l.length=mh (eR s.opts j))/\(eR s.opts j).a<mh (eR s.opts j)
open Go Go.AI
set_option maxRecDepth 100000
set_option maxHeartbeats 4000000
theorem UT {x y:Int} (hx:eQ x) (hy:eQ y):eQ (oG x y):=by
 obtain ⟨a,h1⟩:=hx;obtain ⟨g0,g1⟩:=hy;obtain ⟨n,rfl⟩:=eq a;obtain ⟨m,rfl⟩:=eq g0;have h:n &&& m<=n:=Nat.and_le_left;unfold oG;rw [Az am am];exact ⟨by omega,by omega⟩
theorem qX {α β:Type} {p:β->Prop} {f:β->α->β}:∀ (l:List α) (z:β),p z->(∀ z a,a∈l->p z->p (f z a))->p (l.foldl f z)
 | [],_,h,_=>h
 | a::l,z,h,k=>qX l _ (k z a aW h) fun z b c=>k z b (aS _ c)
theorem Rd {o:Nat->Int} {a b k late:Int} (h:rD o a b k late):∀ r∈gx o a b k late,eQ r:=
 qX (p:=fun z=>∀ r∈z,eQ r) _ _ wo fun z p d hz=>by
  have e:=h.rng p d;obtain ⟨c,f⟩:=eq e.1;have:=yW (c:=c) (qU hz p.2.1.toNat) am;rw [<- f] at this;exact DC hz _ ⟨by omega,this.2⟩
theorem Ov:∀ {x y:List Int},(∀ r∈x,eQ r)->(∀ r∈y,eQ r)->∀ r∈List.zipWith oG x y,eQ r
 | [],_,_,_,r,c=>by simp at c
 | _::_,[],_,_,r,c=>by simp at c
 | a::x,b::y,hx,hy,r,c=>by
  rw [List.zipWith_cons_cons] at c;rcases bC.1 c with rfl | c
  ·exact UT (hx _ aW) (hy _ aW)
  ·exact Ov (fun q d=>hx q (aS _ d)) (fun q d=>hy q (aS _ d)) r c
theorem y2 {s t:Int} (h:t∈iy s):-s<=t/\t<=s:=by
 obtain ⟨i,hi,rfl⟩:=bp.1 h;have:=bz.1 hi;omega
theorem Tg {o:Nat->Int} {a b k:Int} (h:eG o a b k=true):mi (Cs o a b k)=true:=by
 have d:∀ t,t∈iy (o 6)->∀ r∈gx o a b k t,eQ r:=fun t c=>Rd (rD.of h (y2 c).1 (y2 c).2);have j:0<=o 6:=((iY o).1 (by simp only [eG,al] at h; exact h.1.1)).s1
 have f:iy (o 6)≠[]:=fun e=>by
  have:=mH (o 6);rw [e,kr] at this;omega
 refine AE (qB oG (fun t=>oF o a b k t) f) ?_;show ∀ r∈s9 oG (gx o a b k) (iy (o 6)),eQ r
 revert d
 generalize iy (o 6)=l
 cases l with
 | nil=>intro _ r i; cases i
 | cons x q=>exact fun d=>qX (p:=fun z=>∀ r∈z,eQ r) q _ (d x aW) fun z t c hz=>Ov hz (d t (aS _ c))
def Ic (z:Int×Int):Prop:=(-90<=z.1/\z.1<=90)/\-90<=z.2/\z.2<=90
theorem WO {o:Nat->Int} {a b k late:Int} (h:rD o a b k late):Ic (PY o a b k late):=by
 refine qX _ _ ⟨by omega,by omega⟩ fun z p e hz=>?_;have d:=h.rng p e;have h1:=h.a0;have:=Ad (c:=(p.1,p.2.1)) (t:=p.2.2) ⟨d.1,d.2.1⟩ ⟨d.2.2.1,d.2.2.2.1⟩ am;obtain ⟨⟨f,z2⟩,z3,z4⟩:=hz;unfold Ie Ic;dsimp only;omega
theorem Th {o:Nat->Int} {a b k:Int} (h:eG o a b k=true):Ic (p9 o a b k):=by
 have d:∀ t,t∈iy (o 6)->Ic (PY o a b k t):=fun t c=>WO (rD.of h (y2 c).1 (y2 c).2);unfold p9
 revert d
 generalize iy (o 6)=l
 cases l with
 | nil=>intro _; exact ⟨⟨by show (-90:Int)<=0; omega,by show (0:Int)<=90; omega⟩,by show (-90:Int)<=0; omega,by show (0:Int)<=90; omega⟩
 | cons x q=>
  refine fun d=>qX q _ (d x aW) fun z t c hz=>?_;obtain ⟨⟨j,z2⟩,z3,z4⟩:=hz;obtain ⟨⟨e,m⟩,i,f⟩:=d t (aS _ c);unfold WH Ic;dsimp only;omega
theorem cG.goalH {d:bQ} (h:cG d) {u:iu} (hu:u∈sN d):j4 (goalU (jr d) u)/\(ep (goalU (jr d) u)).length=1:=by
 obtain ⟨⟨h1,_⟩,h2,_⟩:=h.bun hu
 obtain ⟨j,hj⟩:∃ j,j∈u.opts:=by
  cases e:u.opts with
  | nil=>rw [e] at h1; cases h1
  | cons j r=>exact ⟨j,aW⟩
 obtain ⟨g1,g2,g3⟩:=h2 j hj;obtain ⟨q,b,he⟩:=h.hasOrd (o:=eR (bT d) j) (cF de am)
 have hf:∃ a,fK (d8 d) u.ord=some a/\a∈d8 d:=by
  unfold fK
  cases hx:(d8 d).find? fun x=>decide (x.id=u.ord) with
  | none=>
   have:=List.find?_eq_none.1 hx q b;simp only [aO] at this;omega
  | some a=>exact ⟨a,rfl,vU hx⟩
 obtain ⟨a,c,f⟩:=hf;have:=h.ord f;show j4 ((fK (d8 d) u.ord).getD jB).goal/\(ep ((fK (d8 d) u.ord).getD jB).goal).length=1;rw [c];exact ⟨this.2.1,this.2.2.1⟩
theorem cG.sw {d:bQ} (h:cG d) {o:dZ} (f:o∈bT d):eG (iN (zx (jr d) o)) o.a o.b o.look=true:=by
 obtain ⟨i,_,e,_,c⟩:=h.satOf f;show eG (iN ((iJ (fP d) o.sat).getD jp)) o.a o.b o.look=true;rw [e];exact (wD c).2
theorem cG.evOK {d:bQ} (h:cG d) {u:iu} (hu:u∈sN d):Wm (jr d) u where
 one:=(h.bun hu).1.1
 six:=by have:=(h.bun hu).1.2; omega
 rng:=fun j hj=>⟨((h.bun hu).2.1 j hj).1,((h.bun hu).2.1 j hj).2.1⟩
 sh:=(h.goalH hu).1
 sw:=fun j hj=>h.sw (cF de (by have:=(h.bun hu).2.1 j hj; show j.toNat<(bT d).length; omega))
 cl:=fun j hj=>by
  have:=(h.bun hu).2.1 j hj;have:=(h.optOrd (o:=eR (bT d) j) (cF de am)).2.2;have:=(h.goalH hu).2;show 0<=(eR (bT d) j).cl/\(eR (bT d) j).cl<_;omega
 sl:=fun j hj=>by
  have:=(h.bun hu).2.1 j hj;have:=h.optB (o:=eR (bT d) j) (cF de am);exact ⟨this.2.2.2.2.2.1,this.2.2.2.2.2.2.1⟩
theorem cG.form {d:bQ} (h:cG d) {o:dZ} (e:o∈bT d) (l:List fi):(jw (nD (jr d) l o)=true/\jw (sv o)=true)/\o.a<mh o:=by
 have c:=h.sw e;have j:=Tg c;obtain ⟨⟨t,z2⟩,z3,z4⟩:=Th c;obtain ⟨b1,p,q,n,m,_⟩:=h.optB e;have hl:mh o=uG o:=rfl;have hf:=h.from_;have u:Pz d=aH d.t0 5000:=rfl;obtain ⟨i,hi,_,_,i1,i2⟩:=h.optOf e;have r:=jR d
 have hk:-4<=o.look/\o.look<=4:=by
  simp only [eG,cT,al,aO] at c;exact c.2
 refine ⟨⟨?_,?_⟩,by omega⟩
 ·have f:-90<=Cv (p9 (iN (zx (jr d) o)) o.a o.b o.look) (zw l o)/\Cv (p9 (iN (zx (jr d) o)) o.a o.b o.look) (zw l o)<=90:=by
   unfold Cv;split <;> omega
  simp only [jw,nD,cT,j,al,cR];exact ⟨⟨⟨bP am,bP am⟩,bP am,bP am⟩,⟨⟨bP am,bP am⟩,bP am,bP am⟩,trivial⟩
 ·simp only [jw,sv,cT,al];exact ⟨⟨⟨bP am,bP am⟩,bP am,bP am⟩,rfl⟩
theorem cG.idLt {d:bQ} (h:cG d) {j k:Int} (hj:0<=j) (b:j<k) (hk:k<((bT d).length:Int)):(eR (bT d) j).id<(eR (bT d) k).id:=by
 have a:=(h.optIds (na d) (ba _)).1;have:=eF.1 a j.toNat k.toNat (show j.toNat<(bT d).length by omega) (show k.toNat<(bT d).length by omega) am;unfold eR;rw [aG,aG,ai (show j.toNat<(bT d).length by omega),ai (show k.toNat<(bT d).length by omega)];exact this
theorem WX {e:jl} (h:jw e=true):e.rows.length<=1000000:=by
 unfold jw at h;simp only [al,mi] at h;have:=h.2;split at this
 ·simp only [al,aO] at this; omega
 ·split at this
  ·simp only [al,aO] at this; omega
  ·cases this
theorem cG.evs {d:bQ} (h:cG d) {u:iu} (hu:u∈sN d):abr (jr d) u (El (jr d) u):=by
 have n:=h.evOK hu;obtain ⟨⟨h1,h2⟩,b,o⟩:=h.bun hu;obtain ⟨ord,opts⟩:=u;dsimp only at h1 h2 b o;have hm:∀ j∈opts,eR (bT d) j∈bT d:=fun j hj=>cF de (by have:=b j hj; omega)
 have p:∀ l:List jl,yH l=true->(∀ e∈l,e.rows.length<=1000000):=fun l hv e he=>by
  simp only [yH,al,kH,aN] at hv;obtain ⟨i,hi,rfl⟩:=cI he;have:=hv.1 i (bz.2 hi);simp only [Uu,al] at this;rw [aG,ai hi] at this;exact WX this.1.1
 rcases opts with _ | ⟨j,_ | ⟨k,_ | ⟨m,r⟩⟩⟩
 ·simp at h1
 ·have f:=h.form (hm j dc) (ep (Go.Proofs.goalU (jr d) ⟨ord,[j]⟩));have e:=aca f.1.1 f.1.2 rfl rfl rfl f.2;have he:El (jr d) ⟨ord,[j]⟩=jH 2 [nD (jr d) (ep (Go.Proofs.goalU (jr d) ⟨ord,[j]⟩)) (eR (bT d) j),sv (eR (bT d) j)]:=ax (jH 2) rfl;rw [he];have a:(jH 2 [nD (jr d) (ep (Go.Proofs.goalU (jr d) ⟨ord,[j]⟩)) (eR (bT d) j),sv (eR (bT d) j)]).length=2:=uK _ _;refine ⟨n,e.1,p _ e.1,a,fun i hi=>?_⟩;obtain rfl:i=j:=by simpa using hi
  rw [a];exact ⟨e.2,f.2⟩
 ·have f:=h.form (hm j dc) (ep (Go.Proofs.goalU (jr d) ⟨ord,[j,k]⟩));have g:=h.form (hm k dc) (ep (Go.Proofs.goalU (jr d) ⟨ord,[j,k]⟩));have c:j<k:=by simpa using o
  have q:=h.idLt (b j dc).1 c (b k dc).2.1;have e:=ab9 f.1.1 f.1.2 g.1.1 g.1.2 rfl rfl rfl rfl rfl rfl (show (eR (bT d) j).id≠(eR (bT d) k).id by omega) f.2 g.2;have he:El (jr d) ⟨ord,[j,k]⟩=jH 4 [nD (jr d) (ep (Go.Proofs.goalU (jr d) ⟨ord,[j,k]⟩)) (eR (bT d) j),sv (eR (bT d) j),nD (jr d) (ep (Go.Proofs.goalU (jr d) ⟨ord,[j,k]⟩)) (eR (bT d) k),sv (eR (bT d) k)]:=ax (jH 4) rfl;rw [he];have a:(jH 4 [nD (jr d) (ep (Go.Proofs.goalU (jr d) ⟨ord,[j,k]⟩)) (eR (bT d) j),sv (eR (bT d) j),nD (jr d) (ep (Go.Proofs.goalU (jr d) ⟨ord,[j,k]⟩)) (eR (bT d) k),sv (eR (bT d) k)]).length=4:=uK _ _;refine ⟨n,e.1,p _ e.1,a,fun i hi=>?_⟩;rw [a];rcases bC.1 hi with rfl | hi
  ·exact ⟨e.2.1,f.2⟩
  ·obtain rfl:i=k:=by simpa using hi
   exact ⟨e.2.2,g.2⟩
 ·simp at h2
end Go.Proofs
