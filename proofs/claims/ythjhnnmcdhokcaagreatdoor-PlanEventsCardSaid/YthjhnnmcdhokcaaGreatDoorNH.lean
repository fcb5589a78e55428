/- Part 8 of the proof: an abstract interpreter for the code, contracts of the functions, and plain facts; the conditions are those typed. -/
import Derived.Test.YthjhnnmcdhokcaaGreatDoorNG
set_option linter.unusedSectionVars false
set_option linter.unusedVariables false
set_option linter.unusedSimpArgs false
namespace Go.AI
open Go
abbrev dU:=@Nat.min_le_left
abbrev eq:=@Int.eq_ofNat_of_zero_le
abbrev gY:=@Nat.min_le_right
abbrev mc:=@List.getD_cons_zero
abbrev mf:=@List.getD_cons_succ
abbrev yM:=@List.mem_flatMap
abbrev LQ:=@List.takeWhile_cons
abbrev LW:=@List.dropWhile_cons
abbrev SI:=@Int.add_zero
abbrev SU:=@List.takeWhile_append_dropWhile
end Go.AI
namespace Go.Proofs
open Go Go.AI
set_option maxRecDepth 10000
theorem AN (o:Nat->Int) (a b k late:Int) (h:rD o a b k late) (t:Int) (h1:a<=t) (h2:t<b):ar Tryz.prog 124 [.agg (d7 o),.int .i64 t,.int .i64 k,.int .i64 late] (.agg [.int .i64 (Be o k late t).1,.int .i64 (Be o k late t).2.1]):=by
 have c1:=VO o t late;obtain ⟨d,e,A,v,m⟩:=h.cell h1 h2;have r:=h.s1;have f:=h.l0;have x:=h.l1;have u:=h.a0;have y:=h.b1;have p:=h.k0;have i:=h.k1;rw [show Nf o t late=kV o (t - late) by unfold Nf; rw [aV d,a6 am am],d] at c1;unfold Be;generalize kV o (t - late)=j at *;obtain ⟨c,l⟩:=j;dsimp only at e A v m;have w:IntKind.i64.wrap (c+k)=c+k:=a6 am am;have q:IntKind.i64.wrap (c+k+48)=c+k+48:=a6 am am;refine aM He Tryz.func124 ?_;intro F B w0 m0 hG n h1 kp
 repeat' first|refine aQ ?_|((conv=>whnf); first|refine ae _ (aa (c1) ?_)|refine aa (show (48:Int)≠0 by decide) ?_|refine ⟨fun h=>?_,fun h=>?_⟩|refine aj ?_)
 all_goals exact Ends.mk (aj rfl) (az (ax (fun z=>AV.agg [.int .i64 z,.int .i64 l]) (by rw [w,q])))
set_option maxHeartbeats 8000000 in
theorem JX (o:Nat->Int) (a b k late:Int) (h:rD o a b k late) (hv:eG o a b k=true):lR Tryz.prog 122 [5000000] [] [.agg (d7 o),.agg (cA a b),.int .i64 k,.int .i64 late] [] (fun r Q=>∃ e cap,r = .tup [.agg [iP e 24 cap],.int .i64 0]/\Q=[(5000000,.me (.row e cap) 5000000 1 ((gx o a b k late).map fun h=>[AV.int .i64 h]))]):=by
 have c0:=nQ o a b k;rw [hv] at c0;have E:=h.rng;have P:=h.l0;have hl1:=h.l1;have hs1:=h.s1;have U:=h.ab;have ha0:=h.a0;have hb1:=h.b1;have hm:=h.m;have N:IntKind.i64.wrap (0 - o 6) = -(o 6):=(a6 am am).trans am;have u:=dT (show ¬(late<IntKind.i64.wrap (0 - o 6)) by omega);have q:=dT (show ¬(late>o 6) by omega);have B:=AN o a b k late h;have D:(b - a).toNat<=60:=by omega
 have hA:gx o a b k late=o4 nA (Bp o a b k late):=rfl;rw [hA];have x:=fun (i:Nat) (hi:i<(b - a).toNat)=>DB o a b k late hi;have hlen:=yT o a b k late;generalize Bp o a b k late=items at *;refine lR.ofB af Tryz.func122 rfl aK bj (ah rfl) ?_;intro F n' w0 m0 hG Z h1;refine aI.seq ?_;have kp:KP vN := .mk
 repeat' first|refine dz ?_|((conv=>whnf); first|refine ⟨fun h=>?_,fun h=>?_⟩|refine aj ?_)
 refine aI.seq ?_;refine aI.seq ?_
 repeat' first|exact (u a8).elim|exact (q a8).elim|refine dz ?_|((conv=>whnf); first|refine ae _ (aa (c0) ?_)|refine ⟨fun h=>?_,fun h=>?_⟩|refine aj ?_)
 conv=>whnf
 repeat' first|exact (u a8).elim|exact (q a8).elim|refine dz ?_|((conv=>whnf); first|refine ⟨fun h=>?_,fun h=>?_⟩|refine aj ?_)
 refine aI.seq ?_;refine ji hG af vN 0 aK ?_
 conv=>whnf
 refine ae _ (ae _ (ae _ (ae _ (aa (aa aK (aa aK (nS))) ?_))));rintro r L2 ⟨e,cap,rfl,rfl⟩
 conv=>whnf
 refine aI.seq ?_
 repeat' first|refine dz ?_|((conv=>whnf); first|refine ⟨fun h=>?_,fun h=>?_⟩|refine aj ?_)
 refine aI.seq ?_;refine bv ?_;refine aI.loop (X:=Nat) (fun i=>⟨[(11,.int .i64 (a+(i:Int))),(10,.loc 10 0),(xk 5000000,.me (.row e cap) 5000000 1 ((o4 nA (items.take i)).map fun h=>[AV.int .i64 h])),(9,.int .i64 0),(8,.loc 8 0),(5,.loc 5 0),(4,.loc 4 0),(2,.int .i64 k),(3,.int .i64 late)],[(10,[iP e 24 cap]),(8,[.sl (.id (nF 8 0)) 0 []]),(5,cA a b),(4,d7 o)]⟩) (fun i=>i<=items.length) (fun i=>items.length - i) 0 (aZ _) (St.le.of ?_ ?_) (fun i hi=>?_)
 ·refine aa (ax (fun z=>some (AV.int .i64 z)) (SI a).symm) ?_;exact RF
 ·exact RF
 ·by_cases j:i<items.length
  ·have f:=dF (show a+(i:Int)<b by omega);have L7:items[i]?=some (Be o k late (a+(i:Int))):=x i am;have d:items.getD i (0,0,0)=Be o k late (a+(i:Int)):=by rw [aG,L7]; rfl
   have l:=dG (0,0,0) j;rw [d] at l;have c1:=B (a+(i:Int)) am am;obtain ⟨v,H,w,A,_,_⟩:=E _ (aC L7);have c:=CG nA (items.take i) (Be o k late (a+(i:Int)));rw [<- l] at c;have G:(o4 nA (items.take i)).length=24:=by rw [uv]; rfl
   have J:IntKind.i64.wrap (a+(i:Int)+1)=a+((i+1:Nat):Int):=(a6 am am).trans (by push_cast; omega);generalize o4 nA (items.take i)=n at *;generalize Be o k late (a+(i:Int))=p at *;obtain ⟨px,t,pt⟩:=p;dsimp only at v H w A c;have hL:(n.map fun h=>[AV.int .i64 h]).length=24:=by rw [ay]; exact G
   have y:t<((24:Nat):Int):=by omega
   have M:(n.map fun h=>[AV.int .i64 h])[t.toNat]?=some [AV.int .i64 (n.getD t.toNat 0)]:=by simp [ai (show t.toNat<n.length by omega)]
   repeat' first|exact (f a8).elim|refine aQ ?_|((conv=>whnf); first|refine ae 5000000 (ae _ (ae _ (ae _ (aa (aa rfl (aa rfl hL)) ?_))))|refine aa w (aa y ?_)|refine ae _ (aa M ?_)|refine aa v ?_|refine ae _ (aa (c1) ?_)|refine ⟨fun h=>?_,fun h=>?_⟩|refine aj ?_)
   refine ae (i+1) (aa j (aa am (St.le.of ?_ ?_)))
   ·refine aa (ax (fun z=>some (AV.int .i64 z)) J) ?_
    repeat' (first | exact trivial | refine aa rfl ?_ | refine aa (ax (fun z=>some (AV.me (.row e cap) 5000000 1 z)) (by rw [c]; exact iV n t.toNat _)) ?_ | fail)
   ·exact RF
  ·have f:=dT (show ¬(a+(i:Int)<b) by omega);have L:i=items.length:=by omega
   subst L;rw [ej];refine bv ?_;exact gj.mk (aj rfl) (ae _ (ae _ (aa (ae e (ae cap (aa rfl rfl))) (aa (aj (az rfl)) (aa aK aK)))))
open Go Go.AI
set_option maxRecDepth 10000
def Ac (p:Int×Int×Int):Int:=jO (p.1,p.2.1) p.2.2
def ku (q:Int×Int) (l:List (Int×Int×Int)):Int×Int:=l.foldl (fun q p=>(min q.1 (Ac p),max q.2 (Ac p))) q
def iI (o:Nat->Int) (a b k:Int):Nat->Int×Int
 | 0=>(1000,-1000)
 | n+1=>ku (iI o a b k n) (Bp o a b k (-(o 6)+(n:Int)))
theorem Mk (q:Int×Int) (l:List (Int×Int×Int)) (p:Int×Int×Int):ku q (l++[p])=(min (ku q l).1 (Ac p),max (ku q l).2 (Ac p)):=by simp [ku]
theorem rD.late {o:Nat->Int} {a b k late:Int} (h:rD o a b k late) (l2:Int) (h1:-(o 6)<=l2) (h2:l2<=o 6):rD o a b k l2:=⟨h.pv,h.a0,h.ab,h.b1,h.m,h.k0,h.k1,h.s1,h1,h2⟩
set_option maxHeartbeats 8000000 in
theorem NI (o:Nat->Int) (a b k:Int) (h:rD o a b k 0) (hv:eG o a b k=true):ar Tryz.prog 57 [.agg (d7 o),.agg (cA a b),.int .i64 k] (.tup [.int .i64 (iI o a b k (2*o 6+1).toNat).1,.int .i64 (iI o a b k (2*o 6+1).toNat).2,.int .i64 0]):=by
 have c0:=nQ o a b k;rw [hv] at c0;have hK:=h;have v:=h.s1;have hl0:=h.l0;have hl1:=h.l1;have hab:=h.ab;have ha0:=h.a0;have hb1:=h.b1;have hm:=h.m;have G:(b - a).toNat<=60:=by omega
 have A:IntKind.i64.wrap (0 - o 6) = -(o 6):=(a6 am am).trans am;refine aM KI Tryz.func57 ?_;intro F n' w0 m0 hG hro h1 kp;refine bv ?_;refine aI.loop (X:=Nat) (fun n=>⟨[(11,.int .i64 (-(o 6)+((n:Nat):Int))),(9,.int .i64 (iI o a b k n).1),(10,.int .i64 (iI o a b k n).2),(8,.int .i64 0),(4,.loc 4 0),(3,.loc 3 0),(2,.int .i64 k)],[(4,cA a b),(3,d7 o)]⟩) (fun n=>n<=(2*o 6+1).toNat) (fun n=>(2*o 6+1).toNat - n) 0 (aZ _) (St.le.of ?_ ?_) (fun n hn=>?_)
 ·refine aa (ax (fun z=>some (AV.int .i64 z)) (A.trans (SI _).symm)) ?_;exact RF
 ·exact RF
 ·by_cases d:n<(2*o 6+1).toNat
  ·have u:iI o a b k (n+1)=ku (iI o a b k n) (Bp o a b k (-(o 6)+(n:Int))):=rfl;have w:IntKind.i64.wrap (-(o 6)+(n:Int)+1) = -(o 6)+((n+1:Nat):Int):=(a6 am am).trans (by push_cast; omega);obtain ⟨late,e⟩:∃ late,-(o 6)+(n:Int)=late:=⟨_,rfl⟩;have U:=hK.late late am am;rw [e] at w u ⊢;have y:=dF (show late<=o 6 by omega);have E:=AN o a b k late U;have H:=U.rng;have x:=fun (i:Nat) (hi:i<(b - a).toNat)=>DB o a b k late hi;have hlen:=yT o a b k late;generalize Bp o a b k late=items at *;generalize iI o a b k n=r at *;refine bv ?_;refine aI.loop (X:=Nat) (fun i=>⟨[(12,.int .i64 (a+(i:Int))),(11,.int .i64 late),(9,.int .i64 (ku r (items.take i)).1),(10,.int .i64 (ku r (items.take i)).2),(8,.int .i64 0),(4,.loc 4 0),(3,.loc 3 0),(2,.int .i64 k)],[(4,cA a b),(3,d7 o)]⟩) (fun i=>i<=items.length) (fun i=>items.length - i) 0 (aZ _) (St.le.of ?_ ?_) (fun i hi=>?_)
   ·refine aa (ax (fun z=>some (AV.int .i64 z)) (SI a).symm) ?_;exact RF
   ·exact RF
   ·by_cases d:i<items.length
    ·have l:=dF (show a+(i:Int)<b by omega);have L7:items[i]?=some (Be o k late (a+(i:Int))):=x i am;have f:items.getD i (0,0,0)=Be o k late (a+(i:Int)):=by rw [aG,L7]; rfl
     have t:=dG (0,0,0) d;rw [f] at t;have c1:=E (a+(i:Int)) am am;obtain ⟨M,J,P,D,_,_⟩:=H _ (aC L7);have c:=Mk r (items.take i) (Be o k late (a+(i:Int)));rw [<- t] at c;have B:Ac (Be o k late (a+(i:Int)))=jO ((Be o k late (a+(i:Int))).1,(Be o k late (a+(i:Int))).2.1) (a+(i:Int)):=rfl;have c2:=Rn ((Be o k late (a+(i:Int))).1,(Be o k late (a+(i:Int))).2.1) (a+(i:Int)) (by simp [cT]; omega) (by simp [kE,cT]; omega);have N:IntKind.i64.wrap (a+(i:Int)+1)=a+((i+1:Nat):Int):=(a6 am am).trans (by push_cast; omega);rw [B] at c;generalize Be o k late (a+(i:Int))=p at *;obtain ⟨Z,py,pt⟩:=p;dsimp only at M J P D c c1 c2;generalize jO (Z,py) (a+(i:Int))=Q at *;generalize ku r (items.take i)=q at *;have v:min q.1 Q=(ku r (items.take (i+1))).1:=by rw [c]
     have L:max q.2 Q=(ku r (items.take (i+1))).2:=by rw [c]
     repeat' first|exact (l a8).elim|refine aQ ?_|((conv=>whnf); first|refine ae _ (aa (c1) ?_)|refine ae _ (aa (c2) ?_)|refine ⟨fun h=>?_,fun h=>?_⟩|refine aj ?_)
     refine ae (i+1) (aa d (aa am (St.le.of ?_ ?_)))
     ·refine aa (ax (fun z=>some (AV.int .i64 z)) N) ?_
      repeat' (first | exact trivial | refine aa rfl ?_ | refine aa (ax (fun z=>some (AV.int .i64 z)) v) ?_ | refine aa (ax (fun z=>some (AV.int .i64 z)) L) ?_ | fail)
     ·exact RF
    ·have l:=dT (show ¬(a+(i:Int)<b) by omega);have j:i=items.length:=by omega
     subst j;rw [ej]
     repeat' first|exact (l a8).elim|refine aQ ?_|((conv=>whnf); first|refine ⟨fun h=>?_,fun h=>?_⟩|refine aj ?_)
     refine ae (n+1) (aa am (aa am (St.le.of ?_ ?_)))
     ·refine aa (ax (fun z=>some (AV.int .i64 z)) w) ?_
      repeat' (first | exact trivial | refine aa rfl ?_ | refine aa (ax (fun z=>some (AV.int .i64 z)) (by rw [u])) ?_ | fail)
     ·exact RF
  ·have y:=dT (show ¬(-(o 6)+(n:Int)<=o 6) by omega);have j:n=(2*o 6+1).toNat:=by omega
   subst j;refine bv ?_;exact Ez
open Go Go.AI
set_option maxRecDepth 10000
def kq (f:Nat->Int):List AV:=(List.range 1152).map fun j=>AV.int .i64 (f j)
theorem vi (f:Nat->Int) {j:Nat} (h:j<1152):(kq f)[j]?=some (.int .i64 (f j)):=by simp [kq,h]
def qM (f g:Nat->Int) (m:Nat):Nat->Int:=fun j=>if j<m then g j else f j
theorem Qq (f g:Nat->Int):qM f g 0=f:=by funext j; simp [qM]
theorem TO (f g:Nat->Int):kq (qM f g 1152)=kq g:=by
 unfold kq;refine fH fun j hj=>?_;rw [bz] at hj;rw [qM,aV hj]
theorem Xo (f g:Nat->Int) (m:Nat):qM f g m m=f m:=by simp [qM]
theorem X8 (f g:Nat->Int) {m:Nat} (h:m<1152) (x:Int) (hx:x=g m):dB (kq (qM f g m)) m (.int .i64 x)=kq (qM f g (m+1)):=by
 subst hx;refine wl fun i=>?_;rw [ez];by_cases hi:i<1152
 ·rw [vi _ hi];split
  ·rename_i a;rw [<- a.1,vi _ h];show some (AV.int .i64 (g m))=some (AV.int .i64 (if m<m+1 then g m else f m));rw [aV am]
  ·rename_i a;rw [vi _ hi];have:i≠m:=fun e=>a ⟨e.symm,by simp [kq]; omega⟩;show some (AV.int .i64 (if i<m then g i else f i))=some (AV.int .i64 (if i<m+1 then g i else f i));by_cases h2:i<m
   ·rw [aV h2,aV am]
   ·rw [aY h2,aY am]
 ·have hz:∀ f,(kq f)[i]?=none:=fun f=>fW (by simp [kq]; omega);rw [hz,hz];split
  ·rename_i a; exfalso; omega
  ·rfl
def DX:TI:=⟨1,8,.int .i64 0,[],0,0,4,.i64,false⟩
theorem nI {cs:List AV} {off:Nat} {x:Int} (hx:cs[off]?=some (.int .i64 x)):eS DX (cs.drop off)=some (.int .i64 x):=by
 have h:=(aq.1 hx);rw [dy h.1,h.2];rfl
theorem Zy {l a:List AV} {K:List AV->Prop} (h:l=a) (hk:K a):MZ l K:=by subst h; rw [lY]; exact hk
def Nk (a:List Int) (r c:Nat):Int:=((a.getD r 0).fdiv (2 ^ min (c:Int).toNat 64)).tmod 2
def ri (o:Nat->Int) (a b k:Int):Nat->Nat->Int
 | 0,_=>0
 | n+1,j=>cm (ri o a b k n j+Nk (gx o a b k (-(o 6)+(n:Int))) (j / 48) (j % 48))
def kl (P:Nat->Nat->Bool):Nat->List Int
 | 0=>nA
 | m+1=>if P (m / 48) (m % 48) then (kl P m).set (m / 48) (TD ((kl P m).getD (m / 48) 0) (m % 48:Nat)) else kl P m
theorem kx (P:Nat->Nat->Bool):∀ m,(kl P m).length=24
 | 0=>rfl
 | m+1=>by
  have:=kx P m;unfold kl;split
  ·rw [Yq]; exact this
  ·exact this
theorem ID {P:Nat->Nat->Bool} {r c:Nat} (a:c<48) (h:P r c=true):kl P (48*r+(c+1))=(kl P (48*r+c)).set r (TD ((kl P (48*r+c)).getD r 0) c):=by
 rw [<- d3]
 conv=>lhs; unfold kl
 rw [show (48*r+c) / 48=r by omega,show (48*r+c) % 48=c by omega,aV h]
theorem OW {P:Nat->Nat->Bool} {r c:Nat} (a:c<48) (h:P r c=false):kl P (48*r+(c+1))=kl P (48*r+c):=by
 rw [<- d3]
 conv=>lhs; unfold kl
 rw [show (48*r+c) / 48=r by omega,show (48*r+c) % 48=c by omega,aY (by rw [h]; simp)]
def lT (o:Nat->Int) (a b k:Int):List Int×List Int:=(kl (fun r c=>decide (ri o a b k (2*o 6+1).toNat (48*r+c)=2*o 6+1)) 1152,kl (fun r c=>decide (ri o a b k (2*o 6+1).toNat (48*r+c)>0)) 1152)
set_option maxHeartbeats 32000000 in
theorem JW (o:Nat->Int) (a b k:Int) (h:rD o a b k 0) (hv:eG o a b k=true):ar Tryz.prog 56 [.agg (d7 o),.agg (cA a b),.int .i64 k] (.tup [.agg [bB (lT o a b k).1,bB (lT o a b k).2],.int .i64 0]):=by
 have c0:=nQ o a b k;rw [hv] at c0;have hK:=h;have hs1:=h.s1;have hl0:=h.l0;have B:=h.l1;have hng:IntKind.i64.wrap (0 - o 6) = -(o 6):=(a6 am am).trans am;refine aM rq Tryz.func56 ?_;intro F n' w0 m0 hG hro h1 kp;refine bv ?_;refine aI.loop (X:=Nat) (fun n=>⟨[(9,.int .i64 (-(o 6)+((n:Nat):Int))),(8,.loc 8 0),(7,.int .i64 0),(6,.loc 6 0),(4,.loc 4 0),(3,.loc 3 0),(2,.int .i64 k)],[(8,kq (ri o a b k n)),(6,[.sl (.id 1006000) 0 [],.sl (.id 1006001) 0 []]),(4,cA a b),(3,d7 o)]⟩) (fun n=>n<=(2*o 6+1).toNat) (fun n=>(2*o 6+1).toNat - n) 0 (aZ _) (St.le.of ?_ ?_) (fun n hn=>?_)
 ·refine aa (ax (fun z=>some (AV.int .i64 z)) (hng.trans (SI _).symm)) ?_;exact RF
 ·exact RF
 ·by_cases hlt:n<(2*o 6+1).toNat
  ·have hdf:∀ j,ri o a b k (n+1) j=cm (ri o a b k n j+Nk (gx o a b k (-(o 6)+(n:Int))) (j / 48) (j % 48)):=fun _=>rfl;have hnx:IntKind.i64.wrap (-(o 6)+(n:Int)+1) = -(o 6)+((n+1:Nat):Int):=(a6 am am).trans (by push_cast; omega);obtain ⟨late,Q⟩:∃ late,-(o 6)+(n:Int)=late:=⟨_,rfl⟩;have hS:=hK.late late am am;rw [Q] at hnx hdf ⊢;have x:=dF (show late<=o 6 by omega);have hc:=JX o a b k late hS hv;have hzl:(gx o a b k late).length=24:=oF o a b k late;generalize gx o a b k late=M at *;obtain ⟨f,hf⟩:∃ f,ri o a b k n=f:=⟨_,rfl⟩;obtain ⟨g,hg⟩:∃ g,ri o a b k (n+1)=g:=⟨_,rfl⟩;rw [hf];have hL:(M.map fun h=>[AV.int .i64 h]).length=24:=by rw [ay]; exact hzl
   refine aI.seq ?_
   repeat' first|exact (x a8).elim|refine dz ?_|((conv=>whnf); first|refine ⟨fun h=>?_,fun h=>?_⟩|refine aj ?_)
   refine aI.seq ?_
   repeat' first|exact (x a8).elim|refine dz ?_|((conv=>whnf); first|refine ⟨fun h=>?_,fun h=>?_⟩|refine aj ?_)
   conv=>whnf
   refine aI.seq ?_;refine aI.block ?_;refine aI.seq ?_;refine ji hG af rq 4 aK ?_
   conv=>whnf
   refine ae _ (ae _ (ae _ (ae _ (aa (aa aK (aa aK (hc))) ?_))));rintro r L2 ⟨bk,cap,rfl,rfl⟩
   conv=>whnf
   refine bv ?_;refine aI.loop (X:=Nat) (fun r=>⟨[(12,.int .i64 r),(11,.int .i64 0),(10,.loc 10 0),(xk 5000000,.me (.row bk cap) 5000000 1 (M.map fun h=>[AV.int .i64 h])),(9,.int .i64 late),(8,.loc 8 0),(7,.int .i64 0),(6,.loc 6 0),(4,.loc 4 0),(3,.loc 3 0),(2,.int .i64 k)],[(10,[iP bk 24 cap]),(8,kq (qM f g (48*r))),(6,[.sl (.id 1006000) 0 [],.sl (.id 1006001) 0 []]),(4,cA a b),(3,d7 o)]⟩) (fun r=>r<=24) (fun r=>24 - r) 0 (aZ _) (St.le.of ?_ ?_) (fun r hr=>?_)
   ·exact RF
   ·refine aa rfl (aa (ax (fun z=>some (kq z)) (Qq f g).symm) ?_);exact RF
   ·by_cases hrt:r<24
    ·have w:=dF (show (r:Int)<24 by omega);have hgm:(M.map fun h=>[AV.int .i64 h])[(r:Int).toNat]?=some [AV.int .i64 (M.getD r 0)]:=by simp [ai (show r<M.length by omega)]
     refine bv ?_;refine aI.loop (X:=Nat) (fun c=>⟨[(13,.int .i64 c),(12,.int .i64 r),(11,.int .i64 0),(10,.loc 10 0),(xk 5000000,.me (.row bk cap) 5000000 1 (M.map fun h=>[AV.int .i64 h])),(9,.int .i64 late),(8,.loc 8 0),(7,.int .i64 0),(6,.loc 6 0),(4,.loc 4 0),(3,.loc 3 0),(2,.int .i64 k)],[(10,[iP bk 24 cap]),(8,kq (qM f g (48*r+c))),(6,[.sl (.id 1006000) 0 [],.sl (.id 1006001) 0 []]),(4,cA a b),(3,d7 o)]⟩) (fun c=>c<=48) (fun c=>48 - c) 0 (aZ _) (LE) (fun c hc=>?_)
     ·by_cases A:c<48
      ·have l:=dF (show (c:Int)<48 by omega);have hm:48*r+c<1152:=by omega
       have e:=vi (qM f g (48*r+c)) hm;rw [Xo] at e;have hble:(Nat.ble (0+(r:Int).toNat*48+(c:Int).toNat*1+1) (kq (qM f g (48*r+c))).length&&true)=true:=by simp [kq]; omega
       have hgj:IntKind.i64.wrap (f (48*r+c)+((M.getD r 0).fdiv (2 ^ min (c:Int).toNat IntKind.i64.bits)).tmod 2)=g (48*r+c):=by rw [<- hg,<- hf,hdf,show (48*r+c) / 48=r by omega,show (48*r+c) % 48=c by omega]; rfl
       have hset:uj (kq (qM f g (48*r+c))) (0+(r:Int).toNat*48+(c:Int).toNat*1) [.int .i64 (IntKind.i64.wrap (f (48*r+c)+((M.getD r 0).fdiv (2 ^ min (c:Int).toNat IntKind.i64.bits)).tmod 2))]=kq (qM f g (48*r+(c+1))):=by
        rw [show 0+(r:Int).toNat*48+(c:Int).toNat*1=48*r+c by simp; omega,hgj];rw [Ik];exact X8 f g hm _ rfl
       have i:0+(r:Int).toNat*48+(c:Int).toNat*1=48*r+c:=by simp; omega
       repeat' first|exact (l a8).elim|refine aQ ?_|((conv=>whnf); first|refine ae 5000000 (ae _ (ae _ (ae _ (aa (aa rfl (aa rfl hL)) ?_))))|refine aa (au r) (aa (show (r:Int)<24 by omega) ?_)|refine aa (au c) (aa (show (c:Int)<48 by omega) ?_)|refine ae _ (aa hgm ?_)|refine ae _ (aa e ?_)|refine aa (au c) ?_|refine aa (show (2:Int)≠0 by decide) ?_|refine ⟨fun h=>?_,fun h=>?_⟩|refine aj ?_)
       conv=>whnf
       split
       ·rename_i v hv;have d:eS DX (List.drop (0+(r:Int).toNat*48+(c:Int).toNat*1) (kq (qM f g (48*r+c))))=some v:=hv;rw [i,nI e] at d;cases d;clear hv
        repeat' first|exact (l a8).elim|refine aQ ?_|((conv=>whnf); first|refine ae 5000000 (ae _ (ae _ (ae _ (aa (aa rfl (aa rfl hL)) ?_))))|refine aa (au r) (aa (show (r:Int)<24 by omega) ?_)|refine aa (au c) (aa (show (c:Int)<48 by omega) ?_)|refine ae _ (aa hgm ?_)|refine aa (au c) ?_|refine aa (show (2:Int)≠0 by decide) ?_|refine ⟨fun h=>?_,fun h=>?_⟩|refine aj ?_)
        conv=>whnf
        split
        ·conv=>whnf
         refine Zy hset ?_
         repeat' first|exact (l a8).elim|refine aQ ?_|((conv=>whnf); first|refine ⟨fun h=>?_,fun h=>?_⟩|refine aj ?_)
         refine ae (c+1) (aa am (aa am (LE)))
        ·rename_i hb;exact Bool.noConfusion (hb.symm.trans hble)
       ·rename_i hv;have d:eS DX (List.drop (0+(r:Int).toNat*48+(c:Int).toNat*1) (kq (qM f g (48*r+c))))=none:=hv;rw [i,nI e] at d;cases d
      ·have l:=dT (show ¬((c:Int)<48) by omega);have m:c=48:=by omega
       subst m
       repeat' first|exact (l a8).elim|refine aQ ?_|((conv=>whnf); first|refine ⟨fun h=>?_,fun h=>?_⟩|refine aj ?_)
       refine ae (r+1) (aa am (aa am (LE)))
    ·have w:=dT (show ¬((r:Int)<24) by omega);have m:r=24:=by omega
     subst m;have hall:kq (qM f g (48*24))=kq g:=TO f g;rw [hall];rw [<- hg]
     repeat' first|exact (w a8).elim|refine aQ ?_|((conv=>whnf); first|refine ⟨fun h=>?_,fun h=>?_⟩|refine aj ?_)
     refine ae (n+1) (aa am (aa am (St.le.of ?_ ?_)))
     ·refine aa (ax (fun z=>some (AV.int .i64 z)) hnx) ?_;exact RF
     ·exact RF
  ·have x:=dT (show ¬(-(o 6)+(n:Int)<=o 6) by omega);have m:n=(2*o 6+1).toNat:=by omega
   subst m;obtain ⟨nd,L⟩:∃ nd,ri o a b k (2*o 6+1).toNat=nd:=⟨_,rfl⟩;rw [L];refine aI.seq ?_
   repeat' first|exact (x a8).elim|refine dz ?_|((conv=>whnf); first|refine ⟨fun h=>?_,fun h=>?_⟩|refine aj ?_)
   refine aI.seq ?_
   repeat' first|exact (x a8).elim|refine dz ?_|((conv=>whnf); first|refine ⟨fun h=>?_,fun h=>?_⟩|refine aj ?_)
   conv=>whnf
   refine aI.seq ?_;refine V9 hG af rq [0,1] [0] aK ?_
   conv=>whnf
   refine ae _ (ae _ (ae _ (ae _ (aa (aa aK (aa aK (nS))) ?_))));rintro r L2 ⟨b1,c1,rfl,rfl⟩
   conv=>whnf
   refine Tr.re 5000000 6000000 rfl rfl ?_;refine Tr.done ?_
   conv=>whnf
   refine ae _ (ae _ (ae _ (ae _ (aa (aa aK (aa aK (nS))) ?_))));rintro r L2 ⟨H,c2,rfl,rfl⟩
   conv=>whnf
   refine bv ?_;obtain ⟨t,hPS⟩:∃ t:Nat->Nat->Bool,t=fun r c=>decide (nd (48*r+c)=2*o 6+1):=⟨_,rfl⟩;obtain ⟨p,U⟩:∃ p:Nat->Nat->Bool,p=fun r c=>decide (nd (48*r+c)>0):=⟨_,rfl⟩;refine aI.loop (X:=Nat) (fun r=>⟨[(15,.int .i64 r),(14,.loc 14 0),(xk 6000000,.me (.row b1 c1) 6000000 1 ((kl t (48*r)).map fun h=>[AV.int .i64 h])),(xk 5000000,.me (.row H c2) 5000000 1 ((kl p (48*r)).map fun h=>[AV.int .i64 h])),(8,.loc 8 0),(7,.int .i64 0),(6,.loc 6 0),(4,.loc 4 0),(3,.loc 3 0),(2,.int .i64 k)],[(14,[iP b1 24 c1,iP H 24 c2]),(8,kq nd),(6,[.sl (.id 1006000) 0 [],.sl (.id 1006001) 0 []]),(4,cA a b),(3,d7 o)]⟩) (fun r=>r<=24) (fun r=>24 - r) 0 (aZ _) (LE) (fun r hr=>?_)
   ·by_cases hrt:r<24
    ·have w:=dF (show (r:Int)<24 by omega);refine bv ?_;refine aI.loop (X:=Nat) (fun c=>⟨[(16,.int .i64 c),(15,.int .i64 r),(14,.loc 14 0),(xk 6000000,.me (.row b1 c1) 6000000 1 ((kl t (48*r+c)).map fun h=>[AV.int .i64 h])),(xk 5000000,.me (.row H c2) 5000000 1 ((kl p (48*r+c)).map fun h=>[AV.int .i64 h])),(8,.loc 8 0),(7,.int .i64 0),(6,.loc 6 0),(4,.loc 4 0),(3,.loc 3 0),(2,.int .i64 k)],[(14,[iP b1 24 c1,iP H 24 c2]),(8,kq nd),(6,[.sl (.id 1006000) 0 [],.sl (.id 1006001) 0 []]),(4,cA a b),(3,d7 o)]⟩) (fun c=>c<=48) (fun c=>48 - c) 0 (aZ _) (LE) (fun c hc=>?_)
     ·by_cases A:c<48
      ·have l:=dF (show (c:Int)<48 by omega);have e:=vi nd (show 48*r+c<1152 by omega);have i:0+(r:Int).toNat*48+(c:Int).toNat*1=48*r+c:=by simp; omega
       have hwr:IntKind.i64.wrap (IntKind.i64.wrap (2*o 6)+1)=2*o 6+1:=by rw [show IntKind.i64.wrap (2*o 6)=2*o 6 from a6 am am]; exact a6 am am
       have N:t r c=decide (nd (48*r+c)=2*o 6+1):=by rw [hPS]
       have u:p r c=decide (nd (48*r+c)>0):=by rw [U]
       have ey1:=fun h=>ID (P:=t) (r:=r) (c:=c) A h;have en1:=fun h=>OW (P:=t) (r:=r) (c:=c) A h;have ey2:=fun h=>ID (P:=p) (r:=r) (c:=c) A h;have en2:=fun h=>OW (P:=p) (r:=r) (c:=c) A h;have B:=kx t (48*r+c);have Z:=kx p (48*r+c);generalize kl t (48*r+c)=z1 at *;generalize kl p (48*r+c)=z2 at *;have D:(z1.map fun h=>[AV.int .i64 h]).length=24:=by rw [ay]; exact B
       have J:(z2.map fun h=>[AV.int .i64 h]).length=24:=by rw [ay]; exact Z
       have E:(z1.map fun h=>[AV.int .i64 h])[(r:Int).toNat]?=some [AV.int .i64 (z1.getD r 0)]:=by simp [ai (show r<z1.length by omega)]
       have G:(z2.map fun h=>[AV.int .i64 h])[(r:Int).toNat]?=some [AV.int .i64 (z2.getD r 0)]:=by simp [ai (show r<z2.length by omega)]
       repeat' first|exact (l a8).elim|refine aQ ?_|((conv=>whnf); first|refine aa (au r) (aa (show (r:Int)<24 by omega) ?_)|refine aa (au c) (aa (show (c:Int)<48 by omega) ?_)|refine ae 6000000 (ae _ (ae _ (ae _ (aa (aa rfl (aa rfl D)) ?_))))|refine ae 5000000 (ae _ (ae _ (ae _ (aa (aa rfl (aa rfl J)) ?_))))|refine ae _ (aa E ?_)|refine ae _ (aa G ?_)|refine aa (au c) ?_|refine ⟨fun h=>?_,fun h=>?_⟩|refine aj ?_)
       conv=>whnf
       split
       ·rename_i v hv;have d:eS DX (List.drop (0+(r:Int).toNat*48+(c:Int).toNat*1) (kq nd))=some v:=hv;rw [i,nI e] at d;cases d;clear hv
        repeat' first|exact (l a8).elim|refine aQ ?_|((conv=>whnf); first|refine aa (au r) (aa (show (r:Int)<24 by omega) ?_)|refine aa (au c) (aa (show (c:Int)<48 by omega) ?_)|refine ae 6000000 (ae _ (ae _ (ae _ (aa (aa rfl (aa rfl D)) ?_))))|refine ae 5000000 (ae _ (ae _ (ae _ (aa (aa rfl (aa rfl J)) ?_))))|refine ae _ (aa E ?_)|refine ae _ (aa G ?_)|refine aa (au c) ?_|refine ⟨fun h=>?_,fun h=>?_⟩|refine aj ?_)
        ·have y:t r c=true:=by rw [N]; have h:=(by assumption:(nd (48*r+c)==IntKind.i64.wrap (IntKind.i64.wrap (2*o 6)+1))=true); rw [hwr] at h; exact bP (eq_of_beq h)
         conv=>whnf
         split
         ·rename_i v hv;have d:eS DX (List.drop (0+(r:Int).toNat*48+(c:Int).toNat*1) (kq nd))=some v:=hv;rw [i,nI e] at d;cases d;clear hv
          repeat' first|exact (l a8).elim|refine aQ ?_|((conv=>whnf); first|refine aa (au r) (aa (show (r:Int)<24 by omega) ?_)|refine aa (au c) (aa (show (c:Int)<48 by omega) ?_)|refine ae 6000000 (ae _ (ae _ (ae _ (aa (aa rfl (aa rfl D)) ?_))))|refine ae 5000000 (ae _ (ae _ (ae _ (aa (aa rfl (aa rfl J)) ?_))))|refine ae _ (aa E ?_)|refine ae _ (aa G ?_)|refine aa (au c) ?_|refine ⟨fun h=>?_,fun h=>?_⟩|refine aj ?_)
          ·have q:p r c=true:=u.trans (by assumption:decide (nd (48*r+c)>0)=true);refine ae (c+1) (aa am (aa am (St.le.of ?_ ?_)))
           ·refine aa (ax some (bK am)) ?_
            repeat' (first | exact trivial | refine aa rfl ?_ | refine aa (ax (fun z=>some (AV.me (.row b1 c1) 6000000 1 z)) (by rw [ey1 y]; exact iV z1 r _)) ?_ | refine aa (ax (fun z=>some (AV.me (.row H c2) 5000000 1 z)) (by rw [ey2 q]; exact iV z2 r _)) ?_ | fail)
           ·exact RF
          ·have q:p r c=false:=u.trans (by assumption:decide (nd (48*r+c)>0)=false);refine ae (c+1) (aa am (aa am (St.le.of ?_ ?_)))
           ·refine aa (ax some (bK am)) ?_
            repeat' (first | exact trivial | refine aa rfl ?_ | refine aa (ax (fun z=>some (AV.me (.row b1 c1) 6000000 1 z)) (by rw [ey1 y]; exact iV z1 r _)) ?_ | refine aa (ax (fun z=>some (AV.me (.row H c2) 5000000 1 z)) (by rw [en2 q])) ?_ | fail)
           ·exact RF
         ·rename_i hv;have d:eS DX (List.drop (0+(r:Int).toNat*48+(c:Int).toNat*1) (kq nd))=none:=hv;rw [i,nI e] at d;cases d
        ·have y:t r c=false:=by rw [N]; have h:=(by assumption:(nd (48*r+c)==IntKind.i64.wrap (IntKind.i64.wrap (2*o 6)+1))=false); rw [hwr] at h; exact dR (by simpa using h)
         conv=>whnf
         split
         ·rename_i v hv;have d:eS DX (List.drop (0+(r:Int).toNat*48+(c:Int).toNat*1) (kq nd))=some v:=hv;rw [i,nI e] at d;cases d;clear hv
          repeat' first|exact (l a8).elim|refine aQ ?_|((conv=>whnf); first|refine aa (au r) (aa (show (r:Int)<24 by omega) ?_)|refine aa (au c) (aa (show (c:Int)<48 by omega) ?_)|refine ae 6000000 (ae _ (ae _ (ae _ (aa (aa rfl (aa rfl D)) ?_))))|refine ae 5000000 (ae _ (ae _ (ae _ (aa (aa rfl (aa rfl J)) ?_))))|refine ae _ (aa E ?_)|refine ae _ (aa G ?_)|refine aa (au c) ?_|refine ⟨fun h=>?_,fun h=>?_⟩|refine aj ?_)
          ·have q:p r c=true:=u.trans (by assumption:decide (nd (48*r+c)>0)=true);refine ae (c+1) (aa am (aa am (St.le.of ?_ ?_)))
           ·refine aa (ax some (bK am)) ?_
            repeat' (first | exact trivial | refine aa rfl ?_ | refine aa (ax (fun z=>some (AV.me (.row b1 c1) 6000000 1 z)) (by rw [en1 y])) ?_ | refine aa (ax (fun z=>some (AV.me (.row H c2) 5000000 1 z)) (by rw [ey2 q]; exact iV z2 r _)) ?_ | fail)
           ·exact RF
          ·have q:p r c=false:=u.trans (by assumption:decide (nd (48*r+c)>0)=false);refine ae (c+1) (aa am (aa am (St.le.of ?_ ?_)))
           ·refine aa (ax some (bK am)) ?_
            repeat' (first | exact trivial | refine aa rfl ?_ | refine aa (ax (fun z=>some (AV.me (.row b1 c1) 6000000 1 z)) (by rw [en1 y])) ?_ | refine aa (ax (fun z=>some (AV.me (.row H c2) 5000000 1 z)) (by rw [en2 q])) ?_ | fail)
           ·exact RF
         ·rename_i hv;have d:eS DX (List.drop (0+(r:Int).toNat*48+(c:Int).toNat*1) (kq nd))=none:=hv;rw [i,nI e] at d;cases d
       ·rename_i hv;have d:eS DX (List.drop (0+(r:Int).toNat*48+(c:Int).toNat*1) (kq nd))=none:=hv;rw [i,nI e] at d;cases d
      ·have l:=dT (show ¬((c:Int)<48) by omega);have m:c=48:=by omega
       subst m
       repeat' first|exact (l a8).elim|refine aQ ?_|((conv=>whnf); first|refine ⟨fun h=>?_,fun h=>?_⟩|refine aj ?_)
       refine ae (r+1) (aa am (aa am (LE)))
    ·have w:=dT (show ¬((r:Int)<24) by omega);have m:r=24:=by omega
     subst m;have B:=kx t (48*24);have Z:=kx p (48*24);rw [<- L] at hPS U;have hs1:(lT o a b k).1=kl t (48*24):=by rw [hPS]; rfl
     have hs2:(lT o a b k).2=kl p (48*24):=by rw [U]; rfl
     rw [hs1,hs2];generalize kl t (48*24)=P1 at *;generalize kl p (48*24)=P2 at *;have e1:24=(P1.map fun h=>[AV.int .i64 h]).length:=by rw [ay]; exact B.symm
     have e2:24=(P2.map fun h=>[AV.int .i64 h]).length:=by rw [ay]; exact Z.symm
     refine aI.seq ?_
     repeat' first|exact (w a8).elim|refine dz ?_|((conv=>whnf); first|refine ⟨fun h=>?_,fun h=>?_⟩|refine aj ?_)
     refine aI.seq ?_
     repeat' first|exact (w a8).elim|refine dz ?_|((conv=>whnf); first|refine ⟨fun h=>?_,fun h=>?_⟩|refine aj ?_)
     conv=>whnf
     refine iq 6000000 14 [bB P1,iP H 24 c2] rfl rfl (aa (bw ⟨by rw [e1]; rfl,rfl⟩) (aa (aj rfl) trivial)) ?_;refine iq 5000000 14 [bB P1,bB P2] rfl rfl (aa (aj rfl) (aa (bw ⟨by rw [e2]; rfl,rfl⟩) trivial)) ?_;refine bv ?_;exact Ez
open Go Go.AI
set_option maxRecDepth 10000
theorem oT {o:Go.AI.Own} {n:Nat} {x z:List AV} (f:bF x z) (q:∀ c∈z,c.isCell=true):(AV.sl o n [x]).weak (.sl .no n [z]):=fun m v h=>by
 obtain ⟨hl,f⟩:=f.spec
 cases h with
 | sl _ _ _ base len cap r hf hlen a e d b off l g hm p=>
  refine .sl _ _ _ _ _ _ (by intro k hk; cases hk) (by intro hk; cases hk) hlen a (fun y hy=>?_) (fun y hy=>?_) b off l g (fun i y j c h1 h2=>?_) (fun i y j c h1 h2=>?_)
  ·simp only [cg] at hy; subst hy; rw [<- hl]; exact e x dc
  ·simp only [cg] at hy; subst hy; exact q
  all_goals
   cases i with
   | zero=>
    simp at h1;subst h1;have hj:j<x.length:=by rw [hl]; exact (aq.1 h2).1
    have hx:=ai hj
    first
     | exact hm 0 x j _ rfl hx
     | exact f j _ c hx h2 m _ (p 0 x j _ rfl hx)
   | succ i=>simp at h1
def kn (x:Nat->Int):Nat->Int:=fun i=>x (i+2)
def kX (l:List Int):Bool:=l.all fun x=>x==0
theorem Mc (l:List Int) (x:Int):kX (l++[x])=(kX l&&(x==0)):=by simp [kX]
def uo (o:Nat->Int) (a b k:Int):List Int:=if kX (lT o a b k).1 then (lT o a b k).2 else (lT o a b k).1
def TU (q:Int×Int):Int:=max 0 (IntKind.i64.wrap (q.1 - 5))
def yp (o:Nat->Int) (a b k:Int) (y:Nat->Int):fi:=⟨uo o a b k,max 0 (IntKind.i64.wrap (a - aH (y 0) 30)),IntKind.i64.wrap (IntKind.i64.wrap (a+1)+aH (y 1) 60),TU (iI o a b k (2*o 6+1).toNat),min 90 (IntKind.i64.wrap (max (TU (iI o a b k (2*o 6+1).toNat)) (iI o a b k (2*o 6+1).toNat).2+aH (y 1) 5)),aH (y 0) 2==1⟩
def xR (o:Nat->Int) (a b k:Int) (y:Nat->Int):oK:=if aH (y 2) 4=0 then iz (aH (y 3) 120) (yp o a b k y) else if aH (y 2) 4=1 then eP (IntKind.i64.wrap (1+aH (y 3) 60)) (yp o a b k y) else gP (yp o a b k y)
def abI (s:dY) (v:Value):List AV:=[sx s.sats,Cx s.stas,dt s.passes,CK s.ords,dl s.opts,vf s.buns,bB s.prom,.lit v,.int .i64 s.loss,.int .i64 s.a,.int .i64 s.b]
set_option maxHeartbeats 32000000 in
theorem NK (s:dY) (w:Value) (B:s.sats.length<=1000000) (p:dZ) (y:Nat->Int) (x:Nat->Int) (i:Nat) (hi:qa s.sats p.sat=i) (hx:s.sats[i]?=some x) (h:rD (kn x) p.a p.b p.look 0) (hv:eG (kn x) p.a p.b p.look=true):ar Tryz.prog 21 [.agg (abI s w),.agg (bL p),.agg (y4 y)] (.agg (dp (xR (kn x) p.a p.b p.look y))):=by
 have n:=JY s.sats p.sat B;rw [hi] at n
 have q:(s.sats.map bR)[(i:Int).toNat]?=some (bR x):=by
  show (s.sats.map bR)[i]?=_;rw [aT,hx]; rfl
 have o:=JW (kn x) p.a p.b p.look h hv;have A:=NI (kn x) p.a p.b p.look h hv;have E:(lT (kn x) p.a p.b p.look).1.length=24:=kx _ _;have c:xR (kn x) p.a p.b p.look y=if aH (y 2) 4=0 then iz (aH (y 3) 120) (yp (kn x) p.a p.b p.look y) else if aH (y 2) 4=1 then eP (IntKind.i64.wrap (1+aH (y 3) 60)) (yp (kn x) p.a p.b p.look y) else gP (yp (kn x) p.a p.b p.look y):=rfl
 have d:yp (kn x) p.a p.b p.look y=⟨if kX (lT (kn x) p.a p.b p.look).1 then (lT (kn x) p.a p.b p.look).2 else (lT (kn x) p.a p.b p.look).1,max 0 (IntKind.i64.wrap (p.a - aH (y 0) 30)),IntKind.i64.wrap (IntKind.i64.wrap (p.a+1)+aH (y 1) 60),TU (iI (kn x) p.a p.b p.look (2*kn x 6+1).toNat),min 90 (IntKind.i64.wrap (max (TU (iI (kn x) p.a p.b p.look (2*kn x 6+1).toNat)) (iI (kn x) p.a p.b p.look (2*kn x 6+1).toNat).2+aH (y 1) 5)),aH (y 0) 2==1⟩:=rfl;generalize xR (kn x) p.a p.b p.look y=G at *;generalize yp (kn x) p.a p.b p.look y=L at *;generalize iI (kn x) p.a p.b p.look (2*kn x 6+1).toNat=Q at *;generalize lT (kn x) p.a p.b p.look=ST at *;refine aM K5 Tryz.func21 ?_;intro F H w0 m0 hG t h1 kp
 repeat' first|refine aQ ?_|((conv=>whnf); first|refine ae _ (aa (n) ?_)|refine aa (au i) (ae _ (aa q ?_))|refine ae _ (aa (o) ?_)|refine ae _ (aa (A) ?_)|refine ae _ (aa (gy _ _ bt) ?_)|refine aa bt (aa bt ?_)|refine ⟨fun h=>?_,fun h=>?_⟩|refine aj ?_)
 refine aI.loop (X:=Nat) (fun r=>⟨[(15,.int .i64 r),(14,.bool (kX (ST.1.take r))),(13,.loc 13 0),(8,.loc 8 0),(6,.loc 6 0),(5,.loc 5 0)],[(13,[.int .i64 1,bB ST.1,.int .i64 (max 0 (IntKind.i64.wrap (p.a - aH (y 0) 30))),.int .i64 (IntKind.i64.wrap (IntKind.i64.wrap (p.a+1)+aH (y 1) 60)),.int .i64 (max 0 (IntKind.i64.wrap (Q.1 - 5))),.int .i64 (min 90 (IntKind.i64.wrap (max (max 0 (IntKind.i64.wrap (Q.1 - 5))) Q.2+aH (y 1) 5))),.bool (aH (y 0) 2==1),.int .i64 0,.int .i64 0,.int .i64 0,.sl .full 0 [],.sl .full 0 []]),(8,[bB ST.1,bB ST.2]),(6,[.int .i64 0,.sl (.id (nF 6 1)) 0 [],.int .i64 0,.int .i64 0,.int .i64 0,.int .i64 0,.bool false,.int .i64 0,.int .i64 0,.int .i64 0,.sl (.id (nF 6 10)) 0 [],.sl (.id (nF 6 11)) 0 []]),(5,y4 y)]⟩) (fun r=>r<=24) (fun r=>24 - r) 0 (aZ _) (LE) (fun r J=>?_)
 ·by_cases D:r<24
  ·have e:=dF (show (r:Int)<24 by omega);have j:=cQ (fun h=>[AV.int .i64 h]) (0:Int) (show r<ST.1.length by omega);have f:kX (ST.1.take (r+1))=(kX (ST.1.take r)&&(ST.1.getD r 0==0)):=by rw [dG 0 (show r<ST.1.length by omega),Mc]
   generalize ST.1.getD r 0=u at *;generalize kX (ST.1.take r)=v at *
   cases v with
   | true=>
    repeat' first|exact (e a8).elim|refine aQ ?_|((conv=>whnf); first|refine aa (au r) (ae _ (aa j ?_))|refine ⟨fun h=>?_,fun h=>?_⟩|refine aj ?_)
    refine ae (r+1) (aa am (aa am (St.le.of ?_ ?_)))
    ·refine aa (ax some (bK am)) ?_
     repeat' (first | exact trivial | refine aa rfl ?_ | refine aa (ax (fun z=>some (AV.bool z)) f.symm) ?_ | fail)
    ·exact RF
   | false=>
    repeat' first|exact (e a8).elim|refine aQ ?_|((conv=>whnf); first|refine aa (au r) (ae _ (aa j ?_))|refine ⟨fun h=>?_,fun h=>?_⟩|refine aj ?_)
    refine ae (r+1) (aa am (aa am (St.le.of ?_ ?_)))
    ·refine aa (ax some (bK am)) ?_
     repeat' (first | exact trivial | refine aa rfl ?_ | refine aa (ax (fun z=>some (AV.bool z)) f.symm) ?_ | fail)
    ·exact RF
  ·have e:=dT (show ¬((r:Int)<24) by omega);have l:r=24:=by omega
   subst l;have m:ST.1.take 24=ST.1:=bA am;rw [m]
   cases hz:kX ST.1 with
   | true=>
    rw [hz] at d;rw [aV rfl] at d
    repeat' first|exact (e a8).elim|refine aQ ?_|((conv=>whnf); first|refine ae _ (aa (gy _ _ bt) ?_)|refine aa bt (aa bt ?_)|refine ⟨fun h=>?_,fun h=>?_⟩|refine aj ?_)
    ·have h:=(by assumption:(aH (y 2) 4==0)=true);rw [aV (eq_of_beq h)] at c;subst c;subst d;refine Ends.mk (aj rfl) (AV.weak.agg ?_ (by simp [dp,bB,AV.isCell]))
     repeat (first | exact bF.nil | refine bF.cons (az rfl) ?_ | refine bF.cons bI ?_)
     all_goals first
      | done
      |(refine bF.cons (oT ?_ (by simp [gQ,bB,AV.isCell])) bF.nil
        repeat (first | exact bF.nil | refine bF.cons (az rfl) ?_ | refine bF.cons bI ?_))
    ·have h:=(by assumption:(aH (y 2) 4==0)=false);have h2:=(by assumption:(aH (y 2) 4==1)=true);rw [aY (by simpa using h),aV (eq_of_beq h2)] at c;subst c;subst d;refine Ends.mk (aj rfl) (AV.weak.agg ?_ (by simp [dp,bB,AV.isCell]))
     repeat (first | exact bF.nil | refine bF.cons (az rfl) ?_ | refine bF.cons bI ?_)
     all_goals first
      | done
      |(refine bF.cons (oT ?_ (by simp [gQ,bB,AV.isCell])) bF.nil
        repeat (first | exact bF.nil | refine bF.cons (az rfl) ?_ | refine bF.cons bI ?_))
    ·have h:=(by assumption:(aH (y 2) 4==0)=false);have h2:=(by assumption:(aH (y 2) 4==1)=false);rw [aY (by simpa using h),aY (by simpa using h2)] at c;subst c;subst d;refine Ends.mk (aj rfl) (AV.weak.agg ?_ (by simp [dp,bB,AV.isCell]))
     repeat (first | exact bF.nil | refine bF.cons (az rfl) ?_ | refine bF.cons bI ?_)
     all_goals first
      | done
      |(refine bF.cons (oT ?_ (by simp [gQ,bB,AV.isCell])) bF.nil
        repeat (first | exact bF.nil | refine bF.cons (az rfl) ?_ | refine bF.cons bI ?_))
   | false=>
    rw [hz] at d;rw [aY dc] at d
    repeat' first|exact (e a8).elim|refine aQ ?_|((conv=>whnf); first|refine ae _ (aa (gy _ _ bt) ?_)|refine aa bt (aa bt ?_)|refine ⟨fun h=>?_,fun h=>?_⟩|refine aj ?_)
    ·have h:=(by assumption:(aH (y 2) 4==0)=true);rw [aV (eq_of_beq h)] at c;subst c;subst d;refine Ends.mk (aj rfl) (AV.weak.agg ?_ (by simp [dp,bB,AV.isCell]))
     repeat (first | exact bF.nil | refine bF.cons (az rfl) ?_ | refine bF.cons bI ?_)
     all_goals first
      | done
      |(refine bF.cons (oT ?_ (by simp [gQ,bB,AV.isCell])) bF.nil
        repeat (first | exact bF.nil | refine bF.cons (az rfl) ?_ | refine bF.cons bI ?_))
    ·have h:=(by assumption:(aH (y 2) 4==0)=false);have h2:=(by assumption:(aH (y 2) 4==1)=true);rw [aY (by simpa using h),aV (eq_of_beq h2)] at c;subst c;subst d;refine Ends.mk (aj rfl) (AV.weak.agg ?_ (by simp [dp,bB,AV.isCell]))
     repeat (first | exact bF.nil | refine bF.cons (az rfl) ?_ | refine bF.cons bI ?_)
     all_goals first
      | done
      |(refine bF.cons (oT ?_ (by simp [gQ,bB,AV.isCell])) bF.nil
        repeat (first | exact bF.nil | refine bF.cons (az rfl) ?_ | refine bF.cons bI ?_))
    ·have h:=(by assumption:(aH (y 2) 4==0)=false);have h2:=(by assumption:(aH (y 2) 4==1)=false);rw [aY (by simpa using h),aY (by simpa using h2)] at c;subst c;subst d;refine Ends.mk (aj rfl) (AV.weak.agg ?_ (by simp [dp,bB,AV.isCell]))
     repeat (first | exact bF.nil | refine bF.cons (az rfl) ?_ | refine bF.cons bI ?_)
     all_goals first
      | done
      |(refine bF.cons (oT ?_ (by simp [gQ,bB,AV.isCell])) bF.nil
        repeat (first | exact bF.nil | refine bF.cons (az rfl) ?_ | refine bF.cons bI ?_))
open Go Go.AI
set_option maxRecDepth 100000
theorem Rb {a b:Nat} (d:a<9223372036854775808) (c:b<9223372036854775808):nf .or .i64 (a:Int) (b:Int)=((a ||| b:Nat):Int):=by
 have h:a ||| b<9223372036854775808:=Nat.or_lt_two_pow (n:=63) d c;have h1:(BitVec.ofInt 64 (a:Int)).toNat=a:=by rw [qt,tS]; exact lO am
 have h2:(BitVec.ofInt 64 (b:Int)).toNat=b:=by rw [qt,tS]; exact lO am
 show IntKind.i64.wrap (((BitVec.ofInt 64 (a:Int)) ||| (BitVec.ofInt 64 (b:Int))).toNat:Int)=_;rw [BitVec.toNat_or,h1,h2];exact a6 am am
theorem YF {c:Nat} (a:c<48):2 ^ c<281474976710656:=Nat.pow_lt_pow_right am a
theorem O3 {n c:Nat} (d:n<281474976710656) (a:c<48):TD (n:Int) (c:Int)=((n ||| 2 ^ c:Nat):Int):=by
 have b:=YF a
 have e:cm (1*2 ^ min (c:Int).toNat 64)=((2 ^ c:Nat):Int):=by
  rw [show min (c:Int).toNat 64=c by omega,Int.one_mul,show ((2:Int) ^ c)=((2 ^ c:Nat):Int) by simp];generalize 2 ^ c=z at *;exact a6 am am
 unfold TD;rw [e];exact Rb am am
def eQ (r:Int):Prop:=0<=r/\r<=281474976710655
theorem yW {r:Int} {c:Nat} (h:eQ r) (a:c<48):0<TD r c/\TD r c<=281474976710655:=by
 obtain ⟨d,h1⟩:=h;obtain ⟨n,rfl⟩:=eq d;rw [O3 am a];have b:=YF a;have h2:n ||| 2 ^ c<281474976710656:=Nat.or_lt_two_pow (n:=48) (x:=n) (y:=2 ^ c) am b;grind [Nat.right_le_or,Nat.two_pow_pos]
theorem Xh {r:Int} {c:Nat} (h:eQ r) (b:c<48) (k:Nat):(TD r c).toNat.testBit k=(r.toNat.testBit k||decide (c=k)):=by
 obtain ⟨a,h1⟩:=h;obtain ⟨n,rfl⟩:=eq a;rw [O3 am b,du,Nat.testBit_or,Nat.testBit_two_pow];rfl
theorem qU {l:List Int} (h:∀ r∈l,eQ r) (i:Nat):eQ (l.getD i 0):=by
 rw [aG]
 cases hx:l[i]? with
 | none=>exact ⟨by simp,by simp⟩
 | some x=>grind
theorem wo:∀ r∈nA,eQ r:=fun r h=>by
 have:=List.eq_of_mem_replicate h;subst this;exact ⟨by omega,by omega⟩
theorem DC {l:List Int} (h:∀ r∈l,eQ r) (i:Nat) {x:Int} (hx:eQ x):∀ r∈l.set i x,eQ r:=fun r a=>by
 grind
theorem uw (P:Nat->Nat->Bool):∀ m,∀ r∈kl P m,eQ r
 | 0=>wo
 | m+1=>by
  have a:=uw P m;unfold kl;split
  ·have:=yW (qU a (m / 48)) (nq m (by omega:48>0));exact DC a _ ⟨by omega,this.2⟩
  ·exact a
theorem OV (P:Nat->Nat->Bool):∀ m,m<=1152->∀ j,j<m->P (j / 48) (j % 48)=true->kX (kl P m)=false
 | 0,_,j,h,_=>by omega
 | m+1,hm,j,hj,a=>by
  have b:=OV P m am j;unfold kl;split
  ·have h1:=yW (qU (uw P m) (m / 48)) (nq m (by omega:48>0));have hl:=kx P m;unfold kX;rw [SH];refine ⟨_,List.mem_set (by omega:m / 48<(kl P m).length) _,?_⟩;grind
  grind
theorem AE {l:List Int} (hl:l.length=24) (h:∀ r∈l,eQ r):mi l=true:=by
 unfold mi;rw [hl]
 have:(l.any fun r => !zA r)=false:=by
  rw [fF];intro r a;have ⟨h1,h2⟩:=h r a;simp [zA,cT,h1,h2]
 rw [this]; rfl
theorem Ph:∀ (l:List Int) (k:Nat),(∀ r∈l,eQ r)->kX l=false->0<(QG k l).length
 | [],k,_,h=>by simp [kX] at h
 | r::l,k,a,h=>by
  simp only [QG,cj];by_cases e:r=0
  ·subst e;have:=Ph l (k+1) (fun x hx=>a x (aS _ hx)) (by simpa [kX] using h);omega
  ·have h1:=(a r (aW ..)).1;have:nN r.toNat=_:=Ju (by omega:r.toNat≠0);have h2:0<(Bv k r).length:=by unfold Bv; rw [ay,this]; simp
   omega
theorem M9 {l:List Int} (hl:l.length=24) (h:∀ r∈l,eQ r) (hz:kX l=false):0<Aw l:=by
 have:=Ph l 0 h hz;unfold Aw;rw [aV (AE hl h)];unfold iF;omega
theorem OU:∀ (l:List (Int×Int×Int)) (a:List Int),a.length=24->(∀ r∈a,eQ r)->(∀ p∈l,0<=p.1/\p.1<=47/\0<=p.2.1/\p.2.1<=23)->(∀ r∈o4 a l,eQ r)/\(∀ i c,(a.getD i 0).toNat.testBit c=true->((o4 a l).getD i 0).toNat.testBit c=true)/\∀ p∈l,((o4 a l).getD p.2.1.toNat 0).toNat.testBit p.1.toNat=true
 | [],a,_,hz,_=>⟨hz,fun _ _ h=>h,fun _ h=>nomatch h⟩
 | p::l,a,hl,hz,b=>by
  obtain ⟨h1,h2,o,t⟩:=b p (aW ..);obtain ⟨c,n⟩:=eq h1;have f:=qU hz p.2.1.toNat;have d:=yW f (by omega:c<48);have m:=Xh f (by omega:c<48);rw [<- n] at d m;have e:o4 a (p::l)=o4 (a.set p.2.1.toNat (TD (a.getD p.2.1.toNat 0) p.1)) l:=rfl;obtain ⟨g1,g2,g3⟩:=OU l _ (by grind) (DC hz p.2.1.toNat ⟨by omega,d.2⟩) fun q j=>b q (aS _ j);rw [e];refine ⟨g1,fun i k h=>g2 i k ?_,fun q j=>?_⟩
  ·grind
  grind
theorem X4 {a:List Int} {r c:Nat} (h:eQ (a.getD r 0)) (d:c<48):Nk a r c=if (a.getD r 0).toNat.testBit c then 1 else 0:=by
 unfold Nk;generalize a.getD r 0=x at *;obtain ⟨b,h1⟩:=h;grind
theorem JE {o:Nat->Int} {a b k late:Int} (h:rD o a b k late):(∀ r∈gx o a b k late,eQ r)/\∀ p∈Bp o a b k late,((gx o a b k late).getD p.2.1.toNat 0).toNat.testBit p.1.toNat=true:=by
 obtain ⟨h1,_,d⟩:=OU (Bp o a b k late) nA rfl wo fun p c=>by have:=h.rng p c; omega
 exact ⟨h1,d⟩
theorem Jq {o:Nat->Int} {a b k:Int} (h:rD o a b k 0):∀ n,n<=(2*o 6+1).toNat->∀ j,0<=ri o a b k n j/\ri o a b k n j<=n/\(0<n->((gx o a b k (-(o 6))).getD (j / 48) 0).toNat.testBit (j % 48)=true->0<ri o a b k n j)
 | 0,_,j=>⟨by simp [ri],by simp [ri],fun h=>by omega⟩
 | n+1,m,j=>by
  obtain ⟨h1,h2,l⟩:=Jq h n am j;have i:=h.s1;have f:=X4 (c:=j % 48) (qU (JE (h.late (-(o 6)+(n:Int)) am am)).1 (j / 48)) (nq _ am);have e:ri o a b k (n+1) j=cm (ri o a b k n j+Nk (gx o a b k (-(o 6)+(n:Int))) (j / 48) (j % 48)):=rfl
  have d:Nk (gx o a b k (-(o 6)+(n:Int))) (j / 48) (j % 48)=0\/Nk (gx o a b k (-(o 6)+(n:Int))) (j / 48) (j % 48)=1:=by
   rw [f]; split
   ·exact .inr rfl
   ·exact .inl rfl
  rw [e,a6 am am];grind
theorem It {o:Nat->Int} {a b k:Int} (h:rD o a b k 0):mi (uo o a b k)=true/\0<Aw (uo o a b k):=by
 have l:=h.s1;have j:=h.l0
 have key:(uo o a b k).length=24/\(∀ r∈uo o a b k,eQ r)/\kX (uo o a b k)=false:=by
  unfold uo;split
  ·refine ⟨kx _ _,uw _ _,?_⟩;have f:=h.late (-(o 6)) am am;have hm:Be o k (-(o 6)) (a+((0:Nat):Int))∈Bp o a b k (-(o 6)):=bp.2 ⟨0,bz.2 (by have:=h.ab; omega),rfl⟩;obtain ⟨g1,g2,g3,g4,_⟩:=f.rng _ hm;have d:=(JE f).2 _ hm;generalize Be o k (-(o 6)) (a+((0:Nat):Int))=p at *;obtain ⟨x,hx⟩:=eq g1;obtain ⟨y,hy⟩:=eq g3;rw [hx,hy,du,du] at d;show kX (kl (fun r c=>decide (ri o a b k (2*o 6+1).toNat (48*r+c)>0)) 1152)=false;refine OV _ 1152 (ba _) (48*y+x) am ?_;have i:(48*y+x) / 48=y:=by omega
   have e:(48*y+x) % 48=x:=by omega
   rw [i,e];have:=(Jq h (2*o 6+1).toNat (ba _) (48*y+x)).2.2 am (by rw [i,e]; exact d);grind
  ·rename_i hz;exact ⟨kx _ _,uw _ _,by simpa using hz⟩
 exact ⟨AE key.1 key.2.1,M9 key.1 key.2.1 key.2.2⟩
open Go Go.AI
set_option maxRecDepth 10000
structure bQ where
 t0:Int
 orbs:List (Nat->Int)
 sq:List (Nat->Int)
 pss:List (List (Int×Int×Int))
 opts:List (List R5)
 ords:List (Nat->Int)
 buns:List (Int×Int×Int)
 quo:List Int
 loss:Int
 prom:Int
def fR (d:bQ):List AV:=[.int .i64 d.t0,.sl .no 7 (d.orbs.map d7),.sl .no 4 (d.sq.map y4),.sl .no 1 (d.pss.map fun z=>[.sl .no 3 (z.map g8)]),.sl .no 1 (d.opts.map fun z=>[.sl .no 5 (z.map gZ)]),.sl .no 4 (d.ords.map y4),.sl .no 3 (d.buns.map g8),bB d.quo,.int .i64 d.loss,.int .i64 d.prom]
def fN (d:bQ) (i:Nat):ob:=aax (i:Int) (fun j=>match j with | 0=>(i:Int) | 1=>(i:Int) | 2=>(i:Int) | _=>IntKind.i64.wrap (d.loss+(i:Int)))
def Pz (d:bQ):Int:=aH d.t0 5000
def fP (d:bQ):List (Nat->Int):=Im (d.orbs.take 2) d.sq
def nv (d:bQ) (i:Nat):Nat->Int:=(fP d).getD i jp
def uJ (p:bU) (l:List bU):List bU:=l.takeWhile (fun x => !ko p x)++p::l.dropWhile (fun x => !ko p x)
theorem TZ (p:bU) (l:List bU):(uJ p l).length=l.length+1:=by
 have:=ax List.length (SU (p:=fun x => !ko p x) (l:=l));grind [uJ,List.length_append,List.length_cons]
theorem OE {α:Type} {q:α->Bool}:∀ {l:List α} {i:Nat},(∀ y∈l.take i,q y=true)->(∀ h:i<l.length,q l[i]=false)->l.takeWhile q=l.take i/\l.dropWhile q=l.drop i
 | [],i,_,_=>by simp
 | a::l,0,_,hx=>by
  have:=hx (Nat.succ_pos _);simp only [List.getElem_cons_zero] at this;simp [LQ,LW,this]
 | a::l,i+1,h,hx=>by
  have h1:=h a dc
  have ⟨h2,b⟩:=OE (l:=l) (i:=i) (fun y hy=>h y (by simp [hy])) fun g=>by
   have:=hx (Nat.succ_lt_succ g);simpa using this
  simp [LQ,LW,h1,h2,b]
theorem Xu {p:bU} {l:List bU} {i:Nat} (a:∀ y∈l.take i,ko p y=false) (hx:∀ h:i<l.length,ko p l[i]=true):uJ p l=l.take i++p::l.drop i:=by
 grind [OE,uJ]
def BB (d:bQ) (i:Nat):List bU:=mm (nv d i 0) (Pz d) (d.pss.getD i [])
def tv (a:List bU) (l:List bU):List bU:=l.foldl (fun a p=>uJ p a) a
def SN (d:bQ) (n:Nat):List bU:=(List.range n).foldl (fun ps i=>tv ps (BB d i)) []
theorem uW (d:bQ) (n:Nat):SN d (n+1)=tv (SN d n) (BB d n):=by simp [SN,dV,cJ]
theorem QB {a l:List bU} {k:Nat} (h:k<l.length):tv a (l.take (k+1))=uJ (l.getD k qd) (tv a (l.take k)):=by
 rw [dG qd h,tv,cJ]; rfl
theorem I2 (l:List bU):∀ a:List bU,(tv a l).length=a.length+l.length:=by
 induction l with
 | nil=>intro a; simp [tv]
 | cons x l b=>grind [uJ,tv,List.length_cons,TZ]
theorem IE (s f:Int) (z:List (Int×Int×Int)):(lu s f z).2.length<=z.length:=by
 suffices h:∀ (z:List (Int×Int×Int)) (r:Int×List bU),(z.foldl (iw s) r).2.length<=r.2.length+z.length from by
  grind [lu]
 intro z
 induction z with
 | nil=>intro r; simp
 | cons x z a=>
  grind [iw,List.length_cons]
theorem Jm (d:bQ) (i:Nat):(BB d i).length<=6:=by
 grind [IE,nv,Pz,List.length_take,BB,mm]
theorem Ep (d:bQ):∀ n,(SN d n).length<=6*n
 | 0=>by simp [SN]
 | n+1=>by have:=Ep d n; have:=Jm d n; rw [uW,I2]; omega
def QV (d:bQ):Nat:=min (fP d).length d.pss.length
def fz (d:bQ):List bU:=SN d (QV d)
def BC (d:bQ) (i:Nat):List dZ:=IJ (nv d i) (fz d) (aH d.t0 5000) (10*((i:Int)+1)) ((d.opts.getD i []).take 4)
def Er (d:bQ) (n:Nat):List dZ:=(List.range n).flatMap (BC d)
def na (d:bQ):Nat:=min (fP d).length d.opts.length
def bT (d:bQ):List dZ:=Er d (na d)
theorem Ar (d:bQ) (n:Nat):Er d (n+1)=Er d n++BC d n:=by simp [Er,dV]
theorem Jn (d:bQ) (i:Nat):(BC d i).length<=4:=by
 grind [tj,nv,fz,aH,Int,min,List.length_take,BC,IJ]
theorem uX (d:bQ):∀ n,(Er d n).length<=4*n
 | 0=>by simp [Er]
 | n+1=>by have:=uX d n; have:=Jn d n; rw [Ar,cj]; omega
def wX (d:bQ) (o:dZ):Nat:=(qa (fP d) o.sat).toNat
def C5 (d:bQ) (i:Nat):Nat->Int:=d.ords.getD i z4
def Aq (i:Nat) (o:dZ):Bool:=decide (o.ord=(i:Int))
def Uz (d:bQ) (i k:Nat):kQ:=
 ⟨i,aH (C5 d i 0) 3,xR (kn (nv d (wX d ((bT d).getD k de)))) ((bT d).getD k de).a ((bT d).getD k de).b ((bT d).getD k de).look (C5 d i),aH (C5 d i 1) 1000,
  IntKind.i64.wrap (aH (IntKind.i64.wrap ((C5 d i 2).tdiv 4)) 3 - 1),aH (C5 d i 3) 3==0,aH d.t0 5000,IntKind.i64.wrap (IntKind.i64.wrap (aH d.t0 5000+100)+aH (C5 d i 3) 101)⟩
def BA (d:bQ) (i:Nat):List kQ:=match (bT d).findIdx? (Aq i) with | none=>[] | some k=>[Uz d i k]
def HS (d:bQ) (n:Nat):List kQ:=(List.range n).flatMap (BA d)
theorem Ap (d:bQ) (n:Nat):HS d (n+1)=HS d n++BA d n:=by simp [HS,dV]
theorem rS (d:bQ):∀ n,(HS d n).length<=n
 | 0=>by simp [HS]
 | n+1=>by
  have:=rS d n;have h:(BA d n).length<=1:=by unfold BA; split <;> simp
  rw [Ap,cj]; omega
def d8 (d:bQ):List kQ:=HS d 4
def yF (l:List dZ) (i j:Nat):Int:=match (l.drop j).findIdx? (Aq i) with | some m=>((j+m:Nat):Int) | none => -1
theorem Ue (l:List dZ) (i:Nat):yF l i l.length = -1:=by simp [yF]
theorem QO {l:List dZ} {i j:Nat} (h:j<l.length):yF l i j=if Aq i (l.getD j de) then (j:Int) else yF l i (j+1):=by
 unfold yF;rw [dy h,List.findIdx?_cons,aG,ai h,pU];grind
theorem QL (l:List dZ) (i:Nat):yF l i 0=match l.findIdx? (Aq i) with | some m=>(m:Int) | none => -1:=by
 grind [yF,Aq]
def ma (u:iu):List AV:=[.int .i64 u.ord,.sl .full 1 (u.opts.map fun h=>[.int .i64 h])]
theorem tY {α:Type} {o:Go.AI.Own} {n:Nat} {f q:α->List AV} (l:List α) (t:∀ x∈l,bF (f x) (q x)) (F:∀ x∈l,∀ c∈q x,c.isCell=true) (E:∀ k,o≠.id k):(AV.sl o n (l.map f)).weak (.sl .no n (l.map q)):=fun m v h=>by
 cases h with
 | sl _ _ _ base len cap _ hf hlen a A e b off u g hm B=>
  have r:∀ (i:Nat) (x:List AV),(l.map q)[i]?=some x->∃ y,l[i]?=some y/\x=q y/\(l.map f)[i]?=some (f y)/\y∈l:=fun i x hx=>by
   grind
  refine .sl _ _ _ _ _ _ (by intro k hk; cases hk) (by intro hk; cases hk) (by grind) a (fun x hx=>?_) (fun x hx c w=>?_) b off u g (fun i x j c h1 h2=>?_) (fun i x j c h1 h2=>?_)
  ·obtain ⟨i,hi⟩:=ct hx;obtain ⟨y,_,rfl,p,d⟩:=r i x hi;rw [<- (t y d).spec.1];grind
  ·grind
  all_goals
   obtain ⟨y,_,rfl,p,d⟩:=r i x h1;obtain ⟨D,z⟩:=(t y d).spec;have hj:j<(f y).length:=by rw [D]; exact (aq.1 h2).1
   have hx:=ai hj
   first
    | exact hm i _ j _ p hx
    | exact z j _ c hx h2 m _ (B i _ j _ p hx)
def oD (d:bQ) (n:Nat):List iu:=(List.range n).map fun i=>⟨((bT d).getD i de).ord,[(i:Int)]⟩
theorem QY (d:bQ) (n:Nat):oD d (n+1)=oD d n++[⟨((bT d).getD n de).ord,[(n:Int)]⟩]:=by simp [oD,dV]
theorem UA (d:bQ) (n:Nat):(oD d n).length=n:=by simp [oD]
def mV (l:List dZ) (a b:Int):List iu:=if (l.getD a.toNat de).ord=(l.getD b.toNat de).ord/\a<b then [⟨(l.getD a.toNat de).ord,[a,b]⟩] else []
def lD (l:List dZ) (B:List iu) (z:Int×Int×Int):List iu:=if l.length>1/\B.length<10 then B++mV l (aH z.1 l.length) (aH z.2.1 l.length) else B
def rh (d:bQ):Nat:=min (bT d).length 7
def mw (d:bQ) (n:Nat):List iu:=(d.buns.take n).foldl (lD (bT d)) (oD d (rh d))
def sN (d:bQ):List iu:=d.buns.foldl (lD (bT d)) (oD d (rh d))
theorem Px (d:bQ) (a:(fP d).length<=2):(bT d).length<=8:=by
 have:=uX d (na d);have h:na d<=(fP d).length:=dU _ _;show (Er d (na d)).length<=_;omega
theorem Es {d:bQ} {i:Nat} (h:i<d.buns.length):mw d (i+1)=lD (bT d) (mw d i) (d.buns.getD i (0,0,0)):=by
 unfold mw;rw [dG (0,0,0) h,cJ]; rfl
theorem QW {d:bQ} {i:Nat} (h:i<d.buns.length) (h1:(bT d).length>1) (h2:(mw d i).length<10):mw d (i+1)=mw d i++mV (bT d) (aH (d.buns.getD i (0,0,0)).1 (bT d).length) (aH (d.buns.getD i (0,0,0)).2.1 (bT d).length):=by
 rw [Es h,lD,aV ⟨h1,h2⟩]
theorem Qf (l:List dZ) (a b:Int):(mV l a b).length<=1:=by unfold mV; split <;> simp
theorem As (d:bQ):∀ i,i<=d.buns.length->(mw d i).length<=10
 | 0,_=>by
  have h:rh d<=7:=gY _ _;have:(mw d 0).length=rh d:=by simp [mw,oD]
  omega
 | i+1,h=>by
  have a:=As d i am;rw [Es am,lD];split
  ·rename_i b;have:=Qf (bT d) (aH (d.buns.getD i (0,0,0)).1 (bT d).length) (aH (d.buns.getD i (0,0,0)).2.1 (bT d).length);rw [cj]; omega
  ·exact a
theorem QX {d:bQ} {i:Nat} (hi:i<=d.buns.length) (h:¬ (i<d.buns.length/\(bT d).length>1/\(mw d i).length<10)):mw d i=sN d:=by
 by_cases hl:i<d.buns.length
 ·have a:∀ k,mw d (i+k)=mw d i:=by
   intro k
   induction k with
   | zero=>rfl
   | succ k b=>
    by_cases hk:i+k<d.buns.length
    ·rw [<- d3,Es hk,b,lD,aY (fun g=>h ⟨hl,g⟩)]
    grind [mw,sN,List.take_of_length_le]
  have:=a (d.buns.length - i);grind [mw,sN,List.take_length]
 grind [mw,sN,List.take_of_length_le]
def UO (m:Int) (i:Nat):Bool:=((aH m 16).fdiv (2 ^ min (i:Int).toNat 64)).tmod 2==1
def wY (d:bQ) (n:Nat):List Int:=((List.range n).filter (UO d.prom)).map fun i=>((d8 d).getD i jB).id
theorem Py (d:bQ) (n:Nat):(wY d n).length<=n:=by
 unfold wY;grind
def quoI (d:bQ) (i:Nat):Int:=if i<d.quo.length then aH (d.quo.getD i 0) 20 else 12
def y8 (d:bQ) (n:Nat):List Int:=(List.range n).map (quoI d)++List.replicate (16 - n) 0
theorem y6 (d:bQ) {n:Nat} (h:n<=16):(y8 d n).length=16:=by simp [y8]; omega
theorem Tq {α:Type} (a b:α):∀ (l:List α) (i:Nat),dB (dB l i a) i b=dB l i b
 | [],_=>rfl
 | _::_,0=>rfl
 | x::l,i+1=>by simp only [dB]; rw [Tq a b l i]
theorem XX (d:bQ) {i:Nat} (h:i<16):dB (y8 d i) i (quoI d i)=y8 d (i+1):=by
 have hl:((List.range i).map (quoI d)).length=i:=by simp
 have h1:=CB (quoI d i) ((List.range i).map (quoI d)) (0::List.replicate (15 - i) 0);rw [hl] at h1;unfold y8;rw [show 16 - i=(15 - i)+1 by omega,List.replicate_succ,h1,dV,dw,show 16 - (i+1)=15 - i by omega];simp [dB]
structure yl (d:bQ):Prop where
 orb:∀ x∈d.orbs,cm (2*cm (10+aH (x 0) 90))≠0
 sat:∀ i,i<(fP d).length->0<=nv d i 0/\nv d i 0<=23
 slen:(fP d).length<=2
 fr:0<=aH d.t0 5000/\aH d.t0 5000<=900000
 pss:∀ z∈d.pss,∀ x∈z,uL x
 oh:∀ i,i<(fP d).length->aag (nv d i) (fz d) (aH d.t0 5000) (10*((i:Int)+1))
 ops:∀ z∈d.opts,∀ x∈z,wO x
 goal:∀ o∈bT d,qa (fP d) o.sat=((wX d o:Nat):Int)/\wX d o<(fP d).length/\rD (kn (nv d (wX d o))) o.a o.b o.look 0/\eG (kn (nv d (wX d o))) o.a o.b o.look=true
 bl:d.buns.length<=9223372036854775807
 bi:∀ z∈d.buns,uL z
 qi:∀ x∈d.quo,n3 x
def jr (d:bQ):dY:=⟨fP d,(List.range 3).map (fN d),fz d,d8 d,bT d,sN d,wY d (d8 d).length,y8 d 16,aH d.loss 3,aH d.t0 5000,IntKind.i64.wrap (aH d.t0 5000+200)⟩
open Go Go.AI
set_option maxRecDepth 100000
structure cG (d:bQ):Prop where
 t0:n3 d.t0
 orbs:∀ x∈d.orbs,∀ i,n3 (x i)
 sq:∀ x∈d.sq,∀ i,n3 (x i)
 pss:∀ z∈d.pss,∀ x∈z,uL x
 opts:∀ z∈d.opts,∀ x∈z,wO x
 ords:∀ x∈d.ords,∀ i,n3 (x i)
 buns:∀ z∈d.buns,uL z
 bl:d.buns.length<=9223372036854775807
 quo:∀ x∈d.quo,n3 x
 loss:n3 d.loss
 prom:n3 d.prom
theorem QC:n3 0:=by unfold n3; omega
theorem Ah {l:List (Nat->Int)} (h:∀ x∈l,∀ i,n3 (x i)) (i:Nat) {e:Nat->Int} (he:∀ j,n3 (e j)) (j:Nat):n3 (l.getD i e j):=by
 rw [aG]
 cases hx:l[i]? with
 | none=>exact he j
 | some x=>exact h x (aC hx) j
theorem WV {id:Int} {x y:Nat->Int} (hx:∀ i,n3 (x i)) (hy:∀ i,n3 (y i)) (a:n3 id):ny (P5 id x y)=true:=by
 have h:=(⟨x,y,[],0,0,hx,hy,by simp,QC,QC⟩:rH).sat;obtain ⟨h1,h2⟩:=bO a (n:=24) am
 have b:cT (P5 id x y 0) 0 23=true:=by
  show cT (aH id 24) 0 23=true;simp only [cT,al,aO];omega
 unfold ny at h ⊢;simp only [al] at h ⊢;exact ⟨⟨⟨⟨b,h.1.1.1.2⟩,h.1.1.2⟩,h.1.2⟩,h.2⟩
theorem jR (d:bQ):(fP d).length=min d.orbs.length 2:=by
 simp [fP,Im]; omega
theorem Uy (d:bQ) {i:Nat} (h:i<(fP d).length):nv d i=P5 (2*(i:Int)+1) ((d.orbs.take 2).getD i jp) (d.sq.getD i z4):=by
 unfold nv fP Im;rw [fP,Im] at h;rw [aG,ai h,pU,List.getElem_map,List.getElem_range];rfl
theorem cG.satOK {d:bQ} (h:cG d) {i:Nat} (hi:i<(fP d).length):ny (nv d i)=true:=by
 rw [Uy d hi];have hl:=jR d;exact WV (fun j=>Ah (fun x hx=>h.orbs x (dN hx)) i (fun _=>QC) j) (fun j=>Ah h.sq i (fun _=>QC) j) (by unfold n3; omega)
theorem cG.id {d:bQ} {i:Nat} (hi:i<(fP d).length):nv d i 0=2*(i:Int)+1:=by
 rw [Uy d hi];have hl:=jR d;show aH (2*(i:Int)+1) 24=_;unfold aH;grind
theorem TQ {p x:bU} {l:List bU}:x∈uJ p l↔x=p\/x∈l:=by
 grind [uJ,List.takeWhile_append_dropWhile]
theorem IR {x:bU}:∀ {l a:List bU},x∈tv a l↔x∈a\/x∈l
 | [],a=>by simp [tv]
 | p::l,a=>by
  show x∈tv (uJ p a) l↔_;rw [IR,TQ,bC];constructor
  ·rintro ((h | h) | h)
   ·exact .inr (.inl h)
   ·exact .inl h
   ·exact .inr (.inr h)
  ·rintro (h | h | h)
   ·exact .inl (.inr h)
   ·exact .inl (.inl h)
   ·exact .inr h
theorem DS {d:bQ} {x:bU}:∀ {n:Nat},x∈SN d n->∃ i,i<n/\x∈BB d i
 | 0,h=>by simp [SN] at h
 | n+1,h=>by
  rw [uW] at h;rcases IR.1 h with h | h
  ·obtain ⟨i,h1,h2⟩:=DS h;exact ⟨i,by omega,h2⟩
  ·exact ⟨n,by omega,h⟩
theorem cG.from_ {d:bQ} (h:cG d):0<=aH d.t0 5000/\aH d.t0 5000<5000:=bO h.t0 am
theorem cG.passOf {d:bQ} (h:cG d) {i:Nat} (hi:i<QV d):j9 (BB d i)=true/\(BB d i).length<=6/\∀ p∈BB d i,Pz d<=p.sa/\p.sa<p.sb/\p.sb<=Pz d+186:=by
 have h1:i<(fP d).length:=dv hi (dU _ _);have h2:i<d.pss.length:=dv hi (gY _ _);have hl:=jR d;have hf:=h.from_;exact Qb (by rw [cG.id h1]; omega) (by grind [aH,Pz]) (h.pss _ (cF [] h2))
theorem cG.pass {d:bQ} (h:cG d) {p:bU} (a:p∈fz d):Pz d<=p.sa/\p.sa<p.sb/\p.sb<=Pz d+186:=by
 obtain ⟨i,hi,hm⟩:=DS a;exact (h.passOf hi).2.2 p hm
theorem pY {d:bQ}:(fz d).length<=12:=by
 have h1:=Ep d (QV d);have h2:QV d<=(fP d).length:=dU _ _;have a:=jR d;show (SN d (QV d)).length<=12;omega
theorem cG.optH {d:bQ} (h:cG d) {i:Nat} (hi:i<(fP d).length):aag (nv d i) (fz d) (aH d.t0 5000) (10*((i:Int)+1)):=by
 obtain ⟨h1,h2,b,_⟩:=aaD (h.satOK hi);have hl:=jR d;have hf:=h.from_;refine ⟨h1,h2,b,by omega,by omega,bH pY am,fun p a=>?_⟩;have:=h.pass a;unfold Pz at this;omega
theorem cG.orb {d:bQ} (h:cG d):∀ x∈d.orbs,cm (2*cm (10+aH (x 0) 90))≠0:=fun x hx=>by
 obtain ⟨h1,h2⟩:=bO (h.orbs x hx 0) (n:=90) am;grind [a6,aH]
theorem cG.optOf {d:bQ} (h:cG d) {o:dZ} (b:o∈bT d):∃ i,i<(fP d).length/\jv (nv d i) (fz d) o=true/\aH d.t0 5000<=o.a/\10*((i:Int)+1)<=o.id/\o.id<10*((i:Int)+1)+4:=by
 obtain ⟨i,hi,hm⟩:=yM.1 b;have hi:=bz.1 hi;have h1:i<(fP d).length:=dv hi (dU _ _);have h2:i<d.opts.length:=dv hi (gY _ _);have hz:∀ x∈(d.opts.getD i []).take 4,wO x:=fun x hx=>h.opts _ (cF [] h2) x (dN hx);have hl:((d.opts.getD i []).take 4).length<=4:=LV _ _;obtain ⟨g1,g2,g3,g4⟩:=o7 (s:=nv d i) (ps:=fz d) (from_:=aH d.t0 5000) (id:=10*((i:Int)+1)) hz (min ((d.opts.getD i []).take 4).length 5) (dU _ _) o hm;grind
theorem Tt {l:List (Nat->Int)} {i:Nat} (hi:i<l.length) (a:∀ j (hj:j<l.length),l[j] 0=l[i] 0->j=i):qa l (l[i] 0)=(i:Int):=by
 unfold qa
 have h:l.findIdx? (fun x=>decide (x 0=l[i] 0))=some i:=by
  rw [iD];refine ⟨hi,by simp,fun j hj=>?_⟩;simp only [aO];intro e;have:=a j am e;omega
 rw [h]
theorem uV (d:bQ) {i:Nat} (h:i<(fP d).length):(fP d)[i]=nv d i:=by
 unfold nv;grind
theorem YW (d:bQ) {i:Nat} (h:i<(fP d).length):qa (fP d) (nv d i 0)=(i:Int):=by
 rw [<- uV d h];refine Tt h fun j hj e=>?_;rw [uV d hj,uV d h,cG.id hj,cG.id h] at e;omega
theorem wD {s:Nat->Int} {ps:List bU} {o:dZ} (h:jv s ps o=true):o.sat=s 0/\eG (iN s) o.a o.b o.look=true:=by
 simp only [jv,jI,uP,ui,al] at h;grind
theorem cG.goal {d:bQ} (h:cG d):∀ o∈bT d,qa (fP d) o.sat=((wX d o:Nat):Int)/\wX d o<(fP d).length/\rD (kn (nv d (wX d o))) o.a o.b o.look 0/\eG (kn (nv d (wX d o))) o.a o.b o.look=true:=fun o e=>by
 obtain ⟨i,hi,c,_⟩:=h.optOf e;obtain ⟨h1,h2⟩:=wD c;have j:wX d o=i:=by unfold wX; rw [h1,YW d hi]; rfl
 rw [j,h1,YW d hi]
 have f:0<=iN (nv d i) 6:=by
  simp only [eG,al] at h2;exact ((iY _).1 h2.1.1).s1
 exact ⟨rfl,hi,rD.of h2 am f,h2⟩
theorem cG.toH {d:bQ} (h:cG d):yl d where
 orb:=h.orb
 sat:=fun i hi=>by
  grind [cG.id,jR]
 slen:=by rw [jR]; omega
 fr:=by have:=h.from_; omega
 pss:=h.pss
 oh:=fun i hi=>h.optH hi
 ops:=h.opts
 goal:=h.goal
 bl:=h.bl
 bi:=h.buns
 qi:=h.quo
open Go Go.AI
def gh:Nat->Int:=fun i=>match i with
 | 2=>2000 | 4=>11000 | 5=>13000 | 7 => -33 | 9=>2 | 10=>12 | 11=>1000 | 12=>10 | 13=>4 | 14=>20 | 15=>9 | 16=>5 | 17=>1 | 18=>100 | 19=>1 | 20=>2
 | _=>0
def exR:List Int:=[0,0,0,0,0,0,0,0,0,0,0,1,0,0,0,0,0,0,0,0,0,0,0,0]
def Pq:fi:=⟨exR,0,50,0,90,false⟩
def exO:kQ:=⟨7,1,gP Pq,0,-1,false,0,100⟩
def qn:dZ:=⟨4,7,0,0,5,8,1,6,[⟨0,20,23⟩,⟨1,50,53⟩]⟩
def qm:dZ:=⟨5,7,0,0,9,11,0,6,[⟨0,23,26⟩,⟨1,53,56⟩]⟩
def exQ:List Int:=[0,3,0,0,0,0,0,0,0,0,0,0,0,0,0,0]
def dD:dY:=⟨[gh],[⟨0,0,0,0,1,0⟩],[⟨0,0,20,30,20,30⟩,⟨0,0,50,60,50,60⟩],[exO],[qn,qm],[⟨7,[0]⟩,⟨7,[1]⟩],[7],exQ,1,0,100⟩
open Go Go.AI
set_option maxRecDepth 100000
theorem Je:dD.Fit where
 sats:=by decide +kernel
 stas:=by decide +kernel
 passes:=by decide +kernel
 ords:=by decide +kernel
 opts:=by decide +kernel
 buns:=by decide +kernel
 prom:=by decide +kernel
 quo:=by decide +kernel
 slots:=by decide +kernel
 bopts:=by decide +kernel
 goals:=fun o a=>by
  have:o=exO:=by simpa [dD] using a
  subst this;exact j4.S Pq (by decide +kernel)
 sl:=by decide +kernel
theorem ZM:su dD=true:=by decide +kernel
theorem Ee:dD.Small:=Je.toSmall
open Go Go.AI
theorem Oh {p:Prop} (g:p:=by
 repeat' first
  | refine aI.scopeEnds ?_
  | refine aI.unroll 120 ?_
  | refine QE es rfl hG af kp ?_
  |((conv=>whnf); first
    | refine cZ ?_
    | refine cY ?_
    | refine aa aK ?_
    | refine aa bt (ae _ (aa rfl ?_))
    | refine aa bt ?_
    | refine aa (ah rfl) ?_
    | refine ae _ (aa a8 ?_)
    | refine ae _ (aa (by apply k1) ?_)
    | refine ae _ (aa (by apply k2) ?_)
    | refine ae _ (aa (by apply k3) ?_)
    | refine xE a8 ?_
    | refine ae 5000000 (ae _ (ae _ (ae _ (aa (aa rfl (aa rfl rfl)) ?_))))
    | refine ae _ (aa rfl ?_)
    | refine aj ?_)
 all_goals (try (conv=>whnf))
 all_goals first
  | exact Ez
  | exact Ends.mk (bw rfl) (az rfl)
  | exact gj.mk (bw rfl) (ae _ (ae _ (aa (aa rfl rfl) (aa (aj (az rfl)) (aa aK aK)))))
  | exact gj.mk (aj rfl) (ae _ (ae _ (aa (aa rfl rfl) (aa (aj (az rfl)) (aa aK aK)))))):p:=g
theorem dK {f:FuncId} {fn:Func} {body:Code} {args:List AV} {r:AV} (keep:List Nat) (hf:Tryz.prog.funcs[f]?=some fn) (hb:fn.body=some body:=by exact rfl) (hname:(fn.name == "runtime.NumGoroutine")=false:=by kernel_rfl) (hn:args.length<=fn.ntmps:=by exact ah rfl)
  (h:∀ (F:Fence) (n:Nat) (w0:World) (m0:d5),cr.OK ⟨Tryz.prog,F,n,w0,m0,fn.ntmps⟩->F.round=none->1<=n->KP keep->aI ⟨Tryz.prog,F,n,w0,m0,fn.ntmps⟩ ⟨params 0 args,[]⟩ body (Go.AI.Ends jT fn.results.toList r):=by
   intro F n' w0 m0 hG hro h1 kp
   let es:List Nat:=[]
   exact Oh):ar Tryz.prog f args r:=aM keep hf h hb hname hn
theorem jU {f:FuncId} {fn:Func} {body:Code} {N I:List Nat} {args:List AV} {L L':List (Nat×AV)} {r:AV} (keep:List Nat) (hf:Tryz.prog.funcs[f]?=some fn) (hb:fn.body=some body:=by exact rfl) (hname:(fn.name == "runtime.NumGoroutine")=false:=by kernel_rfl) (hn:args.length<=fn.ntmps:=by exact ah rfl)
  (h:∀ (F:Fence) (n:Nat) (w0:World) (m0:d5),cr.OK ⟨Tryz.prog,F,n,w0,m0,fn.ntmps⟩->F.round=none->9<=n->KP keep->aI ⟨Tryz.prog,F,n,w0,m0,fn.ntmps⟩ ⟨Cl L++params 0 args,[]⟩ body (gj jT fn.results.toList N I fun a b=>a=r/\b=L'):=by
   intro F n' w0 m0 hG hro h1 kp;exact Oh) (hkp:MT N args body=true:=by rfl):bW Tryz.prog f N I args L r L':=lR.ofB af hf hb hname bj hn (fun F n w0 m0 h1 h2 h3=>h F n w0 m0 h1 h2 h3 .mk) hkp
theorem HF {α:Type} {avs:α->List AV} {f:FuncId} {fn:Func} {body:Code} {cap:List AV} {items:List α} (keep:List Nat) (hf:Tryz.prog.funcs[f]?=some fn) (hb:fn.body=some body:=by exact rfl) (hname:(fn.name == "runtime.NumGoroutine")=false:=by kernel_rfl) (hn:cap.length+1<=fn.ntmps:=by exact ah rfl) (hres:fn.results=#[]:=by exact rfl)
    (h:∀ (F:Fence) (n:Nat) (m:d5) (l:Nat) (J:Nat->d5->World->Prop) (Jx:Nat->World->Prop),KP keep->YM.OK ⟨Tryz.prog,F,n,fn.ntmps,m,l,J,Jx,fun k x=>items[k]?=some x,fun k _=>k+1,avs⟩ ->
      ir ⟨Tryz.prog,F,n,fn.ntmps,m,l,J,Jx,fun k x=>items[k]?=some x,fun k _=>k+1,avs⟩ (false,0) ⟨params 0 (.lit (.func (.yield l) #[] #[])::cap),[]⟩ body fun e g s=>iL items.length e g s:=by
      intro F n m y J Jx kp hY
      repeat' first
        | refine ir.unroll 120 ?_
        | refine QM rfl hY af kp ?_
        | ((conv=>whnf); first
           | refine cZ ?_
           | refine cY ?_
           | refine aa aK ?_
           | refine aa bt (ae _ (aa rfl ?_))
           | refine aa bt ?_
           | refine aa (ah rfl) ?_
           | refine ae _ (aa a8 ?_)
           | (refine ae _ (aa rfl (aa rfl (fun t ht=>?_))); subst ht; refine aa ?_ ?_)
           | refine aj ?_)
      all_goals first | exact iL.mk (aj rfl) (bw rfl) | exact iL.mk (bw rfl) (aj rfl)):jA Tryz.prog avs f cap items:=jA.of hf hb hname bj hn hres fun F n m l J Jx hY=>h F n m l J Jx .mk hY
open Go Go.AI
set_option maxRecDepth 100000
def IP {α:Type} (le:α->α->Bool):Nat->List α->List α->List α
 | 0,xs,a=>xs++a
 | _+1,[],a=>a
 | _+1,x::xs,[]=>x::xs
 | n+1,x::xs,y::a=>bif le x y then x::IP le n xs (y::a) else y::IP le n (x::xs) a
theorem DR {α:Type} (le:α->α->Bool):∀ (n:Nat) (xs a:List α),xs.length+a.length<=n->IP le n xs a=List.merge xs a le
 | 0,[],[],_=>by simp [IP]
 | 0,_::_,_,h=>by simp at h
 | 0,[],_::_,h=>by simp at h
 | _+1,[],a,_=>by simp [IP]
 | _+1,x::xs,[],_=>by simp [IP]
 | n+1,x::xs,y::a,h=>by
  rw [IP,List.merge];simp only [bu] at h
  cases le x y with
  | true=>simp only [aP,cR]; rw [DR le n xs (y::a) (by simp only [bu]; omega)]
  | false=>simp only [bq,br,cv]; rw [DR le n (x::xs) a (by simp only [bu]; omega)]
def Xn {α:Type} (le:α->α->Bool):Nat->List α->List α
 | 0,l=>l
 | _+1,[]=>[]
 | _+1,[a]=>[a]
 | n+1,a::b::l=>IP le (l.length+2) (Xn le n ((a::b::l).take ((l.length+3) / 2))) (Xn le n ((a::b::l).drop ((l.length+3) / 2)))
theorem MH {α:Type} (le:α->α->Bool):∀ (n:Nat) (l:List α),l.length<=n->l.mergeSort le=Xn le n l
 | 0,[],_=>by simp [Xn]
 | 0,_::_,h=>by simp at h
 | _+1,[],_=>by simp [Xn]
 | _+1,[a],_=>by simp [Xn]
 | n+1,a::b::l,h=>by
  simp only [bu] at h;rw [Xn,List.mergeSort];simp only [List.MergeSort.Internal.splitInTwo_fst,List.MergeSort.Internal.splitInTwo_snd,bu];have h1:((a::b::l).take ((l.length+3) / 2)).length<=n:=by simp only [di,bu]; omega
  have h2:((a::b::l).drop ((l.length+3) / 2)).length<=n:=by simp only [pW,bu]; omega
  rw [<- MH le n _ h1,<- MH le n _ h2,DR];simp only [Cf,di,pW,bu];omega
theorem Zp {α:Type} (le:α->α->Bool) (l:List α):l.mergeSort le=Xn le l.length l:=MH le _ l (ba _)
theorem oq:sortI=fun l=>Xn (fun x y=>decide (x<=y)) l.length l:=funext fun l=>Zp _ l
open Go Go.AI
set_option maxRecDepth 100000
def inR (l:List Int):List (List AV):=l.map fun h=>[.int .i64 h]
theorem XU (x y:Int):ar Tryz.prog 227 [.int .i64 x,.int .i64 y] (.bool (decide (x<y))):=by
 have k1:=Lu;exact dK F5 Tryz.func227
theorem Pp {o:Go.AI.Own} (h:o = .full\/o = .no):ar Tryz.prog 29 [.sl o 0 []] (bB []):=by
 have c2:=ij 0 bt bt;have c0:ar Tryz.prog 221 [.sl .no 1 [],.int .i64 0,.int .i64 0] (.tup []):=dK vF Tryz.func221;have c1:ar Tryz.prog 148 [.sl .no 1 [],.int .i64 0,.int .i64 0,.int .i64 (Lib.bitLen 0)] (.tup []):=dK vL Tryz.func148;have b:ar Tryz.prog 69 [.sl .no 1 []] (.tup []):=dK x6 Tryz.func69;have c:ar Tryz.prog 70 [.sl .no 1 []] (.sl .no 1 []):=dK x5 Tryz.func70;have a:ar Tryz.prog 29 [.sl .no 1 []] (bB []):=dK lM Tryz.func29;rcases h with rfl | rfl
 all_goals exact a.weak (us:=[.sl _ 0 []]) (.cons bI .nil)
def Um (l m:List Int):Prop:=(l=[20,50]/\m=[20,50])\/(l=[23,53]/\m=[23,53])\/(l=[20,50,23,53]/\m=[20,23,50,53])
def Wq (b cap:Nat) (l:List Int):List (Nat×AV):=[(5000000,.me (.row b cap) 5000000 1 (inR l))]
def Zx (b cap:Nat) (l:List Int):AV := .lit (.slice (some ⟨b,0,none⟩) l.length cap)
theorem ZJ (b cap:Nat) {l m:List Int} (h:Um l m):bW Tryz.prog 69 [5000000] [] [Zx b cap l] (Wq b cap l) (.tup []) (Wq b cap m):=by
 have k1:=XU
 have c0:bW Tryz.prog 221 [5000000] [] [Zx b cap l,.int .i64 0,.int .i64 l.length] (Wq b cap l) (.tup []) (Wq b cap m):=by
  rcases h with ⟨rfl,rfl⟩ | ⟨rfl,rfl⟩ | ⟨rfl,rfl⟩
  all_goals
   let es:List Nat:=[]
   exact jU vF Tryz.func221
 have c1:bW Tryz.prog 148 [5000000] [] [Zx b cap l,.int .i64 0,.int .i64 l.length,.int .i64 (Lib.bitLen l.length)] (Wq b cap l) (.tup []) (Wq b cap m):=by
  rcases h with ⟨rfl,rfl⟩ | ⟨rfl,rfl⟩ | ⟨rfl,rfl⟩
  all_goals
   let es:List Nat:=[27]
   exact jU vL Tryz.func148
 have c2:=ij l.length (au _) (by rcases h with ⟨rfl,rfl⟩ | ⟨rfl,rfl⟩ | ⟨rfl,rfl⟩ <;> decide);rcases h with ⟨rfl,rfl⟩ | ⟨rfl,rfl⟩ | ⟨rfl,rfl⟩
 all_goals
  let es:List Nat:=[10]
  exact jU x6 Tryz.func69
theorem ZW (b cap:Nat) {l m:List Int} (h:Um l m):bW Tryz.prog 70 [5000000] [] [Zx b cap m] (Wq b cap m) (Zx b cap m) (Wq b cap m):=by
 rcases h with ⟨rfl,rfl⟩ | ⟨rfl,rfl⟩ | ⟨rfl,rfl⟩
 all_goals
  let es:List Nat:=[]
  exact jU x5 Tryz.func70
theorem XQ (b cap:Nat) {l m:List Int} (h:Um l m):bW Tryz.prog 29 [5000000] [] [Zx b cap l] (Wq b cap l) (Zx b cap m) (Wq b cap m):=by
 have c1:=ZJ b cap h;have c2:=ZW b cap h;rcases h with ⟨rfl,rfl⟩ | ⟨rfl,rfl⟩ | ⟨rfl,rfl⟩
 all_goals
  let es:List Nat:=[4,6]
  exact jU lM Tryz.func29
end Go.Proofs
