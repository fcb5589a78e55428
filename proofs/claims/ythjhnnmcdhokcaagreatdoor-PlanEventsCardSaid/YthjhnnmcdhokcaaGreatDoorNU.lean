/- Part 21 of the proof: an abstract interpreter for the code, contracts of the functions, and plain facts; the conditions are those typed. -/
import Derived.Test.YthjhnnmcdhokcaaGreatDoorNH
import Derived.Test.YthjhnnmcdhokcaaGreatDoorNJ
import Derived.Test.YthjhnnmcdhokcaaGreatDoorNK
import Derived.Test.YthjhnnmcdhokcaaGreatDoorNL
import Derived.Test.YthjhnnmcdhokcaaGreatDoorNM
import Derived.Test.YthjhnnmcdhokcaaGreatDoorNN
import Derived.Test.YthjhnnmcdhokcaaGreatDoorNO
import Derived.Test.YthjhnnmcdhokcaaGreatDoorNP
import Derived.Test.YthjhnnmcdhokcaaGreatDoorNQ
import Derived.Test.YthjhnnmcdhokcaaGreatDoorNR
import Derived.Test.YthjhnnmcdhokcaaGreatDoorNS
import Derived.Test.YthjhnnmcdhokcaaGreatDoorNT
import Derived.Test.YthjhnnmcdhokcaaGreatDoorTie
import Derived.Test.YthjhnnmcdhokcaaGreatDoorCards
set_option linter.unusedSectionVars false
set_option linter.unusedVariables false
set_option linter.unusedSimpArgs false
namespace Go.Proofs
open Go Go.AI
set_option maxRecDepth 10000
theorem Ca (s:dY) (e:s.Fit) (c:List Int) (i:c.length<=1000000) (d:(su s&&Bw s.buns.length c)=false):ar Tryz.prog 9 [.agg (gC s),bB c] (.tup [lF [],.int .i64 220]):=by
 have f:=gU s e;have b:=nR c (s.buns.map eO).length i (by rw [ay]; exact e.buns);rw [show Bw (s.buns.map eO).length c=Bw s.buns.length c by rw [ay]] at b
 cases h1:su s with
 | false=>
  rw [h1] at f;refine aM jg Tryz.func9 ?_;intro F h w0 m0 hG a h1 kp;refine bv ?_
  all_goals exact Ez
 | true=>
  rw [h1,bG] at d;rw [d] at b;rw [h1] at f;refine aM jg Tryz.func9 ?_;intro F h w0 m0 hG a h1 kp;refine bv ?_
  all_goals exact Ez
theorem rC (s:dY) (c:List Int) (l:List Wl) (e:Int) (a:ar Tryz.prog 9 [.agg (gC s),bB c] (.tup [lF l,.int .i64 e])):ar Tryz.prog 13 [.agg (gC s),bB c] (.bool (e==0&&((l.length:Int)==0))):=by
 refine aM Lc Tryz.func13 ?_;intro F d w0 m0 hG b h1 kp
 repeat' first|refine aQ ?_|((conv=>whnf); first|refine ae _ (aa (a) ?_)|refine ⟨fun h=>?_,fun h=>?_⟩|refine aj ?_)
 all_goals refine Eb ?_
 all_goals (clear hG; simp_all)
open Go Go.AI
set_option maxRecDepth 100000
theorem sW (s:dY) (h:s.Fit) (c:su s=true) (i:Nat) (hi:i<s.buns.length) (hu:Wm s (s.buns.getD i fA)):ar Tryz.prog 6 [.agg (gC s),.int .i64 i] (.tup [mv (El s (s.buns.getD i fA)),.int .i64 0]):=by
 have a:=h.toSmall;have e:=gU s h;rw [c] at e;have n:=a.buns;have f:IntKind.i64.wrap (((s.buns.map eO).length:Int) - 1)=(s.buns.length:Int) - 1:=by rw [ay]; exact a6 am am
 have d:=ni (i:Int) 0 (IntKind.i64.wrap (((s.buns.map eO).length:Int) - 1));rw [show cT (i:Int) 0 (IntKind.i64.wrap (((s.buns.map eO).length:Int) - 1))=true by rw [f]; simp only [cT,al,aO]; omega] at d;have hx:=cQ eO fA hi;generalize s.buns.getD i fA=u at *;have hy:0<=(i:Int):=au i;refine aM tN Tryz.func6 ?_;intro F l w0 m0 hG j h1 kp;refine aI.seq ?_
 repeat' first|refine dz ?_|((conv=>whnf); first|refine ⟨fun h=>?_,fun h=>?_⟩|refine aj ?_)
 refine aI.seq ?_;refine aI.seq ?_
 repeat' first|refine dz ?_|((conv=>whnf); first|refine ae _ (aa (e) ?_)|refine ae _ (aa (d) ?_)|refine ⟨fun h=>?_,fun h=>?_⟩|refine aj ?_)
 repeat' first|refine dz ?_|((conv=>whnf); first|refine ⟨fun h=>?_,fun h=>?_⟩|refine aj ?_)
 conv=>whnf
 refine aI.seq ?_;refine aI.reg hG af tN aK ?_
 conv=>whnf
 refine aI.pin 21 5000011 rfl rfl rfl (fun b=>?_)
 conv=>whnf
 have m:=yj b s a u hu;refine bv ?_
 all_goals exact Ez
theorem AU (s:dY) (h:s.Fit) (a:su s=true) (n:Int) (f:cT n 0 ((s.buns.length:Int) - 1)=false):ar Tryz.prog 6 [.agg (gC s),.int .i64 n] (.tup [mv [],.int .i64 220]):=by
 have b:=h.toSmall;have d:=gU s h;rw [a] at d;have l:=b.buns;have c:IntKind.i64.wrap (((s.buns.map eO).length:Int) - 1)=(s.buns.length:Int) - 1:=by rw [ay]; exact a6 am am
 have e:=ni n 0 (IntKind.i64.wrap (((s.buns.map eO).length:Int) - 1));rw [show cT n 0 (IntKind.i64.wrap (((s.buns.map eO).length:Int) - 1))=false by rw [c]; exact f] at e;refine aM tN Tryz.func6 ?_;intro F j w0 m0 hG i h1 kp;refine bv ?_
 all_goals exact Ends.mk (aj rfl) (AV.weak.tup (.cons bI (.cons (.refl _) .nil)))
open Go Go.AI
set_option maxRecDepth 100000
theorem Ec:ar Tryz.prog 14 [.agg (gC dD)] (.bool true):=by
 have h:=gU dD Je;rwa [ZM] at h
theorem Pr {c:List Int} {l:List dZ} {f:List Wl} {t:List Int} (h:aa6 c l f t):ar Tryz.prog 9 [.agg (gC dD),bB c] (.tup [lF f,.int .i64 0]):=by
 have e:=h
 have o:nG c=c:=by
  rcases h with ⟨rfl,rfl,rfl,rfl⟩ | ⟨rfl,rfl,rfl,rfl⟩ | ⟨rfl,rfl,rfl,rfl⟩
  all_goals (delta nG; rw [oq]; decide +kernel)
 obtain ⟨q,a,hm,j⟩:∃ q,XO l q/\(∀ x∈t,(x=20\/x=23\/x=50\/x=53)/\(q.filter fun y=>decide (y.1<=x)&&decide (x<y.2)).length=1)/\Um (q.map (·.1)) t:=by
  rcases h with ⟨rfl,rfl,rfl,rfl⟩ | ⟨rfl,rfl,rfl,rfl⟩ | ⟨rfl,rfl,rfl,rfl⟩
  ·exact ⟨_,aj ⟨rfl,rfl⟩,by decide,aj ⟨rfl,rfl⟩⟩
  ·exact ⟨_,bw (aj ⟨rfl,rfl⟩),by decide,bw (aj ⟨rfl,rfl⟩)⟩
  ·exact ⟨_,bw (bw ⟨rfl,rfl⟩),by decide,bw (bw ⟨rfl,rfl⟩)⟩
 have c1:=tM c c.length rfl (by rcases h with ⟨rfl,rfl,rfl,rfl⟩ | ⟨rfl,rfl,rfl,rfl⟩ | ⟨rfl,rfl,rfl,rfl⟩ <;> decide);have i:=Lm l (by rcases h with ⟨rfl,rfl,rfl,rfl⟩ | ⟨rfl,rfl,rfl,rfl⟩ | ⟨rfl,rfl,rfl,rfl⟩ <;> decide) (by rcases h with ⟨rfl,rfl,rfl,rfl⟩ | ⟨rfl,rfl,rfl,rfl⟩ | ⟨rfl,rfl,rfl,rfl⟩ <;> decide);have r:=ZV (l:=l) (h.imp (·.2.1) (Or.imp (·.2.1) (·.2.1)))
 have p:ar Tryz.prog 35 [.agg (bR gh),dl l,dt dD.passes,.agg (cA 0 100)] (.tup [lF [],.int .i64 0]):=by
  rcases h with ⟨rfl,rfl,rfl,rfl⟩ | ⟨rfl,rfl,rfl,rfl⟩ | ⟨rfl,rfl,rfl,rfl⟩
  ·exact Pk (bw (aj rfl)) (Eh (aj ⟨rfl,rfl,rfl,rfl⟩)) bt (by decide +kernel) (by decide +kernel) (by decide +kernel) (by decide +kernel) (by decide +kernel)
  ·exact Pk (bw (bw (aj rfl))) (Eh (bw (aj ⟨rfl,rfl,rfl,rfl⟩))) bt (by decide +kernel) (by decide +kernel) (by decide +kernel) (by decide +kernel) (by decide +kernel)
  ·exact Pk (bw (bw (bw rfl))) (Eh (bw (bw ⟨rfl,rfl,rfl,rfl⟩))) bt (by decide +kernel) (by decide +kernel) (by decide +kernel) (by decide +kernel) (by decide +kernel)
 have d:=fun b=>Us b a j
 have m:∀ b,∀ x∈t,ar Tryz.prog 37 [cK b dD,dl l,.int .i64 0,.int .i64 x] (.int .i64 1):=fun b x hx=>by
  have k:=M5 b a (hm x hx).1;rwa [(hm x hx).2] at k
 have n:∀ b,ar Tryz.prog 30 [cK b dD,.agg (bL qn)] (.bool true)/\ar Tryz.prog 30 [cK b dD,.agg (bL qm)] (.bool true):=fun b=>⟨y5 b (aj rfl),y5 b (bw rfl)⟩;rw [o] at c1;refine Uq e Ec ?_ c1 (fun b=>?_) n i r p d m (fun b=>?_)
 ·rcases h with ⟨rfl,rfl,rfl,rfl⟩ | ⟨rfl,rfl,rfl,rfl⟩ | ⟨rfl,rfl,rfl,rfl⟩
  all_goals exact nR _ 2 bt bt
 ·rcases h with ⟨rfl,rfl,rfl,rfl⟩ | ⟨rfl,rfl,rfl,rfl⟩ | ⟨rfl,rfl,rfl,rfl⟩
  all_goals exact kg b dD Ee ⟨0,_⟩ bt bt
 ·rcases h with ⟨rfl,rfl,rfl,rfl⟩ | ⟨rfl,rfl,rfl,rfl⟩ | ⟨rfl,rfl,rfl,rfl⟩
  ·exact abi b
  ·exact abh b
  ·exact abg b
open Go Go.AI
set_option maxRecDepth 100000
set_option maxHeartbeats 4000000
theorem Uo:ar Tryz.prog 6 [.agg (gC dD),.int .i64 0] (.tup [mv rg,.int .i64 0]):=by
 have c:=sW dD Je ZM 0 bt (Up (aj ⟨rfl,rfl,rfl⟩));rwa [show El dD (dD.buns.getD 0 fA)=rg by decide +kernel] at c
theorem aa8:ar Tryz.prog 9 [.agg (gC dD),bB [2]] (.tup [lF [],.int .i64 220]):=Ca dD Je [2] bt (by decide +kernel)
def WQ:dY:=⟨[],[],[],[],[],[],[],[],0,0,0⟩
theorem abS:WQ.Fit where
 sats:=by decide
 stas:=by decide
 passes:=by decide
 ords:=by decide
 opts:=by decide
 buns:=by decide
 prom:=by decide
 quo:=by decide
 slots:=by decide
 bopts:=by decide
 goals:=fun o a=>by cases a
 sl:=fun o a=>by cases a
theorem abT:ar Tryz.prog 14 [.agg (gC WQ)] (.bool false):=by
 have h:=gU WQ abS;rwa [show su WQ=false by decide +kernel] at h
theorem Jf:ar Tryz.prog 9 [.agg (gC dD),bB []] (.tup [lF [⟨9,7,0,0⟩],.int .i64 0]):=aa5 Ec
open Go Go.AI
set_option maxRecDepth 10000
def QT:List j1:=[⟨8,7,0,0,[1,1],1⟩,⟨8,7,1,1,[0,1],0⟩,⟨9,7,0,0,[-1,-1],-1⟩,⟨11,1,0,0,[3,2],3⟩]
def rwF (r:j1):List AV:=[.int .i64 r.kind,.int .i64 r.a,.int .i64 r.b,.int .i64 r.at',.sl .full 1 (r.coef.map fun h=>[.int .i64 h]),.int .i64 r.most]
set_option maxHeartbeats 64000000 in
theorem JU:ar Tryz.prog 4 [] (.bool true):=by
 have c0:=AT;have k0:=(Pr (aj ⟨rfl,rfl,rfl,rfl⟩)).weak (us:=[.agg (gC dD),.sl .full 1 [[.int .i64 0]]]) (.cons (.refl _) (.cons AV.weak.sl .nil));have k1:=(Pr (bw (aj ⟨rfl,rfl,rfl,rfl⟩))).weak (us:=[.agg (gC dD),.sl .full 1 [[.int .i64 1]]]) (.cons (.refl _) (.cons AV.weak.sl .nil));have k2:=(Pr (bw (bw ⟨rfl,rfl,rfl,rfl⟩))).weak (us:=[.agg (gC dD),.sl .full 1 [[.int .i64 0],[.int .i64 1]]]) (.cons (.refl _) (.cons AV.weak.sl .nil));have i:=Jf.weak (us:=[.agg (gC dD),.sl .full 0 []]) (.cons (.refl _) (.cons bI .nil));have d:=Uo;have q:ar Tryz.prog 10 [.agg (gC dD)] (.tup [Ir QT,.int .i64 0]):=XM;have t:=aa8.weak (us:=[.agg (gC dD),.sl .full 1 [[.int .i64 2]]]) (.cons (.refl _) (.cons AV.weak.sl .nil));have o:=Ec
 have m:=abT.weak (us:=[.agg [.sl .full 0 [],.sl .full 0 [],.sl .full 0 [],.sl .full 0 [],.sl .full 0 [],.sl .full 0 [],.sl .full 0 [],.sl .full 0 [],.int .i64 0,.int .i64 0,.int .i64 0]]) (.cons (AV.weak.agg (by
  repeat (first | exact bF.nil | refine bF.cons bI ?_ | refine bF.cons (az rfl) ?_)) (by simp [gC,sx,Cx,dt,CK,dl,vf,bB,AV.isCell])) .nil)
 have a0:=rC dD [0] [] 0 (Pr (aj ⟨rfl,rfl,rfl,rfl⟩));have b:=a0.weak (us:=[.agg (gC dD),.sl .full 1 [[.int .i64 0]]]) (.cons (.refl _) (.cons AV.weak.sl .nil));have l:=rC dD [] [⟨9,7,0,0⟩] 0 Jf;have e:=l.weak (us:=[.agg (gC dD),.sl .full 0 []]) (.cons (.refl _) (.cons bI .nil));have j:=(mb [⟨8,7,1,0⟩] [⟨8,7,1,0⟩] bt).weak (us:=[lF [⟨8,7,1,0⟩],.sl .full 4 [lZ ⟨8,7,1,0⟩]]) (.cons (.refl _) (.cons AV.weak.sl .nil));have p:=(mb [⟨8,7,2,0⟩,⟨11,1,5,0⟩] [⟨8,7,2,0⟩,⟨11,1,5,0⟩] bt).weak (us:=[lF [⟨8,7,2,0⟩,⟨11,1,5,0⟩],.sl .full 4 [lZ ⟨8,7,2,0⟩,lZ ⟨11,1,5,0⟩]]) (.cons (.refl _) (.cons AV.weak.sl .nil));have r:=(mb [⟨9,7,0,0⟩] [⟨9,7,0,0⟩] bt).weak (us:=[lF [⟨9,7,0,0⟩],.sl .full 4 [lZ ⟨9,7,0,0⟩]]) (.cons (.refl _) (.cons AV.weak.sl .nil));have n:(AV.sl .full 6 (QT.map rwF)).weak (Ir QT):=tY _ (fun x _=>bF.cons (az rfl) (bF.cons (az rfl) (bF.cons (az rfl) (bF.cons (az rfl) (bF.cons AV.weak.sl (bF.cons (az rfl) bF.nil)))))) (fun x _ c a=>by simp [qu,bB] at a; rcases a with rfl | rfl | rfl | rfl | rfl | rfl <;> rfl) (fun k h=>by cases h);have fr:=(BK QT bt bt).weak (us:=[Ir QT,.sl .full 6 (QT.map rwF)]) (.cons (.refl _) (.cons n .nil));refine aM Oa Tryz.func4 ?_;intro F u w0 m0 hG f h1 kp
 repeat' first|refine aQ ?_|((conv=>whnf); first|refine ae _ (aa (c0) ?_)|refine ae _ (aa (k0) ?_)|refine ae _ (aa (k1) ?_)|refine ae _ (aa (k2) ?_)|refine ae _ (aa (i) ?_)|refine ae _ (aa (d) ?_)|refine ae _ (aa (q) ?_)|refine ae _ (aa (t) ?_)|refine ae _ (aa (o) ?_)|refine ae _ (aa (m) ?_)|refine ae _ (aa (b) ?_)|refine ae _ (aa (e) ?_)|refine ae _ (aa (j) ?_)|refine ae _ (aa (p) ?_)|refine ae _ (aa (r) ?_)|refine ae _ (aa (fr) ?_)|refine aa bt (ae _ (aa rfl ?_))|refine ⟨fun h=>?_,fun h=>?_⟩|refine aj ?_)
 all_goals exact Ez
open Go Go.AI
set_option maxRecDepth 10000
theorem H2 (k:Int) (l:List jl) (id:Int) (n:Nat):H3 k l id (n+1)=if (l.getD n qw).img=id/\(l.getD n qw).kind=k then (l.getD n qw).at' else H3 k l id n:=rfl
set_option maxHeartbeats 64000000 in
theorem Yd (d:bQ) (s:dY) (hs:s.Small) (ev:Nat->List jl) (hS:ar Tryz.prog 4 [] (.bool true)) (hM:ar Tryz.prog 5 [.agg (fR d)] (.agg (gC s)))
  (hE:∀ i,i<s.buns.length->ar Tryz.prog 6 [.agg (gC s),.int .i64 i] (.tup [mv (ev i),.int .i64 0])) (hV:∀ i,i<s.buns.length->ar Tryz.prog 7 [mv (ev i)] (.bool true))
  (hH:∀ i,i<s.buns.length->abr s (s.buns.getD i fA) (ev i)) (hN:ar Tryz.prog 6 [.agg (gC s),.int .i64 (s.buns.map eO).length] (.tup [mv [],.int .i64 220])):ar Tryz.prog 3 [.agg (fR d)] (.bool true):=by
 have hbl:=hs.buns;refine aM Ob Tryz.func3 ?_;intro F n' w0 m0 hG hro h1 kp;refine bv ?_;refine aI.loop (X:=Nat) (fun i=>⟨[(4,.int .i64 i),(3,.loc 3 0)],[(3,gC s)]⟩) (fun i=>i<=s.buns.length) (fun i=>s.buns.length - i) 0 (aZ _) (LE) (fun i hi=>?_);by_cases c:i<s.buns.length
 ·have t:=dF (show (i:Int)<((s.buns.map eO).length:Int) by simp; omega);have cE:=hE i c;have cV:=hV i c;have y:=hH i c;have m:=cQ eO fA c;have q:0<=(i:Int):=au i;generalize s.buns.getD i fA=u at *;generalize ev i=l at *;have h6:=y.ok.six;have hn:=y.n;have H:IntKind.i64.wrap (2*((u.opts.map fun (h:Int)=>[AV.int .i64 h]).length:Int))=((l.map pm).length:Int):=by rw [ay,ay,hn]; exact (a6 am am).trans am
  have L:(((l.map pm).length:Int)!=IntKind.i64.wrap (2*((u.opts.map fun (h:Int)=>[AV.int .i64 h]).length:Int)))=true->False:=fun h=>by rw [H] at h; simp at h
  repeat' first|exact (t a8).elim|exact (L a8).elim|refine aQ ?_|((conv=>whnf); first|refine ae _ (aa cE ?_)|refine ae _ (aa cV ?_)|refine aa q (ae _ (aa m ?_))|refine ⟨fun h=>?_,fun h=>?_⟩|refine aj ?_)
  refine aI.loop (X:=Nat) (fun j=>⟨[(7,.int .i64 j),(5,mv l),(4,.int .i64 i),(3,.loc 3 0)],[(3,gC s)]⟩) (fun j=>j<=u.opts.length) (fun j=>u.opts.length - j) 0 (aZ _) (LE) (fun j hj=>?_);by_cases v:j<u.opts.length
  ·have r:=dF (show (j:Int)<((u.opts.map fun (h:Int)=>[AV.int .i64 h]).length:Int) by simp; omega);have J:=cQ (fun (h:Int)=>[AV.int .i64 h]) 0 v;have f:=cF 0 v;obtain ⟨⟨w1,w2⟩,w3⟩:=y.w _ f;obtain ⟨r1,r2⟩:=y.ok.rng _ f;obtain ⟨l1,l2⟩:=y.ok.sl _ f;have P:0<=(j:Int):=au j;generalize u.opts.getD j 0=x at *;have G:(s.opts.map bL)[x.toNat]?=some (bL (eR s.opts x)):=by simp [eR,ai (show x.toNat<s.opts.length by omega)]
   generalize eR s.opts x=o at *
   repeat' first|exact (r a8).elim|refine aQ ?_|((conv=>whnf); first|refine aa q (ae _ (aa m ?_))|refine aa P (ae _ (aa J ?_))|refine aa r1 (ae _ (aa G ?_))|refine ⟨fun h=>?_,fun h=>?_⟩|refine aj ?_)
   refine aI.loop (X:=Nat) (fun k=>⟨[(11,.int .i64 k),(10,.int .i64 (H3 2 l o.id k)),(9,.int .i64 (H3 1 l o.id k)),(8,.loc 8 0),(7,.int .i64 j),(5,mv l),(4,.int .i64 i),(3,.loc 3 0)],[(8,bL o),(3,gC s)]⟩) (fun k=>k<=l.length) (fun k=>l.length - k) 0 (aZ _) (LE) (fun k hk=>?_);by_cases A:k<l.length
   ·have p:=dF (show (k:Int)<((l.map pm).length:Int) by simp; omega);have E:=cQ pm qw A;have Z:0<=(k:Int):=au k;have hs1:=H2 1 l o.id k;have hs2:=H2 2 l o.id k;generalize l.getD k qw=e at *;generalize H3 1 l o.id k=z1 at *;generalize H3 2 l o.id k=z2 at *;clear w1 w2
    repeat' first|exact (p a8).elim|refine aQ ?_|((conv=>whnf); first|refine aa Z (ae _ (aa E ?_))|refine ⟨fun h=>?_,fun h=>?_⟩|refine aj ?_)
    all_goals refine ae (k+1) (aa A (aa am (St.le.of ?_ ?_)))
    all_goals try refine aa (ax some (bK am)) (aa (ax (fun z=>some (AV.int .i64 z)) ?_) (aa (ax (fun z=>some (AV.int .i64 z)) ?_) ?_))
    all_goals first
     |((repeat' (first | exact trivial | refine aa rfl ?_)) <;> done)
     |(clear hG y G m J E hE hV hH hN hS hM cE cV L H hs; grind)
   ·obtain rfl:k=l.length:=by omega
    rw [w1,w2];have p:=dT (show ¬ ((l.length:Int)<((l.map pm).length:Int)) by simp);have Q:(o.a != o.a)=true->False:=fun h=>by simp at h
    have M:(mh o != mh o)=true->False:=fun h=>by simp at h
    have B:=dT (show ¬ (mh o<=o.a) by omega);have D:IntKind.i64.wrap (((o.sl.map dA).length:Int) - 1)=((o.sl.length - 1:Nat):Int):=by rw [ay]; exact (a6 am am).trans am
    have N:0<=IntKind.i64.wrap (((o.sl.map dA).length:Int) - 1):=by rw [D]; omega
    have U:(o.sl.map dA)[(IntKind.i64.wrap (((o.sl.map dA).length:Int) - 1)).toNat]?=some (dA (o.sl.getD (o.sl.length - 1) ⟨0,0,0⟩)):=by
     rw [D];simp [ai (show o.sl.length - 1<o.sl.length by omega)]
    have hle:mh o=(o.sl.getD (o.sl.length - 1) ⟨0,0,0⟩).b:=rfl;rw [hle] at M B ⊢;generalize o.sl.getD (o.sl.length - 1) ⟨0,0,0⟩=z at *
    repeat' first|exact (p a8).elim|exact (Q a8).elim|exact (M a8).elim|exact (B a8).elim|refine aQ ?_|((conv=>whnf); first|refine aa N (ae _ (aa U ?_))|refine ⟨fun h=>?_,fun h=>?_⟩|refine aj ?_)
    all_goals refine ae (j+1) (aa v (aa am (St.le.of ?_ ?_)))
    all_goals try refine aa (ax some (bK am)) ?_
    all_goals ((repeat' (first | exact trivial | refine aa rfl ?_)) <;> done)
  ·have r:=dT (show ¬ ((j:Int)<((u.opts.map fun (h:Int)=>[AV.int .i64 h]).length:Int)) by simp; omega)
   repeat' first|exact (r a8).elim|refine aQ ?_|((conv=>whnf); first|refine aa q (ae _ (aa m ?_))|refine ⟨fun h=>?_,fun h=>?_⟩|refine aj ?_)
   all_goals refine ae (i+1) (aa c (aa am (St.le.of ?_ ?_)))
   all_goals try refine aa (ax some (bK am)) ?_
   all_goals ((repeat' (first | exact trivial | refine aa rfl ?_)) <;> done)
 ·have t:=dT (show ¬ ((i:Int)<((s.buns.map eO).length:Int)) by simp; omega)
  repeat' first|exact (t a8).elim|refine aQ ?_|((conv=>whnf); first|refine ae _ (aa hN ?_)|refine ⟨fun h=>?_,fun h=>?_⟩|refine aj ?_)
  all_goals exact Ez
open Go Go.AI
set_option maxRecDepth 100000
set_option maxHeartbeats 4000000
theorem abA (d:bQ) (a:cG d):ar Tryz.prog 3 [.agg (fR d)] (.bool true):=by
 have b:∀ i,i<(jr d).buns.length->(jr d).buns.getD i fA∈sN d:=fun i hi=>cF fA hi;have e:∀ i,i<(jr d).buns.length->((jr d).buns.getD i fA).opts.length<=6:=fun i hi=>(a.evOK (b i hi)).six;refine Yd d (jr d) a.small (fun i=>El (jr d) ((jr d).buns.getD i fA)) JU (RQ d a.toH) (fun i hi=>sW _ a.fit a.ok i hi (a.evOK (b i hi))) (fun i hi=>?_) (fun i hi=>a.evs (b i hi)) ?_
 ·have h:=a.evs (b i hi);have g:=e i hi;have c:=sV _ (by rw [h.n]; omega) h.r;rwa [h.v] at c
 ·rw [ay];exact AU _ a.fit a.ok _ (by simp only [cT,Ch,gB]; exact bw am)
open Go Go.AI Go.Proofs.YthjhnnmcdhokcaaGreatDoor
set_option maxRecDepth 100000
theorem RP:ownKnob Tryz.prog.godebug=none:=by kernel_rfl
theorem ET:laidOutB Tryz.prog=true:=by kernel_rfl
theorem J0:(Tryz.prog.readableRec 29&&Nat.blt 29 Tryz.prog.types.size)=true:=by kernel_rfl
def UC:List Sh:=[.int .i64,.sl [.int .i64,.int .i64,.int .i64,.int .i64,.int .i64,.int .i64,.int .i64],.sl [.int .i64,.int .i64,.int .i64,.int .i64],.sl [.sl [.int .i64,.int .i64,.int .i64]],.sl [.sl [.int .i64,.int .i64,.int .i64,.int .i64,.int .i64]],.sl [.int .i64,.int .i64,.int .i64,.int .i64],.sl [.int .i64,.int .i64,.int .i64],.sl [.int .i64],.int .i64,.int .i64]
def TW:List (Bool×List Sh):=[(true,UC)]
theorem Vb:o5 Tryz.prog 8 [29]=some TW:=by kernel_rfl
abbrev CU:List (String×DataW Unit):=[("math/bits.deBruijn32tab",Rows.laid_math_bits_deBruijn32tab),("math/bits.deBruijn64tab",Rows.laid_math_bits_deBruijn64tab)]
theorem Yi:Tryz.prog.globalNamed "math/bits.deBruijn64tab" = some 1:=by kernel_rfl
theorem Yg:((List.range Tryz.prog.globals.size).all fun b=>Nat.beq b 1 || !(match Tryz.prog.globals[b]? with | some x=>x.name == "math/bits.deBruijn64tab" | none=>false))=true:=by kernel_rfl
theorem Yh (W:World) (h:laidMetH Tryz.prog CU W):(gu Tryz.prog).le (k9 W):=by
 refine XC (laid:=CU) (g:=1) (t:=423) (e:=5) Yi aK (fun b x a hx=>?_) aK aK aK aK (aS _ (cg.2 (by rfl))) W h;have h1:=aN.1 Yg b (bz.2 (aX.1 a).1);rw [a] at h1;dsimp only at h1;rw [hx,jm,ey] at h1;exact ak h1
theorem Sm (os:Os) (args:Array Value):laidMetH Tryz.prog CU ((World.doorLaid Tryz.prog 400 os).forCall (fun _ _=>0) ⟨#[],args,[]⟩).memory:=
 laidMetH_of_parts3 (fuel:=8) (laidMet_of_run' 8 aK aK) aK aK
theorem YY:Tryz.pinned.checked.prog.funcs.any Func.goes=false:=by kernel_rfl
theorem goes_none {c:OpenClaim} {P:Program} (h:P.funcs.any Func.goes=false) (a:c.start = .entering):false=c.goesBy P:=by
 have b:∀ g:Nat,(P.funcs[g]?).any Func.goes=false:=fun g=>by
  cases hx:P.funcs[g]? with
  | none=>rfl
  | some fn=>
   obtain ⟨hl,rfl⟩:=aX.1 hx;show Func.goes P.funcs[g]=false;have:=Array.any_eq_false.1 h g hl;simpa using this
 have h2:∀ f,P.goes f=false:=fun f=>by
  unfold Program.goes;rw [h,bN,ey];simp [b]
 unfold OpenClaim.goesBy Program.goesAt Program.goesFrom;rw [a];cases P.funcNamed c.func <;> simp [h2]
theorem Kf (d:∀ avs,vT 8 TW avs->ar Tryz.prog 3 avs (.bool true)) (os:Os) (a:os.Started) (H:Type) (enc:TypeId×Value->H) :
  ReturnsInHanded {} Tryz.checked os 3 .any (fun w args=>(Rows.planEventsSpec.pre enc Tryz.prog Tryz.f3 [] false w args/\laidMetH Tryz.prog CU w)/\sizedMet enc Tryz.prog Tryz.f3 (OpenSpec.ofChange Rows.planEventsSpec) false w args) (Rows.planEventsSpec.post enc Tryz.prog Tryz.f3 false true false false):=
 TV (C:=Tryz.checked) (tb:=4) (laid:=CU) RP a aK Tryz.func3
  (ChangeSpec.witness_shaped (enc:=enc) (C:=Tryz.checked) (os:=os) (X:=fun w _=>laidMetH Tryz.prog CU w) false (World.doorLaid Tryz.prog 400 os) #[.agg #[.int .i64 0,.slice none 0 0,.slice none 0 0,.slice none 0 0,.slice none 0 0,.slice none 0 0,.slice none 0 0,.slice none 0 0,.int .i64 0,.int .i64 0]] 8 rfl (World.shaped_of_RefB aK aK) aK aK aK (Sm os _))
  rfl aK aK (fun ds h=>by
   match ds,h with
   | [f],_=>rfl) Vb ET (fun t b=>by
   have e:Tryz.f3.params.toList=[29]:=by kernel_rfl
   rw [e] at b;simp only [bC,yL,or_false] at b;have c:=J0;simp only [al] at c;subst b;exact ⟨c.1,ah c.2⟩) Yh d
theorem Vr:(Rows.planEventsRow.wf (OpenSpec.ofChange Rows.planEventsSpec):Bool)=true:=by kernel_rfl
theorem Vq:(laidOutB Tryz.pinned.checked.prog:Bool)=true:=by kernel_rfl
theorem Vp:(mapsRowed Tryz.pinned.checked.prog:Bool)=true:=by kernel_rfl
theorem Vo:(Tryz.f3.params.all (Tryz.pinned.checked.prog.readableRec ·):Bool)=true:=by kernel_rfl
theorem Vn:(namedTie Tryz.pinned.checked.prog Rows.planEventsRow.named Rows.planEventsSpec.vars:Bool)=true:=by kernel_rfl
theorem Vm:((Rows.planEventsRow.stops==[]):Bool)=true:=by kernel_rfl
theorem Vl:((Tryz.pinned.checked.prog.stops==[]):Bool)=true:=by kernel_rfl
theorem Vk:((Rows.planEventsRow.knobs==[]):Bool)=true:=by kernel_rfl
theorem Vj:((Tryz.pinned.checked.prog.stopKnobs==[]):Bool)=true:=by kernel_rfl
theorem Vi:((Rows.planEventsRow.inPlace==Tryz.pinned.checked.prog.inPlace 3):Bool)=true:=by kernel_rfl
theorem Si:((Rows.planEventsRow.unfollowed==Tryz.pinned.checked.prog.unfollowed 3):Bool)=true:=by kernel_rfl
theorem Sg:((Rows.planEventsRow.recurses==Tryz.pinned.checked.prog.recurses 3):Bool)=true:=by kernel_rfl
theorem Sf:((Rows.planEventsRow.named==Tryz.pinned.checked.prog.varsNamed 3):Bool)=true:=by kernel_rfl
theorem Se:((Rows.planEventsRow.maps==(Tryz.f3.params.toList++Rows.planEventsSpec.plain.varTypes Tryz.pinned.checked.prog).any (Tryz.pinned.checked.prog.mapsRec ·)):Bool)=true:=by kernel_rfl
theorem Sd:((Rows.planEventsRow.ifaces==(Tryz.f3.params.toList++Rows.planEventsSpec.plain.varTypes Tryz.pinned.checked.prog).any (Tryz.pinned.checked.prog.ifacesRec ·)):Bool)=true:=by kernel_rfl
theorem Sc:((Rows.planEventsRow.mapsOut==Tryz.pinned.checked.prog.mapsAmong Tryz.f3.resultTypes.toList):Bool)=true:=by kernel_rfl
theorem Sb:((Rows.planEventsRow.loops==(Tryz.f3.params.toList++Rows.planEventsSpec.plain.varTypes Tryz.pinned.checked.prog).any (Tryz.pinned.checked.prog.loopsFrom ·)):Bool)=true:=by kernel_rfl
theorem Sa:((Rows.planEventsRow.wideKeys==(Tryz.f3.params.toList++Rows.planEventsSpec.plain.varTypes Tryz.pinned.checked.prog++Tryz.f3.resultTypes.toList).any (Tryz.pinned.checked.prog.wideKeysFrom ·)):Bool)=true:=by kernel_rfl
theorem R9:(Rows.planEventsSpec.vars.all (Tryz.pinned.checked.prog.varReadable ·):Bool)=true:=by kernel_rfl
theorem R8:(Tryz.f3.resultTypes.all (fun t=>Tryz.pinned.checked.prog.readableRec t&&decide (t<Tryz.pinned.checked.prog.types.size)):Bool)=true:=by kernel_rfl
theorem R7:((Rows.planEventsRow.ifacesOut==Tryz.f3.resultTypes.toList.any (Tryz.pinned.checked.prog.ifacesRec ·)):Bool)=true:=by kernel_rfl
theorem R6:((Rows.planEventsRow.loopsOut==Tryz.f3.resultTypes.toList.any (Tryz.pinned.checked.prog.loopsFrom ·)):Bool)=true:=by kernel_rfl
theorem R4:((Rows.planEventsRow.plainKeys==Tryz.pinned.checked.prog.plainKeys):Bool)=true:=by kernel_rfl
theorem R3:(Rows.planEventsRow.shortTexts.isNone:Bool)=true:=by kernel_rfl
theorem R2:(Tryz.pinned.checked.prog.stopsHeard:Bool)=true:=by kernel_rfl
theorem R1:(Tryz.pinned.checked.prog.mayEnter:Bool)=true:=by kernel_rfl
theorem R0:((Rows.planEventsRow.lifted==Tryz.pinned.checked.prog.liftsFinal):Bool)=true:=by kernel_rfl
theorem RZ:((Tryz.pinned.checked.prog.make==some Rows.planEventsRow.make):Bool)=true:=by kernel_rfl
theorem RY:((Rows.planEventsRow.kinds==(if Rows.planEventsRow.domain.isEmpty then [] else Tryz.f3.params.toList.map fun t=>match Tryz.pinned.checked.prog.underlying t with | some (.int k)=>some k | _=>none)):Bool)=true:=by kernel_rfl
theorem RW:((Rows.planEventsRow.pinned==Rows.planEventsRow.pinnedBy):Bool)=true:=by kernel_rfl
theorem RV:((Rows.planEventsRow.veiled==(Tryz.f3.params.toList++Rows.planEventsSpec.plain.varTypes Tryz.pinned.checked.prog++Tryz.f3.resultTypes.toList).any (Tryz.pinned.checked.prog.veiledRec ·)):Bool)=true:=by kernel_rfl
theorem RU:(Rows.planEventsRow.veiledFits Tryz.pinned.checked.prog Tryz.f3.params.toList (Tryz.f3.params.toList++Rows.planEventsSpec.plain.varTypes Tryz.pinned.checked.prog++Tryz.f3.resultTypes.toList):Bool)=true:=by kernel_rfl
theorem ga {a b:Bool} (h:a=true) (k:b=true):(a&&b)=true:=by rw [h,k]; rfl
theorem Yf:joinedFacts Tryz.pinned.checked.prog 3 Tryz.f3 Rows.planEventsSpec Rows.planEventsRow=true:=by
 unfold joinedFacts;exact ga (ga (ga (ga (ga (ga (ga (ga (ga (ga (ga (ga (ga (ga (ga (ga (ga (ga (ga (ga (ga (ga (ga (ga (ga (ga (ga (ga (ga (ga (ga (Vr) Vq) Vp) Vo) Vn) Vm) Vl) Vk) Vj) Vi) Si) Sg) Sf) Se) Sd) Sc) Sb) Sa) R9) R8) R7) R6) R4) R3) R2) R1) R0) RZ) RY) RW) RV) RU
theorem Rs (b:∀ avs,vT 8 TW avs->ar Tryz.prog 3 avs (.bool true)):Rows.PlanEventsSaid:=
 OpenClaim.holds_of_wide (p:=Tryz.pinned) (s:=Rows.planEventsSpec) (c:=Rows.planEventsRow) 3 Tryz.f3 rfl rfl rfl rfl rfl rfl rfl ⟨rfl,rfl,rfl,rfl,rfl⟩ rfl rfl rfl rfl rfl aK Tryz.func3 Yf
  (aF aK) (by unfold Func.isWrapper; first | (rw [aV (by decide +kernel)]; kernel_rfl) | (rw [aY (by decide +kernel)]; exact ⟨rfl,rfl⟩))
  (fun os a H enc _=>Kf b os a H enc)
theorem O9 {α:Type} {p:α->Prop} {f:α->List AV}:∀ {xs:List (List AV)},(∀ x∈xs,∃ z,p z/\x=f z)->∃ a:List α,(∀ z∈a,p z)/\xs=a.map f
 | [],_=>⟨[],by simp,rfl⟩
 | x::r,h=>by
  obtain ⟨a,h1,rfl⟩:=O9 (xs:=r) fun y hy=>h y (aS _ hy);obtain ⟨z,h2,rfl⟩:=h x (aW ..);exact ⟨z::a,fun y hy=>by rcases bC.1 hy with rfl | hy; exact h2; exact h1 y hy,rfl⟩
theorem xB {α:Type} {p:α->Prop} {f:α->List AV} {n:Nat} {e:List Sh} {a:AV} (h:kP (n+1) (.sl e) a) (hf:∀ x,Fa (kP n) e x->∃ z,p z/\x=f z):∃ b:List α,(∀ z∈b,p z)/\b.length<=9223372036854775807/\a = .sl .no e.length (b.map f):=by
 obtain ⟨xs,rfl,hl,h2⟩:=h;obtain ⟨b,g1,rfl⟩:=O9 fun x hx=>hf x (h2 x hx);exact ⟨b,g1,by rwa [ay] at hl,rfl⟩
theorem Ud {l:List Int} (h:∀ y∈l,n3 y) (i:Nat):n3 (l.getD i 0):=by
 rw [aG]
 cases hi:l[i]? with
 | none=>exact QC
 | some y=>exact h y (aC hi)
theorem W7 {n:Nat} {x:List AV} (h:Fa (kP (n+1)) [.int .i64] x):∃ z,n3 z/\x=[AV.int .i64 z]:=by
 obtain ⟨b,q,rfl,a,h⟩:=ck h;obtain rfl:=j5 h;obtain ⟨z0,rfl,i0⟩:=eH a;exact ⟨z0,i0,rfl⟩
theorem OO {n:Nat} {x:List AV} (h:Fa (kP (n+1)) [.int .i64,.int .i64,.int .i64] x):∃ z,uL z/\x=g8 z:=by
 obtain ⟨d,q,rfl,a,h⟩:=ck h;obtain ⟨b1,q,rfl,h1,h⟩:=ck h;obtain ⟨c,q,rfl,h2,h⟩:=ck h;obtain rfl:=j5 h;obtain ⟨z0,rfl,i0⟩:=eH a;obtain ⟨b,rfl,i1⟩:=eH h1;obtain ⟨z2,rfl,i2⟩:=eH h2;exact ⟨(z0,b,z2),⟨i0,i1,i2⟩,rfl⟩
theorem W6 {n:Nat} {x:List AV} (h:Fa (kP (n+1)) [.int .i64,.int .i64,.int .i64,.int .i64,.int .i64] x):∃ z,wO z/\x=gZ z:=by
 obtain ⟨j,q,rfl,a,h⟩:=ck h;obtain ⟨b1,q,rfl,h1,h⟩:=ck h;obtain ⟨e,q,rfl,h2,h⟩:=ck h;obtain ⟨i,q,rfl,b,h⟩:=ck h;obtain ⟨f,q,rfl,c,h⟩:=ck h;obtain rfl:=j5 h;obtain ⟨z0,rfl,i0⟩:=eH a;obtain ⟨d,rfl,i1⟩:=eH h1;obtain ⟨z2,rfl,i2⟩:=eH h2;obtain ⟨z3,rfl,i3⟩:=eH b;obtain ⟨z4,rfl,i4⟩:=eH c;exact ⟨⟨z0,d,z2,z3,z4⟩,⟨i0,i1,i2,i3,i4⟩,rfl⟩
theorem ON {n:Nat} {x:List AV} (h:Fa (kP (n+1)) [.int .i64,.int .i64,.int .i64,.int .i64] x):∃ z:Nat->Int,(∀ i,n3 (z i))/\x=y4 z:=by
 obtain ⟨f,q,rfl,a,h⟩:=ck h;obtain ⟨b1,q,rfl,h1,h⟩:=ck h;obtain ⟨d,q,rfl,h2,h⟩:=ck h;obtain ⟨e,q,rfl,b,h⟩:=ck h;obtain rfl:=j5 h;obtain ⟨z0,rfl,i0⟩:=eH a;obtain ⟨c,rfl,i1⟩:=eH h1;obtain ⟨z2,rfl,i2⟩:=eH h2;obtain ⟨z3,rfl,i3⟩:=eH b;exact ⟨fun i=>[z0,c,z2,z3].getD i 0,Ud (by simp [*]),rfl⟩
theorem W5 {n:Nat} {x:List AV} (h:Fa (kP (n+1)) [.int .i64,.int .i64,.int .i64,.int .i64,.int .i64,.int .i64,.int .i64] x):∃ z:Nat->Int,(∀ i,n3 (z i))/\x=d7 z:=by
 obtain ⟨u,q,rfl,b,h⟩:=ck h;obtain ⟨b1,q,rfl,h1,h⟩:=ck h;obtain ⟨o,q,rfl,h2,h⟩:=ck h;obtain ⟨r,q,rfl,c,h⟩:=ck h;obtain ⟨p,q,rfl,e,h⟩:=ck h;obtain ⟨l,q,rfl,j,h⟩:=ck h;obtain ⟨m,q,rfl,d,h⟩:=ck h;obtain rfl:=j5 h;obtain ⟨z0,rfl,i0⟩:=eH b;obtain ⟨f,rfl,i1⟩:=eH h1;obtain ⟨z2,rfl,i2⟩:=eH h2;obtain ⟨z3,rfl,i3⟩:=eH c;obtain ⟨z4,rfl,i4⟩:=eH e;obtain ⟨z5,rfl,i5⟩:=eH j;obtain ⟨a,rfl,t⟩:=eH d;exact ⟨fun i=>[z0,f,z2,z3,z4,z5,a].getD i 0,Ud (by simp [*]),rfl⟩
theorem O6 {α:Type} {p:α->Prop} {f:α->List AV} {n:Nat} {e:List Sh} (hf:∀ x,Fa (kP n) e x->∃ z,p z/\x=f z) (x:List AV) (h:Fa (kP (n+1)) [.sl e] x):∃ a:List α,(∀ z∈a,p z)/\x=[.sl .no e.length (a.map f)]:=by
 obtain ⟨c,q,rfl,b,h⟩:=ck h;obtain rfl:=j5 h;obtain ⟨a,g1,_,rfl⟩:=xB b hf;exact ⟨a,g1,rfl⟩
theorem XY {n:Nat} {cs:List AV} (h:Fa (kP (n+3)) UC cs):∃ d:bQ,cG d/\cs=fR d:=by
 obtain ⟨v,q,rfl,a,h⟩:=ck h;obtain ⟨b1,q,rfl,h1,h⟩:=ck h;obtain ⟨z,q,rfl,h2,h⟩:=ck h;obtain ⟨u,q,rfl,j,h⟩:=ck h;obtain ⟨A,q,rfl,b,h⟩:=ck h;obtain ⟨r,q,rfl,f,h⟩:=ck h;obtain ⟨t,q,rfl,m,h⟩:=ck h;obtain ⟨y,q,rfl,e,h⟩:=ck h;obtain ⟨B,q,rfl,i,h⟩:=ck h;obtain ⟨w,q,rfl,o,h⟩:=ck h;obtain rfl:=j5 h;obtain ⟨t0,rfl,i0⟩:=eH a;obtain ⟨orbs,i1,_,rfl⟩:=xB h1 fun x=>W5;obtain ⟨sq,i2,_,rfl⟩:=xB h2 fun x=>ON;obtain ⟨pss,i3,_,rfl⟩:=xB j (O6 fun x=>OO);obtain ⟨opts,i4,_,rfl⟩:=xB b (O6 fun x=>W6);obtain ⟨ords,i5,_,rfl⟩:=xB f fun x=>ON;obtain ⟨buns,l,p,rfl⟩:=xB m fun x=>OO;obtain ⟨quo,c,_,rfl⟩:=xB e fun x=>W7;obtain ⟨loss,rfl,i8⟩:=eH i;obtain ⟨prom,rfl,i9⟩:=eH o;exact ⟨⟨t0,orbs,sq,pss,opts,ords,buns,quo,loss,prom⟩,⟨i0,i1,i2,i3,i4,i5,l,p,c,i8,i9⟩,rfl⟩
theorem Qd {n:Nat} {L:List Sh} {r:List (Bool×List Sh)} {avs:List AV} (h:vT n ((true,L)::r) avs):∃ cs q,avs = .agg cs::q/\Fa (kP n) L cs/\vT n r q:=by
 match avs,h with
 | _::q,h=>
  obtain ⟨⟨cs,rfl,h1⟩,h2⟩:=h;exact ⟨cs,q,rfl,h1,h2⟩
 | [],h=>exact h.elim
theorem Qc {n:Nat} {avs:List AV} (h:vT n [] avs):avs=[]:=by
 match avs,h with
 | [],_=>rfl
 | _::_,h=>exact h.elim
end Go.Proofs
namespace Go.Proofs.YthjhnnmcdhokcaaGreatDoor
open Go Go.AI
theorem sf:Rows.PlanEventsSaid:=Rs fun avs h=>by
 obtain ⟨cs,q,rfl,h1,h⟩:=Qd h;obtain rfl:=Qc h;obtain ⟨d,a,rfl⟩:=XY h1;exact Go.Proofs.abA d a
theorem planEvents:Rows.PlanEventsCardSaid:=
 Claim7.holds_tied_plain_at .later [] [.data,.data] true Rows.planEventsCard.stood.harness false
  sf (fun _ h=>by cases h) aK (fun _ h=>by cases h) planEvents_row_tie rfl ⟨rfl,rfl⟩ aK rfl
  (fun f fn hf b=>by
   obtain rfl:f=3:=iK ((show Tryz.prog.funcNamed "nadir/nadirlaw22.PlanEvents" = some 3 by kernel_rfl).symm.trans hf) |>.symm;obtain rfl:fn=Tryz.f3:=(iK (Tryz.func3.symm.trans b)).symm
   exact ⟨by kernel_rfl,fun j t c=>by
    have a:(Tryz.f3.params.all fun u => !Tryz.pinned.checked.prog.wantsStandIn u)=true:=by kernel_rfl
    obtain ⟨hj,rfl⟩:=aX.1 c;have:=Array.all_eq_true.1 a j hj;simpa using this⟩)
  (Go.Proofs.goes_none Go.Proofs.YY rfl)
end Go.Proofs.YthjhnnmcdhokcaaGreatDoor
