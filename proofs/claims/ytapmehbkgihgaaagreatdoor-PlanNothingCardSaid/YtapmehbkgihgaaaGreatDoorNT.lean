/- Part 20 of the proof: an abstract interpreter for the code, contracts of the functions, and plain facts; the conditions are those typed. -/
import Derived.Test.YtapmehbkgihgaaaGreatDoorNH
import Derived.Test.YtapmehbkgihgaaaGreatDoorNJ
import Derived.Test.YtapmehbkgihgaaaGreatDoorNK
import Derived.Test.YtapmehbkgihgaaaGreatDoorNL
import Derived.Test.YtapmehbkgihgaaaGreatDoorNM
import Derived.Test.YtapmehbkgihgaaaGreatDoorNN
import Derived.Test.YtapmehbkgihgaaaGreatDoorNO
import Derived.Test.YtapmehbkgihgaaaGreatDoorNP
import Derived.Test.YtapmehbkgihgaaaGreatDoorNQ
import Derived.Test.YtapmehbkgihgaaaGreatDoorNR
import Derived.Test.YtapmehbkgihgaaaGreatDoorNS
import Derived.Test.YtapmehbkgihgaaaGreatDoorTie
import Derived.Test.YtapmehbkgihgaaaGreatDoorCards
import Derived.Test.YtapmehbkgihgaaaGreatDoorNTA
set_option linter.unusedSectionVars false
set_option linter.unusedVariables false
set_option linter.unusedSimpArgs false
namespace Go.Proofs
open Go Go.AI
set_option maxRecDepth 10000
theorem BA (s:eo) (e:s.Fit) (c:List Int) (i:c.length<=1000000) (d:(tX s&&y7 s.buns.length c)=false):aq Tryz.prog 6 [.agg (gz s),bu c] (.tup [jr [],.int .i64 220]):=by
 have f:=jb s e;have b:=nH c (s.buns.map fH).length i (by rw [az]; exact e.buns);rw [show y7 (s.buns.map fH).length c=y7 s.buns.length c by rw [az]] at b
 cases h1:tX s with
 | false=>
  rw [h1] at f;refine aM je Tryz.func6 ?_;intro F h w0 m0 hG a h1 kp;refine bz ?_
  all_goals exact Ez
 | true=>
  rw [h1,bG] at d;rw [d] at b;rw [h1] at f;refine aM je Tryz.func6 ?_;intro F h w0 m0 hG a h1 kp;refine bz ?_
  all_goals exact Ez
theorem rA (s:eo) (c:List Int) (l:List yo) (e:Int) (a:aq Tryz.prog 6 [.agg (gz s),bu c] (.tup [jr l,.int .i64 e])):aq Tryz.prog 12 [.agg (gz s),bu c] (.bool (e==0&&((l.length:Int)==0))):=by
 refine aM KA Tryz.func12 ?_;intro F d w0 m0 hG b h1 kp
 repeat' first|refine aS ?_|((conv=>whnf); first|refine ae _ (aa (a) ?_)|refine ⟨fun h=>?_,fun h=>?_⟩|refine ak ?_)
 all_goals refine Eb ?_
 all_goals (clear hG; simp_all)
open Go Go.AI
set_option maxRecDepth 100000
theorem DA:aq Tryz.prog 13 [.agg (gz dB)] (.bool true):=by
 have h:=jb dB IF;rwa [YL] at h
theorem OP {c:List Int} {l:List d4} {f:List yo} {t:List Int} (h:aah c l f t):aq Tryz.prog 6 [.agg (gz dB),bu c] (.tup [jr f,.int .i64 0]):=by
 have e:=h
 have o:jC c=c:=by
  rcases h with ⟨rfl,rfl,rfl,rfl⟩ | ⟨rfl,rfl,rfl,rfl⟩ | ⟨rfl,rfl,rfl,rfl⟩
  all_goals (delta jC; rw [jA]; decide +kernel)
 obtain ⟨q,a,hm,j⟩:∃ q,WS l q/\(∀ x∈t,(x=20\/x=23\/x=50\/x=53)/\(q.filter fun y=>decide (y.1<=x)&&decide (x<y.2)).length=1)/\jC (q.map (·.1))=t:=by
  rcases h with ⟨rfl,rfl,rfl,rfl⟩ | ⟨rfl,rfl,rfl,rfl⟩ | ⟨rfl,rfl,rfl,rfl⟩
  ·exact ⟨_,ak ⟨rfl,rfl⟩,by decide,by delta jC; rw [jA]; decide +kernel⟩
  ·exact ⟨_,bA (ak ⟨rfl,rfl⟩),by decide,by delta jC; rw [jA]; decide +kernel⟩
  ·exact ⟨_,bA (bA ⟨rfl,rfl⟩),by decide,by delta jC; rw [jA]; decide +kernel⟩
 have c1:=tw c c.length rfl (by rcases h with ⟨rfl,rfl,rfl,rfl⟩ | ⟨rfl,rfl,rfl,rfl⟩ | ⟨rfl,rfl,rfl,rfl⟩ <;> decide);have i:=KJ l (by rcases h with ⟨rfl,rfl,rfl,rfl⟩ | ⟨rfl,rfl,rfl,rfl⟩ | ⟨rfl,rfl,rfl,rfl⟩ <;> decide) (by rcases h with ⟨rfl,rfl,rfl,rfl⟩ | ⟨rfl,rfl,rfl,rfl⟩ | ⟨rfl,rfl,rfl,rfl⟩ <;> decide);have r:=YU (l:=l) (h.imp (·.2.1) (Or.imp (·.2.1) (·.2.1)))
 have p:aq Tryz.prog 29 [.agg (bM fL),cH l,cZ dB.passes,.agg (cj 0 100)] (.tup [jr [],.int .i64 0]):=by
  rcases h with ⟨rfl,rfl,rfl,rfl⟩ | ⟨rfl,rfl,rfl,rfl⟩ | ⟨rfl,rfl,rfl,rfl⟩
  ·exact Tv (bA (ak rfl)) (DE (ak ⟨rfl,rfl,rfl,rfl⟩)) bq (by decide +kernel) (by decide +kernel) (by decide +kernel) (by decide +kernel) (by decide +kernel)
  ·exact Tv (bA (bA (ak rfl))) (DE (bA (ak ⟨rfl,rfl,rfl,rfl⟩))) bq (by decide +kernel) (by decide +kernel) (by decide +kernel) (by decide +kernel) (by decide +kernel)
  ·exact Tv (bA (bA (bA rfl))) (DE (bA (bA ⟨rfl,rfl,rfl,rfl⟩))) bq (by decide +kernel) (by decide +kernel) (by decide +kernel) (by decide +kernel) (by decide +kernel)
 have d:=fun b=>TM b a j
 have m:∀ b,∀ x∈t,aq Tryz.prog 31 [cA b dB,cH l,.int .i64 0,.int .i64 x] (.int .i64 1):=fun b x hx=>by
  have k:=Mv b a (hm x hx).1;rwa [(hm x hx).2] at k
 have n:∀ b,aq Tryz.prog 24 [cA b dB,.agg (bO qc)] (.bool true)/\aq Tryz.prog 24 [cA b dB,.agg (bO ql)] (.bool true):=fun b=>⟨yB b (ak rfl),yB b (bA rfl)⟩;rw [o] at c1;refine TK e DA ?_ c1 (fun b=>?_) n i r p d m (fun b=>?_)
 ·rcases h with ⟨rfl,rfl,rfl,rfl⟩ | ⟨rfl,rfl,rfl,rfl⟩ | ⟨rfl,rfl,rfl,rfl⟩
  all_goals exact nH _ 2 bq bq
 ·rcases h with ⟨rfl,rfl,rfl,rfl⟩ | ⟨rfl,rfl,rfl,rfl⟩ | ⟨rfl,rfl,rfl,rfl⟩
  all_goals exact jd b dB zK ⟨0,_⟩ bq bq
 ·rcases h with ⟨rfl,rfl,rfl,rfl⟩ | ⟨rfl,rfl,rfl,rfl⟩ | ⟨rfl,rfl,rfl,rfl⟩
  ·exact aas b
  ·exact aar b
  ·exact aaq b
open Go Go.AI
set_option maxRecDepth 100000
set_option maxHeartbeats 4000000
theorem TJ:aq Tryz.prog 8 [.agg (gz dB),.int .i64 0] (.tup [wD pf,.int .i64 0]):=by
 have d:=DA;have c:=oy 0 0 1;have a:=fun b=>xU b (u:=⟨7,[0]⟩) (o:=qc) (l:=pf) (ak ⟨rfl,rfl,rfl⟩);refine aM Ap Tryz.func8 ?_;intro F f w0 m0 hG e h1 kp;refine aJ.seq ?_
 repeat' first|refine du ?_|((conv=>whnf); first|refine ⟨fun h=>?_,fun h=>?_⟩|refine ak ?_)
 refine aJ.seq ?_;refine aJ.seq ?_
 repeat' first|refine du ?_|((conv=>whnf); first|refine ae _ (aa (d) ?_)|refine ae _ (aa (c) ?_)|refine ⟨fun h=>?_,fun h=>?_⟩|refine ak ?_)
 repeat' first|refine du ?_|((conv=>whnf); first|refine ⟨fun h=>?_,fun h=>?_⟩|refine ak ?_)
 conv=>whnf
 refine aJ.seq ?_;refine aJ.reg hG af Ap aI ?_
 conv=>whnf
 refine aJ.pin 21 5000011 rfl rfl rfl (fun b=>?_)
 conv=>whnf
 have a:=a b
 repeat' first|refine aS ?_|((conv=>whnf); first|refine aa bq (ae _ (aa rfl ?_))|refine ae _ (aa (a) ?_)|refine ⟨fun h=>?_,fun h=>?_⟩|refine ak ?_)
 all_goals exact Ez
theorem aaj:aq Tryz.prog 6 [.agg (gz dB),bu [2]] (.tup [jr [],.int .i64 220]):=BA dB IF [2] bq (by decide +kernel)
def VW:eo:=⟨[],[],[],[],[],[],[],[],0,0,0⟩
theorem aa2:VW.Fit where
 sats:=by decide
 stas:=by decide
 passes:=by decide
 ords:=by decide
 opts:=by decide
 buns:=by decide
 prom:=by decide
 quo:=by decide
 slots:=by decide
 bopts:=by decide
 goals:=fun o a=>by cases a
 sl:=fun o a=>by cases a
theorem aa3:aq Tryz.prog 13 [.agg (gz VW)] (.bool false):=by
 have h:=jb VW aa2;rwa [show tX VW=false by decide +kernel] at h
theorem aap (b:Nat) (s:eo) (id:Int):aq Tryz.prog 30 [cA b s,cH [],.int .i64 id] (bu []):=by
 have c1:=tu b s [] id;have c2:=Ea 0;have a:iA Tryz.prog XC 135 [.ref [cH []],.ref [cA b s],.ref [.int .i64 id]] []:=G9 pP Tryz.func135;refine aM rr Tryz.func30 ?_;intro F d w0 m0 hG c h1 kp
 repeat' first|refine AC hG (bC bq h1) XC [7,6] rfl a (fun _=>rfl) aI bq rfl ?_|refine bz ?_|fail
 all_goals exact Ez
theorem Tt:vT fL 0 100=[]:=aX (by decide +kernel)
theorem IG:aq Tryz.prog 6 [.agg (gz dB),bu []] (.tup [jr [⟨9,7,0,0⟩],.int .i64 0]):=by
 have c:=xW dB IF YL bq (fun x=>vT x 0 100) (fun x hx=>by
  obtain rfl:x=fL:=by simpa [dB] using hx
  exact ⟨by rw [Tt]; decide,Tu bq (by decide +kernel) (by decide +kernel) bq bq (by decide +kernel) (by decide +kernel)⟩) [⟨9,7,0,0⟩]
  (fun b G hG=>xX b dB zK bq bq rfl bq G hG) fun b id=>aap b dB id
 rwa [show dB.sats.flatMap (fun x=>vT x 0 100)=[] by show vT fL 0 100++[]=[]; rw [Tt]; rfl] at c
open Go Go.AI
set_option maxRecDepth 10000
def Qc:List jV:=[⟨8,7,0,0,[1,1],1⟩,⟨8,7,1,1,[0,1],0⟩,⟨9,7,0,0,[-1,-1],-1⟩,⟨11,1,0,0,[3,2],3⟩]
def rwF (r:jV):List AV:=[.int .i64 r.kind,.int .i64 r.a,.int .i64 r.b,.int .i64 r.at',.sl .full 1 (r.coef.map fun h=>[.int .i64 h]),.int .i64 r.most]
set_option maxHeartbeats 64000000 in
theorem Jm:aq Tryz.prog 4 [] (.bool true):=by
 have c0:=As;have k0:=(OP (ak ⟨rfl,rfl,rfl,rfl⟩)).weak (us:=[.agg (gz dB),.sl .full 1 [[.int .i64 0]]]) (.cons (.refl _) (.cons AV.weak.sl .nil));have k1:=(OP (bA (ak ⟨rfl,rfl,rfl,rfl⟩))).weak (us:=[.agg (gz dB),.sl .full 1 [[.int .i64 1]]]) (.cons (.refl _) (.cons AV.weak.sl .nil));have k2:=(OP (bA (bA ⟨rfl,rfl,rfl,rfl⟩))).weak (us:=[.agg (gz dB),.sl .full 1 [[.int .i64 0],[.int .i64 1]]]) (.cons (.refl _) (.cons AV.weak.sl .nil));have i:=IG.weak (us:=[.agg (gz dB),.sl .full 0 []]) (.cons (.refl _) (.cons bK .nil));have d:=TJ;have q:aq Tryz.prog 9 [.agg (gz dB)] (.tup [HQ Qc,.int .i64 0]):=WQ;have t:=aaj.weak (us:=[.agg (gz dB),.sl .full 1 [[.int .i64 2]]]) (.cons (.refl _) (.cons AV.weak.sl .nil));have o:=DA
 have m:=aa3.weak (us:=[.agg [.sl .full 0 [],.sl .full 0 [],.sl .full 0 [],.sl .full 0 [],.sl .full 0 [],.sl .full 0 [],.sl .full 0 [],.sl .full 0 [],.int .i64 0,.int .i64 0,.int .i64 0]]) (.cons (AV.weak.agg (by
  repeat (first | exact bD.nil | refine bD.cons bK ?_ | refine bD.cons (ay rfl) ?_)) (by simp [gz,qC,yV,cZ,zg,cH,uO,bu,AV.isCell])) .nil)
 have a0:=rA dB [0] [] 0 (OP (ak ⟨rfl,rfl,rfl,rfl⟩));have b:=a0.weak (us:=[.agg (gz dB),.sl .full 1 [[.int .i64 0]]]) (.cons (.refl _) (.cons AV.weak.sl .nil));have l:=rA dB [] [⟨9,7,0,0⟩] 0 IG;have e:=l.weak (us:=[.agg (gz dB),.sl .full 0 []]) (.cons (.refl _) (.cons bK .nil));have j:=(lY [⟨8,7,1,0⟩] [⟨8,7,1,0⟩] bq).weak (us:=[jr [⟨8,7,1,0⟩],.sl .full 4 [gQ ⟨8,7,1,0⟩]]) (.cons (.refl _) (.cons AV.weak.sl .nil));have p:=(lY [⟨8,7,2,0⟩,⟨11,1,5,0⟩] [⟨8,7,2,0⟩,⟨11,1,5,0⟩] bq).weak (us:=[jr [⟨8,7,2,0⟩,⟨11,1,5,0⟩],.sl .full 4 [gQ ⟨8,7,2,0⟩,gQ ⟨11,1,5,0⟩]]) (.cons (.refl _) (.cons AV.weak.sl .nil));have r:=(lY [⟨9,7,0,0⟩] [⟨9,7,0,0⟩] bq).weak (us:=[jr [⟨9,7,0,0⟩],.sl .full 4 [gQ ⟨9,7,0,0⟩]]) (.cons (.refl _) (.cons AV.weak.sl .nil));have n:(AV.sl .full 6 (Qc.map rwF)).weak (HQ Qc):=tK _ (fun x _=>bD.cons (ay rfl) (bD.cons (ay rfl) (bD.cons (ay rfl) (bD.cons (ay rfl) (bD.cons AV.weak.sl (bD.cons (ay rfl) bD.nil)))))) (fun x _ c a=>by simp [qr,bu] at a; rcases a with rfl | rfl | rfl | rfl | rfl | rfl <;> rfl) (fun k h=>by cases h);have fr:=(Bk Qc bq bq).weak (us:=[HQ Qc,.sl .full 6 (Qc.map rwF)]) (.cons (.refl _) (.cons n .nil));refine aM Nr Tryz.func4 ?_;intro F u w0 m0 hG f h1 kp
 repeat' first|refine aS ?_|((conv=>whnf); first|refine ae _ (aa (c0) ?_)|refine ae _ (aa (k0) ?_)|refine ae _ (aa (k1) ?_)|refine ae _ (aa (k2) ?_)|refine ae _ (aa (i) ?_)|refine ae _ (aa (d) ?_)|refine ae _ (aa (q) ?_)|refine ae _ (aa (t) ?_)|refine ae _ (aa (o) ?_)|refine ae _ (aa (m) ?_)|refine ae _ (aa (b) ?_)|refine ae _ (aa (e) ?_)|refine ae _ (aa (j) ?_)|refine ae _ (aa (p) ?_)|refine ae _ (aa (r) ?_)|refine ae _ (aa (fr) ?_)|refine aa bq (ae _ (aa rfl ?_))|refine ⟨fun h=>?_,fun h=>?_⟩|refine ak ?_)
 all_goals exact Ez
open Go Go.AI
set_option maxRecDepth 10000
set_option maxHeartbeats 64000000 in
theorem Xj (d:bS) (s:eo) (G:aq Tryz.prog 5 [.agg (fM d)] (.agg (gz s))) (E L:List yo) (v:aq Tryz.prog 6 [.agg (gz s),bu []] (.tup [jr L,.int .i64 0])) (n:L=E++s.prom.map (fun p=>⟨9,p,0,0⟩)) (y:∀ f∈E,f.k=5) (hl:L.length<=1000000) :
  aq Tryz.prog 3 [.agg (fM d)] (.bool true):=by
 have c0:=Jm;have c1:=v.weak (us:=[.agg (gz s),.sl .full 0 []]) (.cons (.refl _) (.cons bK .nil));have w:L.length=E.length+s.prom.length:=by rw [n]; simp
 have A:((L.map gQ).length:Int)=(L.length:Int):=by rw [az]
 have e:((s.prom.map (fun (h:Int)=>[AV.int .i64 h])).length:Int)=(s.prom.length:Int):=by rw [az]
 refine aM Ns Tryz.func3 ?_;intro F D w0 m0 hG x h1 kp;refine bz ?_;refine aJ.loop (X:=Nat) (fun i=>⟨[(7,.int .i64 i),(6,.int .i64 ((i - E.length:Nat):Int)),(5,.int .i64 0),(4,.sl .no 4 (L.map gQ)),(3,.loc 3 0)],[(3,gz s)]⟩) (fun i=>i<=L.length) (fun i=>L.length - i) 0 (aU _) (St.le.of ?_ ?_) (fun i hi=>?_)
 ·refine aa rfl (aa (by rw [Nat.zero_sub]; rfl) ?_);exact RF
 ·exact RF
 ·by_cases a:i<L.length
  ·have b:=dF (show (i:Int)<((L.map gQ).length:Int) by omega);have c:(L.map gQ)[(i:Int).toNat]?=some (gQ (L.getD i ⟨0,0,0,0⟩)):=cG gQ ⟨0,0,0,0⟩ a;by_cases q:i<E.length
   ·have u:(L.getD i ⟨0,0,0,0⟩).k=5:=by
     rw [n,aK,dp q,ai q];exact y _ (bT q)
    generalize L.getD i ⟨0,0,0,0⟩=f at *;obtain ⟨B,H,J,ft⟩:=f;simp only at u;subst u
    repeat' first|exact (b bf).elim|refine aS ?_|((conv=>whnf); first|refine aa (au i) (ae _ (aa c ?_))|refine ⟨fun h=>?_,fun h=>?_⟩|refine ak ?_)
    all_goals (refine ae (i+1) (aa a (aa ar (St.le.of ?_ ?_))))
    ·refine aa (ax some (bL ar)) (aa (ax (fun (z:Nat)=>some (AV.int .i64 (z:Int))) ar) ?_);exact RF
    ·exact RF
   ·obtain ⟨j,rfl⟩:∃ j,i=E.length+j:=⟨i - E.length,by omega⟩;have hj:j<s.prom.length:=by omega
    have hf:L.getD (E.length+j) ⟨0,0,0,0⟩=⟨9,s.prom.getD j 0,0,0⟩:=by
     rw [n,aK,cF ar,show E.length+j - E.length=j by omega,aQ,aK,ai hj]; rfl
    rw [hf] at c;rw [show E.length+j - E.length=j by omega];have m:(s.prom.map (fun (h:Int)=>[AV.int .i64 h]))[(j:Int).toNat]?=some [AV.int .i64 (s.prom.getD j 0)]:=cG (fun (h:Int)=>[AV.int .i64 h]) 0 hj;have l:=dT (show ¬((j:Int)>=((s.prom.map (fun (h:Int)=>[AV.int .i64 h])).length:Int)) by omega);generalize s.prom.getD j 0=p at *;have r:(!decide (p=p))=true->False:=fun h=>by simp at h
    have o:(p != p)=true->False:=fun h=>by simp at h
    repeat' first|exact (b bf).elim|exact (l bf).elim|exact (r bf).elim|exact (o bf).elim|refine aS ?_|((conv=>whnf); first|refine aa (au (E.length+j)) (ae _ (aa c ?_))|refine aa (au j) (ae _ (aa m ?_))|refine ⟨fun h=>?_,fun h=>?_⟩|refine ak ?_)
    all_goals (refine ae (E.length+j+1) (aa a (aa ar (St.le.of ?_ ?_))))
    ·refine aa (ax some (bL ar)) (aa ((ax some (bL ar)).trans (ax (fun (z:Nat)=>some (AV.int .i64 (z:Int))) ar)) ?_);exact RF
    ·exact RF
  ·have b:=dT (show ¬((i:Int)<((L.map gQ).length:Int)) by omega);have t:i - E.length=s.prom.length:=by omega
   rw [t];have l:(((s.prom.length:Nat):Int)==((s.prom.map (fun (h:Int)=>[AV.int .i64 h])).length:Int))=false->False:=fun h=>by rw [e] at h; simp at h
   refine bz ?_
   all_goals first
    | exact Ez
    | exact Ends.mk (ak rfl) (ay (ax AV.bool (by rw [e]; simp)))
open Go Go.AI
set_option maxRecDepth 100000
set_option maxHeartbeats 4000000
theorem cK.small {d:bS} (h:cK d):(ir d).Small where
 sats:=by have:=jJ d; show (fy d).length<=_; omega
 stas:=by show ((List.range 3).map (fF d)).length<=_; simp
 passes:=by have:=pV (d:=d); show (fz d).length<=_; omega
 ords:=by have:=pm d 4; show (Hn d 4).length<=_; omega
 opts:=by have:=OW d (by have:=jJ d; omega); show (cB d).length<=_; omega
 buns:=by have:=OX (d:=d); show (vO d).length<=_; omega
 prom:=by have:=DL d (d7 d).length; have:=pm d 4; show (vN d (d7 d).length).length<=_; unfold d7 at *; omega
 quo:=by show (yi d 16).length<=_; rw [uE d (ba _)]; omega
 slots:=fun o a=>by have:=(h.optB (o:=o) a).2.2.2.2.2.2.1; omega
 bopts:=fun b c=>by have:=(h.bun (u:=b) c).1; omega
theorem cK.fit {d:bS} (h:cK d):(ir d).Fit where
 toSmall:=h.small
 goals:=fun o a=>(h.ord (o:=o) a).2.1
 sl:=h.small.slots
theorem cK.quoG {d:bS} (h:cK d):∀ g,g<16->0<=(ir d).quo.getD g 0:=fun g a=>by
 show 0<=(yi d 16).getD g 0;rw [SE,aK,aQ,l9 a];exact (h.quoI g).1
theorem cK.cool {d:bS} (h:cK d):∀ x∈(ir d).sats,Dr x [] (ir d).a (ir d).b = -1:=fun x hx=>by
 obtain ⟨i,hi,rfl⟩:=cw (show x∈fy d from hx);have hf:=h.from_;have c:=h.satOK hi;rw [<- pj d hi] at c;have o:(ir d).b=aF d.t0 5000+200:=aZ ar ar;have m:(ir d).a=aF d.t0 5000:=rfl;rw [o,m]
 have n:CL (fy d)[i] []:=by
  simp only [kP,al,aP] at c;obtain ⟨⟨⟨_,_⟩,f,j,_⟩,_⟩:=c;have:=Dq f; have:=Dq j
  constructor <;> (try omega);exact aU _
 have e:0<=(fy d)[i] 18:=by
  simp only [kP,al,aP] at c;obtain ⟨⟨⟨_,_⟩,f,j,l⟩,_⟩:=c;have:=(Dq l).1;omega
 exact ZO _ n e ar
theorem cK.trk {d:bS} (h:cK d) {x:Nat->Int} (hx:x∈(ir d).sats):vU x [] (ir d).passes (ir d).a (ir d).b=true:=by
 have hf:=h.from_;have f:(ir d).b=aF d.t0 5000+200:=aZ ar ar;have j:(ir d).a=aF d.t0 5000:=rfl;obtain ⟨i,hi,rfl⟩:=cw (show x∈fy d from hx);have h1:=h.satOK hi;rw [<- pj d hi] at h1;have h2:lc (ir d).a (ir d).b=true:=BX.2 ar;have c:bW ((ir d).b - (ir d).a)=200:=(aZ ar ar).trans ar;have e:jq (ir d).passes=true:=h.passOK;simp only [vU,h1,h2,c,e,LZ,bG,cr];rfl
theorem HB (x:Nat->Int) (a b:Int):(vT x a b).length<=5:=by
 unfold vT;split <;> simp
theorem aaK (d:bS) (c:cK d):aq Tryz.prog 3 [.agg (fM d)] (.bool true):=by
 have hf:=c.from_;have q:(ir d).b=aF d.t0 5000+200:=aZ ar ar;have r:(ir d).a=aF d.t0 5000:=rfl
 have n:∀ x∈(ir d).sats,(vT x (ir d).a (ir d).b).length<=5/\aq Tryz.prog 29 [.agg (bM x),cH [],cZ (ir d).passes,.agg (cj (ir d).a (ir d).b)] (.tup [jr (vT x (ir d).a (ir d).b),.int .i64 0]):=fun x hx=>by
  have e:=c.trk hx;have l:kP x=true:=by simp only [vU,al] at e; exact e.1.1.2
  have i:=l;simp only [kP,cQ,al,aP] at i;refine ⟨HB _ _ _,Tu c.small.passes e l (by simp only [cQ,al,aP]; omega) ?_ ?_ (c.cool x hx)⟩
  ·simp only [wY,al,aP];grind [aZ]
  ·have j:bW ((ir d).b - (ir d).a)=200:=(aZ ar ar).trans ar;simp only [kY,l,j,show lc (ir d).a (ir d).b=true from BX.2 ar,bG,cr];rfl
 have h2:=Dy (fun x=>vT x (ir d).a (ir d).b) 5 (ir d).sats (fun x _=>HB _ _ _);have j:(ir d).sats.length<=100:=by have:=jJ d; show (fy d).length<=_; omega
 have m:(ir d).prom.length<=1000:=by have:=DL d (d7 d).length; have:=pm d 4; show (vN d (d7 d).length).length<=_; unfold d7 at *; omega
 refine Xj d (ir d) (Q8 d c.toH) _ _ (xW (ir d) c.fit c.ok j (fun x=>vT x (ir d).a (ir d).b) n _ (fun b G hG=>xX b (ir d) c.small (fun o p=>by have:=(c.ord (o:=o) p).2.2.2.2.2; omega) c.quoG (uE d (ba _)) m G hG) fun b id=>aap b (ir d) id) rfl (fun f hf=>?_) ?_
 ·obtain ⟨x,hx,h⟩:=pT.1 hf;unfold vT at h;split at h <;> grind
 ·rw [bY,az];omega
end Go.Proofs
namespace Go.Proofs.YtapmehbkgihgaaaGreatDoor
open Go Go.AI
theorem qF:Rows.PlanNothingSaid:=QI fun avs h=>by
 obtain ⟨cs,q,rfl,h1,h⟩:=Pw h;obtain rfl:=Pv h;obtain ⟨d,a,rfl⟩:=W6 h1;exact Go.Proofs.aaK d a
theorem planNothing:Rows.PlanNothingCardSaid:=
 Claim7.holds_tied_plain_at .later [] [.data,.data] true Rows.planNothingCard.stood.harness false
  qF (fun _ h=>by cases h) aI (fun _ h=>by cases h) planNothing_row_tie rfl ⟨rfl,rfl⟩ aI rfl
  (fun f fn hf b=>by
   obtain rfl:f=3:=iK ((show Tryz.prog.funcNamed "nadir/nadirlaw22.PlanNothing" = some 3 by kernel_rfl).symm.trans hf) |>.symm;obtain rfl:fn=Tryz.f3:=(iK (Tryz.func3.symm.trans b)).symm
   exact ⟨by kernel_rfl,fun j t c=>by
    have a:(Tryz.f3.params.all fun u => !Tryz.pinned.checked.prog.wantsStandIn u)=true:=by kernel_rfl
    obtain ⟨hj,rfl⟩:=aO.1 c;have:=Array.all_eq_true.1 a j hj;simpa using this⟩)
  (Go.Proofs.goes_none Go.Proofs.XZ rfl)
end Go.Proofs.YtapmehbkgihgaaaGreatDoor
