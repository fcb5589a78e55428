/- Part 7 of the proof: an abstract interpreter for the code, contracts of the functions, and plain facts; the conditions are those typed. -/
import Derived.Test.YthjhnnmcdhokcaaGreatDoorNF
set_option linter.unusedSectionVars false
set_option linter.unusedVariables false
set_option linter.unusedSimpArgs false
namespace Go.AI
open Go
abbrev iD:=@List.findIdx?_eq_some_iff_getElem
abbrev wk:=@List.flatMap_cons
abbrev LO:=@Nat.sub_lt_sub_left
abbrev Xm:=@ne_of_beq_false
abbrev abp:=@Nat.lt_succ_iff_lt_or_eq
end Go.AI
namespace Go.Proofs
open Go Go.AI
set_option maxRecDepth 10000
theorem LC (n c:Int) (a:c≠0):ar Tryz.prog 302 [.int .i64 n,.int .i64 c] (.int .i64 (arL n c)):=by
 refine aM Fk Tryz.func302 ?_;intro F d w0 m0 hG b h1 kp
 repeat' first|refine aQ ?_|((conv=>whnf); first|refine aa a ?_|refine ⟨fun h=>?_,fun h=>?_⟩|refine aj ?_)
 all_goals refine Ei ?_
 all_goals (unfold arL; first | (rw [aV (aF a8)] <;> rfl) | (rw [aY (aR a8)] <;> rfl))
theorem LD (o:Nat->Int) (t late:Int):ar Tryz.prog 301 [.agg (d7 o),.int .i64 t,.int .i64 late] (.bool (sS o t late)):=by
 refine aM Fl Tryz.func301 ?_;intro F b w0 m0 hG a h1 kp
 repeat' first|refine aQ ?_|((conv=>whnf); first|refine ae _ (aa (LF _ _ _) ?_)|refine ae _ (aa (AZ o) ?_)|refine ⟨fun h=>?_,fun h=>?_⟩|refine aj ?_)
 all_goals refine Eb ?_
 all_goals simp only [sS, *,bG,cH,bE,bN]
theorem VR (o:Nat->Int) (t late:Int):ar Tryz.prog 259 [.agg (d7 o),.int .i64 t,.int .i64 late] (.tup [.int .i64 (Mr o t late),.int .i64 (Z4 (sS o t late))]):=by
 have a:=LD o t late;cases h:sS o t late
 ·rw [h] at a;rw [show Mr o t late=0 by simp [Mr,h]];refine aM vB Tryz.func259 ?_;intro F d w0 m0 hG c h1 kp;refine bv ?_
  all_goals exact Ez
 ·rw [h] at a;have b:=LC (cm (cm (t - late)+o 1)) (o 0) (Xg h);rw [abL h] at b;rw [show Mr o t late=rowW o (cm (t - late)) by simp [Mr,h]];refine aM vB Tryz.func259 ?_;intro F d w0 m0 hG c h1 kp
  repeat' first|refine aQ ?_|((conv=>whnf); first|refine ae _ (aa (a) ?_)|refine ae _ (aa (b) ?_)|refine aa (Xg h) ?_|refine ⟨fun h=>?_,fun h=>?_⟩|refine aj ?_)
  all_goals exact Ez
theorem VQ (o:Nat->Int) (t late:Int):ar Tryz.prog 260 [.agg (d7 o),.int .i64 t,.int .i64 late] (.tup [.int .i64 (Nb o t late),.int .i64 (Z4 (sS o t late))]):=by
 have a:=LD o t late;cases h:sS o t late
 ·rw [h] at a;rw [show Nb o t late=0 by simp [Nb,h]];refine aM vA Tryz.func260 ?_;intro F d w0 m0 hG b h1 kp;refine bv ?_
  all_goals exact Ez
 ·rw [h] at a;have c:=LC (cm (o 4+cm (o 5*cm (t - late)))) 48000 bt;rw [ace h] at c;rw [show Nb o t late=Jp o (cm (t - late)) by simp [Nb,h]];refine aM vA Tryz.func260 ?_;intro F d w0 m0 hG b h1 kp;refine bv ?_
  all_goals exact Ez
theorem VO (o:Nat->Int) (t late:Int):ar Tryz.prog 197 [.agg (d7 o),.int .i64 t,.int .i64 late] (.tup [.agg (fg (Nf o t late)),.int .i64 (Z4 (sS o t late))]):=by
 have a:=VR o t late;have b:=VQ o t late;cases h:sS o t late
 ·rw [h] at a b;rw [show Nf o t late=(0,0) by simp [Nf,h]];refine aM vH Tryz.func197 ?_;intro F d w0 m0 hG c h1 kp;refine bv ?_
  all_goals exact Ez
 ·rw [h,show Mr o t late=rowW o (cm (t - late)) by simp [Mr,h]] at a;rw [h,show Nb o t late=Jp o (cm (t - late)) by simp [Nb,h]] at b;rw [show Nf o t late=kV o (cm (t - late)) by simp [Nf,h]];refine aM vH Tryz.func197 ?_;intro F d w0 m0 hG c h1 kp
  repeat' first|refine aQ ?_|((conv=>whnf); first|refine ae _ (aa (a) ?_)|refine ae _ (aa (b) ?_)|refine aa bt ?_|refine ⟨fun h=>?_,fun h=>?_⟩|refine aj ?_)
  all_goals exact Ez
open Go Go.AI
set_option maxRecDepth 10000
theorem Dc (t:Int):ar Tryz.prog 257 [.int .i64 t] (.bool (cT t 0 1000000)):=by
 refine aM FK Tryz.func257 ?_;intro F b w0 m0 hG a h1 kp
 repeat' first|refine aQ ?_|((conv=>whnf); first|refine ⟨fun h=>?_,fun h=>?_⟩|refine aj ?_)
 all_goals refine Eb ?_
 all_goals (simp_all [cT] <;> omega)
theorem rZ (n:Int) (h:small n):ar Tryz.prog 258 [.int .i64 n] (.int .i64 (iU n)):=by
 obtain ⟨h1,h2⟩:=h;obtain ⟨g1,g2⟩:=td3 n;obtain ⟨g3,g4⟩:=td3 (2 - n);have d:IntKind.i64.wrap (2 - n)=2 - n:=a6 am am;have c:IntKind.i64.wrap ((2 - n).tdiv 3)=(2 - n).tdiv 3:=a6 am am;have e:IntKind.i64.wrap (0 - (2 - n).tdiv 3)=0 - (2 - n).tdiv 3:=a6 am am;have f:IntKind.i64.wrap (n.tdiv 3)=n.tdiv 3:=a6 am am;have a:=t8 (n:=n) ⟨h1,h2⟩;refine aM FJ Tryz.func258 ?_;intro F i w0 m0 hG b h1 kp
 repeat' first|refine aQ ?_|((conv=>whnf); first|refine aa bt ?_|refine ⟨fun h=>?_,fun h=>?_⟩|refine aj ?_)
 ·have:=aF (by assumption:decide (n>=0)=true);exact Ends.mk (aj rfl) (az (ax (AV.int .i64) (by rw [f,a]; omega)))
 ·have:=aR (by assumption:decide (n>=0)=false);exact Ends.mk (aj rfl) (az (ax (AV.int .i64) (by rw [d,c,e,a]; omega)))
theorem Dd (a b:Int) (l:small a) (e:small b):ar Tryz.prog 196 [.int .i64 a,.int .i64 b] (.int .i64 (qf a b)):=by
 obtain ⟨o,a2⟩:=l;obtain ⟨b1,n⟩:=e;have c:cm (a - b)=a - b:=a6 am am;have d:cm (b - a)=b - a:=a6 am am;have j:IntKind.i64.wrap (a - b)=a - b:=c;have i:IntKind.i64.wrap (b - a)=b - a:=d;refine aM Gi Tryz.func196 ?_;intro F m w0 m0 hG f h1 kp
 repeat' first|refine aQ ?_|((conv=>whnf); first|refine ⟨fun h=>?_,fun h=>?_⟩|refine aj ?_)
 ·have:=aF (by assumption:decide (a<b)=true);exact Ends.mk (aj rfl) (az (ax (AV.int .i64) (by unfold qf; rw [i,c,d]; omega)))
 ·have:=aR (by assumption:decide (a<b)=false);exact Ends.mk (aj rfl) (az (ax (AV.int .i64) (by unfold qf; rw [j,c,d]; omega)))
theorem Rk (t:Int) (h:cT t 0 1000000=true):ar Tryz.prog 193 [.int .i64 t] (.tup [.int .i64 (sG t),.int .i64 0]):=by
 have k:=Dc t;rw [h] at k;refine aM Gl Tryz.func193 ?_;intro F b w0 m0 hG a h1 kp
 repeat' first|refine aQ ?_|((conv=>whnf); first|refine ae _ (aa (k) ?_)|refine ae _ (aa (rZ _ (TJ h)) ?_)|refine aa bt ?_|refine ⟨fun h=>?_,fun h=>?_⟩|refine aj ?_)
 all_goals exact Ez
theorem Rj (t:Int) (h:cT t 0 1000000=true):ar Tryz.prog 194 [.int .i64 t] (.tup [.int .i64 (jo t),.int .i64 0]):=by
 have k:=Dc t;rw [h] at k;obtain ⟨h1,h2,c⟩:=Tn h;have k1:=rZ _ h1;have k2:=rZ _ h2;have k3:=rZ _ c;have m1:cm (100*iA t)=cm (iA t*100):=by rw [oe]
 have m2:cm (100*cm (180 - iA t))=cm (cm (180 - iA t)*100):=by rw [oe]
 have m3:cm (100*cm (iA t - 360))=cm (cm (iA t - 360)*100):=by rw [oe]
 refine aM Gk Tryz.func194 ?_;intro F e w0 m0 hG d h1 kp
 repeat' first|refine aQ ?_|((conv=>whnf); first|refine ae _ (aa (k) ?_)|refine ae _ (aa (k1) ?_)|refine ae _ (aa (k2) ?_)|refine ae _ (aa (k3) ?_)|refine aa bt ?_|refine ⟨fun h=>?_,fun h=>?_⟩|refine aj ?_)
 ·have b:iA t<=90:=aF a8;exact Ends.mk (aj rfl) (az (ax (fun z=>AV.tup [.int .i64 z,.int .i64 0]) (by rw [jo,aV b,m1]; rfl)))
 ·have b:¬ iA t<=90:=aR a8;have a:iA t<=270:=aF a8;exact Ends.mk (aj rfl) (az (ax (fun z=>AV.tup [.int .i64 z,.int .i64 0]) (by rw [jo,aY b,aV a,m2]; rfl)))
 ·have b:¬ iA t<=90:=aR a8;have a:¬ iA t<=270:=aR a8;exact Ends.mk (aj rfl) (az (ax (fun z=>AV.tup [.int .i64 z,.int .i64 0]) (by rw [jo,aY b,aY a,m3]; rfl)))
theorem Ri (c:Int×Int):ar Tryz.prog 195 [.agg (fg c)] (.bool (kE c)):=by
 refine aM Gj Tryz.func195 ?_;intro F b w0 m0 hG a h1 kp
 repeat' first|refine aQ ?_|((conv=>whnf); first|refine ⟨fun h=>?_,fun h=>?_⟩|refine aj ?_)
 all_goals refine Eb ?_
 all_goals (simp_all [kE,cT] <;> omega)
theorem Rn (c:Int×Int) (t:Int) (h:cT t 0 1000000=true) (b:kE c=true):ar Tryz.prog 123 [.agg (fg c),.int .i64 t] (.tup [.int .i64 (jO c t),.int .i64 0]):=by
 have a:=Ri c;rw [b] at a;have f:=UK b;have s1:small (cm (cm (1000*c.1)+500)):=by unfold small; rw [a6 (n:=1000*c.1) am am,a6 am am]; omega
 have s2:small (cm (cm (1000*c.2)+500)):=by unfold small; rw [a6 (n:=1000*c.2) am am,a6 am am]; omega
 have k1:=Dd _ _ s1 (TH t);have k2:=Dd _ _ s2 (Mn h);refine aM Hf Tryz.func123 ?_;intro F e w0 m0 hG d h1 kp
 repeat' first|refine aQ ?_|((conv=>whnf); first|refine ae _ (aa (Rk t h) ?_)|refine ae _ (aa (Rj t h) ?_)|refine ae _ (aa (a) ?_)|refine ae _ (aa (k1) ?_)|refine ae _ (aa (k2) ?_)|refine aa bt ?_|refine ⟨fun h=>?_,fun h=>?_⟩|refine aj ?_)
 all_goals exact Ends.mk (aj rfl) (az (ax (fun z=>AV.tup [.int .i64 z,.int .i64 0]) (by unfold jO; simp only []; rw [oe 75]; rfl)))
open Go Go.AI
set_option maxRecDepth 10000
theorem RI (a b:Int):ar Tryz.prog 235 [.agg [.int .i64 a,.int .i64 b]] (.bool (Cz a b)):=by
 refine ar.of af FZ Tryz.func235 rfl aK bj aK (ah rfl) ?_;intro F n w0 m0 hG c h1
 repeat' first|refine cZ ?_|refine cY ?_|refine aa (fun h=>?_) (fun h=>?_)
 all_goals refine Eb ?_
 all_goals (simp_all [Cz,cm] <;> first | rfl | (intros; omega))
theorem RB (n a b:Int):ar Tryz.prog 292 [.int .i64 n,.int .i64 a,.int .i64 b] (.bool (decide (a<=n)&&decide (n<=b))):=by
 refine ar.of af Ft Tryz.func292 rfl aK bj aK (ah rfl) ?_;intro F n w0 m0 hG c h1
 repeat' first|refine cZ ?_|refine cY ?_|refine aa (fun h=>?_) (fun h=>?_)
 all_goals refine Eb ?_
 all_goals simp_all <;> omega
theorem RE (s:Nat->Int) (l:List gW) (a b:Int):ar Tryz.prog 282 [.agg (bR s),kJ l,.agg (cA a b)] (.clo 316 (qV s l a b)):=by
 refine ar.of af FA Tryz.func282 rfl aK bj aK (ah rfl) ?_;intro F n w0 m0 hG c h1;refine Ends.mk (aj rfl) (az rfl)
theorem Rx (s:Nat->Int) (l:List gW) (a b:Int) (r:0<=a) (q:b<=1000000) (hl:l.length<=1000000):L4 Tryz.prog Tz 316 (qV s l a b) (pg s l a b):=by
  refine L4.of af pF Tryz.func316 rfl aK bj aK (ah rfl) rfl (fun l=>by kernel_rfl) ?_;intro F n m y J Jx hY
  refine YP.loop (X:=Nat) (fun i=>((false,i),⟨(5,.int .i64 (a+i))::params 0 (.lit (.func (.yield y) #[] #[])::qV s l a b),[]⟩)) (fun i=>i<=(b - a).toNat) (fun i=>(b - a).toNat - i) 0 (aZ _) rfl
    (St.le.of ?_ ?_) (fun i hi=>?_)
  · refine aa (ax (fun z=>some (AV.int .i64 z)) (show a=a+((0:Nat):Int) by omega)) ?_;exact RF
  · exact trivial
  · refine fB (keep:=pF) hY af _ _ _ _ aK aK ?_;refine aa (fun h=>?_) (fun h=>?_)
    · refine UW hY.round aK (fun p c=>SP.loop (X:=Nat) (fun j=>⟨(22,.int .i64 j)::(6,.int .i64 (Ai (s 16) (s 17) (a+i) (l.take j)))::(20,kJ l)::(21,.int .i64 (l.map lK).length)::(5,.int .i64 (a+i))::params 0 (.lit (.func (.yield y) #[] #[])::qV s l a b),[]⟩)
        (fun j=>j<=l.length) (fun j=>l.length - j) 0 (aZ _) (St.le.of ?_ ?_) (fun j hj=>?_))
      · exact RF
      · exact trivial
      · refine eM (keep:=pF) (hY.base p c) af _ _ _ aK ?_;refine aa (fun h=>?_) (fun h=>?_)
        · have f:j<l.length:=by have:=aF h; simp at this; omega
          have hx:(l.map lK)[(j:Int).toNat]?=some (lK l[j]):=by simp [ai f]
          have d:l.take (j+1)=l.take j++[l[j]]:=by rw [eN,ai f]; rfl
          refine aa am (ae (lK l[j]) (aa hx ?_))
          repeat' (conv=>whnf
                   first
                   | refine cZ ?_
                   | refine cY ?_
                   | refine aa (fun h=>?_) (fun h=>?_))
          all_goals refine ae (j+1) (aa f (aa am (St.le.of ?_ trivial)))
          all_goals refine aa (ax (fun z=>some (AV.int .i64 z)) ((a6 am am).trans am)) ?_
          · refine aa (ax (fun z=>some (AV.int .i64 z)) ?_) ?_
            · rw [d,tx];simp only [L7, *];rfl
            · exact RF
          · refine aa (ax (fun z=>some (AV.int .i64 z)) ?_) ?_
            · rw [d,tx];simp only [L7, *];rfl
            · exact RF
          · refine aa (ax (fun z=>some (AV.int .i64 z)) ?_) ?_
            · rw [d,tx];simp only [L7, *];rfl
            · exact RF
        · have e:l.take j=l:=bA (by have:=aR h; simp at this; omega);have o:i<(b - a).toNat:=by have:=aF (by assumption:decide (a+(i:Int)<b)=true); omega
          refine aa rfl (ae (a+(i:Int),Ai (s 16) (s 17) (a+i) (l.take j)) (aa ?_ (aa rfl (aa ?_ ?_))))
          · rw [e]; simp [pg,aT,sd o]
          · refine cZ ?_;refine ae (i+1) (aa o (aa am (aa rfl (St.le.of ?_ trivial))));refine aa (ax (fun z=>some (AV.int .i64 z)) ((a6 am am).trans am)) ?_;exact RF
          · refine cY ?_;exact iL.mk (aj rfl) (bw rfl)
    · refine iL.mk (bw rfl) (aj ?_);simp [pg];have:=aR h;omega
theorem RH (s:Nat->Int) (l:List gW) (a b:Int) (u:0<=a) (q:a<=b) (r:b<=1000000) (hl:l.length<=1000000) :
  ar Tryz.prog 236 [.agg (bR s),kJ l,.agg (cA a b)] (bB (jP (pg s l a b)).2):=by
 refine ar.of af pP Tryz.func236 rfl aK bj aK (ah rfl) ?_;intro F n w0 m0 hG t h1;have d:cm (b - a)=b - a:=a6 am am;have d:IntKind.i64.wrap (b - a)=b - a:=d;refine aa am ?_
 conv=>whnf
 rw [d];refine aa am (aa (show (b - a).toNat*8<=70368744177664 by omega) (aa am ?_));refine ae _ (aa (RE s l a b) ?_)
 refine kk hG h1 (α:=Int×Int) (fun p=>[.int .i64 p.1,.int .i64 p.2]) (f:=316) (cap:=qV s l a b) (items:=pg s l a b) rfl (vZ (Rx s l a b u r hl) (fun _=>rfl) ?_) (fun _=>rfl)
  (fun _=>[(7,.loc 7 0),(8,.loc 8 0)]) [7,8] (fun _=>rfl) Zw (St.le.of ?_ ?_) aK bt ?_ ?_
 ·intro m x i c v h1 h2
  match i,h1,h2 with
  | 0,h1,h2=>cases h1; cases h2; exact .int _ _
  | 1,h1,h2=>cases h1; cases h2; exact .int _ _
 ·exact RF
 ·exact RF
 ·intro y w m' e _ _ pre x rest L7;refine eM (keep:=pP) e af _ _ _ aK ?_;have hlen:(pg s l a b).length<=1000000:=by simp [pg]; omega
  have o:pre.length<1000000:=by rw [L7] at hlen; simp at hlen; omega
  have j:((jP pre).2.map fun h=>[AV.int .i64 h]).length=pre.length:=by rw [ay,xQ]
  refine aa rfl (aa (LE) (eM (keep:=pP) e af _ _ _ aK ?_))
  ·refine aa (show (_+1)*8<=70368744177664 by rw [j]; omega) (aa (show _+1<=4611686018427387904 by rw [j]; omega) ?_);refine St.le.of ?_ ?_
   ·exact RF
   ·refine aa ?_ (aa ?_ trivial)
    ·rw [uO]; rfl
    ·rw [uO,dw]; rfl
 ·exact Ez
theorem RA (x:gW):ar Tryz.prog 289 [.agg (lK x)] (.bool (decide (0<=x.a)&&decide (x.a<x.b)&&decide (x.b<=1000000))):=by
  refine ar.of af Fw Tryz.func289 rfl aK bj aK (ah rfl) ?_;intro F d w0 m0 hG c h1
  repeat' (conv=>whnf
           first
           | refine cZ ?_
           | refine cY ?_
           | refine aa (fun h=>?_) (fun h=>?_))
  all_goals refine Eb ?_
  all_goals (simp_all <;> first | rfl | (intros; omega) | (intros; simp_all; done) | (intros; simp_all; omega))
theorem Rz (x:gW):ar Tryz.prog 290 [.agg (lK x)] (.bool (decide (cm (x.b - x.a)<=60))):=by
  refine ar.of af Fv Tryz.func290 rfl aK bj aK (ah rfl) ?_;intro F d w0 m0 hG c h1
  repeat' (conv=>whnf
           first
           | refine cZ ?_
           | refine cY ?_
           | refine aa (fun h=>?_) (fun h=>?_))
  all_goals refine Eb ?_
  all_goals rfl
theorem Ry (s:Nat->Int) (x:gW):ar Tryz.prog 291 [.agg (lK x),.ref (bR s)] (.bool (cT x.k (cm (0 - s 9)) (s 9))):=by
  refine ar.of af Fu Tryz.func291 rfl aK bj aK (ah rfl) ?_;intro F b w0 m0 hG a h1
  repeat' (conv=>whnf
           first
           | refine cZ ?_
           | refine cY ?_
           | refine ae _ (aa (RB _ _ _) ?_)
           | refine aa (fun h=>?_) (fun h=>?_))
  all_goals refine Eb ?_
  all_goals rfl
open Go Go.AI
set_option maxRecDepth 10000
theorem RK (s:Nat->Int) (l:List gW) (hl:l.length<=1000000):ar Tryz.prog 249 [.agg (bR s),kJ l] (.bool (Re s l)):=by
 refine ar.of af pN Tryz.func249 rfl aK bj aK (ah rfl) ?_;intro F p w0 m0 hG n h1
 refine SP.loop (X:=Nat) (fun i=>⟨[(14,.int .i64 i),(13,.int .i64 (l.map lK).length),(12,kJ l),(1,kJ l),(5,.loc 5 0)],[(5,[.fn 289,.fn 290,.clo 291 [.ref (bR s)]])]⟩)
  (fun i=>i<=l.length/\(l.take i).all (UV s)=true) (fun i=>l.length - i) 0 ⟨aZ _,rfl⟩ (St.le.of ?_ ?_) (fun i hi=>?_)
 ·exact RF
 ·exact RF
 ·obtain ⟨hi,b⟩:=hi;refine eM (keep:=pN) hG af _ _ _ aK ?_;refine aa (fun h=>?_) (fun h=>?_)
  ·have c:i<l.length:=by have:=aF h; simp at this; omega
   have hx:(l.map lK)[(i:Int).toNat]?=some (lK l[i]):=by simp [ai c]
   have d:∀ j,j<3->Yw s l[i] j=false->false=Re s l:=fun j hj hf=>by
    have:UV s l[i]=false:=by
     rw [OB];obtain rfl | rfl | rfl:j=0\/j=1\/j=2:=by omega
     ·rw [hf]; rfl
     ·grind
     ·rw [hf,bN]
    rw [Re,Yb c this]; rfl
   refine aa am (ae (lK l[i]) (aa hx ?_))
   refine SP.loop (X:=Nat) (fun j=>⟨[(19,.int .i64 j),(18,.agg [.fn 289,.fn 290,.clo 291 [.ref (bR s)]]),(7,.loc 7 0),(14,.int .i64 i),(13,.int .i64 (l.map lK).length),(12,kJ l),(1,kJ l),(5,.loc 5 0)],
     [(7,lK l[i]),(5,[.fn 289,.fn 290,.clo 291 [.ref (bR s)]])]⟩)
    (fun j=>j<=3/\∀ k,k<j->Yw s l[i] k=true) (fun j=>3 - j) 0 ⟨aZ _,fun k hk=>absurd hk (mK _)⟩ (St.le.of ?_ ?_) (fun j hj=>?_)
   ·exact RF
   ·exact RF
   ·obtain ⟨hj,a⟩:=hj;refine eM (keep:=pN) hG af _ _ _ aK ?_;refine aa (fun h=>?_) (fun h=>?_)
    ·have o:j<3:=by have:=aF h; omega
     have step:∀ {k:Nat},k<3->(∀ q,q<k->Yw s l[i] q=true)->Yw s l[i] k=true->∀ q,q<k+1->Yw s l[i] q=true:=fun hk f r q m=>by
      grind
     obtain rfl | rfl | rfl:j=0\/j=1\/j=2:=by omega
     ·refine aa (qq dc) (aa dc (aa (ah rfl) ?_));refine ae _ (aa (RA l[i]) ?_);refine aa (fun h2=>?_) (fun h2=>?_)
      ·exact Ends.mk (aj rfl) (az (ax AV.bool (d 0 am (DP h2))))
      ·refine ae 1 (aa ⟨by omega,step am a (zO h2)⟩ (aa am (LE)))
     ·refine aa (qq dc) (aa dc (aa (ah rfl) ?_));refine ae _ (aa (Rz l[i]) ?_);refine aa (fun h2=>?_) (fun h2=>?_)
      ·exact Ends.mk (aj rfl) (az (ax AV.bool (d 1 am (DP h2))))
      ·refine ae 2 (aa ⟨by omega,step am a (zO h2)⟩ (aa am (LE)))
     ·refine aa (qq dc) (aa dc (aa (ah rfl) ?_));refine ae _ (aa (Ry s l[i]) ?_);refine aa (fun h2=>?_) (fun h2=>?_)
      ·exact Ends.mk (aj rfl) (az (ax AV.bool (d 2 am (DP h2))))
      ·refine ae 3 (aa ⟨by omega,step am a (zO h2)⟩ (aa am (LE)))
    ·have e:j=3:=by have:=aR h; omega
     subst e;have f:UV s l[i]=true:=by rw [OB,a 0 am,a 1 am,a 2 am]; rfl
     refine ae (i+1) (aa ⟨c,UU c b f⟩ (aa am (LE)))
  ·have e:l.take i=l:=bA (by grind);rw [e] at b;refine Eb ?_;simp only [Re,b,bG,ay];grind
theorem xf (s:Nat->Int) (l:List gW) (hl:l.length<=1000000):ar Tryz.prog 169 [.agg (bR s),kJ l] (.bool (Re s l&&ny s)):=by
  refine ar.of af GJ Tryz.func169 rfl aK bj aK (ah rfl) ?_;intro F b w0 m0 hG a h1
  repeat' (conv=>whnf
           first
           | refine cZ ?_
           | refine cY ?_
           | refine ae _ (aa (RK s l hl) ?_)
           | refine ae _ (aa (rz s) ?_)
           | refine aa (fun h=>?_) (fun h=>?_))
  all_goals refine Eb ?_
  all_goals grind
theorem RJ (s:Nat->Int) (x y:gW):ar Tryz.prog 170 [.agg (bR s),.agg (lK x),.agg (lK y)] (.bool (XI s x y)):=by
  refine ar.of af GI Tryz.func170 rfl aK bj aK (ah rfl) ?_;intro F b w0 m0 hG a h1
  repeat' (conv=>whnf
           first
           | refine cZ ?_
           | refine cY ?_
           | refine aa (fun h=>?_) (fun h=>?_))
  all_goals refine Eb ?_
  · rw [XI,aV (aF a8)]; rfl
  · rw [XI,aY (aR a8)]; rfl
theorem Df (s:Nat->Int) (l:List gW) (hl:l.length<=1000000) (hv:yn s l=true):ar Tryz.prog 87 [.agg (bR s),kJ l] (.tup (YC (xA s l))):=by
 refine ar.of af kh Tryz.func87 rfl aK bj aK (ah rfl) ?_;intro F p w0 m0 hG o h1;refine SP.scopeEnds (eM (keep:=kh) hG af _ _ _ aK ?_);refine ae _ (aa (xf s l hl) ?_);refine aa (fun n=>?_) (fun n=>?_)
 ·grind [DP,yn]
 ·refine SP.loop (X:=Nat) (fun k=>⟨[(16,.int .i64 k),(15,.int .i64 (l.map lK).length),(1,kJ l),(2,.loc 2 0),(4,.int .i64 0),(5,.int .i64 0),(6,.bool false)],[(2,bR s)]⟩)
   (fun k=>k<=l.length/\∀ j,j<k->YA s l j=none) (fun k=>l.length - k) 0 ⟨aZ _,fun k hk=>absurd hk (mK _)⟩ (St.le.of ?_ ?_) (fun k hk=>?_)
  ·exact RF
  ·exact RF
  ·obtain ⟨hk,c⟩:=hk;refine eM (keep:=kh) hG af _ _ _ aK ?_;refine aa (fun h=>?_) (fun h=>?_)
   ·have b:k<l.length:=by have:=aF h; simp at this; omega
    have f:(l.map lK)[(k:Int).toNat]?=some (lK (xZ l k)):=by simp [JG b,ai b]
    refine SP.loop (X:=Nat) (fun i=>⟨[(20,.int .i64 i),(19,.int .i64 k),(8,.int .i64 k),(16,.int .i64 k),(15,.int .i64 (l.map lK).length),(1,kJ l),(2,.loc 2 0),(4,.int .i64 0),(5,.int .i64 0),(6,.bool false)],[(2,bR s)]⟩)
     (fun i=>i<=k/\∀ j,j<i->OF s l k j=none) (fun i=>k - i) 0 ⟨aZ _,fun k hk=>absurd hk (mK _)⟩ (St.le.of ?_ ?_) (fun i hi=>?_)
    ·exact RF
    ·exact RF
    ·obtain ⟨hi,a⟩:=hi;refine eM (keep:=kh) hG af _ _ _ aK ?_;refine aa (fun h=>?_) (fun h=>?_)
     ·have d:i<k:=by have:=aF h; simp at this; omega
      have m:(l.map lK)[(i:Int).toNat]?=some (lK (xZ l i)):=by simp [JG (Nat.lt_trans d b),ai (Nat.lt_trans d b)]
      refine aa am (ae _ (aa m ?_));refine aa am (ae _ (aa f ?_));refine ae _ (aa (RJ s (xZ l i) (xZ l k)) ?_);refine aa aK ?_;refine aa (fun h2=>?_) (fun h2=>?_)
      ·have e:xA s l=some (i,k):=C1 b c (C1 d a (by rw [OF,DP h2]; rfl));refine Ends.mk (aj rfl) (az ?_);rw [e]; rfl
      ·refine ae (i+1) (aa ⟨d,fun j hj=>?_⟩ (aa am (LE)))
       ·rcases abp.1 hj with h | rfl
        ·exact a j h
        ·rw [OF,zO h2]; rfl
     ·have e:i=k:=by have:=aR h; simp at this; omega
      subst e;refine ae (i+1) (aa ⟨b,fun j hj=>?_⟩ (aa am (LE)))
      ·rcases abp.1 hj with h | rfl
       ·exact c j h
       ·exact C2 a
   ·have e:k=l.length:=by have:=aR h; simp at this; omega
    refine Ends.mk (aj rfl) (az ?_);rw [show xA s l=none from C2 (e ▸ c)]; rfl
theorem RG (s:Nat->Int) (h:Int):ar Tryz.prog 237 [.int .i64 h,.ref (bR s)] (.bool (decide (h>s 18))):=by
  refine ar.of af FY Tryz.func237 rfl aK bj aK (ah rfl) ?_;intro F b w0 m0 hG a h1
  repeat' (conv=>whnf
           first
           | refine cZ ?_
           | refine cY ?_
           | refine aa (fun h=>?_) (fun h=>?_))
  all_goals exact Ez
theorem RL (s:Nat->Int) (l:List gW) (a b:Int) (hl:l.length<=1000000) (d:Cz a b=true) (hv:yn s l=true):ar Tryz.prog 156 [.agg (bR s),kJ l,.agg (cA a b)] (.tup [.int .i64 (T5 s l a b),.int .i64 0]):=by
 obtain ⟨i,c,e⟩:=Zb d;refine ar.of af GT Tryz.func156 rfl aK bj aK (ah rfl) ?_;intro F j w0 m0 hG f h1;refine ae _ (aa (RI a b) (aa (fun h=>abj h d) (fun h=>?_)));refine ae _ (aa (xf s l hl) (aa (fun h=>abj h hv) (fun h=>?_)));refine ae _ (aa (RH s l a b i (Int.le_of_lt c) e hl) ?_);refine ae _ (aa (Lx (DZ s l a b) (fun h=>decide (h>s 18)) 237 _ [.ref (bR s)] (aj rfl) (by rw [MW]; omega) (fun h _=>RG s h)) ?_);refine aa (fun h=>?_) (fun h=>?_)
 ·refine Ends.mk (aj rfl) (az ?_);rw [T5,aV (aF h)]; rfl
 ·refine Ends.mk (aj rfl) (az ?_);rw [T5,aY (aR h)]; rfl
open Go Go.AI
set_option maxRecDepth 10000
theorem Ru (s:Nat->Int) (l:List gW) (hl:l.length<=1000000):ar Tryz.prog 169 [.agg (bR s),kJ l] (.bool (yn s l)):=xf s l hl
theorem RN (s:Nat->Int) (l:List gW) (hl:l.length<=1000000) (h:yn s l=false):ar Tryz.prog 87 [.agg (bR s),kJ l] (.tup [.int .i64 0,.int .i64 0,.bool false,.int .i64 120]):=by
 refine ar.of af kh Tryz.func87 rfl aK bj aK (ah rfl) ?_;intro F c w0 m0 hG b h1;refine SP.scopeEnds (eM (keep:=kh) hG af _ _ _ aK ?_);refine ae _ (aa (Ru s l hl) ?_);refine aa (fun a=>?_) (fun a=>?_)
 ·exact Ez
 grind
theorem Rv (s:Nat->Int) (l:List gW) (hl:l.length<=1000000):ar Tryz.prog 87 [.agg (bR s),kJ l] (OG s l):=by
 cases h:yn s l with
 | true=>rw [OG,aV h]; exact Df s l hl h
 | false=>rw [OG,aY (by grind)]; exact RN s l hl h
open Go Go.AI
set_option maxRecDepth 10000
set_option maxHeartbeats 4000000 in
theorem Sy (l:List dZ) (hl:l.length<=1000000):ar Tryz.prog 88 [dl l] (kJ (gc l)):=by
 refine aM x3 Tryz.func88 ?_;intro F f w0 m0 hG e h1 kp;refine bv ?_;refine aI.loop (X:=Nat) (fun i=>⟨[(8,.int .i64 i),(3,.sl (.id 3) 3 ((gc (l.take i)).map lK)),(7,.int .i64 (l.map bL).length),(6,dl l)],[]⟩) (fun i=>i<=l.length) (fun i=>l.length - i) 0 (aZ _) (LE) (fun i hi=>?_)
 ·by_cases a:i<l.length
  ·have b:=dF (show (i:Int)<((l.map bL).length:Int) by simp; omega);have hx:=Zl a;have d:=Rg a;have c:((gc (l.take i)).map lK).length=i:=by simp [gc]; omega
   generalize xM l i=x at hx d
   repeat' first|exact (b a8).elim|refine aQ ?_|((conv=>whnf); first|refine aa (au i) (ae _ (aa hx ?_))|refine aa (show (((gc (l.take i)).map lK).length+1)*24<=70368744177664 by rw [c]; omega) (aa (show ((gc (l.take i)).map lK).length+1<=4611686018427387904 by rw [c]; omega) ?_)|refine ⟨fun h=>?_,fun h=>?_⟩|refine aj ?_)
   refine ae (i+1) (aa a (aa am (St.le.of ?_ ?_)))
   ·refine aa (ax some (bK am)) (aa (ax (fun z=>some (AV.sl (.id 3) 3 z)) ?_) ?_)
    ·rw [d,dw]; rfl
    ·exact RF
   ·exact RF
  ·have b:=dT (show ¬((i:Int)<((l.map bL).length:Int)) by simp; omega);have he:l.take i=l:=bA am;rw [he];refine bv ?_;exact Ez
open Go Go.AI
set_option maxRecDepth 10000
theorem HC (g:FuncId) (cap:List AV):ar Tryz.prog 72 [dl [],.clo g cap] (.int .i64 (-1)):=by
 have a:=dT (show ¬((0:Int)<0) by omega);refine aM lL Tryz.func72 ?_;intro F c w0 m0 hG b h1 kp;refine bv ?_;refine aI.loop (X:=Unit) (fun _=>⟨[(8,.int .i64 0),(7,.int .i64 0),(0,dl []),(1,.clo g cap)],[]⟩) (fun _=>True) (fun _=>0) () trivial (LE) (fun x hx=>?_)
 ·skip;refine bv ?_
  all_goals exact Ez
theorem HE (g:FuncId) (cap:List AV):ar Tryz.prog 32 [dl [],.clo g cap] (dl []):=by
 refine aM yf Tryz.func32 ?_;intro F b w0 m0 hG a h1 kp
 repeat' first|refine aQ ?_|((conv=>whnf); first|refine ae _ (aa (HC g cap) ?_)|refine ⟨fun h=>?_,fun h=>?_⟩|refine aj ?_)
 all_goals exact Ez
open Go Go.AI
set_option maxRecDepth 10000
def zx (s:dY) (o:dZ):Nat->Int:=(iJ s.sats o.sat).getD jp
def goalU (s:dY) (u:iu):oK:=((fK s.ords u.ord).getD jB).goal
def zw (l:List fi) (o:dZ):fi:=l.getD o.cl.toNat lA
def Cv (p:Int×Int) (e:fi):Int:=if p.2>e.hi then p.2 else p.1
def nD (s:dY) (l:List fi) (o:dZ):jl:=⟨1,o.a,o.id,Cs (iN (zx s o)) o.a o.b o.look,Cv (p9 (iN (zx s o)) o.a o.b o.look) (zw l o),o.look,true⟩
def sv (o:dZ):jl:=⟨2,mh o,o.id,[],0,0,false⟩
def Ek (s:dY) (l:List fi) (m:List dZ):List jl:=m.flatMap fun o=>[nD s l o,sv o]
def El (s:dY) (u:iu):List jl:=jH (2*u.opts.length) (Ek s (ep (goalU s u)) (kU s u.opts))
structure Wm (s:dY) (u:iu):Prop where
 one:1<=u.opts.length
 six:u.opts.length<=6
 rng:∀ j∈u.opts,0<=j/\j<s.opts.length
 sh:j4 (goalU s u)
 sw:∀ j∈u.opts,eG (iN (zx s (eR s.opts j))) (eR s.opts j).a (eR s.opts j).b (eR s.opts j).look=true
 cl:∀ j∈u.opts,0<=(eR s.opts j).cl/\(eR s.opts j).cl<((ep (goalU s u)).length:Int)
 sl:∀ j∈u.opts,1<=(eR s.opts j).sl.length/\(eR s.opts j).sl.length<=6
def Xa (o:dZ):List AV:=[.int .i64 2,.int .i64 (mh o),.int .i64 o.id,.sl .full 0 [],.int .i64 0,.int .i64 0,.bool false]
def yx (s:dY) (l:List fi) (m:List dZ):List (List AV):=m.flatMap fun o=>[pm (nD s l o),Xa o]
theorem zD (s:dY) (l:List fi):∀ m:List dZ,(yx s l m).length=2*m.length
 | []=>rfl
 | o::r=>by
  have:=zD s l r;simp only [yx,wk,cj,bu,kr] at this ⊢;omega
theorem Jh (s:dY) (l:List fi):∀ m:List dZ,(Ek s l m).length=2*m.length
 | []=>rfl
 | o::r=>by
  have:=Jh s l r;simp only [Ek,wk,cj,bu,kr] at this ⊢;omega
theorem OR (s:dY) (l:List fi):∀ m:List dZ,SK (yx s l m) (lU (Ek s l m))
 | []=>trivial
 | o::r=>by
  have:=OR s l r;simp only [yx,Ek,lU,wk,dw,cp,eZ] at this ⊢;exact SK.app (show SK [pm (nD s l o),Xa o] [pm (nD s l o),pm (sv o)] from ⟨H0.rfl' _,⟨OA.rfl' _,OA.rfl' _,OA.rfl' _,trivial,OA.rfl' _,OA.rfl' _,OA.rfl' _,trivial⟩,trivial⟩) this
def Ze:List (List AV)->List (Nat×AV)
 | []=>[(8,.sl .full 0 [])]
 | x::r=>[(8,.me .sl 99 (x::r).length []),(xk 99,.me .arr 99 7 (x::r))]
theorem yV {l:List (List AV)} (h:l≠[]):Ze l=[(8,.me .sl 99 l.length []),(xk 99,.me .arr 99 7 l)]:=by
 cases l with
 | nil=>exact absurd rfl h
 | cons x r=>rfl
set_option maxHeartbeats 16000000 in
theorem yj (b:Nat) (s:dY) (U:s.Small) (u:iu) (h:Wm s u):ar Tryz.prog 23 [cK b s,.agg (eO u)] (mv (El s u)):=by
 have c1:=iC b s U u.ord;have c2:=AM _ h.sh;have h6:=h.six;have h1l:=h.one;have c3:=kg b s U u am h.rng;have B:(kU s u.opts).length=u.opts.length:=by simp [kU]
 have G:∀ o∈kU s u.opts,eG (iN (zx s o)) o.a o.b o.look=true/\(0<=o.cl/\o.cl<((ep (goalU s u)).length:Int))/\1<=o.sl.length/\o.sl.length<=6:=fun o ho=>by
  obtain ⟨j,hj,rfl⟩:=bp.1 ho;exact ⟨h.sw j hj,h.cl j hj,h.sl j hj⟩
 have J:goalU s u=((fK s.ords u.ord).getD jB).goal:=rfl;have hE:El s u=jH (2*u.opts.length) (Ek s (ep (goalU s u)) (kU s u.opts)):=rfl;rw [hE];rw [J] at G c2 ⊢;generalize (fK s.ords u.ord).getD jB=od at *;generalize ep od.goal=c at *;refine ar.ofB af Tryz.func23 rfl aK bj (ah rfl) ?_;intro F n' w0 m0 hG hro h1;refine aI.seq ?_
 repeat' first|refine QF [] rfl hG af (.mk:KP fw) ?_|((conv=>whnf); first|refine cZ ?_|refine cY ?_|refine ed ?_|refine aa (fun h=>?_) (fun h=>?_)|refine aj ?_)
 refine aI.seq ?_
 repeat' first|refine QF [] rfl hG af (.mk:KP fw) ?_|((conv=>whnf); first|refine cZ ?_|refine cY ?_|refine ed ?_|refine ae _ (aa (c1) ?_)|refine ae _ (aa (c2) ?_)|refine aa (fun h=>?_) (fun h=>?_)|refine aj ?_)
 refine aI.seq ?_
 repeat' first|refine QF [] rfl hG af (.mk:KP fw) ?_|((conv=>whnf); first|refine cZ ?_|refine cY ?_|refine ed ?_|refine ae _ (aa (c1) ?_)|refine ae _ (aa (c2) ?_)|refine aa (fun h=>?_) (fun h=>?_)|refine aj ?_)
 refine aI.seq ?_;refine nk hG af fw [8] aK ?_
 conv=>whnf
 repeat' first|refine QE [] rfl hG af (.mk:KP fw) ?_|((conv=>whnf); first|refine cZ ?_|refine cY ?_|refine ed ?_|refine ae _ (aa (c3) ?_)|refine aa (fun h=>?_) (fun h=>?_)|refine aj ?_)
 clear c1 c2 c3;refine aI.loop (X:=Nat) (fun x=>⟨(32,.int .i64 x)::(31,.int .i64 ((kU s u.opts).map bL).length)::(30,dl (kU s u.opts))::(7,.sl .no 12 (c.map gQ))::(0,cK b s)::Ze (yx s c ((kU s u.opts).take x)),[]⟩) (fun x=>x<=(kU s u.opts).length) (fun x=>(kU s u.opts).length - x) 0 (aZ _) (LE) (fun i hi=>?_)
 ·by_cases m:i<(kU s u.opts).length
  ·have q:=dF (show (i:Int)<(((kU s u.opts).map bL).length:Int) by simp; omega);have hx:=cQ bL de m;have E:=cF de m;obtain ⟨m1,⟨m2,m3⟩,m4,m5⟩:=G _ E
   have d:yx s c ((kU s u.opts).take (i+1))=yx s c ((kU s u.opts).take i)++[pm (nD s c ((kU s u.opts).getD i de)),Xa ((kU s u.opts).getD i de)]:=by
    rw [dG de m]; simp [yx]
   have r:(yx s c ((kU s u.opts).take i)).length<=12:=by rw [zD,di]; omega
   generalize (kU s u.opts).getD i de=o at *;generalize yx s c ((kU s u.opts).take i)=row at *;have M:=n9 b s U o.sat;have c5:=Nx _ _ _ _ m1;have c6:=Rq _ _ _ _ m1;have P:zw c o=c.getD o.cl.toNat lA:=rfl;have z:(c.map gQ)[o.cl.toNat]?=some (gQ (zw c o)):=by rw [P]; simp [ai (show o.cl.toNat<c.length by omega)]
   have w:=m2;have Z:nD s c o=⟨1,o.a,o.id,Cs (iN (zx s o)) o.a o.b o.look,Cv (p9 (iN (zx s o)) o.a o.b o.look) (zw c o),o.look,true⟩:=rfl;unfold Xa at d;rw [Z] at d;generalize zw c o=see at *;have N:(iJ s.sats o.sat).getD jp=zx s o:=rfl;rw [N] at M;generalize zx s o=Q at *;unfold Cv at d;generalize p9 (iN Q) o.a o.b o.look=sp at *;generalize Cs (iN Q) o.a o.b o.look=sl at *;generalize Z6 (iN Q) o.a o.b o.look=cn at *;have D:IntKind.i64.wrap (((o.sl.map dA).length:Int) - 1)=((o.sl.length - 1:Nat):Int):=by rw [ay]; exact (a6 am am).trans am
   have y:0<=IntKind.i64.wrap (((o.sl.map dA).length:Int) - 1):=by rw [D]; omega
   have t:(o.sl.map dA)[(IntKind.i64.wrap (((o.sl.map dA).length:Int) - 1)).toNat]?=some (dA (o.sl.getD (o.sl.length - 1) ⟨0,0,0⟩)):=by
    rw [D];simp [ai (show o.sl.length - 1<o.sl.length by omega)]
   have hle:mh o=(o.sl.getD (o.sl.length - 1) ⟨0,0,0⟩).b:=rfl;generalize o.sl.getD (o.sl.length - 1) ⟨0,0,0⟩=e at t hle;rw [hle] at d;by_cases v:row=[]
   ·subst v;rw [show Ze []=[(8,AV.sl .full 0 [])] from rfl];have l:0<2:=by decide
    have p:2*72<=70368744177664:=by decide
    have f:2<=4611686018427387904:=by decide
    repeat' first|exact (q a8).elim|refine aI.seq ?_|refine aI.block ?_|refine Dh hG af 26 fw aK aK ?_|refine TB.done rfl ?_|refine TB.step hG af [] ?_|refine aI.reg hG af fw aK ?_|refine aI.skip hG af ?_|refine aI.label hG af ?_|refine aI.ret hG af ?_|refine aI.exit hG af ?_|refine cc rfl ?_|refine ce rfl ?_|refine aI.cond rfl (aa (fun h=>?_) (fun h=>?_))|((conv=>whnf); first|refine cZ ?_|refine cY ?_|refine ed ?_|refine aa (au i) (ae _ (aa hx ?_))|refine ae _ (aa (M) ?_)|refine ae _ (aa (c5) ?_)|refine ae _ (aa (c6) ?_)|refine aa w (ae _ (aa z ?_))|refine aa y (ae _ (aa t ?_))|refine SJ.intro ?_ ?_|refine aa l (aa p (aa f ?_))|refine bw (aa rfl (aa l (aa p (aa f ?_))))|refine aa (fun h=>?_) (fun h=>?_)|refine aj ?_)
    all_goals refine ae (i+1) (aa m (aa am ?_))
    all_goals first
     | rw [aV (aF (by assumption:decide (sp.2>see.hi)=true))] at d
     | rw [aY (aR (by assumption:decide (sp.2>see.hi)=false))] at d
    all_goals (try dsimp only)
    all_goals (rw [d,yV dc]; refine LE)
   ·rw [yV v];have l:0<2:=by decide
    have p:(row.length+2)*72<=70368744177664:=by omega
    have f:row.length+2<=4611686018427387904:=by omega
    repeat' first|exact (q a8).elim|refine aI.seq ?_|refine aI.block ?_|refine Dh hG af 26 fw aK aK ?_|refine TB.done rfl ?_|refine TB.step hG af [] ?_|refine aI.reg hG af fw aK ?_|refine aI.skip hG af ?_|refine aI.label hG af ?_|refine aI.ret hG af ?_|refine aI.exit hG af ?_|refine cc rfl ?_|refine ce rfl ?_|refine aI.cond rfl (aa (fun h=>?_) (fun h=>?_))|((conv=>whnf); first|refine cZ ?_|refine cY ?_|refine ed ?_|refine aa (au i) (ae _ (aa hx ?_))|refine ae _ (aa (M) ?_)|refine ae _ (aa (c5) ?_)|refine ae _ (aa (c6) ?_)|refine aa w (ae _ (aa z ?_))|refine aa y (ae _ (aa t ?_))|refine SJ.intro ?_ ?_|refine aa l (aa p (aa f ?_))|refine bw (aa rfl (aa l (aa p (aa f ?_))))|refine aa (fun h=>?_) (fun h=>?_)|refine aj ?_)
    all_goals refine ae (i+1) (aa m (aa am ?_))
    all_goals first
     | rw [aV (aF (by assumption:decide (sp.2>see.hi)=true))] at d
     | rw [aY (aR (by assumption:decide (sp.2>see.hi)=false))] at d
    all_goals (try dsimp only)
    all_goals (rw [d,yV dc,cj]; refine LE)
  ·have hie:i=(kU s u.opts).length:=by omega
   have q:=dT (show ¬((i:Int)<(((kU s u.opts).map bL).length:Int)) by simp; omega);have r:=zD s c (kU s u.opts);have A:=Jh s c (kU s u.opts);have H:yx s c (kU s u.opts)≠[]:=fun e=>by rw [e] at r; simp at r; omega
   have L:=OR s c (kU s u.opts);have hta:(kU s u.opts).take i=kU s u.opts:=bA am;rw [hta,yV H,r,B];rw [B] at A;have cS:=Nz (Ek s c (kU s u.opts)) (2*u.opts.length) A am am;generalize jH (2*u.opts.length) (Ek s c (kU s u.opts))=fin at *;generalize lU (Ek s c (kU s u.opts))=rows at *;generalize yx s c (kU s u.opts)=raw at *;generalize 2*u.opts.length=n at *;refine gf 99 7000000 aK rfl ?_;refine V8 7000000 rfl L ?_
   conv=>whnf
   repeat' first|exact (q a8).elim|refine aI.seq ?_|refine aI.block ?_|refine dh hG af fw [102] aK ?_|refine dJ hG af fw [102] aK ?_|refine aI.skip hG af ?_|refine aI.label hG af ?_|refine aI.exit hG af ?_|refine cc rfl ?_|refine ce rfl ?_|refine aI.cond rfl (aa (fun h=>?_) (fun h=>?_))|((conv=>whnf); first|refine cZ ?_|refine cY ?_|refine ed ?_|refine xE cS ?_|refine aa (fun h=>?_) (fun h=>?_)|refine aj ?_)
   refine aI.frz [.tmp 4] ?_
   conv=>whnf
   refine aI.ret hG af ?_;exact Ez
open Go Go.AI
set_option maxRecDepth 10000
abbrev qw:jl:=default
theorem JL (n a b:Int):ar Tryz.prog 67 [.int .i64 n,.int .i64 a,.int .i64 b] (.bool (cT n a b)):=by
 refine aM KC Tryz.func67 ?_;intro F d w0 m0 hG c h1 kp
 repeat' first|refine aQ ?_|((conv=>whnf); first|refine ⟨fun h=>?_,fun h=>?_⟩|refine aj ?_)
 all_goals refine Eb ?_
 all_goals (simp_all [cT] <;> omega)
def jw (e:jl):Bool:=cT e.at' 0 1000000&&cT e.img 0 999&&(if e.kind=1 then cT e.sun (-90) 90&&cT e.look (-4) 4&&mi e.rows else if e.kind=2 then decide (e.rows.length=0)&&decide (e.sun=0)&&decide (e.look=0) && !e.clear else false)
set_option maxHeartbeats 4000000 in
theorem BQ (e:jl) (hl:e.rows.length<=1000000):ar Tryz.prog 24 [.agg (pm e)] (.bool (jw e)):=by
 have hm:(((e.rows.map fun h=>[AV.int .i64 h]).length:Int)==0)=decide (e.rows.length=0):=by rw [ay,e7]; simp
 refine aM K3 Tryz.func24 ?_;intro F b w0 m0 hG a h1 kp
 repeat' first|refine aQ ?_|((conv=>whnf); first|refine ae _ (aa (JL _ _ _) ?_)|refine ae _ (aa (nW _ hl) ?_)|refine ⟨fun h=>?_,fun h=>?_⟩|refine aj ?_)
 all_goals refine Eb ?_
 all_goals (clear hG; simp only [ay] at *; unfold jw; grind)
open Go Go.AI
set_option maxRecDepth 10000
def SL (l:List jl):Nat->List (List Int×AV)
 | 0=>[]
 | x+1=>if (l.getD x qw).kind=1 then iM [(l.getD x qw).img] (.bool true) (SL l x) else SL l x
def Wp (l:List jl) (x:Nat) (i:Int):Bool:=(l.take x).any fun e=>decide (e.kind=1)&&decide (e.img=i)
theorem oz (k' k:List Int) (v:AV):∀ l:List (List Int×AV),mr k' (iM k v l)=if k=k' then some v else mr k' l
 | []=>by simp [iM,mr]
 |(a,b)::r=>by
  have c:=oz k' k v r;simp only [iM];by_cases h:a=k
  ·rw [aV h]; subst h;simp only [mr];by_cases g:a=k' <;> simp [g]
  ·rw [aY h];simp only [mr,c];by_cases g:a=k'
   ·subst g; rw [aV rfl,aY (fun e=>h e.symm),aV rfl]
   ·rw [aY g,aY g]
theorem H8 {k:List Int} {v:AV} (hk:k.length=1):∀ {l:List (List Int×AV)},(∀ p∈l,p.1.length=1)->∀ p∈iM k v l,p.1.length=1
 | [],_,p,c=>by
  simp only [iM,cg] at c;subst c; exact hk
 |(a,b)::r,h,p,c=>by
  simp only [iM] at c;split at c
  ·rcases bC.1 c with rfl | c
   ·exact hk
   ·exact h p (aS _ c)
  ·rcases bC.1 c with rfl | c
   ·exact h _ aW
   ·exact H8 hk (fun q d=>h q (aS _ d)) p c
theorem DA (l:List jl):∀ x,∀ p∈SL l x,p.1.length=1
 | 0,p,a=>by cases a
 | x+1,p,a=>by
  simp only [SL] at a;split at a
  ·exact H8 rfl (DA l x) p a
  ·exact DA l x p a
theorem OI (l:List jl) (i:Int):∀ x,x<=l.length->mr [i] (SL l x)=if Wp l x i then some (.bool true) else none
 | 0,_=>by simp [SL,Wp,mr]
 | x+1,hx=>by
  have a:=OI l i x am
  have b:Wp l (x+1) i=(Wp l x i||(decide ((l.getD x qw).kind=1)&&decide ((l.getD x qw).img=i))):=by
   unfold Wp;rw [dG qw am,List.any_append]; simp
  simp only [SL];rw [b];by_cases hk:(l.getD x qw).kind=1
  ·rw [aV hk,oz,a];by_cases hi:(l.getD x qw).img=i
   ·rw [aV (by rw [hi])]; simp only [bP hk,bP hi,bG,sr,cR]
   ·rw [aY (by simpa using hi)]; simp only [dR hi,bN,ey]
  ·rw [aY hk,a]; simp only [dR hk,bE,ey]
def Uu (l:List jl) (i:Nat):Bool:=jw (l.getD i qw)&&(decide (i=0)||decide (lG (l.getD (i - 1) qw) (l.getD i qw)<0)) && !(decide ((l.getD i qw).kind=1)&&Wp l i (l.getD i qw).img)
def yH (l:List jl):Bool:=kH l (Uu l)&&decide (l.length<=120)
set_option maxHeartbeats 16000000 in
theorem sV (l:List jl) (hl:l.length<=1000000) (u:∀ e∈l,e.rows.length<=1000000):ar Tryz.prog 7 [mv l] (.bool (yH l)):=by
 have w:((l.map pm).length:Int)=l.length:=by rw [ay]
 refine aM NZ Tryz.func7 ?_;intro F y w0 m0 hG t h1 kp
 repeat' first|refine aQ ?_|((conv=>whnf); first|refine fun m=>?_|refine ⟨fun h=>?_,fun h=>?_⟩|refine aj ?_)
 refine aI.loop (X:=Nat) (fun x=>⟨[(9,.int .i64 x),(8,.int .i64 (l.map pm).length),(7,mv l),(0,mv l),(3,.lit (.map (some m))),(xk 6,.me .ents 6 m (gp false (SL l x)))],[]⟩) (fun x=>x<=l.length/\(List.range x).all (Uu l)=true) (fun x=>l.length - x) 0 ⟨aZ _,rfl⟩ (LE) (fun x hx=>?_)
 ·rename Nat=>i
  obtain ⟨hi,p⟩:=hx;by_cases a:i<l.length
  ·have o:=dF (show (i:Int)<((l.map pm).length:Int) by omega);have hx:(l.map pm)[(i:Int).toNat]?=some (pm (l.getD i qw)):=by simp [ai a]
   have r:(i:Int)>0->IntKind.i64.wrap ((i:Int) - 1)=((i - 1:Nat):Int):=fun h=>(a6 am am).trans am;have j:decide ((i:Int)>0)=true->0<=IntKind.i64.wrap ((i:Int) - 1):=fun h=>by rw [r (aF h)]; omega
   have q:decide ((i:Int)>0)=true->(l.map pm)[(IntKind.i64.wrap ((i:Int) - 1)).toNat]?=some (pm (l.getD (i - 1) qw)):=fun h=>by rw [r (aF h)]; simp [ai (show i - 1<l.length by omega)]
   have d:l.getD i qw∈l:=by rw [aG,ai a]; exact bX a
   have h1:Uu l i=(jw (l.getD i qw)&&(decide (i=0)||decide (lG (l.getD (i - 1) qw) (l.getD i qw)<0)) && !(decide ((l.getD i qw).kind=1)&&Wp l i (l.getD i qw).img)):=rfl;have b:SL l (i+1)=if (l.getD i qw).kind=1 then iM [(l.getD i qw).img] (.bool true) (SL l i) else SL l i:=rfl
   have n:=OI l (l.getD i qw).img i am;have c:=DA l i;have c1:=BQ (l.getD i qw) (u _ d);have c2:=Ll (l.getD (i - 1) qw) (l.getD i qw);generalize l.getD (i - 1) qw=v at *;generalize l.getD i qw=e at *;generalize Wp l i e.img=sb at *;generalize SL l i=f at *
   cases sb with
   | true=>
    simp only [cR] at n
    repeat' first|exact (o a8).elim|refine aQ ?_|((conv=>whnf); first|refine aa (au i) (ae _ (aa hx ?_))|refine aa (j a8) (ae _ (aa (q a8) ?_))|refine ae _ (aa (c1) ?_)|refine ae _ (aa (c2) ?_)|refine ae 6 (ae f (ae [e.img] (ae _ (aa (aa rfl (aa rfl (aa rfl (aa c n)))) ?_))))|refine ae 6 (ae f (ae [e.img] (aa (aa rfl (aa rfl (aa rfl c))) ?_)))|refine ⟨fun h=>?_,fun h=>?_⟩|refine aj ?_)
    all_goals first
     | exact absurd ((by assumption:(e.kind==1)=true).symm.trans (by assumption:(e.kind==1)=false)) Bool.noConfusion
     | skip
    all_goals (clear hG hx r j q d c1 c2 c)
    all_goals (try (conv=>whnf))
    all_goals first
     |(refine Eb ?_
       have hf:kH l (Uu l)=false:=lJ a (by rw [h1]; clear h1 b p n; simp only [ay] at *; grind);simp only [yH,hf,bE])
     | skip
    all_goals (refine ae (i+1) (aa ⟨a,by rw [lI,p,h1]; clear h1 b p n; simp only [ay] at *; grind⟩ (aa am (St.le.of ?_ ?_))))
    all_goals first
     |((repeat' (first | exact trivial | refine aa rfl ?_)); done)
     |(refine aa (ax some (bK am)) ?_
       repeat' (refine aa rfl ?_)
       rw [aV (eq_of_beq (by assumption:(e.kind==1)=true))] at b;rw [b]; repeat' (first | exact trivial | refine aa rfl ?_))
     |(refine aa (ax some (bK am)) ?_
       repeat' (refine aa rfl ?_)
       rw [aY (Xm (by assumption:(e.kind==1)=false))] at b;rw [b]; repeat' (first | exact trivial | refine aa rfl ?_))
   | false=>
    simp only [br,cv] at n
    repeat' first|exact (o a8).elim|refine aQ ?_|((conv=>whnf); first|refine aa (au i) (ae _ (aa hx ?_))|refine aa (j a8) (ae _ (aa (q a8) ?_))|refine ae _ (aa (c1) ?_)|refine ae _ (aa (c2) ?_)|refine ae 6 (ae f (ae [e.img] (ae _ (aa (aa rfl (aa rfl (aa rfl (aa c n)))) ?_))))|refine ae 6 (ae f (ae [e.img] (aa (aa rfl (aa rfl (aa rfl c))) ?_)))|refine ⟨fun h=>?_,fun h=>?_⟩|refine aj ?_)
    all_goals first
     | exact absurd ((by assumption:(e.kind==1)=true).symm.trans (by assumption:(e.kind==1)=false)) Bool.noConfusion
     | skip
    all_goals (clear hG hx r j q d c1 c2 c)
    all_goals (try (conv=>whnf))
    all_goals first
     |(refine Eb ?_
       have hf:kH l (Uu l)=false:=lJ a (by rw [h1]; clear h1 b p n; simp only [ay] at *; grind);simp only [yH,hf,bE])
     | skip
    all_goals (refine ae (i+1) (aa ⟨a,by rw [lI,p,h1]; clear h1 b p n; simp only [ay] at *; grind⟩ (aa am (St.le.of ?_ ?_))))
    all_goals first
     |((repeat' (first | exact trivial | refine aa rfl ?_)); done)
     |(refine aa (ax some (bK am)) ?_
       repeat' (refine aa rfl ?_)
       rw [aV (eq_of_beq (by assumption:(e.kind==1)=true))] at b;rw [b]; repeat' (first | exact trivial | refine aa rfl ?_))
     |(refine aa (ax some (bK am)) ?_
       repeat' (refine aa rfl ?_)
       rw [aY (Xm (by assumption:(e.kind==1)=false))] at b;rw [b]; repeat' (first | exact trivial | refine aa rfl ?_))
  ·have o:=dT (show ¬((i:Int)<((l.map pm).length:Int)) by omega);have hO:kH l (Uu l)=true:=nh hi a p;refine bv ?_
   all_goals refine Eb ?_
   all_goals (rw [yH,hO]; simp only [bG,ay]; rw [decide_eq_decide]; omega)
open Go Go.AI
set_option maxRecDepth 10000
structure j1 where
 kind:Int
 a:Int
 b:Int
 at':Int
 coef:List Int
 most:Int
deriving DecidableEq
def qu (r:j1):List AV:=[.int .i64 r.kind,.int .i64 r.a,.int .i64 r.b,.int .i64 r.at',bB r.coef,.int .i64 r.most]
def HT (f:Nat->Int):List AV:=[.int .i64 (f 0),.int .i64 (f 1),.int .i64 (f 2),.int .i64 (f 3),.int .i64 (f 4),.int .i64 (f 5),.int .i64 (f 6),.int .i64 (f 7),.int .i64 (f 8),.int .i64 (f 9),.int .i64 (f 10),.int .i64 (f 11)]
abbrev HH:=j1×(Nat->Int)
def uq (p:HH):List AV:=qu p.1++HT p.2
def Ir (l:List j1):AV := .sl .no 6 (l.map qu)
def W9 (l:List HH):AV := .sl .no 18 (l.map uq)
theorem aaH {g:Nat} (h:g<12):g=0\/g=1\/g=2\/g=3\/g=4\/g=5\/g=6\/g=7\/g=8\/g=9\/g=10\/g=11:=by omega
theorem X2 (f:Nat->Int) {g:Nat} (h:g<12):(HT f)[(g:Int).toNat]?=some (.int .i64 (f g)):=by
 rcases aaH h with rfl | rfl | rfl | rfl | rfl | rfl | rfl | rfl | rfl | rfl | rfl | rfl <;> rfl
theorem Zj (r:j1) (V:Nat->Int) (x:Int) {g:Nat} (h:g<12):dB (qu r++HT V) (6+(g:Int).toNat*1) (.int .i64 x)=qu r++HT (fun j=>if j=g then x else V j):=by
 rcases aaH h with rfl | rfl | rfl | rfl | rfl | rfl | rfl | rfl | rfl | rfl | rfl | rfl <;> rfl
def Bn (f:Nat->Int) (n:Nat):Nat->Int:=fun j=>if j<n then f j else 0
theorem Tb (f:Nat->Int) (n:Nat):(fun j=>if j=n then f n else Bn f n j)=Bn f (n+1):=by
 funext j;unfold Bn;by_cases h:j=n
 ·subst h; rw [aV rfl,aV (lP _)]
 ·rw [aY h];by_cases g:j<n
  ·rw [aV g,aV (Nat.lt_succ_of_lt g)]
  ·rw [aY g,aY am]
set_option maxHeartbeats 8000000 in
theorem Vd (b:Nat) (s:dY) (t:s.buns.length<=12) (r:j1) (g:FuncId) (cap:List AV) (f:Nat->Int) (hf:∀ j,j<s.buns.length->ar Tryz.prog g (.int .i64 j :: .agg (eO (s.buns.getD j fA))::cap) (.int .i64 (f j))):ar Tryz.prog 40 [cK b s,.agg (qu r),.clo g cap] (.agg (uq (r,Bn f s.buns.length))):=by
 refine aM yb Tryz.func40 ?_;intro F q w0 m0 hG n h1 kp;refine bv ?_;refine aI.loop (X:=Nat) (fun x=>⟨[(18,.int .i64 x),(17,.int .i64 (s.buns.map eO).length),(16,vf s.buns),(0,cK b s),(2,.clo g cap),(6,.loc 6 0),(7,.loc 7 0)],[(7,qu r++HT (Bn f x)),(6,[.int .i64 0,.int .i64 0,.int .i64 0,.int .i64 0,.sl (.id 1006004) 0 [],.int .i64 0,.int .i64 0,.int .i64 0,.int .i64 0,.int .i64 0,.int .i64 0,.int .i64 0,.int .i64 0,.int .i64 0,.int .i64 0,.int .i64 0,.int .i64 0,.int .i64 0])]⟩) (fun x=>x<=s.buns.length) (fun x=>s.buns.length - x) 0 (aZ _) (LE) (fun x hx=>?_)
 ·rename Nat=>i
  have hi:=hx;by_cases a:i<s.buns.length
  ·have c:=dF (show (i:Int)<((s.buns.map eO).length:Int) by simp; omega);have hx:=cQ eO fA a;have p:=hf i a;have o:(0:Int)<=(i:Int):=au i;have e:(i:Int)<((12:Nat):Int):=by omega
   have d:=Zj r (Bn f i) (f i) (show i<12 by omega);rw [Tb] at d;have l:6+(i:Int).toNat*1<(qu r++HT (Bn f i)).length:=by rw [du,nw,cj]; show 6+i<6+12; omega
   generalize s.buns.getD i fA=u at *;generalize v:Bn f i=V at *
   repeat' first|exact (c a8).elim|refine A4 hG af yb [] aK ?_|refine aQ ?_|((conv=>whnf); first|refine aa (au i) (ae _ (aa hx ?_))|refine ae _ (aa (p) ?_)|refine aa o (aa e ?_)|refine aa l ?_|refine ⟨fun h=>?_,fun h=>?_⟩|refine aj ?_)
   refine ae (i+1) (aa a (aa am (St.le.of ?_ ?_)))
   ·refine aa (ax some (bK am)) ?_;exact RF
   ·refine aa (ax some d) ?_;exact RF
  ·have c:=dT (show ¬((i:Int)<((s.buns.map eO).length:Int)) by simp; omega);have m:i=s.buns.length:=by omega
   subst m;refine bv ?_
   all_goals exact Ez
theorem kf (b:Nat) (s:dY) (e:s.buns.length<=12) (o:Go.AI.Own) (z:Nat) (k1 a c d m:Int) (g:FuncId) (cap:List AV) (f:Nat->Int) (hf:∀ j,j<s.buns.length->ar Tryz.prog g (.int .i64 j :: .agg (eO (s.buns.getD j fA))::cap) (.int .i64 (f j))):ar Tryz.prog 40 [cK b s,.agg [.int .i64 k1,.int .i64 a,.int .i64 c,.int .i64 d,.sl o z [],.int .i64 m],.clo g cap] (.agg (uq (⟨k1,a,c,d,[],m⟩,Bn f s.buns.length))):=
 (Vd b s e ⟨k1,a,c,d,[],m⟩ g cap f hf).weak (us:=[cK b s,.agg [.int .i64 k1,.int .i64 a,.int .i64 c,.int .i64 d,.sl o z [],.int .i64 m],.clo g cap]) (.cons (.refl _) (.cons (AV.weak.agg (.cons (.refl _) (.cons (.refl _) (.cons (.refl _) (.cons (.refl _) (.cons bI (.cons (.refl _) .nil)))))) (by simp [qu,bB,AV.isCell])) (.cons (.refl _) .nil)))
open Go Go.AI
set_option maxRecDepth 10000
def uu (f:Nat->Int):Nat->Int
 | 0=>0
 | n+1=>uu f n+max 0 (f n)
def xj (f:Nat->Int):Prop:=∀ j,f j<=1000000000000
theorem IC {f:Nat->Int} (h:xj f):∀ n,0<=uu f n/\uu f n<=n*1000000000000
 | 0=>⟨qp _,qp _⟩
 | n+1=>by
  obtain ⟨h1,h2⟩:=IC h n;have b:=h n;have a:((n+1:Nat):Int)=(n:Int)+1:=by omega
  simp only [uu];rw [a,Int.add_mul];omega
theorem PF (r:j1) (f:Nat->Int) {n:Nat} (h:n<=12):(((qu r++HT f).drop 6).take n)=((List.range n).map f).map (fun x=>AV.int .i64 x):=by
 have e:(qu r++HT f).drop 6=HT f:=rfl;rw [e];have h2:n=0\/n=1\/n=2\/n=3\/n=4\/n=5\/n=6\/n=7\/n=8\/n=9\/n=10\/n=11\/n=12:=by omega
 rcases h2 with rfl | rfl | rfl | rfl | rfl | rfl | rfl | rfl | rfl | rfl | rfl | rfl | rfl <;> rfl
set_option maxHeartbeats 4000000 in
theorem B0 (b:Nat) (r:j1) (f:Nat->Int) (n:Nat) (j:1<=n) (a:n<=12):bW Tryz.prog 82 [5007000] [] [.lit (.slice (some ⟨b,6,none⟩) n 12)] [(5007000,.me .box 5007000 b [qu r++HT f])] (bB ((List.range n).map f)) [(5007000,.me .box 5007000 b [qu r++HT f])]:=by
 have m:6+n<=(qu r++HT f).length:=by rw [cj]; show 6+n<=6+12; omega
 have l:(((qu r++HT f).drop 6).take n).all DW=true:=by
  rw [PF r f a]; simp [aN,DW]
 have c:0<n:=by omega
 have o:n*8<=70368744177664:=by omega
 have i:n<=4611686018427387904:=by omega
 have d:(((qu r++HT f).drop 6).take n).map (fun y=>[y])=((List.range n).map f).map fun h=>[AV.int .i64 h]:=by rw [PF r f a,List.map_map]; rfl
 refine lR.ofB af Tryz.func82 rfl aK bj (ah rfl) ?_;intro F p w0 m0 hG e h1
 repeat' first|refine aI.seq ?_|refine aI.block ?_|refine dh hG af fS [] aK ?_|refine LL hG af fS [] aK ?_|refine aI.skip hG af ?_|refine aI.label hG af ?_|refine aI.exit hG af ?_|refine cc rfl ?_|refine ce rfl ?_|refine aI.cond rfl (aa (fun h=>?_) (fun h=>?_))|((conv=>whnf); first|refine cZ ?_|refine cY ?_|refine ed ?_|refine ae 5007000 (aa rfl (aa m (aa l (aa c (aa o (aa i ?_))))))|refine aa (fun h=>?_) (fun h=>?_)|refine aj ?_)
 refine aI.frz [.tmp 2] ?_
 conv=>whnf
 refine aI.ret hG af ?_;exact gj.mk (aj rfl) (ae _ (ae [(5007000,.me .box 5007000 b [qu r++HT f])] (aa (aa rfl rfl) (aa (aj (az (ax (fun z=>AV.sl .no 1 z) d))) (aa aK aK)))))
def LR (b:Nat) (R:List j1):List (Nat×AV):=[(5000011,.me .box 5000011 b [[.sl .full 0 [],.sl (.id 5005000) 6 (R.map qu)]])]
def mS (c:Nat) (p:HH):List j1:=if uu p.2 12>p.1.most then [⟨p.1.kind,p.1.a,p.1.b,p.1.at',(List.range c).map p.2,p.1.most⟩] else []
theorem Ms (a:Nat) (p:HH):(mS a p).length<=1:=by unfold mS; split <;> simp
set_option maxHeartbeats 16000000 in
theorem J1 (b:Nat) (s:dY) (G:1<=s.buns.length) (Q:s.buns.length<=12) (R:List j1) (U:R.length<=1000000000) (r:j1) (f:Nat->Int) (hf:xj f):bW Tryz.prog 39 [5000011] [5005000] [cK b s,.agg (uq (r,f))] (LR b R) (.tup []) (LR b (R++mS s.buns.length (r,f))):=by
 have B:((R.map qu).length+1)*64<=70368744177664:=by rw [ay]; omega
 have u:(R.map qu).length+1<=4611686018427387904:=by rw [ay]; omega
 have e:(R++[(⟨r.kind,r.a,r.b,r.at',(List.range s.buns.length).map f,r.most⟩:j1)]).map qu=R.map qu++[[AV.int .i64 r.kind,AV.int .i64 r.a,AV.int .i64 r.b,AV.int .i64 r.at',bB ((List.range s.buns.length).map f),AV.int .i64 r.most]]:=by simp [qu]
 have p:uu f 12>r.most->mS s.buns.length (r,f)=[⟨r.kind,r.a,r.b,r.at',(List.range s.buns.length).map f,r.most⟩]:=fun h=>aV h;have l:¬ uu f 12>r.most->mS s.buns.length (r,f)=[]:=fun h=>aY h;refine lR.ofB af Tryz.func39 rfl aK bj (ah rfl) ?_;intro F N w0 m0 hG H h1;refine aI.seq ?_
 repeat' first|refine QF [] rfl hG af (.mk:KP gz) ?_|((conv=>whnf); first|refine cZ ?_|refine cY ?_|refine ed ?_|refine aa (fun h=>?_) (fun h=>?_)|refine aj ?_)
 refine aI.pin 3 5007000 rfl rfl rfl (fun v=>?_)
 conv=>whnf
 refine aI.seq ?_
 repeat' first|refine QF [] rfl hG af (.mk:KP gz) ?_|((conv=>whnf); first|refine cZ ?_|refine cY ?_|refine ed ?_|refine aa (fun h=>?_) (fun h=>?_)|refine aj ?_)
 repeat' first|refine aI.seq ?_|refine aI.block ?_|refine dh hG af gz [] aK ?_|refine A4 hG af gz [] aK ?_|refine aI.skip hG af ?_|refine aI.label hG af ?_|refine aI.ret hG af ?_|refine aI.exit hG af ?_|refine cc rfl ?_|refine ce rfl ?_|refine aI.cond rfl (aa (fun h=>?_) (fun h=>?_))|((conv=>whnf); first|refine cZ ?_|refine cY ?_|refine ed ?_|refine aa (fun h=>?_) (fun h=>?_)|refine aj ?_)
 refine aI.loop (X:=Nat) (fun x=>⟨[(9,.int .i64 x),(8,.agg (HT f)),(4,.int .i64 (uu f x)),(3,.pin 5007000 v 0 []),(0,cK b s),(xk 5007000,.me .box 5007000 v [qu r++HT f]),(xk 5000011,.me .box 5000011 b [[.sl .full 0 [],.sl (.id 5005000) 6 ((R).map qu)]])],[]⟩) (fun x=>x<=12) (fun x=>12 - x) 0 (aZ _) (LE) (fun x hx=>?_)
 ·rename Nat=>i
  have hi:=hx;by_cases c:i<12
  ·have d:=dF (show (i:Int)<12 by grind);have L:(0:Int)<=(i:Int):=au i;have t:(i:Int)<((12:Nat):Int):=by omega
   have A:=X2 f c
   have m:IntKind.i64.wrap (uu f i+max 0 (f i))=uu f (i+1):=by
    obtain ⟨s1,s2⟩:=IC hf (i+1);have w:uu f (i+1)=uu f i+max 0 (f i):=rfl;rw [w] at s1 s2 ⊢;exact a6 am am
   generalize M:f i=Z at *;generalize uu f i=pi at *;generalize J:HT f=P at *
   repeat' first|exact (d a8).elim|refine aI.seq ?_|refine aI.block ?_|refine dh hG af gz [] aK ?_|refine A4 hG af gz [] aK ?_|refine aI.skip hG af ?_|refine aI.label hG af ?_|refine aI.ret hG af ?_|refine aI.exit hG af ?_|refine cc rfl ?_|refine ce rfl ?_|refine aI.cond rfl (aa (fun h=>?_) (fun h=>?_))|((conv=>whnf); first|refine cZ ?_|refine cY ?_|refine ed ?_|refine aa L (aa t (ae _ (aa A ?_)))|refine aa (fun h=>?_) (fun h=>?_)|refine aj ?_)
   refine ae (i+1) (aa c (aa am (St.le.of ?_ ?_)))
   ·refine aa (ax some (bK am)) (aa rfl (aa (ax (fun z=>some (AV.int .i64 z)) m) ?_));exact RF
   ·exact RF
  ·have d:=dT (show ¬((i:Int)<12) by grind);have n:i=12:=by omega
   subst n;have q:(s.buns.map eO).length=s.buns.length:=ay _;rw [<- q] at e p;have D:(0:Int)<=((s.buns.map eO).length:Int):=au _;have o:((s.buns.map eO).length:Int)<=((12:Nat):Int):=by omega
   have c1:=B0 v r f (s.buns.map eO).length am am;rw [show mS s.buns.length (r,f)=mS (s.buns.map eO).length (r,f) by rw [q]] at l ⊢;generalize uu f 12=y at *
   cases E:decide (y>r.most) with
   | true=>
    have j:=dF (show y>r.most by grind);rw [show mS (s.buns.map eO).length (r,f)=[⟨r.kind,r.a,r.b,r.at',(List.range (s.buns.map eO).length).map f,r.most⟩] from p (aF E)]
    repeat' first|exact (d a8).elim|exact (j a8).elim|refine aI.seq ?_|refine aI.block ?_|refine dh hG af gz [] aK ?_|refine LL hG af gz [30] aK ?_|refine aI.skip hG af ?_|refine aI.label hG af ?_|refine aI.ret hG af ?_|refine aI.exit hG af ?_|refine cc rfl ?_|refine ce rfl ?_|refine aI.cond rfl (aa (fun h=>?_) (fun h=>?_))|((conv=>whnf); first|refine cZ ?_|refine cY ?_|refine ed ?_|refine aa (aa D o) ?_|refine xE c1 ?_|refine aa B (aa u ?_)|refine aa (fun h=>?_) (fun h=>?_)|refine aj ?_)
    refine gj.mk (bw rfl) (ae (.tup []) (ae [(5000011,.me .box 5000011 b [[.sl .full 0 [],.sl (.id 5005000) 6 (R.map qu++[[AV.int .i64 r.kind,AV.int .i64 r.a,AV.int .i64 r.b,AV.int .i64 r.at',bB ((List.range (s.buns.map eO).length).map f),AV.int .i64 r.most]])]])] (aa (aa rfl (by unfold LR; rw [e])) (aa (aj (az rfl)) (aa aK aK)))))
   | false=>
    have j:=dT (show ¬(y>r.most) by grind);rw [l (aR E)]
    repeat' first|exact (d a8).elim|exact (j a8).elim|refine QE [] rfl hG af (.mk:KP gz) ?_|((conv=>whnf); first|refine cZ ?_|refine cY ?_|refine ed ?_|refine aa (fun h=>?_) (fun h=>?_)|refine aj ?_)
    refine gj.mk (bw rfl) (ae (.tup []) (ae [(5000011,.me .box 5000011 b [[.sl .full 0 [],.sl (.id 5005000) 6 (R.map qu)]])] (aa (aa rfl (by unfold LR; rw [bV])) (aa (aj (az rfl)) (aa aK aK)))))
open Go Go.AI
set_option maxRecDepth 10000
def yD (f:Nat->Int):List Int:=[f 0,f 1,f 2,f 3,f 4,f 5,f 6,f 7,f 8,f 9,f 10,f 11]
def qv:HH:=(⟨0,0,0,0,[],0⟩,fun _=>0)
def ng (l:List HH) (q:List Int):Nat->Option Nat
 | 0=>none
 | i+1=>if yD (l.getD i qv).2=q then (match ng l q i with
   | none=>some i
   | some j=>if (l.getD i qv).1.most<(l.getD j qv).1.most then some i else some j) else ng l q i
def kF (l:List HH):Nat->List (List Int×AV)
 | 0=>[]
 | i+1=>match ng l (yD (l.getD i qv).2) i with
  | none=>iM (yD (l.getD i qv).2) (.int .i64 i) (kF l i)
  | some j=>if (l.getD i qv).1.most<(l.getD j qv).1.most then iM (yD (l.getD i qv).2) (.int .i64 i) (kF l i) else kF l i
theorem zl {n:Nat} {k:List Int} {v:AV} (hk:k.length=n):∀ {l:List (List Int×AV)},(∀ p∈l,p.1.length=n)->∀ p∈iM k v l,p.1.length=n
 | [],_,p,c=>by
  simp only [iM,cg] at c;subst c; exact hk
 |(a,b)::r,h,p,c=>by
  simp only [iM] at c;split at c
  ·rcases bC.1 c with rfl | c
   ·exact hk
   ·exact h p (aS _ c)
  ·rcases bC.1 c with rfl | c
   ·exact h _ aW
   ·exact zl hk (fun q d=>h q (aS _ d)) p c
theorem xb (l:List HH):∀ i,∀ p∈kF l i,p.1.length=12
 | 0,p,a=>by cases a
 | i+1,p,a=>by
  have b:=xb l i;simp only [kF] at a;split at a
  ·exact zl rfl b p a
  ·split at a
   ·exact zl rfl b p a
   ·exact b p a
theorem xc (l:List HH) (q:List Int):∀ i,mr q (kF l i)=(ng l q i).map fun j => .int .i64 j
 | 0=>rfl
 | i+1=>by
  have a:=xc l q i;simp only [kF,ng];by_cases h:yD (l.getD i qv).2=q
  ·rw [aV h,h]
   cases b:ng l q i with
   | none=>simp only [oz,aV]; rfl
   | some j=>
    dsimp only;split
    ·simp only [oz,aV]; rfl
    ·rw [a,b]
  ·rw [aY h,<- a];have hu:mr q (iM (yD (l.getD i qv).2) (.int .i64 i) (kF l i))=mr q (kF l i):=by rw [oz,aY h]
   split
   ·exact hu
   ·split
    ·exact hu
    ·rfl
theorem AC (l:List HH) (q:List Int):∀ i j,ng l q i=some j->j<i
 | 0,j,h=>by cases h
 | i+1,j,h=>by
  simp only [ng] at h;split at h
  ·split at h
   ·cases h; omega
   ·rename_i a hj;have:=AC l q i a hj;split at h <;> cases h <;> omega
  ·have:=AC l q i j h; omega
theorem AB (l:List HH) (q:List Int):∀ n i,i<n->yD (l.getD i qv).2=q->(ng l q n).isSome=true
 | 0,i,h,_=>by omega
 | n+1,i,h,a=>by
  simp only [ng];by_cases e:i=n
  ·subst e;rw [aV a];split
   ·rfl
   ·split <;> rfl
  ·have b:=AB l q n i am a;split
   ·split
    ·rfl
    ·split <;> rfl
   ·exact b
def mZ (a:Nat) (l:List HH) (i:Nat):List j1:=if ng l (yD (l.getD i qv).2) l.length=some i then mS a (l.getD i qv) else []
def wI (a:Nat) (l:List HH):List j1:=(List.range l.length).flatMap (mZ a l)
theorem zX (a:Nat) (l:List HH):∀ i,((List.range i).flatMap (mZ a l)).length<=i
 | 0=>by simp
 | i+1=>by
  have b:=zX a l i
  have h1:(mZ a l i).length<=1:=by
   unfold mZ; split
   ·exact Ms a _
   ·simp
  rw [dV,List.flatMap_append,cj];simp only [wk,List.flatMap_nil,bV];omega
set_option maxHeartbeats 16000000 in
theorem pE (b:Nat) (s:dY) (E:1<=s.buns.length) (P:s.buns.length<=12) (R:List j1) (l:List HH) (hR:R.length+l.length<=1000000000) (hf:∀ p∈l,xj p.2):bW Tryz.prog 45 [5000011] [5005000] [cK b s,W9 l] (LR b R) (.tup []) (LR b (R++wI s.buns.length l)):=by
 have Z:((l.map uq).length:Int)=l.length:=by rw [ay]
 refine lR.ofB af Tryz.func45 rfl aK bj (ah rfl) ?_;intro F n' w0 m0 hG Q h1;have kp:KP KS := .mk
 repeat' first|refine aQ ?_|((conv=>whnf); first|refine fun m=>?_|refine ⟨fun h=>?_,fun h=>?_⟩|refine aj ?_)
 refine aI.loop (X:=Nat) (fun x=>⟨[(14,.int .i64 x),(13,.int .i64 (l.map uq).length),(12,W9 l),(4,.lit (.map (some m))),(xk 11,.me .ents 11 m (gp true (kF l x))),(1,W9 l),(0,cK b s),(xk 5000011,.me .box 5000011 b [[.sl .full 0 [],.sl (.id 5005000) 6 ((R).map qu)]])],[]⟩) (fun x=>x<=l.length) (fun x=>l.length - x) 0 (aZ _) (LE) (fun x hx=>?_)
 ·rename Nat=>i
  have hi:=hx;by_cases a:i<l.length
  ·have w:=dF (show (i:Int)<((l.map uq).length:Int) by omega);have hx:(l.map uq)[(i:Int).toNat]?=some (uq (l.getD i qv)):=cQ uq qv a;have t:=xc l (yD (l.getD i qv).2) i;have d:=xb l i;have H:=AC l (yD (l.getD i qv).2) i
   have c:kF l (i+1)=(match ng l (yD (l.getD i qv).2) i with
     | none=>iM (yD (l.getD i qv).2) (.int .i64 i) (kF l i)
     | some j=>if (l.getD i qv).1.most<(l.getD j qv).1.most then iM (yD (l.getD i qv).2) (.int .i64 i) (kF l i) else kF l i):=rfl
   have G:∀ j,j<i->(l.map uq)[(j:Int).toNat]?=some (uq (l.getD j qv)):=fun j hj=>cQ uq qv (show j<l.length by omega);generalize ng l (yD (l.getD i qv).2) i=bi at *;generalize kF l i=n at *;generalize l.getD i qv=J at *;obtain ⟨r,f⟩:=J;dsimp only at t c
   cases bi with
   | none=>
    simp only [Bh] at t;have c:kF l (i+1)=iM (yD f) (.int .i64 i) n:=c
    repeat' first|exact (w a8).elim|refine aQ ?_|((conv=>whnf); first|refine aa (au i) (ae _ (aa hx ?_))|refine ae 11 (ae n (ae (yD f) (ae _ (aa (aa rfl (aa rfl (aa rfl (aa d t)))) ?_))))|refine ae 11 (ae n (ae (yD f) (aa (aa rfl (aa rfl (aa rfl d))) ?_)))|refine ⟨fun h=>?_,fun h=>?_⟩|refine aj ?_)
    all_goals (refine ae (i+1) (aa a (aa am (St.le.of ?_ ?_))))
    all_goals first
     |(refine aa (ax some (bK am)) ?_
       repeat' (first | exact trivial | refine aa rfl ?_ | refine aa (ax (fun (z:List (List Int×AV))=>some (AV.me .ents 11 m (gp true z))) c.symm) ?_ | fail))
     |(repeat' (first | exact trivial | refine aa rfl ?_))
   | some j=>
    simp only [bJ] at t;have o:=H j rfl;have hy:=G j o;have c:kF l (i+1)=if r.most<(l.getD j qv).1.most then iM (yD f) (.int .i64 i) n else n:=c
    generalize l.getD j qv=U at *;obtain ⟨N,f'⟩:=U;dsimp only at c
    repeat' first|exact (w a8).elim|refine aQ ?_|((conv=>whnf); first|refine aa (au i) (ae _ (aa hx ?_))|refine aa (au j) (ae _ (aa hy ?_))|refine ae 11 (ae n (ae (yD f) (ae _ (aa (aa rfl (aa rfl (aa rfl (aa d t)))) ?_))))|refine ae 11 (ae n (ae (yD f) (aa (aa rfl (aa rfl (aa rfl d))) ?_)))|refine ⟨fun h=>?_,fun h=>?_⟩|refine aj ?_)
    all_goals (refine ae (i+1) (aa a (aa am (St.le.of ?_ ?_))))
    all_goals first
     |(rw [aV (aF (by assumption:decide (r.most<N.most)=true))] at c
       refine aa (ax some (bK am)) ?_
       repeat' (first | exact trivial | refine aa rfl ?_ | refine aa (ax (fun (z:List (List Int×AV))=>some (AV.me .ents 11 m (gp true z))) c.symm) ?_ | fail))
     |(rw [aY (aR (by assumption:decide (r.most<N.most)=false))] at c
       refine aa (ax some (bK am)) ?_
       repeat' (first | exact trivial | refine aa rfl ?_ | refine aa (ax (fun (z:List (List Int×AV))=>some (AV.me .ents 11 m (gp true z))) c.symm) ?_ | fail))
     |(repeat' (first | exact trivial | refine aa rfl ?_))
  ·have w:=dT (show ¬((i:Int)<((l.map uq).length:Int)) by omega);have A:i=l.length:=by omega
   subst A;refine bv ?_;refine aI.loop (X:=Nat) (fun x=>⟨[(47,.int .i64 x),(46,.int .i64 (l.map uq).length),(45,W9 l),(4,.lit (.map (some m))),(xk 11,.me .ents 11 m (gp true (kF l l.length))),(0,cK b s),(xk 5000011,.me .box 5000011 b [[.sl .full 0 [],.sl (.id 5005000) 6 ((R++(List.range x).flatMap (mZ s.buns.length l)).map qu)]])],[]⟩) (fun x=>x<=l.length) (fun x=>l.length - x) 0 (aZ _) (St.le.of ?_ ?_) (fun x hx=>?_)
   ·repeat' (first | exact trivial | refine aa rfl ?_ | refine aa (ax (fun (z:List j1)=>some (AV.me .box 5000011 b [[AV.sl .full 0 [],AV.sl (.id 5005000) 6 (z.map qu)]])) (bV _).symm) ?_ | fail)
   ·exact RF
   ·rename Nat=>i
    have hi:=hx;by_cases a:i<l.length
    ·have u:=dF (show (i:Int)<((l.map uq).length:Int) by omega);have hx:(l.map uq)[(i:Int).toNat]?=some (uq (l.getD i qv)):=cQ uq qv a;have t:=xc l (yD (l.getD i qv).2) l.length;have d:=xb l l.length;have L:=AB l _ l.length i a rfl;have v:=hf _ (cF qv a);have c:(List.range (i+1)).flatMap (mZ s.buns.length l)=(List.range i).flatMap (mZ s.buns.length l)++mZ s.buns.length l i:=by rw [dV,List.flatMap_append]; simp
     have q:mZ s.buns.length l i=if ng l (yD (l.getD i qv).2) l.length=some i then mS s.buns.length (l.getD i qv) else []:=rfl
     have D:(R++(List.range i).flatMap (mZ s.buns.length l)).length<=1000000000:=by
      have:=zX s.buns.length l i;rw [cj]; omega
     generalize ng l (yD (l.getD i qv).2) l.length=bi at *;generalize kF l l.length=n at *;generalize l.getD i qv=J at *;obtain ⟨r,f⟩:=J;dsimp only at t q v;obtain ⟨M,y⟩:∃ M,R++(List.range i).flatMap (mZ s.buns.length l)=M:=⟨_,rfl⟩;rw [y] at D ⊢;have c1:=J1 b s E P M D r f v
     cases bi with
     | none=>cases L
     | some j=>
      simp only [bJ] at t
      cases hj:((j:Int)==(i:Int)) with
      | true=>
       have B:((j:Int)==(i:Int))=false->False:=fun h=>by rw [hj] at h; cases h
       have o:j=i:=by have:=eq_of_beq hj; omega
       rw [aV (by rw [o])] at q
       repeat' first|exact (u a8).elim|exact (B a8).elim|refine QE [60] rfl hG af kp ?_|((conv=>whnf); first|refine cZ ?_|refine cY ?_|refine ed ?_|refine aa (au i) (ae _ (aa hx ?_))|refine ae 11 (ae n (ae (yD f) (ae _ (aa (aa rfl (aa rfl (aa rfl (aa d t)))) ?_))))|refine xE c1 ?_|refine ⟨fun h=>?_,fun h=>?_⟩|refine aj ?_)
       refine ae (i+1) (aa a (aa am (St.le.of ?_ ?_)))
       ·refine aa (ax some (bK am)) ?_
        repeat' (first | exact trivial | refine aa rfl ?_ | refine aa (ax (fun (z:List j1)=>some (AV.me .box 5000011 b [[AV.sl .full 0 [],AV.sl (.id 5005000) 6 (z.map qu)]])) (by rw [c,q,<- wm,y])) ?_ | fail)
       ·exact RF
      | false=>
       have B:((j:Int)==(i:Int))=true->False:=fun h=>by rw [hj] at h; cases h
       have o:¬ j=i:=fun e=>by rw [e] at hj; simp at hj
       rw [aY (fun e=>o (iK e))] at q
       repeat' first|exact (u a8).elim|exact (B a8).elim|refine QE [60] rfl hG af kp ?_|((conv=>whnf); first|refine cZ ?_|refine cY ?_|refine ed ?_|refine aa (au i) (ae _ (aa hx ?_))|refine ae 11 (ae n (ae (yD f) (ae _ (aa (aa rfl (aa rfl (aa rfl (aa d t)))) ?_))))|refine xE c1 ?_|refine ⟨fun h=>?_,fun h=>?_⟩|refine aj ?_)
       refine ae (i+1) (aa a (aa am (St.le.of ?_ ?_)))
       ·refine aa (ax some (bK am)) ?_
        repeat' (first | exact trivial | refine aa rfl ?_ | refine aa (ax (fun (z:List j1)=>some (AV.me .box 5000011 b [[AV.sl .full 0 [],AV.sl (.id 5005000) 6 (z.map qu)]])) (by rw [c,q,bV,y])) ?_ | fail)
       ·exact RF
    ·have u:=dT (show ¬((i:Int)<((l.map uq).length:Int)) by omega);have A:i=l.length:=by omega
     subst A
     repeat' first|exact (u a8).elim|refine QE [60] rfl hG af kp ?_|((conv=>whnf); first|refine cZ ?_|refine cY ?_|refine ed ?_|refine ⟨fun h=>?_,fun h=>?_⟩|refine aj ?_)
     refine gj.mk (bw rfl) (ae (.tup []) (ae (LR b (R++wI s.buns.length l)) (aa (aa rfl rfl) (aa (aj (az rfl)) (aa aK aK)))))
open Go Go.AI
set_option maxRecDepth 10000
theorem DM {s:dY} {id:Int} {l:List Int} (h:∀ j∈l,0<=j/\j<(s.opts.length:Int)) {o:dZ} (a:o∈qL s id l):o∈s.opts:=by
 unfold qL kU at a;obtain ⟨j,hj,rfl⟩:=bp.1 (gF.1 a).1;have:=h j hj;unfold eR;exact cF _ am
theorem DN (s:dY) (id:Int) (l:List Int):(qL s id l).length<=l.length:=by
 have:=kT (fun y:dZ=>decide (y.sat=id)) (kU s l);simp only [qL,kU,ay] at *; exact this
open Go Go.AI
set_option maxRecDepth 10000
theorem Vg (s:Nat->Int) (l:List d6) (a b:Int) (hl:l.length<=1000000) (hv:mN s l a b=true):ar Tryz.prog 94 [.agg (bR s),i6 l,.agg (cA a b)] (.tup [.int .i64 (qA (jG s l a b)),.int .i64 0]):=by
 obtain ⟨c,j,e,o⟩:=Dq hv;have d:=Lz s l a b hl;rw [hv] at d;have hlen:(jG s l a b).length<=4320:=by rw [uC]; omega
 refine ar.ofB af Tryz.func94 rfl aK bj (ah rfl) ?_;intro F n w0 m0 hG m h1
 repeat' first|refine QE [] rfl hG af (.mk:KP nT) ?_|((conv=>whnf); first|refine cZ ?_|refine cY ?_|refine ed ?_|refine ae _ (aa (d) ?_)|refine ae _ (aa (Ly s l a b) ?_)|refine aa (fun h=>?_) (fun h=>?_)|refine aj ?_)
 refine ⟨kk hG h1 (α:=Int×Int) (fun p=>[.int .i64 p.1,.int .i64 p.2]) (f:=253) (cap:=uD s l a b) (items:=jG s l a b) rfl (vZ (JV s l a b c.1 c.2.2 (by have:=zE e; omega) (xI e)) (fun _=>rfl) OX) (fun _=>rfl)
  (fun _=>[(8,.loc 8 0)]) [8] (fun _=>rfl) (fun pre=>[(8,[.int .i64 (qA pre)])]) (St.le.of ?_ ?_) aK bt ?_ ?_⟩
 ·exact RF
 ·exact RF
 ·intro q i m' hG _ _ pre x rest hx;refine aI.out (aI.reg hG af nT aK ?_)
  conv=>whnf
  refine aa rfl (aa (LE) ?_)
  ·refine aI.out ?_
   repeat' first|refine QE [] rfl hG af (.mk:KP nT) ?_|((conv=>whnf); first|refine cZ ?_|refine cY ?_|refine ed ?_|refine aa (fun h=>?_) (fun h=>?_)|refine aj ?_)
   refine St.le.of ?_ ?_
   ·exact RF
   ·refine aa ?_ trivial;rw [If]; rfl
 ·conv=>whnf
  repeat' first|refine QE [] rfl hG af (.mk:KP nT) ?_|((conv=>whnf); first|refine cZ ?_|refine cY ?_|refine ed ?_|refine aa (fun h=>?_) (fun h=>?_)|refine aj ?_)
  all_goals exact Ez
theorem Ke (s:Nat->Int) (a b:Int) (hv:mN s [] a b=true):ar Tryz.prog 94 [.agg (bR s),.sl .full 0 [],.agg (cA a b)] (.tup [.int .i64 (qA (jG s [] a b)),.int .i64 0]):=(Vg s [] a b dc hv).weak (us:=[.agg (bR s),.sl .full 0 [],.agg (cA a b)]) (.cons (.refl _) (.cons bI (.cons (.refl _) .nil)))
def WS (x y:Int×Int):Int:=max 0 (cm (min x.2 y.2 - max x.1 y.1))
theorem nP (a b c d:Int):ar Tryz.prog 91 [.agg [.int .i64 a,.int .i64 b],.agg [.int .i64 c,.int .i64 d]] (.int .i64 (WS (a,b) (c,d))):=dP Ko Tryz.func91
def pc (x:Nat->Int) (w:Int×Int) (l:List dZ):Int:=l.foldl (fun n o=>cm (n+cm (x 16*WS (o.a,o.b) w))) 0
set_option maxHeartbeats 8000000 in
theorem Oc (b:Nat) (s:dY) (x:Nat->Int) (w:Int×Int) (i:Int) (u:iu) (hu:u.opts.length<=1000000) (m:∀ j∈u.opts,0<=j/\j<s.opts.length):ar Tryz.prog 90 [.int .i64 i,.agg (eO u),.ref [cK b s],.ref [.clo 166 [.ref [.int .i64 (x 0)]]],.ref (bR x),.ref (cA w.1 w.2)] (.int .i64 (pc x w (qL s (x 0) u.opts))):=by
 have c1:=je b s u (x 0) hu m;have t:=fun o (p:o∈qL s (x 0) u.opts)=>DM m p;have q:=DN s (x 0) u.opts;generalize qL s (x 0) u.opts=l at *;refine aM Kp Tryz.func90 ?_;intro F y w0 m0 hG r h1 kp;refine bv ?_;refine aI.loop (X:=Nat) (fun j=>⟨[(16,.int .i64 j),(15,.int .i64 (l.map bL).length),(14,dl l),(8,.int .i64 (pc x w (l.take j))),(4,.ref (bR x)),(5,.ref (cA w.1 w.2))],[]⟩) (fun j=>j<=l.length) (fun j=>l.length - j) 0 (aZ _) (LE) (fun i hx=>?_)
 ·have hi:=hx;by_cases c:i<l.length
  ·have d:=dF (show (i:Int)<((l.map bL).length:Int) by simp; omega);have hx:=cQ bL de c;have n:=cF de c;have f:pc x w (l.take (i+1))=cm (pc x w (l.take i)+cm (x 16*WS ((l.getD i de).a,(l.getD i de).b) w)):=by rw [dG de c,pc,cJ]; rfl
   generalize pc x w (l.take i)=acc at *;generalize l.getD i de=v at *
   repeat' first|exact (d a8).elim|refine aQ ?_|((conv=>whnf); first|refine aa (au i) (ae _ (aa hx ?_))|refine ae _ (aa (nP _ _ _ _) ?_)|refine ⟨fun h=>?_,fun h=>?_⟩|refine aj ?_)
   all_goals (refine ae (i+1) (aa c (aa am (St.le.of ?_ ?_))))
   all_goals first
    |(refine aa (ax some (bK am)) ?_
      repeat' (first | exact trivial | refine aa rfl ?_ | refine aa (ax (fun z=>some (AV.int .i64 z)) f.symm) ?_))
    |(repeat' (first | exact trivial | refine aa rfl ?_))
  ·have d:=dT (show ¬((i:Int)<((l.map bL).length:Int)) by simp; omega);have e:i=l.length:=by omega
   subst e;rw [ej];refine bv ?_
   all_goals exact Ez
def lq (t:Int) (l:List dZ):Int:=l.foldl (fun n o=>if o.a<=t/\t<uG o then cm (n+o.size) else n) 0
set_option maxHeartbeats 8000000 in
theorem JP (b:Nat) (s:dY) (x:Nat->Int) (t:Int) (A:∀ o∈s.opts,EC o=true/\o.sl.length<=1000000) (i:Int) (u:iu) (hu:u.opts.length<=1000000) (v:∀ j∈u.opts,0<=j/\j<s.opts.length):ar Tryz.prog 92 [.int .i64 i,.agg (eO u),.ref [cK b s],.ref [.clo 166 [.ref [.int .i64 (x 0)]]],.ref [.int .i64 t]] (.int .i64 (lq t (qL s (x 0) u.opts))):=by
 have c1:=je b s u (x 0) hu v;have p:=fun o (w:o∈qL s (x 0) u.opts)=>DM v w;have B:=DN s (x 0) u.opts;generalize qL s (x 0) u.opts=l at *;refine aM Kn Tryz.func92 ?_;intro F G w0 m0 hG D h1 kp;refine bv ?_;refine aI.loop (X:=Nat) (fun j=>⟨[(17,.int .i64 j),(16,.int .i64 (l.map bL).length),(15,dl l),(7,.int .i64 (lq t (l.take j))),(4,.ref [.int .i64 t])],[]⟩) (fun j=>j<=l.length) (fun j=>l.length - j) 0 (aZ _) (LE) (fun i hx=>?_)
 ·have hi:=hx;by_cases c:i<l.length
  ·have d:=dF (show (i:Int)<((l.map bL).length:Int) by simp; omega);have hx:=cQ bL de c;have e:=cF de c;have r:lq t (l.take (i+1))=if (l.getD i de).a<=t/\t<uG (l.getD i de) then cm (lq t (l.take i)+(l.getD i de).size) else lq t (l.take i):=by rw [dG de c,lq,cJ]; rfl
   generalize lq t (l.take i)=acc at *;obtain ⟨f,m⟩:=A _ (p _ e);have y:=tJ _ m f;generalize l.getD i de=E at *
   repeat' first|exact (d a8).elim|refine aQ ?_|((conv=>whnf); first|refine aa (au i) (ae _ (aa hx ?_))|refine ae _ (aa (y) ?_)|refine ⟨fun h=>?_,fun h=>?_⟩|refine aj ?_)
   all_goals (refine ae (i+1) (aa c (aa am (St.le.of ?_ ?_))))
   all_goals first
    |(refine aa (ax some (bK am)) ?_
      repeat' (first | exact trivial | refine aa rfl ?_ | refine aa (ax (fun z=>some (AV.int .i64 z)) (r.trans (by first | exact aV ⟨aF a8,aF a8⟩ | exact aY (fun n=>aR a8 n.1) | exact aY (fun n=>aR a8 n.2))).symm) ?_))
    |(repeat' (first | exact trivial | refine aa rfl ?_))
  ·have d:=dT (show ¬((i:Int)<((l.map bL).length:Int)) by simp; omega);have q:i=l.length:=by omega
   subst q;rw [ej];refine bv ?_
   all_goals exact Ez
open Go Go.AI
set_option maxRecDepth 10000
def Qi (id n:Int) (u:iu):Int:=if u.ord=id then n else 0
theorem AP (id n i:Int) (u:iu):ar Tryz.prog 101 [.int .i64 i,.agg (eO u),.ref [.int .i64 id],.ref [.int .i64 n]] (.int .i64 (Qi id n u)):=by
 refine aM Hz Tryz.func101 ?_;intro F b w0 m0 hG a h1 kp
 repeat' first|refine aQ ?_|((conv=>whnf); first|refine ⟨fun h=>?_,fun h=>?_⟩|refine aj ?_)
 all_goals refine Ei ?_
 all_goals (clear hG; unfold Qi; grind)
theorem NP (id n:Int):ar Tryz.prog 100 [.int .i64 id,.int .i64 n] (.clo 101 [.ref [.int .i64 id],.ref [.int .i64 n]]):=dP HA Tryz.func100
def Zn (i k:Int):Int:=cm (1 - min 1 (max (cm (i - k)) (cm (k - i))))
theorem NQ (i k:Int) (u:iu):ar Tryz.prog 102 [.int .i64 k,.agg (eO u),.ref [.int .i64 i]] (.int .i64 (Zn i k)):=dP Hy Tryz.func102
theorem HB (l:List ea) (p:ea->Bool) (g:FuncId) (fv:AV) (cap:List AV) (hf:fv = .clo g cap\/(fv = .fn g/\cap=[])) (hl:l.length<=1000000)
  (hp:∀ x∈l,ar Tryz.prog g ((.agg (dA x))::cap) (.bool (p x))):ar Tryz.prog 175 [.sl .no 3 (l.map dA),fv] (.int .i64 (lV p l 0)):=by
 let E:=dA; let D:=slZ; let K:=GE; let N:=3; have f:=Tryz.func175; exact Wk
theorem qh (l:List ea) (p:ea->Bool) (g:FuncId) (fv:AV) (cap:List AV) (hf:fv = .clo g cap\/(fv = .fn g/\cap=[])) (hl:l.length<=1000000)
  (hp:∀ x∈l,ar Tryz.prog g ((.agg (dA x))::cap) (.bool (p x))):ar Tryz.prog 97 [.sl .no 3 (l.map dA),fv] (.bool (l.any p)):=by
 have I:=HB l p g fv cap hf hl hp; let K:=Kj; have f:=Tryz.func97; exact Y2
def zt (x y:ea):Bool:=decide (WS (x.a,x.b) (y.a,y.b)>0)
theorem EH (x y:ea):ar Tryz.prog 99 [.agg (dA y),.ref (dA x)] (.bool (zt x y)):=by
 refine aM Kh Tryz.func99 ?_;intro F b w0 m0 hG a h1 kp
 repeat' first|refine aQ ?_|((conv=>whnf); first|refine ae _ (aa (nP _ _ _ _) ?_)|refine ⟨fun h=>?_,fun h=>?_⟩|refine aj ?_)
 all_goals exact Ez
def MQ (x:Nat->Int) (w:Int×Int) (n:Int) (l:List ea):Int:=l.foldl (fun n y=>cm (n+cm (x 15*WS (y.a,y.b) w))) n
def lv (x:Nat->Int) (w:Int×Int) (l:List dZ):Int:=l.foldl (fun n o=>MQ x w (cm (n+cm (x 14*WS (o.a,o.b) w))) o.sl) 0
set_option maxHeartbeats 8000000 in
theorem Kg (b:Nat) (s:dY) (x:Nat->Int) (w:Int×Int) (r:∀ o∈s.opts,o.sl.length<=1000000) (i:Int) (u:iu) (hu:u.opts.length<=1000000) (D:∀ j∈u.opts,0<=j/\j<s.opts.length):ar Tryz.prog 95 [.int .i64 i,.agg (eO u),.ref [cK b s],.ref [.clo 166 [.ref [.int .i64 (x 0)]]],.ref (bR x),.ref (cA w.1 w.2)] (.int .i64 (lv x w (qL s (x 0) u.opts))):=by
 have c1:=je b s u (x 0) hu D;have v:=fun o (L:o∈qL s (x 0) u.opts)=>DM D L;have E:=DN s (x 0) u.opts;generalize qL s (x 0) u.opts=l at *;refine aM Kl Tryz.func95 ?_;intro F N w0 m0 hG H h1 kp;refine bv ?_;refine aI.loop (X:=Nat) (fun j=>⟨[(18,.int .i64 j),(17,.int .i64 (l.map bL).length),(16,dl l),(8,.int .i64 (lv x w (l.take j))),(4,.ref (bR x)),(5,.ref (cA w.1 w.2))],[]⟩) (fun j=>j<=l.length) (fun j=>l.length - j) 0 (aZ _) (LE) (fun i hi=>?_)
 ·by_cases c:i<l.length
  ·have n:=dF (show (i:Int)<((l.map bL).length:Int) by simp; omega);have hx:=cQ bL de c;have q:=r _ (v _ (cF de c));have e:lv x w (l.take (i+1))=MQ x w (cm (lv x w (l.take i)+cm (x 14*WS ((l.getD i de).a,(l.getD i de).b) w))) (l.getD i de).sl:=by rw [dG de c,lv,cJ]; rfl
   generalize lv x w (l.take i)=acc at *;generalize l.getD i de=J at *;obtain ⟨Q,U,P,G,M,A,ok,Z,os⟩:=J;dsimp only at q e;obtain ⟨d,p⟩:∃ d,cm (acc+cm (x 14*WS (M,A) w))=d:=⟨_,rfl⟩;rw [p] at e
   repeat' first|exact (n a8).elim|refine aQ ?_|((conv=>whnf); first|refine aa (au i) (ae _ (aa hx ?_))|refine ae _ (aa (nP _ _ _ _) ?_)|refine ⟨fun h=>?_,fun h=>?_⟩|refine aj ?_)
   refine aI.loop (X:=Nat) (fun j=>⟨[(34,.int .i64 j),(33,.int .i64 (os.map dA).length),(32,wv os),(8,.int .i64 (MQ x w d (os.take j))),(18,.int .i64 i),(17,.int .i64 (l.map bL).length),(16,dl l),(4,.ref (bR x)),(5,.ref (cA w.1 w.2))],[]⟩) (fun j=>j<=os.length) (fun j=>os.length - j) 0 (aZ _) (St.le.of ?_ ?_) (fun j hj=>?_)
   ·repeat' (first | exact trivial | refine aa rfl ?_ | refine aa (ax (fun z=>some (AV.int .i64 z)) (show _=d from p)) ?_ | fail)
   ·exact RF
   ·by_cases f:j<os.length
    ·have m:=dF (show (j:Int)<((os.map dA).length:Int) by simp; omega);have hy:=cQ dA slZ f;have B:MQ x w d (os.take (j+1))=cm (MQ x w d (os.take j)+cm (x 15*WS ((os.getD j slZ).a,(os.getD j slZ).b) w)):=by rw [dG slZ f,MQ,cJ]; rfl
     generalize MQ x w d (os.take j)=ac at *;generalize os.getD j slZ=z at *
     repeat' first|exact (m a8).elim|refine aQ ?_|((conv=>whnf); first|refine aa (au j) (ae _ (aa hy ?_))|refine ae _ (aa (nP _ _ _ _) ?_)|refine ⟨fun h=>?_,fun h=>?_⟩|refine aj ?_)
     refine ae (j+1) (aa f (aa am (St.le.of ?_ ?_)))
     ·refine aa (ax some (bK am)) ?_
      repeat' (first | exact trivial | refine aa rfl ?_ | refine aa (ax (fun z=>some (AV.int .i64 z)) B.symm) ?_ | fail)
     ·exact RF
    ·have m:=dT (show ¬((j:Int)<((os.map dA).length:Int)) by simp; omega);have t:j=os.length:=by omega
     subst t;rw [ej,<- e]
     repeat' first|exact (m a8).elim|refine aQ ?_|((conv=>whnf); first|refine ⟨fun h=>?_,fun h=>?_⟩|refine aj ?_)
     refine ae (i+1) (aa c (aa am (LE)))
  ·have n:=dT (show ¬((i:Int)<((l.map bL).length:Int)) by simp; omega);have y:i=l.length:=by omega
   subst y;rw [ej];refine bv ?_
   all_goals exact Ez
def ur (s:dY) (q:Int) (l:List dZ):Int:=l.foldl (fun n o=>if Xe s o=q then cm (n+cm (o.b - o.a)) else n) 0
set_option maxHeartbeats 8000000 in
theorem Rt (b:Nat) (s:dY) (n:s.Small) (q i:Int) (u:iu) (hu:u.opts.length<=1000000) (t:∀ j∈u.opts,0<=j/\j<s.opts.length):ar Tryz.prog 104 [.int .i64 i,.agg (eO u),.ref [cK b s],.ref [.int .i64 q]] (.int .i64 (ur s q (kU s u.opts))):=by
 have c1:=kg b s n u hu t;have p:(kU s u.opts).length=u.opts.length:=by simp [kU]
 generalize kU s u.opts=l at *;refine aM Hx Tryz.func104 ?_;intro F v w0 m0 hG r h1 kp;refine bv ?_;refine aI.loop (X:=Nat) (fun j=>⟨[(13,.int .i64 j),(12,.int .i64 (l.map bL).length),(11,dl l),(6,.int .i64 (ur s q (l.take j))),(2,.ref [cK b s]),(3,.ref [.int .i64 q])],[]⟩) (fun j=>j<=l.length) (fun j=>l.length - j) 0 (aZ _) (LE) (fun i hi=>?_)
 ·by_cases d:i<l.length
  ·have e:=dF (show (i:Int)<((l.map bL).length:Int) by simp; omega);have hx:=cQ bL de d;have c:ur s q (l.take (i+1))=if Xe s (l.getD i de)=q then cm (ur s q (l.take i)+cm ((l.getD i de).b - (l.getD i de).a)) else ur s q (l.take i):=by rw [dG de d,ur,cJ]; rfl
   generalize ur s q (l.take i)=acc at *;generalize l.getD i de=m at *;have c2:=tL b s n m;generalize Xe s m=o at *
   repeat' first|exact (e a8).elim|refine aQ ?_|((conv=>whnf); first|refine aa (au i) (ae _ (aa hx ?_))|refine ae _ (aa (c2) ?_)|refine ⟨fun h=>?_,fun h=>?_⟩|refine aj ?_)
   all_goals (refine ae (i+1) (aa d (aa am (St.le.of ?_ ?_))))
   all_goals first
    |(rw [aV (eq_of_beq (by assumption:(o==q)=true))] at c
      refine aa (ax some (bK am)) ?_
      repeat' (first | exact trivial | refine aa rfl ?_ | refine aa (ax (fun z=>some (AV.int .i64 z)) c.symm) ?_ | fail))
    |(rw [aY (Xm (by assumption:(o==q)=false))] at c
      refine aa (ax some (bK am)) ?_
      repeat' (first | exact trivial | refine aa rfl ?_ | refine aa (ax (fun z=>some (AV.int .i64 z)) c.symm) ?_ | fail))
    |(repeat' (first | exact trivial | refine aa rfl ?_))
  ·have e:=dT (show ¬((i:Int)<((l.map bL).length:Int)) by simp; omega);have f:i=l.length:=by omega
   subst f;rw [ej];refine bv ?_
   all_goals exact Ez
theorem NB (x:ea) (l:List ea) (p:dZ) (hl:p.sl.length<=1000000):ar Tryz.prog 98 [.agg (dA x),.ref (bL p)] (.bool (p.sl.any (zt x))):=by
 have c1:=qh p.sl (zt x) 99 _ [.ref (dA x)] (aj rfl) hl (fun y _=>EH x y);refine aM Ki Tryz.func98 ?_;intro F b w0 m0 hG a h1 kp;refine bv ?_
 all_goals exact Ez
def WT (a c:dZ):Bool := !(a.sl.any fun x=>c.sl.any (zt x))
theorem BJ (a c:dZ) (b:a.sl.length<=1000000) (d:c.sl.length<=1000000):ar Tryz.prog 96 [.agg (bL a),.agg (bL c)] (.bool (WT a c)):=by
 have c1:=qh a.sl (fun x=>c.sl.any (zt x)) 98 _ [.ref (bL c)] (aj rfl) b (fun x _=>NB x [] c d);refine aM Kk Tryz.func96 ?_;intro F f w0 m0 hG e h1 kp;refine bv ?_
 all_goals exact Ez
def OH (x:Nat->Int) (a c:dZ):Bool:=yn x (gc [a,c])&&(xA x (gc [a,c])).isNone
theorem BI (x:Nat->Int) (a c:dZ):ar Tryz.prog 86 [.agg (bL a),.agg (bL c),.ref (bR x)] (.bool (OH x a c)):=by
 have c1:=(Sy [a,c] (ah rfl)).weak (us:=[.sl .full 9 ([a,c].map bL)]) (.cons AV.weak.sl .nil);have c2:=Rv x (gc [a,c]) (ah rfl);unfold OH;unfold OG at c2
 cases hv:yn x (gc [a,c]) with
 | false=>
  rw [hv,aY dc] at c2;refine aM rp Tryz.func86 ?_;intro F d w0 m0 hG b h1 kp;refine bv ?_
  all_goals exact Ez
 | true=>
  rw [hv,aV rfl] at c2
  cases e:xA x (gc [a,c]) with
  | none=>
   rw [e] at c2;refine aM rp Tryz.func86 ?_;intro F d w0 m0 hG b h1 kp;refine bv ?_
   all_goals exact Ez
  | some p=>
   rw [e] at c2;refine aM rp Tryz.func86 ?_;intro F d w0 m0 hG b h1 kp;refine bv ?_
   all_goals exact Ez
open Go Go.AI
set_option maxRecDepth 10000
def Cn (a:Int) (to:List Int):List (Int×Int):=(to.filter fun b=>decide (a<b)).map fun b=>(a,b)
def s7 (from_ to:List Int):List (Int×Int):=from_.flatMap fun a=>Cn a to
theorem Mi (a x:Int) (r:List Int):Cn a (x::r)=(bif decide (a<x) then [(a,x)] else [])++Cn a r:=by
 simp only [Cn,List.filter_cons];cases decide (a<x) <;> rfl
theorem vj (f t:List Int):ar Tryz.prog 89 [bB f,bB t] (.clo 171 [.ref [bB f],.ref [bB t]]):=dP Kq Tryz.func89
set_option maxHeartbeats 8000000 in
theorem qg (l r:List Int) (hl:l.length<=1000000) (M:r.length<=1000000):jA Tryz.prog Yy 171 [.ref [bB l],.ref [bB r]] (s7 l r):=by
 refine jA.of Tryz.func171 rfl aK bj (ah rfl) rfl ?_;intro F n m y J Jx hY
 repeat' first|refine QM rfl hY af (.mk:KP ig) ?_|((conv=>whnf); first|refine cZ ?_|refine cY ?_|refine ed ?_|refine aa (fun h=>?_) (fun h=>?_)|refine aj ?_)
 refine ir.loop (X:=Nat×Nat) (fun x=>((false,x.1),⟨[(10,.int .i64 x.2),(9,.int .i64 (l.map fun h=>[AV.int .i64 h]).length),(8,bB l),(0,.lit (.func (.yield y) #[] #[])),(2,.ref [bB r])],[]⟩)) (fun x=>x.1<=(s7 l r).length/\x.2<=l.length/\(s7 l r).drop x.1=s7 (l.drop x.2) r) (fun x=>l.length - x.2) (0,0) ⟨aZ _,aZ _,rfl⟩ rfl (LE) (fun x hx=>?_)
 ·obtain ⟨c,i⟩:=x;obtain ⟨E,hi,o⟩:=hx;simp only at E hi o;dsimp only;by_cases f:i<l.length
  ·have p:=dF (show (i:Int)<((l.map fun h=>[AV.int .i64 h]).length:Int) by grind);have hx:=cQ (fun h=>[AV.int .i64 h]) (0:Int) f;rw [PB 0 f] at o;have o:(s7 l r).drop c=Cn (l.getD i 0) r++s7 (l.drop (i+1)) r:=o;generalize l.getD i 0=a at *
   repeat' first|exact (p a8).elim|refine QM rfl hY af (.mk:KP ig) ?_|((conv=>whnf); first|refine cZ ?_|refine cY ?_|refine ed ?_|refine aa (au i) (ae _ (aa hx ?_))|refine aa (fun h=>?_) (fun h=>?_)|refine aj ?_)
   refine ir.loop (X:=Nat×Nat) (fun x=>((false,x.1),⟨[(16,.int .i64 x.2),(15,.int .i64 (r.map fun h=>[AV.int .i64 h]).length),(14,bB r),(5,.int .i64 a),(10,.int .i64 i),(9,.int .i64 (l.map fun h=>[AV.int .i64 h]).length),(8,bB l),(0,.lit (.func (.yield y) #[] #[])),(2,.ref [bB r])],[]⟩)) (fun x=>x.1<=(s7 l r).length/\x.2<=r.length/\(s7 l r).drop x.1=Cn a (r.drop x.2)++s7 (l.drop (i+1)) r) (fun x=>r.length - x.2) (c,0) ⟨E,aZ _,o⟩ rfl (LE) (fun x w=>?_)
   ·obtain ⟨c2,j⟩:=x;obtain ⟨u,hj,b⟩:=w;simp only at u hj b;dsimp only;by_cases d:j<r.length
    ·have e:=dF (show (j:Int)<((r.map fun h=>[AV.int .i64 h]).length:Int) by grind);have hy:=cQ (fun h=>[AV.int .i64 h]) (0:Int) d;rw [PB 0 d,Mi] at b;generalize r.getD j 0=z at *
     cases v:decide (a<z) with
     | true=>
      rw [v] at b;have q:=dF (show a<z by grind);obtain ⟨H,A,D⟩:=QZ b
      repeat' first|exact (e a8).elim|exact (q a8).elim|refine QM rfl hY af (.mk:KP ig) ?_|((conv=>whnf); first|refine cZ ?_|refine cY ?_|refine ed ?_|refine aa (au j) (ae _ (aa hy ?_))|refine aa (fun h=>?_) (fun h=>?_)|refine aj ?_)
      all_goals refine ae (a,z) (aa H (aa rfl (fun t G=>?_)))
      all_goals subst G
      all_goals refine aa ?_ ?_
      repeat' first|exact (e a8).elim|refine QM rfl hY af (.mk:KP ig) ?_|((conv=>whnf); first|refine cZ ?_|refine cY ?_|refine ed ?_|refine aa (fun h=>?_) (fun h=>?_)|refine aj ?_)
      all_goals first
       | exact iL.mk (aj rfl) (bw rfl)
       |(refine ae (c2+1,j+1) (aa ⟨D,d,A⟩ (aa (LO d (lP _)) (aa rfl (St.le.of ?_ ?_))))
         ·refine aa (ax some (bK am)) ?_;exact RF
         ·(repeat' (first | exact trivial | refine aa rfl ?_)))
     | false=>
      rw [v] at b;have q:=dT (show ¬(a<z) by grind)
      repeat' first|exact (e a8).elim|exact (q a8).elim|refine QM rfl hY af (.mk:KP ig) ?_|((conv=>whnf); first|refine cZ ?_|refine cY ?_|refine ed ?_|refine aa (au j) (ae _ (aa hy ?_))|refine aa (fun h=>?_) (fun h=>?_)|refine aj ?_)
      all_goals refine ae (c2,j+1) (aa ⟨u,d,b⟩ (aa (LO d (lP _)) (aa rfl (St.le.of ?_ ?_))))
      all_goals first
       |(refine aa (ax some (bK am)) ?_
         (repeat' (first | exact trivial | refine aa rfl ?_)))
       |(repeat' (first | exact trivial | refine aa rfl ?_))
    ·have e:=dT (show ¬((j:Int)<((r.map fun h=>[AV.int .i64 h]).length:Int)) by grind);rw [c7 (show r.length<=j by omega)] at b;have b:(s7 l r).drop c2=s7 (l.drop (i+1)) r:=b
     repeat' first|exact (e a8).elim|refine QM rfl hY af (.mk:KP ig) ?_|((conv=>whnf); first|refine cZ ?_|refine cY ?_|refine ed ?_|refine aa (fun h=>?_) (fun h=>?_)|refine aj ?_)
     refine ae (c2,i+1) (aa ⟨u,f,b⟩ (aa (LO f (lP _)) (aa rfl (LE))))
  ·have p:=dT (show ¬((i:Int)<((l.map fun h=>[AV.int .i64 h]).length:Int)) by grind);rw [c7 (show l.length<=i by omega)] at o
   have B:c=(s7 l r).length:=by
    have:=ax List.length o;have L:(s7 [] r).length=0:=rfl;rw [pW] at this; omega
   repeat' first|exact (p a8).elim|refine QM rfl hY af (.mk:KP ig) ?_|((conv=>whnf); first|refine cZ ?_|refine cY ?_|refine ed ?_|refine aa (fun h=>?_) (fun h=>?_)|refine aj ?_)
   exact iL.mk (bw rfl) (aj (ax (Prod.mk false) B))
open Go Go.AI
set_option maxRecDepth 10000
set_option maxHeartbeats 4000000 in
theorem mb (l m:List Wl) (hl:l.length<=1000000):ar Tryz.prog 11 [lF l,lF m] (.bool (decide (l=m))):=by
 have c:((l.map lZ).length:Int)=(l.length:Int):=by rw [ay]
 have d:((m.map lZ).length:Int)=(m.length:Int):=by rw [ay]
 refine aM Le Tryz.func11 ?_;intro F w w0 m0 hG t h1 kp
 repeat' first|refine aQ ?_|((conv=>whnf); first|refine ⟨fun h=>?_,fun h=>?_⟩|refine aj ?_)
 all_goals first
  |(refine Eb ?_
    have h:=(by assumption:(((l.map lZ).length:Int)!=((m.map lZ).length:Int))=true);rw [c,d] at h;exact (dR fun e=>by rw [e] at h; simp at h).symm)
  | skip
 have r:l.length=m.length:=by
  have h:=(by assumption:(((l.map lZ).length:Int)!=((m.map lZ).length:Int))=false);rw [c,d] at h;simp at h; omega
 refine aI.loop (X:=Nat) (fun x=>⟨[(5,.int .i64 x),(1,lF m),(0,lF l)],[]⟩) (fun x=>x<=l.length/\l.take x=m.take x) (fun x=>l.length - x) 0 ⟨aZ _,rfl⟩ (LE) (fun x hx=>?_)
 ·rename Nat=>i
  obtain ⟨hi,n⟩:=hx;by_cases a:i<l.length
  ·have b:=dF (show (i:Int)<((l.map lZ).length:Int) by omega);have hx:=DF (f:=lZ) I9 a;have hy:=DF (f:=lZ) I9 (show i<m.length by omega);have o:=wt I9 a;have q:=wt I9 (show i<m.length by omega);have j:l.getD i I9≠m.getD i I9->decide (l=m)=false:=fun h=>dR fun e=>h (by rw [e]);generalize l.getD i I9=u at *;generalize m.getD i I9=v at *
   repeat' first|exact (b a8).elim|refine aQ ?_|((conv=>whnf); first|refine aa (au i) (ae _ (aa hx ?_))|refine aa (au i) (ae _ (aa hy ?_))|refine ⟨fun h=>?_,fun h=>?_⟩|refine aj ?_)
   all_goals first
    |(refine Eb ?_
      exact (j fun e=>by subst e; have h:=(by assumption:(!_)=true); simp at h).symm)
    | skip
   refine ae (i+1) (aa ⟨a,?_⟩ (aa am (LE)))
   ·rw [o,q,n]
    have e:u=v:=by
     have h:=zO (by assumption:(!_)=false);cases u; cases v; simp at h; simp [h]
    rw [e]
  ·have b:=dT (show ¬((i:Int)<((l.map lZ).length:Int)) by omega);have he:l.take i=l:=bA am;have p:m.take i=m:=bA am;rw [he,p] at n;refine bv ?_;exact Ends.mk (aj rfl) (az (ax AV.bool (bP n).symm))
open Go Go.AI
set_option maxRecDepth 10000
def Zf:j1:=⟨0,0,0,0,[],0⟩
theorem TM (x:Int):(!decide (x=x))=true->False:=fun h=>by simp at h
theorem yY (x:Int):(x != x)=true->False:=fun h=>by simp at h
set_option maxHeartbeats 4000000 in
theorem BL (l:List Int) (hl:l.length<=1000000):ar Tryz.prog 47 [bB l,bB l] (.bool true):=by
 refine aM KQ Tryz.func47 ?_;intro F d w0 m0 hG c h1 kp
 repeat' first|exact (yY _ a8).elim|refine aQ ?_|((conv=>whnf); first|refine ⟨fun h=>?_,fun h=>?_⟩|refine aj ?_)
 refine aI.loop (X:=Nat) (fun i=>⟨[(5,.int .i64 i),(1,bB l),(0,bB l)],[]⟩) (fun i=>i<=l.length) (fun i=>l.length - i) 0 (aZ _) (LE) (fun i hi=>?_)
 ·by_cases b:i<l.length
  ·have a:=dF (show (i:Int)<((l.map (fun h=>[AV.int .i64 h])).length:Int) by simp; omega);have hx:=cQ (fun h=>[AV.int .i64 h]) (0:Int) b;generalize l.getD i 0=u at *
   repeat' first|exact (a a8).elim|exact (TM _ a8).elim|exact (yY _ a8).elim|refine aQ ?_|((conv=>whnf); first|refine aa (au i) (ae _ (aa hx ?_))|refine ⟨fun h=>?_,fun h=>?_⟩|refine aj ?_)
   refine ae (i+1) (aa b (aa am (LE)))
  ·have a:=dT (show ¬((i:Int)<((l.map (fun h=>[AV.int .i64 h])).length:Int)) by simp; omega);refine bv ?_;exact Ez
theorem gy (c n:Int) (a:n≠0):ar Tryz.prog 15 [.int .i64 c,.int .i64 n] (.int .i64 (aH c n)):=by
 refine aM Lb Tryz.func15 ?_;intro F d w0 m0 hG b h1 kp
 repeat' first|refine aQ ?_|((conv=>whnf); first|refine aa a ?_|refine ⟨fun h=>?_,fun h=>?_⟩|refine aj ?_)
 all_goals refine Ei ?_
 all_goals (simp_all [aH,cm] <;> omega)
def qa (l:List (Nat->Int)) (n:Int):Int:=match l.findIdx? fun x=>decide (x 0=n) with
 | some i=>i
 | none => -1
set_option maxHeartbeats 4000000 in
theorem JY (l:List (Nat->Int)) (n:Int) (hl:l.length<=1000000):ar Tryz.prog 55 [sx l,.int .i64 n] (.int .i64 (qa l n)):=by
 have e:∀ i,i<l.length->(l.take i).all (fun x => !decide (x 0=n))=true->decide ((l.getD i jp) 0=n)=false->(l.take (i+1)).all (fun x => !decide (x 0=n))=true:=fun i hi h1 h2=>by rw [dG jp hi,List.all_append,h1,qj,h2]; rfl
 refine aM KJ Tryz.func55 ?_;intro F q w0 m0 hG p h1 kp;refine bv ?_;refine aI.loop (X:=Nat) (fun i=>⟨[(5,.int .i64 i),(1,.int .i64 n),(0,sx l)],[]⟩) (fun i=>i<=l.length/\(l.take i).all (fun x => !decide (x 0=n))=true) (fun i=>l.length - i) 0 ⟨aZ _,rfl⟩ (LE) (fun i hi=>?_)
 ·obtain ⟨hi,d⟩:=hi;by_cases a:i<l.length
  ·have b:=dF (show (i:Int)<((l.map bR).length:Int) by simp; omega);have hx:=cQ bR jp a;have m:=e i a d;have o:=cF jp a
   have c:decide ((l.getD i jp) 0=n)=true->qa l n=(i:Int):=fun h=>by
    unfold qa
    have:l.findIdx? (fun x=>decide (x 0=n))=some i:=by
     rw [iD];refine ⟨a,?_,fun j hj=>?_⟩
     ·rw [aG,ai a] at h; exact h
     ·have:=aN.1 d (l[j]'(by omega)) (List.mem_take_iff_getElem.2 ⟨j,by omega,rfl⟩);simpa using this
    rw [this]
   generalize l.getD i jp=u at *
   repeat' first|exact (b a8).elim|refine aQ ?_|((conv=>whnf); first|refine aa (au i) (ae _ (aa hx ?_))|refine ⟨fun h=>?_,fun h=>?_⟩|refine aj ?_)
   ·refine Ends.mk (aj rfl) (az (ax (AV.int IntKind.i64) (c a8).symm))
   ·refine ae (i+1) (aa ⟨a,m a8⟩ (aa am (LE)))
  ·have b:=dT (show ¬((i:Int)<((l.map bR).length:Int)) by simp; omega);have he:l.take i=l:=bA am;rw [he] at d
   have f:qa l n = -1:=by
    unfold qa
    have:l.findIdx? (fun x=>decide (x 0=n))=none:=by
     rw [List.findIdx?_eq_none_iff];intro x hx;have:=aN.1 d x hx;simpa using this
    rw [this]
   refine bv ?_;exact Ends.mk (aj rfl) (az (ax (AV.int IntKind.i64) f.symm))
def ko (x y:bU):Bool:=if x.ca≠y.ca then decide (x.ca<y.ca) else if x.sat≠y.sat then decide (x.sat<y.sat) else if x.st≠y.st then decide (x.st<y.st) else if x.sa≠y.sa then decide (x.sa<y.sa) else decide (x.cb<y.cb)
theorem Cc (x y:bU):ar Tryz.prog 19 [.agg (bY x),.agg (bY y)] (.bool (ko x y)):=by
 refine aM K7 Tryz.func19 ?_;intro F b w0 m0 hG a h1 kp
 repeat' first|refine aQ ?_|((conv=>whnf); first|refine ⟨fun h=>?_,fun h=>?_⟩|refine aj ?_)
 all_goals refine Eb ?_
 all_goals unfold ko
 all_goals simp_all
set_option maxHeartbeats 8000000 in
theorem BK (l:List j1) (hl:l.length<=1000000) (e:∀ r∈l,r.coef.length<=1000000):ar Tryz.prog 12 [Ir l,Ir l] (.bool true):=by
 refine aM Ld Tryz.func12 ?_;intro F f w0 m0 hG d h1 kp
 repeat' first|exact (yY _ a8).elim|refine aQ ?_|((conv=>whnf); first|refine ⟨fun h=>?_,fun h=>?_⟩|refine aj ?_)
 refine aI.loop (X:=Nat) (fun i=>⟨[(5,.int .i64 i),(1,Ir l),(0,Ir l)],[]⟩) (fun i=>i<=l.length) (fun i=>l.length - i) 0 (aZ _) (LE) (fun i hi=>?_)
 ·by_cases a:i<l.length
  ·have b:=dF (show (i:Int)<((l.map qu).length:Int) by simp; omega);have hx:=cQ qu Zf a;have c0:=BL _ (e _ (cF Zf a));generalize l.getD i Zf=u at *;have c:(!true)=true->False:=fun h=>by cases h
   repeat' first|exact (b a8).elim|exact (TM _ a8).elim|exact (yY _ a8).elim|exact (c a8).elim|refine aQ ?_|((conv=>whnf); first|refine aa (au i) (ae _ (aa hx ?_))|refine ae _ (aa (c0) ?_)|refine ⟨fun h=>?_,fun h=>?_⟩|refine aj ?_)
   refine ae (i+1) (aa a (aa am (LE)))
  ·have b:=dT (show ¬((i:Int)<((l.map qu).length:Int)) by simp; omega);refine bv ?_;exact Ez
open Go Go.AI
set_option maxRecDepth 10000
def P5 (id:Int) (x y:Nat->Int):Nat->Int
 | 0=>aH id 24
 | k+1=>aaE x y (k+1)
set_option maxHeartbeats 4000000 in
theorem Rr (id:Int) (x y:Nat->Int) (hx:cm (2*cm (10+aH (x 0) 90))≠0):ar Tryz.prog 52 [.int .i64 id,.agg (d7 x),.agg (y4 y)] (.agg (bR (P5 id x y))):=by
 exact abq
def aax (id:Int) (y:Nat->Int):ob:=⟨aH id 12,aH (y 0) 48,aH (y 1) 24,aH (y 2) 5,cm (1+aH (y 3) 2),aH (cm ((y 3).tdiv 2)) 9⟩
set_option maxHeartbeats 4000000 in
theorem BM (id:Int) (y:Nat->Int):ar Tryz.prog 16 [.int .i64 id,.agg (y4 y)] (.agg (fa (aax id y))):=by
 refine aM La Tryz.func16 ?_;intro F b w0 m0 hG a h1 kp
 repeat' first|refine aQ ?_|((conv=>whnf); first|refine ae _ (aa (Ls _ _ bt) ?_)|refine aa (show (2:Int)≠0 by decide) ?_|refine aa bt (aa bt ?_)|refine ⟨fun h=>?_,fun h=>?_⟩|refine aj ?_)
 all_goals exact Ez
def z4:Nat->Int:=fun _=>0
def Mo (xs a:List (Nat->Int)) (i:Nat):Nat->Int:=P5 (2*(i:Int)+1) (xs.getD i jp) (a.getD i z4)
def Im (xs a:List (Nat->Int)):List (Nat->Int):=(List.range (min xs.length 3)).map (Mo xs a)
set_option maxHeartbeats 4000000 in
theorem NJ (xs a:List (Nat->Int)) (hx:∀ x∈xs,cm (2*cm (10+aH (x 0) 90))≠0):ar Tryz.prog 17 [.sl .no 7 (xs.map d7),.sl .no 4 (a.map y4)] (sx (Im xs a)):=by
 refine aM K9 Tryz.func17 ?_;intro F w w0 m0 hG v h1 kp;refine bv ?_;refine aI.loop (X:=Nat) (fun i=>⟨[(6,.int .i64 i),(5,.sl (.id 5) 21 (((List.range i).map (Mo xs a)).map bR)),(1,.sl .no 4 (a.map y4)),(0,.sl .no 7 (xs.map d7))],[]⟩) (fun i=>i<=min xs.length 3) (fun i=>3 - i) 0 (aZ _) (LE) (fun i hi=>?_)
 ·by_cases u:i<min xs.length 3
  ·have f:i<xs.length:=by omega
   have c:=dF (show (i:Int)<((xs.map d7).length:Int) by grind);have e:=dF (show (i:Int)<3 by grind);have r:=cQ d7 jp f;have b:((List.range (i+1)).map (Mo xs a)).map bR=((List.range i).map (Mo xs a)).map bR++[bR (P5 (2*(i:Int)+1) (xs.getD i jp) (a.getD i z4))]:=by rw [dV]; simp [Mo]
   have t:(((List.range i).map (Mo xs a)).map bR).length<=3:=by rw [ay,ay,SE]; omega
   have p:=hx _ (cF jp f);have n:IntKind.i64.wrap (IntKind.i64.wrap (2*(i:Int))+1)=2*(i:Int)+1:=by rw [show IntKind.i64.wrap (2*(i:Int))=2*(i:Int) from a6 am am]; exact a6 am am
   have c0:=fun (y:Nat->Int)=>Rr (2*(i:Int)+1) (xs.getD i jp) y p;rw [<- n] at c0;generalize ((List.range i).map (Mo xs a)).map bR=row at *;have j:(row.length+1)*168<=70368744177664:=by omega
   have l:row.length+1<=4611686018427387904:=by omega
   generalize xs.getD i jp=x at *;by_cases m:i<a.length
   ·have d:=dF (show (i:Int)<((a.map y4).length:Int) by grind);have hY:=cQ y4 z4 m;have c1:=c0 (a.getD i z4);generalize a.getD i z4=y at *
    repeat' first|exact (c a8).elim|exact (e a8).elim|exact (d a8).elim|refine aQ ?_|((conv=>whnf); first|refine aa (au i) (ae _ (aa r ?_))|refine aa (au i) (ae _ (aa hY ?_))|refine ae _ (aa (c1) ?_)|refine aa j (aa l ?_)|refine ⟨fun h=>?_,fun h=>?_⟩|refine aj ?_)
    refine ae (i+1) (aa am (aa am (St.le.of ?_ ?_)))
    ·rw [b,<- n];refine aa (ax some (bK am)) ?_;exact RF
    ·exact RF
   ·have d:=dT (show ¬((i:Int)<((a.map y4).length:Int)) by grind);have q:a.getD i z4=z4:=by rw [aG,fW am]; rfl
    rw [q] at b;have c1:=c0 z4
    repeat' first|exact (c a8).elim|exact (e a8).elim|exact (d a8).elim|refine aQ ?_|((conv=>whnf); first|refine aa (au i) (ae _ (aa r ?_))|refine ae _ (aa (c1) ?_)|refine aa j (aa l ?_)|refine ⟨fun h=>?_,fun h=>?_⟩|refine aj ?_)
    refine ae (i+1) (aa am (aa am (St.le.of ?_ ?_)))
    ·rw [b,<- n];refine aa (ax some (bK am)) ?_;exact RF
    ·exact RF
  ·have c:decide ((i:Int)<((xs.map d7).length:Int))=true->decide ((i:Int)<3)=true->False:=fun h h2=>by have:=aF h; have:=aF h2; rw [ay] at *; omega
   have o:i=min xs.length 3:=by omega
   subst o
   repeat' first|refine aQ ?_|((conv=>whnf); first|refine ⟨fun h=>?_,fun h=>?_⟩|refine aj ?_)
   all_goals first | exact (c a8 a8).elim | exact Ez
end Go.Proofs
