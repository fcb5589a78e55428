/- Part 5 of the proof: an abstract interpreter for the code, contracts of the functions, and plain facts; the conditions are those typed. -/
import Derived.Test.YtapmehbkgihgaaaGreatDoorND
import Derived.Shelf.SlLaysF0
import Derived.Lib.SlicesCompact
import Derived.Shelf.Lays
import Derived.Shelf.Lays2
import Derived.Shelf.Spec.TrailingZeros
set_option linter.unusedSectionVars false
set_option linter.unusedVariables false
set_option linter.unusedSimpArgs false
namespace Go.AI
open Go
abbrev dJ:=@List.range_succ
abbrev eK:=@Int.toNat_natCast
abbrev iP:=@List.pairwise_append
abbrev nf:=@List.filter_append
abbrev qq:=@BitVec.ofInt_natCast
abbrev sm:=@Bool.true_or
abbrev tC:=@BitVec.toNat_ofNat
abbrev AM:=@Bool.or_true
abbrev Lg:=@List.length_take_le
abbrev RW:=@List.all_eq_false
abbrev Vu:=@List.filter_cons
abbrev Zc:=@List.findSome?_eq_none_iff
end Go.AI
namespace Go.Proofs
open Go Go.AI
set_option maxRecDepth 10000
theorem CG (n a b:Int):aq Tryz.prog 184 [.int .i64 n,.int .i64 a,.int .i64 b] (.bool (cQ n a b)):=by
 refine aM FX Tryz.func184 ?_;intro F d w0 m0 hG c h1 kp
 repeat' first|refine aS ?_|((conv=>whnf); first|refine ⟨fun h=>?_,fun h=>?_⟩|refine ak ?_)
 all_goals refine Eb ?_
 all_goals (simp_all [cQ] <;> omega)
theorem td3 (n:Int):(0<=n->n.tdiv 3=n / 3)/\(n<0->n.tdiv 3 = -((-n) / 3)):=by
 refine ⟨fun h=>dS h,fun h=>?_⟩;have e:n.tdiv 3 = -((-n).tdiv 3):=by rw [Int.neg_tdiv,Int.neg_neg]
 rw [e,dS ar]
def small (n:Int):Prop := -1000000000<=n/\n<=1000000000
theorem tP {n:Int} (h:small n):iS n=n / 3:=by
 obtain ⟨h1,h2⟩:=h;obtain ⟨g1,g2⟩:=td3 n;have e:bW (n.tdiv 3)=n.tdiv 3:=aZ ar ar;unfold iS;rw [e,aZ (n:=3*n.tdiv 3) ar ar];split
 ·rw [aZ ar ar]; omega
 ·omega
theorem Ox {t:Int} (h:cQ t 0 1000000=true):0<=t/\t<=1000000:=by simpa only [cQ,al,aP] using h
theorem O1 {t:Int} (h:cQ t 0 1000000=true):0<=iy t/\iy t<360:=by
 have:=Ox h;unfold iy;rw [aZ (by rw [dS this.1]; omega) (by rw [dS this.1]; omega),dS this.1];exact ⟨mF _ ar,e7 _ ar⟩
theorem SR {t:Int} (h:cQ t 0 1000000=true):small (bW (bW (1440 - t.tmod 1440)*100)):=by
 have:=Ox h;have h1:0<=t.tmod 1440:=mF _ this.1;have h2:t.tmod 1440<1440:=e7 _ ar;unfold small;rw [aZ (n:=1440 - t.tmod 1440) ar ar,aZ ar ar];omega
theorem SQ (t:Int):small (sA t):=by
 unfold sA small;generalize iS _=q;rcases Int.lt_or_le q 0 with h | h
 ·have e:q.tmod 48000 = -((-q).tmod 48000):=by rw [Int.neg_tmod,Int.neg_neg]
  have h1:0<=(-q).tmod 48000:=mF _ ar;have h2:(-q).tmod 48000<48000:=e7 _ ar;omega
 ·have h1:0<=q.tmod 48000:=mF _ h;have h2:q.tmod 48000<48000:=e7 _ ar;omega
theorem Sv {t:Int} (h:cQ t 0 1000000=true):small (bW (iy t*100))/\small (bW (bW (180 - iy t)*100))/\small (bW (bW (iy t - 360)*100)):=by
 have:=O1 h;unfold small;rw [aZ (n:=iy t*100) ar ar,aZ (n:=180 - iy t) ar ar,aZ (n:=(180 - iy t)*100) ar ar,aZ (n:=iy t - 360) ar ar,aZ (n:=(iy t - 360)*100) ar ar];omega
theorem LK {t:Int} (h:cQ t 0 1000000=true):small (jl t):=by
 have e:=O1 h;obtain ⟨h1,h2,a⟩:=Sv h;have b:=tP h1;have d:=tP h2;have c:=tP a;rw [n5] at b d c h1 h2 a;unfold jl small at *;split
 ·rw [b,aZ ar ar]; omega
 ·split
  ·rw [d,aZ ar ar]; omega
  ·rw [c,aZ ar ar]; omega
theorem T4 {c:Int×Int} (h:kC c=true):0<=c.1/\c.1<=47/\0<=c.2/\c.2<=23:=by
 simp only [kC,cQ,al,aP] at h; omega
set_option maxHeartbeats 4000000 in
theorem Ug (s:Nat->Int):aq Tryz.prog 113 [.agg (bM s)] (.bool (kP s)):=by
 refine aM GS Tryz.func113 ?_;intro F b w0 m0 hG a h1 kp
 repeat' first|refine aS ?_|((conv=>whnf); first|refine ae _ (aa (CG _ _ _) ?_)|refine ae _ (aa (Aw (fun i=>s (i+2))) ?_)|refine ⟨fun h=>?_,fun h=>?_⟩|refine ak ?_)
 all_goals refine Eb ?_
 all_goals (simp only [cI,iq] at *)
 all_goals (simp only [kP, *,bG,cr,bJ,bP])
open Go Go.AI
set_option maxRecDepth 10000
def wY (a b:Int):Bool:=decide (0<=a)&&decide (a<b)&&decide (b<=1000000)&&decide (bW (b - a)<=3000)
structure fJ where
 a:Int
 b:Int
 k:Int
def lG (x:fJ):List AV:=[.int .i64 x.a,.int .i64 x.b,.int .i64 x.k]
def kG (l:List fJ):AV := .sl .no 3 (l.map lG)
def qV (s:Nat->Int) (l:List fJ) (a b:Int):List AV:=[.ref (cj a b),.ref (bM s),.ref [kG l]]
def Mo (t:Int) (x:fJ):Bool:=decide (x.a<=t)&&decide (t<x.b)
def qb (a cool:Int) (t:Int) (l:List fJ):Int:=l.foldl (fun g x=>if Mo t x then bW (g+a) else g) (bW (0 - cool))
def nT (s:Nat->Int) (l:List fJ) (a b:Int):List (Int×Int):=(List.range (b - a).toNat).map fun (i:Nat)=>(a+i,qb (s 16) (s 17) (a+(i:Int)) l)
theorem pc (w c t:Int) (l:List fJ) (x:fJ):qb w c t (l++[x])=if Mo t x then bW (qb w c t l+w) else qb w c t l:=by simp [qb,cV]
def jm (pre:List (Int×Int)):Int×List Int:=pre.foldl (fun r p=>(max 0 (bW (r.1+p.2)),r.2++[max 0 (bW (r.1+p.2))])) (0,[])
theorem xt (pre:List (Int×Int)):(jm pre).2.length=pre.length:=by
 suffices h:∀ (r:Int×List Int),(pre.foldl (fun r p=>(max 0 (bW (r.1+p.2)),r.2++[max 0 (bW (r.1+p.2))])) r).2.length=r.2.length+pre.length by simpa [jm] using h (0,[])
 induction pre with
 | nil=>intro r; simp
 | cons p t a=>grind
theorem o7 (pre:List (Int×Int)) (x:Int×Int):jm (pre++[x])=(max 0 (bW ((jm pre).1+x.2)),(jm pre).2++[max 0 (bW ((jm pre).1+x.2))]):=by simp [jm,cV]
def Yv (pre:List (Int×Int)):List (Nat×List AV):=[(8,[.int .i64 (jm pre).1]),(7,[.sl (.id 16) 1 ((jm pre).2.map fun h=>[.int .i64 h])])]
open Go Go.AI
set_option maxRecDepth 10000
def Ue (s:Nat->Int) (x:fJ):Bool:=decide (0<=x.a)&&decide (x.a<x.b)&&decide (x.b<=1000000)&&decide (bW (x.b - x.a)<=60)&&cQ x.k (bW (0 - s 9)) (s 9)
def XA (s:Nat->Int) (x:fJ) (j:Nat):Bool:=match j with
 | 0=>decide (0<=x.a)&&decide (x.a<x.b)&&decide (x.b<=1000000)
 | 1=>decide (bW (x.b - x.a)<=60)
 | _=>cQ x.k (bW (0 - s 9)) (s 9)
theorem NN (s:Nat->Int) (x:fJ):Ue s x=(XA s x 0&&XA s x 1&&XA s x 2):=rfl
def Qt (s:Nat->Int) (l:List fJ):Bool:=l.all (Ue s)&&decide (l.length<=64)
theorem Ud {α:Type} {p:α->Bool} {l:List α} {i:Nat} (hi:i<l.length) (h:(l.take i).all p=true) (hx:p l[i]=true):(l.take (i+1)).all p=true:=by
 grind [List.take_add_one,List.getElem?_eq_getElem]
theorem Xh {α:Type} {p:α->Bool} {l:List α} {i:Nat} (hi:i<l.length) (hx:p l[i]=false):l.all p=false:=by
 grind
def ZC (s:Nat->Int) (j k:Int):Int:=bW (s 19*max (bW (j - k)) (bW (k - j)))
def ZP (s:Nat->Int) (x y:fJ):Bool:=decide (y.a>=bW (x.b+ZC s x.k y.k))
def WO (s:Nat->Int) (x y:fJ):Bool:=if y.a<x.a then ZP s y x else ZP s x y
def tM (s:Nat->Int) (l:List fJ):Bool:=Qt s l&&kP s
theorem Cr {α:Type} {f:Nat->Option α} {N n:Nat} {v:α} (a:n<N) (h:∀ j,j<n->f j=none) (hv:f n=some v):(List.range N).findSome? f=some v:=by
 obtain ⟨d,rfl⟩:∃ d,N=n+(d+1):=⟨N - n - 1,by omega⟩;rw [List.range_add,List.findSome?_append,Zc.2 (fun x hx=>h x (bB.1 hx)),List.range_succ_eq_map];simp [hv]
theorem Cs {α:Type} {f:Nat->Option α} {N:Nat} (h:∀ j,j<N->f j=none):(List.range N).findSome? f=none:=Zc.2 (fun x hx=>h x (bB.1 hx))
def xD (l:List fJ) (i:Nat):fJ:=l.getD i ⟨0,0,0⟩
theorem Ja {l:List fJ} {i:Nat} (h:i<l.length):xD l i=l[i]:=by simp [xD,aK,ai h]
def NR (s:Nat->Int) (l:List fJ) (k i:Nat):Option (Nat×Nat):=if WO s (xD l i) (xD l k) then none else some (i,k)
def XE (s:Nat->Int) (l:List fJ) (k:Nat):Option (Nat×Nat):=(List.range k).findSome? (NR s l k)
def xa (s:Nat->Int) (l:List fJ):Option (Nat×Nat):=(List.range l.length).findSome? (XE s l)
def XF:Option (Nat×Nat)->List AV
 | none=>[.int .i64 0,.int .i64 0,.bool false,.int .i64 0]
 | some (i,k)=>[.int .i64 i,.int .i64 k,.bool true,.int .i64 0]
theorem Yb {a b:Int} (h:wY a b=true):0<=a/\a<b/\b<=1000000:=by simp only [wY,al,aP] at h; omega
theorem aat {p:Prop} {b:Bool} (h:(!b)=true) (g:b=true):p:=by rw [g] at h; cases h
def qS (s:Nat->Int) (l:List fJ) (a b:Int):List Int:=(jm (nT s l a b)).2
theorem Mq (s:Nat->Int) (l:List fJ) (a b:Int):(qS s l a b).length=(b - a).toNat:=by rw [qS,xt,nT]; simp
def Dr (s:Nat->Int) (l:List fJ) (a b:Int):Int:=let i:=lR (fun h=>decide (h>s 18)) (qS s l a b) 0; if i>=0 then bW (a+i) else -1
open Go Go.AI
set_option maxRecDepth 10000
theorem Pl {α:Type} {l:List α} {i:Nat} (hi:i<l.length):l.take (i+1)=l.take i++[l[i]]:=by rw [ef,ai hi]; rfl
structure CL (s:Nat->Int) (l:List fJ):Prop where
 w0:0<=s 16
 w1:s 16<=10000
 c0:0<=s 17
 c1:s 17<=10000
 ln:l.length<=64
theorem Dq {n a b:Int} (h:cQ n a b=true):a<=n/\n<=b:=by simpa [cQ] using h
def kR (t:Int) (l:List fJ):Nat:=(l.filter (Mo t)).length
theorem zX (t:Int) (l:List fJ):kR t l<=l.length:=iu _ _
def gS (s:Nat->Int) (l:List fJ) (t:Int):Int:=qb (s 16) (s 17) t l
theorem If {w:Int} {n:Nat} (a:0<=w) (h1:w<=10000) (b:n<=64):0<=w*n/\w*n<=640000:=
 ⟨Zd a ar,Int.le_trans (Ze h1 (show (n:Int)<=64 by omega) ar ar) ar⟩
theorem XS {s:Nat->Int} {l:List fJ} (h:CL s l) (t:Int):gS s l t=s 16*kR t l - s 17:=by
 obtain ⟨w0,w1,c0,c1,ln⟩:=h
 have key:∀ i:Nat,i<=l.length->qb (s 16) (s 17) t (l.take i)=s 16*kR t (l.take i) - s 17:=by
  intro i
  induction i with
  | zero=>grind [qb,kR,aZ,trans]
  | succ i b=>
   intro hi;have a:i<l.length:=hi;rw [Pl a,pc,b ar];have c:=zX t (l.take i);rw [dA] at c;have hm:=If w0 w1 (n:=kR t (l.take i)) ar
   have e:kR t (l.take i++[l[i]])=kR t (l.take i)+if Mo t l[i] then 1 else 0:=by
    unfold kR; rw [nf,bY]; congr 1;simp only [Vu,List.filter_nil]; split <;> rfl
   rw [e];grind [aZ,Int.natCast_add,Int.mul_add]
 have:=key l.length (ba _);rwa [dl] at this
theorem Tq {s:Nat->Int} {l:List fJ} (h:CL s l) (t:Int):-10000<=gS s l t/\gS s l t<=640000:=by
 rw [XS h];obtain ⟨w0,w1,c0,c1,ln⟩:=h;have:=If w0 w1 (n:=kR t l) (by have:=zX t l; omega);omega
def hv (g:Int->Int) (a:Int):Nat->Int
 | 0=>0
 | n+1=>max 0 (hv g a n+g (a+n))
theorem Tf {g:Int->Int} (b:∀ t,-10000<=g t/\g t<=640000) (a:Int):∀ n:Nat,0<=hv g a n/\hv g a n<=640000*(n:Int)
 | 0=>by simp [hv]
 | n+1=>by
  have h1:=Tf b a n;grind [hv]
theorem Iw {s:Nat->Int} {l:List fJ} (h:CL s l) (a:Int):∀ n:Nat,n<=3000 ->
  jm ((List.range n).map fun (i:Nat)=>(a+i,qb (s 16) (s 17) (a+(i:Int)) l))=(hv (gS s l) a n,(List.range n).map fun i=>hv (gS s l) a (i+1))
 | 0,_=>rfl
 | n+1,c=>by
  have b:=Iw h a n ar;have h1:=Tf (Tq h) a n;have h2:=Tq h (a+n);rw [dJ,c7,cp,eU,o7,b]
  have e:max 0 (bW (hv (gS s l) a n+qb (s 16) (s 17) (a+(n:Int)) l))=hv (gS s l) a (n+1):=by
   rw [aZ (by unfold gS at h2; omega) (by unfold gS at h2; omega)]; rfl
  simp [e]
theorem Th {s:Nat->Int} {l:List fJ} (h:CL s l) {a b:Int} (c:b - a<=3000):qS s l a b=(List.range (b - a).toNat).map fun i=>hv (gS s l) a (i+1):=by
 unfold qS nT;rw [Iw h a _ ar]
def NS (s:Nat->Int) (l:List fJ):AV := .tup (if tM s l then XF (xa s l) else [.int .i64 0,.int .i64 0,.bool false,.int .i64 120])
open Go Go.AI
set_option maxRecDepth 10000
structure dZ where
 p:Int
 a:Int
 b:Int
deriving DecidableEq
def dM (x:dZ):List AV:=[.int .i64 x.p,.int .i64 x.a,.int .i64 x.b]
structure d4 where
 id:Int
 ord:Int
 cl:Int
 sat:Int
 a:Int
 b:Int
 look:Int
 size:Int
 sl:List dZ
def vX (l:List dZ):AV := .sl .no 3 (l.map dM)
def bO (o:d4):List AV:=[.int .i64 o.id,.int .i64 o.ord,.int .i64 o.cl,.int .i64 o.sat,.int .i64 o.a,.int .i64 o.b,.int .i64 o.look,.int .i64 o.size,vX o.sl]
def cH (l:List d4):AV := .sl .no 9 (l.map bO)
theorem mD (n a b:Int):aq Tryz.prog 205 [.int .i64 n,.int .i64 a,.int .i64 b] (.bool (cQ n a b)):=by
 refine aM FO Tryz.func205 ?_;intro F d w0 m0 hG c h1 kp
 repeat' first|refine aS ?_|((conv=>whnf); first|refine ⟨fun h=>?_,fun h=>?_⟩|refine ak ?_)
 all_goals refine Eb ?_
 all_goals (simp_all [cQ] <;> omega)
theorem QA (n a b:Int):aq Tryz.prog 224 [.int .i64 n,.int .i64 a,.int .i64 b] (.bool (cQ n a b)):=by
 refine aM FA Tryz.func224 ?_;intro F d w0 m0 hG c h1 kp
 repeat' first|refine aS ?_|((conv=>whnf); first|refine ⟨fun h=>?_,fun h=>?_⟩|refine ak ?_)
 all_goals refine Eb ?_
 all_goals (simp_all [cQ] <;> omega)
theorem r7 (n a b:Int):aq Tryz.prog 212 [.int .i64 n,.int .i64 a,.int .i64 b] (.bool (cQ n a b)):=by
 refine aM FI Tryz.func212 ?_;intro F d w0 m0 hG c h1 kp
 repeat' first|refine aS ?_|((conv=>whnf); first|refine ⟨fun h=>?_,fun h=>?_⟩|refine ak ?_)
 all_goals refine Eb ?_
 all_goals (simp_all [cQ] <;> omega)
theorem Ac (a b:Int):aq Tryz.prog 124 [.agg (cj a b)] (.bool (lc a b)):=by
 refine aM GK Tryz.func124 ?_;intro F d w0 m0 hG c h1 kp
 repeat' first|refine aS ?_|((conv=>whnf); first|refine ae _ (aa (mD _ _ _) ?_)|refine ⟨fun h=>?_,fun h=>?_⟩|refine ak ?_)
 all_goals refine Eb ?_
 all_goals (simp only [lc, *,bG,cr,bJ,bP]; try rfl)
def wt (a b:Int):Bool:=decide (0<=a)&&decide (a<b)&&decide (b<=1000001)
theorem wN (a b:Int):aq Tryz.prog 264 [.agg (cj a b)] (.bool (wt a b)):=by
 refine aM Fe Tryz.func264 ?_;intro F d w0 m0 hG c h1 kp
 repeat' first|refine aS ?_|((conv=>whnf); first|refine ⟨fun h=>?_,fun h=>?_⟩|refine ak ?_)
 all_goals refine Eb ?_
 all_goals (simp_all [wt] <;> (intros; omega))
def Cl (a b m:Int):Bool:=wt a b&&decide (bW (b - a)<=m)
theorem QB (a b m:Int):aq Tryz.prog 223 [.agg (cj a b),.int .i64 m] (.bool (Cl a b m)):=by
 refine aM FB Tryz.func223 ?_;intro F d w0 m0 hG c h1 kp
 repeat' first|refine aS ?_|((conv=>whnf); first|refine ⟨fun h=>?_,fun h=>?_⟩|refine ak ?_)
 all_goals refine Eb ?_
 all_goals (simp only [Cl,wt,bW, *,bG,cr,bJ,bP]; try rfl)
def g9 (o:Nat->Int) (a b k:Int):Bool:=s4 o&&Cl a b 60&&cQ k (-4) 4
theorem rZ (o:Nat->Int) (a b k:Int):aq Tryz.prog 145 [.agg (d8 o),.agg (cj a b),.int .i64 k] (.bool (g9 o a b k)):=by
 refine aM Gv Tryz.func145 ?_;intro F d w0 m0 hG c h1 kp
 repeat' first|refine aS ?_|((conv=>whnf); first|refine ae _ (aa (Ax o) ?_)|refine ae _ (aa (QB _ _ _) ?_)|refine ae _ (aa (QA _ _ _) ?_)|refine ⟨fun h=>?_,fun h=>?_⟩|refine ak ?_)
 all_goals refine Eb ?_
 all_goals simp only [g9, *,bG,cr,bJ,bP]
def pd:Int->List dZ->Bool
 | _,[]=>true
 | t,x::r=>decide (t<=x.a)&&wt x.a x.b&&pd x.b r
def DV (o:d4):Bool:=pd o.b o.sl&&(cQ o.id 0 63&&cQ o.size 1 1000000&&wt o.a o.b&&cQ (o.sl.length:Int) 1 6)
theorem yv {l:List dZ} {i:Nat} (h:i<l.length):(l.map dM)[(i:Int).toNat]?=some [.int .i64 (l.getD i ⟨0,0,0⟩).p,.int .i64 (l.getD i ⟨0,0,0⟩).a,.int .i64 (l.getD i ⟨0,0,0⟩).b]:=by simp [ai h]; rfl
theorem Iz {t:Int} {l:List dZ} {i:Nat} (h:i<l.length):pd t (l.drop i)=(decide (t<=(l.getD i ⟨0,0,0⟩).a)&&wt (l.getD i ⟨0,0,0⟩).a (l.getD i ⟨0,0,0⟩).b&&pd (l.getD i ⟨0,0,0⟩).b (l.drop (i+1))):=by
 rw [dq h,aK,ai h]; rfl
set_option maxHeartbeats 4000000 in
theorem QD (o:d4) (hl:o.sl.length<=1000000):aq Tryz.prog 243 [.agg (bO o)] (.bool (DV o)):=by
 have j:((o.sl.map dM).length:Int)=(o.sl.length:Int):=by rw [az]
 refine aM Fp Tryz.func243 ?_;intro F r w0 m0 hG n h1 kp;refine bz ?_
 refine aJ.loop (X:=Nat×Int×Int) (fun q=>⟨[(11,.int .i64 q.1),(10,.int .i64 (o.sl.map dM).length),(9,vX o.sl),(3,.loc 3 0),(1,.loc 1 0)],[(3,cj q.2.1 q.2.2),(1,bO o)]⟩)
  (fun q=>q.1<=o.sl.length/\pd q.2.2 (o.sl.drop q.1)=pd o.b o.sl) (fun q=>o.sl.length - q.1) (0,o.a,o.b) ⟨aU _,rfl⟩ (St.le.of ?_ ?_) (fun q p=>?_)
 ·exact RF
 ·exact RF
 ·obtain ⟨i,t,e⟩:=q;obtain ⟨hi,hf⟩:=p;have hi:i<=o.sl.length:=hi;have hf:pd e (o.sl.drop i)=pd o.b o.sl:=hf;by_cases c:i<o.sl.length
  ·have d:=dF (show (i:Int)<((o.sl.map dM).length:Int) by omega);have hx:=yv c;rw [Iz c] at hf;generalize o.sl.getD i ⟨0,0,0⟩=x at hx hf;have f:(decide (e<=x.a)&&wt x.a x.b)=false->false=DV o:=fun h=>by rw [h,bJ] at hf; rw [DV,<- hf,bJ]
   repeat' first|exact (d bf).elim|refine aS ?_|((conv=>whnf); first|refine aa (au i) (ae _ (aa hx ?_))|refine ae _ (aa (wN _ _) ?_)|refine ⟨fun h=>?_,fun h=>?_⟩|refine ak ?_)
   ·have h:=aH (by assumption:decide (x.a<e)=true);exact Ends.mk (ak rfl) (ay (ax AV.bool (f (by rw [eq ar,bJ]))))
   ·have h:=Dg (by assumption:(!wt x.a x.b)=true);exact Ends.mk (ak rfl) (ay (ax AV.bool (f (by rw [h,bP]))))
   ·have h1:=aW (by assumption:decide (x.a<e)=false);have h2:=zl (by assumption:(!wt x.a x.b)=false);rw [dQ (show e<=x.a by omega),h2,bG,bG] at hf;refine ae (i+1,x.a,x.b) (aa ⟨c,hf⟩ (aa (by show o.sl.length - (i+1)<o.sl.length - i; omega) (LE)))
  ·have m:i=o.sl.length:=by omega
   have d:=dT (show ¬((i:Int)<((o.sl.map dM).length:Int)) by omega);rw [dg ar] at hf;have l:pd o.b o.sl=true:=hf.symm;clear hf
   repeat' first|exact (d bf).elim|refine aS ?_|((conv=>whnf); first|refine ae _ (aa (r7 _ _ _) ?_)|refine ae _ (aa (wN _ _) ?_)|refine ⟨fun h=>?_,fun h=>?_⟩|refine ak ?_)
   all_goals refine Eb ?_
   all_goals (rw [DV,l]; simp only [j, *,bG,cr,bJ,bP])
open Go Go.AI
theorem BX {a b:Int}:lc a b=true↔0<=a/\a<b/\b<=1000000:=by
 grind [Oc,lc,cQ,bW,aZ]
open Go Go.AI
def aaX:d4:=⟨0,0,0,0,0,0,0,0,[]⟩
def XD:dZ:=⟨0,0,0⟩
def xm (l:List d4) (i:Nat):d4:=l.getD i aaX
def LJ (o:d4) (i:Nat):dZ:=o.sl.getD i XD
def uq (o:d4):Int:=(LJ o (o.sl.length - 1)).b
def fI (l:List d4):List fJ:=l.map fun o=>⟨o.a,o.b,o.look⟩
def yN (l:List d4):List Img:=l.map fun o=>⟨o.id,o.size,o.a,uq o⟩
structure yo where
 k:Int
 a:Int
 b:Int
 t:Int
deriving DecidableEq
def gQ (x:yo):List AV:=[.int .i64 x.k,.int .i64 x.a,.int .i64 x.b,.int .i64 x.t]
def jr (l:List yo):AV := .sl .no 4 (l.map gQ)
def slP (o:d4):List (Int×Int):=o.sl.map fun x=>(x.a,x.b)
theorem SK {l:List d4} {i:Nat} (h:i<l.length):xm l i=l[i]:=by simp [xm,aK,ai h]
open Go Go.AI
set_option maxRecDepth 10000
theorem Nu (o:d4) (k:Nat) (hl:o.sl.length<=1000000) (h:DV o=true) (f:k<o.sl.length):aq Tryz.prog 165 [.agg (bO o),.int .i64 k] (.tup [.agg (Yu ⟨o.id,o.size,o.a,(o.sl.getD k ⟨0,0,0⟩).b⟩),.int .i64 0]):=by
 have d:=QD o hl;rw [h] at d;have hx:=yv f;have e:IntKind.i64.wrap (((o.sl.map dM).length:Int) - 1)=(o.sl.length:Int) - 1:=by rw [az]; exact aZ ar ar
 have c:=r7 (k:Int) 0 (IntKind.i64.wrap (((o.sl.map dM).length:Int) - 1));rw [kx (show 0<=(k:Int)/\(k:Int)<=IntKind.i64.wrap (((o.sl.map dM).length:Int) - 1) by rw [e]; omega)] at c;refine aM Gg Tryz.func165 ?_;intro F j w0 m0 hG i h1 kp;refine bz ?_
 all_goals exact Ez
theorem W8 {o:d4} (h:DV o=true):1<=o.sl.length/\o.sl.length<=6:=by
 simp only [DV,cQ,al,aP] at h;omega
theorem tt (o:d4) (hl:o.sl.length<=1000000) (c:DV o=true):aq Tryz.prog 88 [.agg (bO o)] (.tup [.agg (Yu ⟨o.id,o.size,o.a,uq o⟩),.int .i64 0]):=by
 have f:=W8 c;have b:=Nu o (o.sl.length - 1) hl c ar;rw [show ((o.sl.length - 1:Nat):Int)=IntKind.i64.wrap (((o.sl.map dM).length:Int) - 1) by rw [az]; exact ((aZ ar ar).trans ar).symm] at b;refine aM JS Tryz.func88 ?_;intro F e w0 m0 hG d h1 kp;refine bz ?_
 all_goals exact Ez
structure bQ where
 sat:Int
 st:Int
 sa:Int
 sb:Int
 ca:Int
 cb:Int
deriving DecidableEq
def bU (p:bQ):List AV:=[.int .i64 p.sat,.int .i64 p.st,.int .i64 p.sa,.int .i64 p.sb,.int .i64 p.ca,.int .i64 p.cb]
def cZ (l:List bQ):AV := .sl .no 6 (l.map bU)
def p9:bQ:=⟨0,0,0,0,0,0⟩
def passAt (l:List bQ) (i:Nat):bQ:=l.getD i p9
def gH (p:bQ):Bool:=(cQ p.sat 0 23&&(cQ p.st 0 11&&true))&&((decide (0<=p.ca)&&decide (p.ca<p.cb)&&decide (p.cb<=1000001))&&((p.sa==0&&(p.sb==0&&true))||(decide (p.ca<=p.sa)&&decide (p.sa<p.sb)&&decide (p.sb<=p.cb))))
set_option maxHeartbeats 4000000 in
theorem KF (p:bQ):aq Tryz.prog 176 [.agg (bU p)] (.bool (gH p)):=by
 have a:=(rx [⟨p.sat,0,23⟩,⟨p.st,0,11⟩] (ah rfl)).sl0 (o := .full);refine aM F5 Tryz.func176 ?_;intro F c w0 m0 hG b h1 kp
 repeat' first|refine aS ?_|((conv=>whnf); first|refine ae _ (aa (a) ?_)|refine ⟨fun h=>?_,fun h=>?_⟩|refine ak ?_)
 all_goals refine Eb ?_
 all_goals (unfold gH; simp only [qg,RV,cr] at *; simp only [*,bG,cr,bJ,bP,sm,gP])
theorem Ec (p:bQ):aq Tryz.prog 175 [.agg (bU p)] (.bool (!gH p)):=by
 refine aM F6 Tryz.func175 ?_;intro F b w0 m0 hG a h1 kp
 repeat' first|refine aS ?_|((conv=>whnf); first|refine ae _ (aa (KF p) ?_)|refine ⟨fun h=>?_,fun h=>?_⟩|refine ak ?_)
 all_goals exact Ez
def wH (p q:bQ):Int:=RZ [jT p.ca q.ca,jT p.sat q.sat,jT p.st q.st,jT p.sa q.sa,jT p.cb q.cb]
theorem wR (p q:bQ):aq Tryz.prog 178 [.agg (bU p),.agg (bU q)] (.int .i64 (wH p q)):=by
 refine aM F3 Tryz.func178 ?_;intro F b w0 m0 hG a h1 kp
 repeat' first|refine aS ?_|((conv=>whnf); first|refine ae _ (aa (fZ _ _) ?_)|refine ae _ (aa (ry [jT p.ca q.ca,jT p.sat q.sat,jT p.st q.st,jT p.sa q.sa,jT p.cb q.cb] (ah rfl)) ?_)|refine ⟨fun h=>?_,fun h=>?_⟩|refine ak ?_)
 all_goals exact Ez
theorem Aq (l:List bQ) (p:bQ->Bool) (g:FuncId) (fv:AV) (cap:List AV) (hf:fv = .clo g cap\/(fv = .fn g/\cap=[])) (hl:l.length<=1000000)
  (hp:∀ x∈l,aq Tryz.prog g ((.agg (bU x))::cap) (.bool (p x))):aq Tryz.prog 179 [.sl .no 6 (l.map bU),fv] (.int .i64 (lR p l 0)):=by
 let E:=bU; let D:=p9; let K:=F1; let N:=6; have f:=Tryz.func179; exact Vy
theorem nM (l:List bQ) (p:bQ->Bool) (g:FuncId) (fv:AV) (cap:List AV) (hf:fv = .clo g cap\/(fv = .fn g/\cap=[])) (hl:l.length<=1000000)
  (hp:∀ x∈l,aq Tryz.prog g ((.agg (bU x))::cap) (.bool (p x))):aq Tryz.prog 106 [.sl .no 6 (l.map bU),fv] (.bool (l.any p)):=by
 have I:=Aq l p g fv cap hf hl hp; let K:=GZ; have f:=Tryz.func106; exact X3
def HG (l:List bQ):Bool:=(List.range (l.length - 1)).all fun i => !decide (wH (passAt l (i+1)) (passAt l i)<0)
theorem mO {l:List bQ} {i:Nat} (h:i<l.length):(l.map bU)[i]?=some (bU (passAt l i)):=by simp [passAt,ai h]
set_option maxHeartbeats 4000000 in
theorem Bq (l:List bQ) (hl:l.length<=1000000):aq Tryz.prog 177 [cZ l,.fn 178] (.bool (HG l)):=by
 refine aM F4 Tryz.func177 ?_;intro F p w0 m0 hG n h1 kp;refine bz ?_
 refine aJ.loop (X:=Int) (fun i=>⟨[(5,.int .i64 i),(0,cZ l),(1,.fn 178)],[]⟩)
  (fun i => -1<=i/\i<=(l.length:Int) - 1/\∀ j:Nat,i<=(j:Int)->(j:Int)<(l.length:Int) - 1->decide (wH (passAt l (j+1)) (passAt l j)<0)=false) (fun i=>(i+1).toNat) (IntKind.i64.wrap (((l.map bU).length:Int) - 1)) ?_ (St.le.of ?_ ?_) (fun i hi=>?_)
 ·rw [show IntKind.i64.wrap (((l.map bU).length:Int) - 1)=(l.length:Int) - 1 by rw [az]; exact aZ ar ar];exact ⟨by omega,by omega,fun j h1 h2=>by omega⟩
 ·exact RF
 ·exact RF
 ·obtain ⟨h1,h2,d⟩:=hi;by_cases e:i>0
  ·obtain ⟨j,rfl⟩:∃ j:Nat,i=((j+1:Nat):Int):=⟨(i - 1).toNat,by omega⟩;have a:IntKind.i64.wrap (((j+1:Nat):Int) - 1)=(j:Int):=(aZ ar ar).trans ar;have hx:=mO (l:=l) (i:=j+1) ar;have hy:=mO (l:=l) (i:=j) ar;have c:(l.map bU)[(IntKind.i64.wrap (((j+1:Nat):Int) - 1)).toNat]?=some (bU (passAt l j)):=by rw [a]; exact hy
   have f:0<=IntKind.i64.wrap (((j+1:Nat):Int) - 1):=by rw [a]; exact au j
   have b:=dF (show ((j+1:Nat):Int)>0 by omega)
   repeat' first|exact (b bf).elim|refine aS ?_|((conv=>whnf); first|refine aa (au (j+1)) (ae _ (aa hx ?_))|refine aa f (ae _ (aa c ?_))|refine ae _ (aa (wR _ _) ?_)|refine ⟨fun h=>?_,fun h=>?_⟩|refine ak ?_)
   ·refine Eb ?_
    symm
    unfold HG;rw [RW]
    exact ⟨j,bB.2 ar,by
     have m:=(by assumption:decide (wH (passAt l (j+1)) (passAt l j)<0)=true);rw [m]; simp⟩
   ·refine ae (IntKind.i64.wrap (((j+1:Nat):Int) - 1)) (aa ?_ (aa ?_ (LE)))
    ·rw [a];refine ⟨by omega,by omega,fun k g1 g2=>?_⟩;by_cases o:k=j
     ·rw [o]; assumption
     ·exact d k ar g2
    ·rw [a]; omega
  ·have b:decide (i>0)=true->False:=fun h=>e (aH h)
   repeat' first|exact (b bf).elim|refine aS ?_|((conv=>whnf); first|refine ⟨fun h=>?_,fun h=>?_⟩|refine ak ?_)
   refine Eb ?_
   symm
   unfold HG;rw [aN];intro j hj;have:=bB.1 hj;rw [d j ar ar]; rfl
def jq (l:List bQ):Bool:=decide (l.length<=64) && !(l.any fun p => !gH p)&&HG l
theorem iz (l:List bQ) (hl:l.length<=1000000):aq Tryz.prog 105 [cZ l] (.bool (jq l)):=by
 have a:decide (((l.map bU).length:Int)<=64)=decide (l.length<=64):=by rw [az]; exact decide_eq_decide.2 ar
 refine aM G0 Tryz.func105 ?_;intro F c w0 m0 hG b h1 kp
 repeat' first|refine aS ?_|((conv=>whnf); first|refine ae _ (aa (nM l (fun p => !gH p) 175 _ [] (bA ⟨rfl,rfl⟩) hl (fun p _=>Ec p)) ?_)|refine ae _ (aa (Bq l hl) ?_)|refine ⟨fun h=>?_,fun h=>?_⟩|refine ak ?_)
 all_goals refine Eb ?_
 all_goals (unfold jq; rw [<- a]; clear a; simp only [*,bG,cr,bJ,bP])
open Go Go.AI
set_option maxRecDepth 10000
def mI (s:Nat->Int) (ps:List bQ) (size t:Int) (x:dZ):Bool:=
 cQ x.p 0 (bW ((ps.length:Int) - 1))&&((((passAt ps x.p.toNat).sat==s 0)&&decide (x.a>=max t (passAt ps x.p.toNat).sa)&&decide (x.b<=(passAt ps x.p.toNat).sb)&&decide (x.a<x.b)) &&
  !decide (bW (bW (x.b - x.a)*s 20)<size))
def fG (s:Nat->Int) (ps:List bQ) (size:Int):Int->List dZ->Bool
 | _,[]=>true
 | t,x::r=>mI s ps size t x&&fG s ps size x.b r
def ux (s:Nat->Int) (o:d4):Bool:=cQ o.id 0 63&&cQ o.ord 0 63&&cQ o.cl 0 11&&(o.sat==s 0)&&cQ o.size 1 (s 10)
def tY (s:Nat->Int) (o:d4):Bool:=g9 (mi s) o.a o.b o.look&&cQ o.look (bW (0 - s 9)) (s 9)&&decide (o.b<=1000000)
def js (s:Nat->Int) (o:d4) (ps:List bQ):Bool:=ux s o&&tY s o&&cQ (o.sl.length:Int) 1 6&&fG s ps o.size o.b o.sl
theorem tT {s:Nat->Int} {ps:List bQ} {z t:Int} {l:List dZ} {i:Nat} (h:i<l.length):fG s ps z t (l.drop i)=(mI s ps z t (l.getD i ⟨0,0,0⟩)&&fG s ps z (l.getD i ⟨0,0,0⟩).b (l.drop (i+1))):=by
 rw [dq h,aK,ai h]; rfl
set_option maxHeartbeats 16000000 in
theorem Ry (s:Nat->Int) (o:d4) (ps:List bQ) (hl:o.sl.length<=1000000) (A:ps.length<=1000000):aq Tryz.prog 127 [.agg (bM s),.agg (bO o),cZ ps] (.bool (js s o ps)):=by
 have j:((o.sl.map dM).length:Int)=(o.sl.length:Int):=by rw [az]
 have d:((ps.map bU).length:Int)=(ps.length:Int):=by rw [az]
 refine aM kH Tryz.func127 ?_;intro F B w0 m0 hG v h1 kp;refine aJ.seq ?_;refine aJ.reg hG af kH aI ?_
 conv=>whnf
 refine aJ.seq ?_;refine aJ.cut (X:=Unit) (fun _=>⟨[(7,.bool (ux s o)),(6,.bool false),(4,.loc 4 0),(3,.loc 3 0),(2,cZ ps)],[(4,bO o),(3,bM s)]⟩) (fun _=>True) ?_ (fun _ _=>?_)
 ·refine aJ.reg hG af kH aI ?_
  repeat' first|refine aS ?_|((conv=>whnf); first|refine ae _ (aa (mD _ _ _) ?_)|refine ⟨fun h=>?_,fun h=>?_⟩|refine ak ?_)
  all_goals refine ae () (aa trivial (St.le.of (aa (ax (fun z=>some (AV.bool z)) ?_) ?_) ?_))
  all_goals first
   |(simp only [ux, *,bG,cr,bJ,bP,sm,AM,gP,fu,jj,ep]; done)
   |(repeat' (first | exact trivial | refine aa rfl ?_))
 conv=>whnf
 refine aJ.seq ?_;refine aJ.cut (X:=Unit) (fun _=>⟨[(8,.bool (tY s o)),(7,.bool (ux s o)),(6,.bool false),(4,.loc 4 0),(3,.loc 3 0),(2,cZ ps)],[(4,bO o),(3,bM s)]⟩) (fun _=>True) ?_ (fun _ _=>?_)
 ·refine aJ.reg hG af kH aI ?_
  repeat' first|refine aS ?_|((conv=>whnf); first|refine ae _ (aa (mD _ _ _) ?_)|refine ae _ (aa (rZ (mi s) _ _ _) ?_)|refine ⟨fun h=>?_,fun h=>?_⟩|refine ak ?_)
  all_goals refine ae () (aa trivial (St.le.of (aa (ax (fun z=>some (AV.bool z)) ?_) ?_) ?_))
  all_goals first
   |(simp only [tY,bW, *,bG,cr,bJ,bP,sm,AM,gP,fu,jj,ep]; done)
   |(repeat' (first | exact trivial | refine aa rfl ?_))
 conv=>whnf
 repeat' first|refine aS ?_|((conv=>whnf); first|refine ae _ (aa (mD _ _ _) ?_)|refine ⟨fun h=>?_,fun h=>?_⟩|refine ak ?_)
 ·refine Eb ?_;simp only [js,Dg (by assumption:(!ux s o)=true),bJ]
 ·refine Eb ?_;simp only [js,Dg (by assumption:(!tY s o)=true),bJ,bP]
 ·refine Eb ?_;have h:=Dg (by assumption:(!cQ (((o.sl.map dM).length:Nat):Int) 1 6)=true);rw [j] at h;simp only [js,h,bJ,bP]
 ·have y:=zl (by assumption:(!ux s o)=false);have r:=zl (by assumption:(!tY s o)=false);have n:=zl (by assumption:(!cQ (((o.sl.map dM).length:Nat):Int) 1 6)=false);rw [j] at n;have c:js s o ps=fG s ps o.size o.b o.sl:=by simp only [js,y,r,n,bG]
  rw [c]
  refine aJ.loop (X:=Nat×Int) (fun q=>⟨[(83,.int .i64 q.1),(82,.int .i64 (o.sl.map dM).length),(81,.sl .no 3 (o.sl.map dM)),(9,.int .i64 q.2),(6,.bool false),(4,.loc 4 0),(3,.loc 3 0),(2,cZ ps)],[(4,bO o),(3,bM s)]⟩)
   (fun q=>q.1<=o.sl.length/\fG s ps o.size q.2 (o.sl.drop q.1)=fG s ps o.size o.b o.sl) (fun q=>o.sl.length - q.1) (0,o.b) ⟨aU _,rfl⟩ (St.le.of ?_ ?_) (fun q w=>?_)
  ·exact RF
  ·exact RF
  ·obtain ⟨i,t⟩:=q;obtain ⟨hi,hf⟩:=w;have hi:i<=o.sl.length:=hi;have hf:fG s ps o.size t (o.sl.drop i)=fG s ps o.size o.b o.sl:=hf;by_cases a:i<o.sl.length
   ·have e:=dF (show (i:Int)<((o.sl.map dM).length:Int) by omega);have hx:=yv a;rw [tT a] at hf;generalize o.sl.getD i ⟨0,0,0⟩=x at hx hf;have l:mI s ps o.size t x=false->false=fG s ps o.size o.b o.sl:=fun h=>by rw [<- hf,h,bJ]
    have f:(!cQ x.p 0 (IntKind.i64.wrap (((ps.map bU).length:Int) - 1)))=false->0<=x.p/\(ps.map bU)[x.p.toNat]?=some (bU (passAt ps x.p.toNat)):=fun h=>by
     have h:=zl h;rw [d,show IntKind.i64.wrap ((ps.length:Int) - 1)=(ps.length:Int) - 1 from aZ ar ar] at h;simp only [cQ,al,aP] at h;exact ⟨h.1,mO ar⟩
    have hpm':bW ((ps.length:Int) - 1)=IntKind.i64.wrap (((ps.map bU).length:Int) - 1):=by rw [d]; rfl
    repeat' first|exact (e bf).elim|refine aS ?_|((conv=>whnf); first|refine aa (au i) (ae _ (aa hx ?_))|refine ae _ (aa (mD _ _ _) ?_)|refine aa (f bf).1 (ae _ (aa (f bf).2 ?_))|refine ⟨fun h=>?_,fun h=>?_⟩|refine ak ?_)
    rotate_left 3
    ·have m:mI s ps o.size t x=true:=by
      simp only [cI,iq,aR] at *;unfold mI bW;unfold bW at hpm';rw [hpm'];simp only [*,bG,cr,bJ,bP,sm,AM,gP,fu,jj,ep]
     refine ae (i+1,x.b) (aa ⟨a,?_⟩ (aa (by show o.sl.length - (i+1)<o.sl.length - i; omega) (LE)))
     ·show fG s ps o.size x.b (o.sl.drop (i+1))=_;rw [<- hf,m,bG]
    all_goals refine Ends.mk (ak rfl) (ay (ax AV.bool (l ?_)))
    all_goals simp only [cI,iq,aR] at *
    all_goals (unfold mI bW; unfold bW at hpm'; rw [hpm']; simp only [*,bG,cr,bJ,bP,sm,AM,gP,fu,jj,ep])
   ·have u:i=o.sl.length:=by omega
    have e:=dT (show ¬((i:Int)<((o.sl.map dM).length:Int)) by omega);rw [dg ar] at hf;refine bz ?_;exact Ends.mk (ak rfl) (ay (ax AV.bool hf))
def ZI (s:Nat->Int) (ps:List bQ) (a b:Int) (pre:List d4) (o:d4):Bool:=js s o ps && !decide (o.a<a) && !decide (uq o>b) && !(pre.any fun p=>p.id==o.id)
def LZ (s:Nat->Int) (ps:List bQ) (a b:Int):List d4->List d4->Bool
 | _,[]=>true
 | pre,o::r=>ZI s ps a b pre o&&LZ s ps a b (pre++[o]) r
def vU (s:Nat->Int) (l:List d4) (ps:List bQ) (a b:Int):Bool:=decide (l.length<=8)&&lc a b && !decide (bW (b - a)>3000)&&kP s&&jq ps&&LZ s ps a b [] l
theorem Yk {l:List d4} {i:Nat} (h:i<l.length):(l.map bO)[(i:Int).toNat]?=some (bO (xm l i)):=by simp [xm,ai h]
theorem IC {s:Nat->Int} {o:d4} {ps:List bQ} (h:js s o ps=true):1<=o.sl.length/\o.sl.length<=6:=by
 simp only [js,cQ,al,aP] at h;omega
open Go Go.AI
set_option maxRecDepth 10000
theorem Qv {l:List d4} {i:Nat} (h:i<l.length):fI (l.take (i+1))=fI (l.take i)++[⟨(xm l i).a,(xm l i).b,(xm l i).look⟩]:=by
 rw [ef,ai h,SK h]; exact c7
open Go Go.AI
set_option maxRecDepth 10000
def XC (x:Int×Int):List AV:=[.agg (cj x.1 x.2)]
open Go Go.AI
set_option maxRecDepth 10000
instance:Inhabited dX:=⟨⟨0,0,0⟩⟩
open Go Go.AI
set_option maxRecDepth 10000
def p2 (x:Int×Int):List Int:=[x.1,x.2]
def pA (x:Int×Int):List AV:=[.int .i64 x.1,.int .i64 x.2]
open Go Go.AI
set_option maxRecDepth 10000
def WN (s:Nat->Int) (t:Int):AV := .tup [.agg (gQ ⟨0,s 0,0,t⟩),.bool (t != -1)]
open Go Go.AI
set_option maxRecDepth 10000
theorem Jr (n a b:Int):aq Tryz.prog 115 [.int .i64 n,.int .i64 a,.int .i64 b] (.bool (cQ n a b)):=by
 refine aM GQ Tryz.func115 ?_;intro F d w0 m0 hG c h1 kp
 repeat' first|refine aS ?_|((conv=>whnf); first|refine ⟨fun h=>?_,fun h=>?_⟩|refine ak ?_)
 all_goals refine Eb ?_
 all_goals (clear hG; grind [cQ])
theorem nG (o:Nat->Int) (a b k:Int):aq Tryz.prog 116 [.agg (d8 o),.agg (cj a b),.int .i64 k] (.bool (g9 o a b k)):=by
 refine aM GP Tryz.func116 ?_;intro F d w0 m0 hG c h1 kp
 repeat' first|refine aS ?_|((conv=>whnf); first|refine ae _ (aa (Aw o) ?_)|refine ⟨fun h=>?_,fun h=>?_⟩|refine ak ?_)
 all_goals refine Eb ?_
 all_goals (clear hG; grind [g9,Cl,wt,cQ,bW])
theorem ib (c n:Int) (a:n≠0):aq Tryz.prog 50 [.int .i64 c,.int .i64 n] (.int .i64 (aF c n)):=by
 refine aM Kf Tryz.func50 ?_;intro F d w0 m0 hG b h1 kp
 repeat' first|refine aS ?_|((conv=>whnf); first|refine aa a ?_|refine ⟨fun h=>?_,fun h=>?_⟩|refine ak ?_)
 all_goals refine Ei ?_
 all_goals (simp_all [aF,bW] <;> omega)
open Go Go.AI
set_option maxRecDepth 10000
theorem uH {a b:Int}:jT a b<0↔a<b:=by unfold jT; split <;> (try split) <;> omega
theorem DQ {a b:Int}:jT a b=0↔a=b:=by unfold jT; split <;> (try split) <;> omega
theorem DP (p q:bQ):decide (wH p q<0)=if p.ca≠q.ca then decide (p.ca<q.ca) else if p.sat≠q.sat then decide (p.sat<q.sat) else if p.st≠q.st then decide (p.st<q.st) else if p.sa≠q.sa then decide (p.sa<q.sa) else decide (p.cb<q.cb):=by
 have d:=uH (a:=p.ca) (b:=q.ca); have f:=DQ (a:=p.ca) (b:=q.ca)
 have m:=uH (a:=p.sat) (b:=q.sat); have z2:=DQ (a:=p.sat) (b:=q.sat)
 have e:=uH (a:=p.st) (b:=q.st); have z3:=DQ (a:=p.st) (b:=q.st)
 have h:=uH (a:=p.sa) (b:=q.sa); have z4:=DQ (a:=p.sa) (b:=q.sa)
 have c:=uH (a:=p.cb) (b:=q.cb);unfold wH;generalize jT p.ca q.ca=c1 at *;generalize jT p.sat q.sat=c2 at *;generalize jT p.st q.st=i at *;generalize jT p.sa q.sa=l at *;generalize jT p.cb q.cb=j at *;simp only [RZ];grind
theorem D8 (p q:bQ):aq Tryz.prog 185 [.agg (bU p),.agg (bU q)] (.bool (decide (wH p q<0))):=by
 rw [DP];refine aM FW Tryz.func185 ?_;intro F b w0 m0 hG a h1 kp
 repeat' first|refine aS ?_|((conv=>whnf); first|refine ⟨fun h=>?_,fun h=>?_⟩|refine ak ?_)
 all_goals refine Eb ?_
 all_goals (clear hG; grind [])
theorem ui {l:List bQ} {i:Nat} (h:i<l.length):(l.map bU)[(i:Int).toNat]?=some (bU (passAt l i)):=by rw [eK]; exact mO h
theorem gt {l:List bQ} {i:Nat} (h:i<l.length):passAt l i=l[i]:=by simp [passAt,ai h]
theorem og (l:List bQ):jq l=true↔l.length<=64/\(∀ j,j<l.length->gH (passAt l j)=true)/\∀ j,j+1<l.length->decide (wH (passAt l (j+1)) (passAt l j)<0)=false:=by
 simp only [jq,HG,al,cI,eJ,aN,bB,aP,cI,iq,yp,Bool.not_eq_false,and_assoc];refine and_congr Iff.rfl (and_congr ⟨fun h j hj=>?_,fun h x hx=>?_⟩ ⟨fun h j hj=>h j ar,fun h j hj=>h j ar⟩)
 ·rw [gt hj]; exact h _ (bT hj)
 ·obtain ⟨j,hj,rfl⟩:=cw hx;rw [<- gt hj]; exact h j hj
set_option maxHeartbeats 8000000 in
theorem D6 (l:List bQ) (hl:l.length<=1000000):aq Tryz.prog 114 [cZ l] (.bool (jq l)):=by
 have n:((l.map bU).length:Int)=(l.length:Int):=by rw [az]
 refine aM GR Tryz.func114 ?_;intro F t w0 m0 hG o h1 kp
 repeat' first|refine aS ?_|((conv=>whnf); first|refine ⟨fun h=>?_,fun h=>?_⟩|refine ak ?_)
 all_goals first
  |(refine Eb ?_
    clear hG; rw [n] at *; rw [fE,og]; grind)
  | skip
 have r:l.length<=64:=by clear hG; rw [n] at *; grind
 refine aJ.loop (X:=Nat) (fun x=>⟨[(3,.int .i64 x),(0,cZ l)],[]⟩) (fun x=>x<=l.length/\(∀ j,j<x->gH (passAt l j)=true)/\∀ j,j+1<x->decide (wH (passAt l (j+1)) (passAt l j)<0)=false) (fun x=>l.length - x) 0 ⟨aU _,fun j h=>absurd h ar,fun j h=>absurd h ar⟩ (LE) (fun x hx=>?_)
 ·rename Nat=>i
  obtain ⟨hi,h1,h2⟩:=hx;by_cases b:i<l.length
  ·have m:=dF (show (i:Int)<((l.map bU).length:Int) by omega);have hx:=ui b
   have d:decide ((i:Int)>0)=true->0<=IntKind.i64.wrap ((i:Int) - 1)/\(l.map bU)[(IntKind.i64.wrap ((i:Int) - 1)).toNat]?=some (bU (passAt l (i - 1))):=fun h=>by
    have h:=aH h;have e:IntKind.i64.wrap ((i:Int) - 1)=((i - 1:Nat):Int):=(aZ ar ar).trans ar;rw [e];exact ⟨au _,ui ar⟩
   have c:gH (passAt l i)=false->false=jq l:=fun h=>by rw [fE,og]; simp only [bv,aaH]; exact fun ⟨_,g,_⟩=>tf (g i b) h
   have a:decide ((i:Int)>0)=true->decide (wH (passAt l i) (passAt l (i - 1))<0)=true->false=jq l:=fun g0 h=>by
    rw [fE,og]; simp only [bv,aaH];have g0:=aH g0;exact fun ⟨_,_,g⟩=>tf h (by have:=g (i - 1) ar; rwa [show i - 1+1=i by omega] at this)
   have f:gH (passAt l i)=true->(decide ((i:Int)>0)=true->decide (wH (passAt l i) (passAt l (i - 1))<0)=false)->i+1<=l.length/\(∀ j,j<i+1->gH (passAt l j)=true)/\∀ j,j+1<i+1->decide (wH (passAt l (j+1)) (passAt l j)<0)=false:=fun g1 g2=>by
    refine ⟨b,fun j hj=>?_,fun j hj=>?_⟩
    ·rcases RT j i with h | h
     ·exact h1 j h
     ·rw [show j=i by omega]; exact g1
    ·rcases RT (j+1) i with h | h
     ·exact h2 j h
     ·have e:i - 1=j:=by omega
      have:=g2 (dQ ar);rw [e] at this;rwa [show j+1=i by omega]
   generalize passAt l i=p at hx c a f;generalize passAt l (i - 1)=q at d a f
   repeat' first|exact (m bf).elim|refine aS ?_|((conv=>whnf); first|refine aa (au i) (ae _ (aa hx ?_))|refine ae _ (aa (CG _ _ _) ?_)|refine ae _ (aa (D8 _ _) ?_)|refine aa (d bf).1 (ae _ (aa (d bf).2 ?_))|refine ⟨fun h=>?_,fun h=>?_⟩|refine ak ?_)
   all_goals first
    |(refine Eb ?_
      clear hG d hx h1 h2 f; first | exact a bf bf | (refine c ?_; clear c a; grind [gH,cQ]))
    | skip
   all_goals (refine ae (i+1) (aa (f ?_ ?_) (aa ar (St.le.of ?_ ?_))))
   all_goals first
    |(clear hG d hx h1 h2 f c a; grind [gH,cQ])
    |(refine aa (ax some (bL ar)) ?_; repeat' (first | exact trivial | refine aa rfl ?_))
    |(repeat' (first | exact trivial | refine aa rfl ?_))
  ·have m:=dT (show ¬((i:Int)<((l.map bU).length:Int)) by omega);have he:i=l.length:=by omega
   refine bz ?_;exact Ends.mk (ak rfl) (ay (ax AV.bool (by symm; rw [og,<- he]; exact ⟨by omega,h1,h2⟩)))
theorem Ik {a b c:Int}:decide (c>=max a b)=(decide (a<=c)&&decide (b<=c)):=by rw [fE]; simp; omega
set_option maxHeartbeats 16000000 in
theorem D4 (s:Nat->Int) (o:d4) (ps:List bQ) (hl:o.sl.length<=1000000) (l:ps.length<=1000000):aq Tryz.prog 51 [.agg (bM s),.agg (bO o),cZ ps] (.bool (kP s&&jq ps&&js s o ps)):=by
 have j:((o.sl.map dM).length:Int)=(o.sl.length:Int):=by rw [az]
 have f:((ps.map bU).length:Int)=(ps.length:Int):=by rw [az]
 refine aM Ke Tryz.func51 ?_;intro F q w0 m0 hG m h1 kp
 repeat' first|refine aS ?_|((conv=>whnf); first|refine ae _ (aa (Ug s) ?_)|refine ae _ (aa (D6 ps l) ?_)|refine ae _ (aa (Jr _ _ _) ?_)|refine ae _ (aa (nG (mi s) _ _ _) ?_)|refine ⟨fun h=>?_,fun h=>?_⟩|refine ak ?_)
 all_goals first
  |(refine Eb ?_
    clear hG; rw [j] at *; rw [fE]; simp only [js,ux,tY,bW]; grind)
  | skip
 have c:(kP s&&jq ps&&js s o ps)=fG s ps o.size o.b o.sl:=by clear hG; rw [j] at *; simp only [js,ux,tY,bW]; grind
 rw [c];refine aJ.loop (X:=Nat×Int) (fun x=>⟨[(8,.int .i64 x.1),(7,.int .i64 x.2),(4,.loc 4 0),(3,.loc 3 0),(2,cZ ps)],[(4,bO o),(3,bM s)]⟩) (fun x=>x.1<=o.sl.length/\fG s ps o.size x.2 (o.sl.drop x.1)=fG s ps o.size o.b o.sl) (fun x=>o.sl.length - x.1) (0,o.b) ⟨aU _,rfl⟩ (LE) (fun x hx=>?_)
 ·obtain ⟨i,t⟩:=x;obtain ⟨hi,hf⟩:=hx;simp only at hi hf ⊢;by_cases a:i<o.sl.length
  ·have e:=dF (show (i:Int)<((o.sl.map dM).length:Int) by omega);have hx:=yv a;rw [tT a] at hf;generalize o.sl.getD i ⟨0,0,0⟩=x at hx hf
   have d:(!cQ x.p 0 (IntKind.i64.wrap (((ps.map bU).length:Int) - 1)))=false->0<=x.p/\(ps.map bU)[x.p.toNat]?=some (bU (passAt ps x.p.toNat)):=fun h=>by
    have h:=zl h;rw [f,show IntKind.i64.wrap ((ps.length:Int) - 1)=(ps.length:Int) - 1 from aZ ar ar] at h;simp only [cQ,al,aP] at h;exact ⟨h.1,mO ar⟩
   have hpm':bW ((ps.length:Int) - 1)=IntKind.i64.wrap (((ps.map bU).length:Int) - 1):=by rw [f]; rfl
   repeat' first|exact (e bf).elim|refine aS ?_|((conv=>whnf); first|refine aa (au i) (ae _ (aa hx ?_))|refine ae _ (aa (Jr _ _ _) ?_)|refine aa (d bf).1 (ae _ (aa (d bf).2 ?_))|refine ⟨fun h=>?_,fun h=>?_⟩|refine ak ?_)
   all_goals first
    |(refine Eb ?_
      clear hG hx d; rw [<- hf,mI,hpm',Ik]; clear hpm' hf c; unfold bW; grind)
    | skip
   refine ae (i+1,x.b) (aa ⟨a,?_⟩ (aa (by show o.sl.length - (i+1)<o.sl.length - i; omega) (LE)))
   ·clear hG hx d;rw [<- hf];have n:mI s ps o.size t x=true:=by rw [mI,hpm',Ik]; clear hpm' hf c; unfold bW; grind
    rw [n,bG]
  ·have e:=dT (show ¬((i:Int)<((o.sl.map dM).length:Int)) by omega);rw [dg ar] at hf;refine bz ?_;exact Ends.mk (ak rfl) (ay (ax AV.bool hf))
open Go Go.AI
set_option maxRecDepth 10000
theorem vW {α:Type} {l:List α} {i:Nat} (d:α) (h:i<l.length):l.take (i+1)=l.take i++[l.getD i d]:=by rw [ef,aK,ai h]; rfl
theorem C6 {α:Type} {l:List α} {i:Nat} {f:α->List AV} (d:α) (h:i<l.length):(l.map f)[(i:Int).toNat]?=some (f (l.getD i d)):=by grind
def IA:yo:=⟨0,0,0,0⟩
open Go Go.AI
set_option maxRecDepth 10000
def iv (sat:Int) (r:Int×List bQ) (x:Int×Int×Int):Int×List bQ:=
 let a:=r.1+4+aF x.1 12
 let b:=a+aF (bW (x.2.2.tdiv 3)) 2
 let st:=b+3+aF x.2.1 12
 let c:=st+aF (bW (x.2.2.tdiv 3)) 2
 (c,r.2++[⟨sat,aF x.2.2 3,b,st,a,c⟩])
def lr (sat from_:Int) (z:List (Int×Int×Int)):Int×List bQ:=z.foldl (iv sat) (from_,[])
def mh (sat from_:Int) (z:List (Int×Int×Int)):List bQ:=(lr sat from_ (z.take 6)).2
structure vz (sat from_:Int) (n:Nat) (r:Int×List bQ):Prop where
 at_:from_<=r.1/\r.1<=from_+31*(n:Int)
 len:r.2.length=n
 all:∀ p∈r.2,gH p=true/\from_<=p.sa/\p.sa<p.sb/\p.sb<=r.1/\p.ca<r.1
 srt:r.2.Pairwise fun p q=>p.ca<q.ca
theorem vz.step {sat from_:Int} {n:Nat} {r:Int×List bQ} {x:Int×Int×Int} (h:vz sat from_ n r) (j:0<=sat/\sat<=23) (hf:0<=from_/\from_<=900000) (l:n<=100) (hx:uv x):vz sat from_ (n+1) (iv sat r x):=by
 obtain ⟨h1,h2,b,d⟩:=h;have p1:=bN hx.1 (n:=12) ar;have p2:=bN (nq (x.2.2.tdiv 3)) (n:=2) ar;have e:=bN hx.2.1 (n:=12) ar;have f:=bN hx.2.2 (n:=3) ar;unfold iv;simp only;generalize aF x.1 12=m at *;generalize aF (bW (x.2.2.tdiv 3)) 2=t at *;generalize aF x.2.1 12=o at *;generalize aF x.2.2 3=i at *;refine ⟨by simp only; omega,by simp [h2],fun p a=>?_,iP.2 ⟨d,by simp,fun p a q c=>?_⟩⟩
 ·rcases eT.1 a with a | a
  ·have:=b p a;refine ⟨this.1,this.2.1,this.2.2.1,?_,?_⟩ <;> (simp only; omega)
  ·rw [cv.1 a];simp only [gH,cQ,al,cq,aP];refine ⟨⟨⟨by omega,⟨by omega,by omega⟩,trivial⟩,⟨⟨by omega,by omega⟩,by omega⟩,.inr ⟨⟨by omega,by omega⟩,by omega⟩⟩,by omega,by omega,by omega,by omega⟩
 ·rw [cv.1 c];have:=b p a;simp only;omega
theorem vz.run {sat from_:Int} (a:0<=sat/\sat<=23) (hf:0<=from_/\from_<=900000):∀ (z:List (Int×Int×Int)) (n:Nat) (r:Int×List bQ),n+z.length<=100->(∀ x∈z,uv x)->vz sat from_ n r->vz sat from_ (n+z.length) (z.foldl (iv sat) r)
 | [],n,r,_,_,h=>h
 | x::z,n,r,b,hz,h=>by
  rw [bt] at b ⊢;have:=vz.run a hf z (n+1) (iv sat r x) ar (fun y hy=>hz y (.tail _ hy)) (h.step a hf ar (hz x (.head _)));rwa [show n+(z.length+1)=n+1+z.length by omega]
theorem vz.of {sat from_:Int} (a:0<=sat/\sat<=23) (hf:0<=from_/\from_<=900000) {z:List (Int×Int×Int)} (hz:∀ x∈z,uv x) (hl:z.length<=100):vz sat from_ z.length (lr sat from_ z):=by
 have:=vz.run a hf z 0 (from_,[]) ar hz ⟨by simp,rfl,by simp,by simp⟩;simpa [lr] using this
theorem C9 (sat from_:Int) (z:List (Int×Int×Int)) (x:Int×Int×Int):lr sat from_ (z++[x])=iv sat (lr sat from_ z) x:=by simp [lr,cV]
theorem vz.proper {sat from_:Int} {n:Nat} {r:Int×List bQ} (h:vz sat from_ n r) (a:n<=64):jq r.2=true:=by
 rw [og];have hl:=h.len;refine ⟨by omega,fun j hj=>?_,fun j hj=>?_⟩
 ·rw [gt hj]; exact (h.all _ (bT hj)).1
 ·rw [DP,gt hj,gt (show j<r.2.length by omega)];have:=(fO.1 h.srt) j (j+1) ar hj ar;rw [aX ar];exact eq ar
theorem Pu {sat from_:Int} (b:0<=sat/\sat<=23) (hf:0<=from_/\from_<=900000) {z:List (Int×Int×Int)} (hz:∀ x∈z,uv x):jq (mh sat from_ z)=true/\(mh sat from_ z).length<=6/\∀ p∈mh sat from_ z,from_<=p.sa/\p.sa<p.sb/\p.sb<=from_+186:=by
 have hl:(z.take 6).length<=6:=Lg _ _;have h:=vz.of b hf (z:=z.take 6) (fun x hx=>hz x (dy hx)) ar;refine ⟨h.proper ar,by rw [mh,h.len]; exact hl,fun p a=>?_⟩;have h1:=h.all p a;have h2:=h.at_;omega
set_option maxHeartbeats 8000000 in
theorem Jz (sat from_:Int) (z:List (Int×Int×Int)) (E:0<=sat/\sat<=23) (hf:0<=from_/\from_<=900000) (hz:∀ x∈z,uv x):aq Tryz.prog 17 [.int .i64 sat,.int .i64 from_,.sl .no 3 (z.map gV)] (cZ (mh sat from_ z)):=by
 have D:((z.map gV).length:Int)=(z.length:Int):=by rw [az]
 refine aM Kw Tryz.func17 ?_;intro F J w0 m0 hG A h1 kp;refine bz ?_;refine aJ.loop (X:=Nat×Int×List bQ) (fun x=>⟨[(9,.int .i64 x.1),(8,.int .i64 x.2.1),(7,.sl (.id 7) 6 (x.2.2.map bU)),(2,.sl .no 3 (z.map gV)),(0,.int .i64 sat)],[]⟩) (fun x=>x.1<=z.length/\x.1<=6/\x.2=lr sat from_ (z.take x.1)) (fun x=>z.length - x.1) (0,from_,[]) ⟨aU _,aU _,rfl⟩ (LE) (fun x hx=>?_)
 ·obtain ⟨i,at_,out⟩:=x;obtain ⟨hi,G,e⟩:=hx;simp only at hi G e ⊢;have o:=vz.of E hf (z:=z.take i) (fun x hx=>hz x (dy hx)) (by rw [dA]; omega);rw [<- e,dA,rD hi] at o;have l:=o.at_;have j:=o.len;simp only at l j;by_cases a:i<z.length
  ·by_cases B:i<6
   ·have b1:decide ((i:Int)<((z.map gV).length:Int))=false->False:=fun h=>by have:=aW h; omega
    have m:decide ((i:Int)<6)=false->False:=fun h=>by have:=aW h; omega
    have hx:=C6 (f:=gV) ((0:Int),(0:Int),(0:Int)) a;have b:=C9 sat from_ (z.take i) (z.getD i ((0:Int),(0:Int),(0:Int)));rw [<- vW ((0:Int),(0:Int),(0:Int)) a,<- e] at b;have d:uv (z.getD i ((0:Int),(0:Int),(0:Int))):=hz _ (by rw [aK,ai a]; exact bT a);generalize z.getD i ((0:Int),(0:Int),(0:Int))=x at hx b d;have p1:=bN d.1 (n:=12) ar;have p2:=bN (nq (x.2.2.tdiv 3)) (n:=2) ar;have H:=bN d.2.1 (n:=12) ar;have c2:=ib (bW (x.2.2.tdiv 3)) 2 bq;have t:(out.map bU).length<=6:=by rw [az]; omega
    simp only [iv] at b;obtain ⟨c,p⟩:∃ q,q=aF (bW (x.2.2.tdiv 3)) 2:=⟨_,rfl⟩;rw [<- p] at c2 p2 b;have w1:IntKind.i64.wrap (at_+4)=at_+4:=aZ ar ar;have w:IntKind.i64.wrap (at_+4+aF x.1 12)=at_+4+aF x.1 12:=aZ ar ar;have u:IntKind.i64.wrap (at_+4+aF x.1 12+c)=at_+4+aF x.1 12+c:=aZ ar ar;have r:IntKind.i64.wrap (at_+4+aF x.1 12+c+3)=at_+4+aF x.1 12+c+3:=aZ ar ar;have y:IntKind.i64.wrap (at_+4+aF x.1 12+c+3+aF x.2.1 12)=at_+4+aF x.1 12+c+3+aF x.2.1 12:=aZ ar ar;have v:IntKind.i64.wrap (at_+4+aF x.1 12+c+3+aF x.2.1 12+c)=at_+4+aF x.1 12+c+3+aF x.2.1 12+c:=aZ ar ar
    repeat' first|exact (b1 bf).elim|exact (m bf).elim|refine aS ?_|((conv=>whnf); first|refine aa (au i) (ae _ (aa hx ?_))|refine ae _ (aa (c2) ?_)|refine ae _ (aa (ib _ _ bq) ?_)|refine aa bq ?_|refine aa (show ((out.map bU).length+1)*48<=70368744177664 by omega) (aa (show (out.map bU).length+1<=4611686018427387904 by omega) ?_)|refine ⟨fun h=>?_,fun h=>?_⟩|refine ak ?_)
    refine ae (i+1,lr sat from_ (z.take (i+1))) (aa ⟨a,B,rfl⟩ (aa (by show z.length - (i+1)<z.length - i; omega) ?_));rw [b];refine St.le.of (aa (ax some (bL ar)) (aa (ax (fun z=>some (AV.int .i64 z)) ?_) (aa (ax (fun z=>some (AV.sl (.id 7) 6 z)) ?_) ?_))) ?_
    ·rw [w1,w,u,r,y,v]
    ·rw [c7];refine ax (out.map bU++·) ?_;rw [w1,w,u,r,y,v]; rfl
    ·exact RF
    ·exact RF
   ·have m:decide ((i:Int)<6)=true->False:=fun h=>by have:=aH h; omega
    have b1:decide ((i:Int)<((z.map gV).length:Int))=false->False:=fun h=>by have:=aW h; omega
    have he:i=6:=by omega
    subst he
    repeat' first|exact (b1 bf).elim|exact (m bf).elim|refine aS ?_|((conv=>whnf); first|refine ⟨fun h=>?_,fun h=>?_⟩|refine ak ?_)
    exact Ends.mk (ak rfl) (ay (by rw [mh,<- e]; rfl))
  ·have b1:decide ((i:Int)<((z.map gV).length:Int))=true->False:=fun h=>by have:=aH h; omega
   rw [bE ar] at e
   repeat' first|exact (b1 bf).elim|refine aS ?_|((conv=>whnf); first|refine ⟨fun h=>?_,fun h=>?_⟩|refine ak ?_)
   exact Ends.mk (ak rfl) (ay (by rw [mh,bE ar,<- e]; rfl))
open Go Go.AI
set_option maxRecDepth 10000
structure R5 where
 a:Int
 b:Int
 c:Int
 d:Int
 e:Int
def gU (x:R5):List AV:=[.int .i64 x.a,.int .i64 x.b,.int .i64 x.c,.int .i64 x.d,.int .i64 x.e]
def VC:R5:=⟨0,0,0,0,0⟩
def wv (x:R5):Prop:=nR x.a/\nR x.b/\nR x.c/\nR x.d/\nR x.e
def tU (s0 m d n:Int) (ps:List bQ) (r:Int×List dZ) (k:Nat):Int×List dZ:=
 if (r.2.length:Int)<n/\(passAt ps k).sat=s0/\max r.1 ((passAt ps k).sa+d)+m<=(passAt ps k).sb then
  (max r.1 ((passAt ps k).sa+d)+m,r.2++[⟨(k:Int),max r.1 ((passAt ps k).sa+d),max r.1 ((passAt ps k).sa+d)+m⟩]) else r
def jH (s0 m d n:Int) (ps:List bQ) (t0:Int) (k:Nat):Int×List dZ:=(List.range k).foldl (tU s0 m d n ps) (t0,[])
theorem oY (s0 m d n:Int) (ps:List bQ) (t0:Int) (k:Nat):jH s0 m d n ps t0 (k+1)=tU s0 m d n ps (jH s0 m d n ps t0 k) k:=by simp [jH,dJ,cV]
theorem tW {s0 m d n:Int} {ps:List bQ} {t0:Int} {k:Nat} (h:¬ ((jH s0 m d n ps t0 k).2.length:Int)<n):∀ j,jH s0 m d n ps t0 (k+j)=jH s0 m d n ps t0 k
 | 0=>rfl
 | j+1=>by
  rw [show k+(j+1)=(k+j)+1 from rfl,oY,tW h j];exact aV fun g=>h g.1
theorem tV {s0 m d n:Int} {ps:List bQ} {t0:Int} {k:Nat} (a:k<=ps.length) (h:¬ ((jH s0 m d n ps t0 k).2.length:Int)<n):jH s0 m d n ps t0 ps.length=jH s0 m d n ps t0 k:=by
 have:=tW h (ps.length - k);rwa [show k+(ps.length - k)=ps.length by omega] at this
def sx (s:Nat->Int) (ps:List bQ) (from_ id:Int) (x:R5):d4:=
 ⟨id,aF x.e 4,0,s 0,from_+aF x.a 40,from_+aF x.a 40+1+aF x.b 5,aF x.c (2*s 9+1) - s 9,min (s 10) ((1+aF x.d 4)*s 20),
  (jH (s 0) (1+aF x.d 4) (aF (bW (x.d.tdiv 4)) 3) (1+aF (bW (x.e.tdiv 4)) 3) ps (from_+aF x.a 40+1+aF x.b 5) ps.length).2⟩
def jp (s:Nat->Int) (ps:List bQ) (o:d4):Bool:=kP s&&jq ps&&js s o ps
def ge (s:Nat->Int) (ps:List bQ) (from_ id:Int) (z:List R5):Nat->List d4
 | 0=>[]
 | i+1=>ge s ps from_ id z i++if jp s ps (sx s ps from_ (id+i) (z.getD i VC)) then [sx s ps from_ (id+i) (z.getD i VC)] else []
def H8 (s:Nat->Int) (ps:List bQ) (from_ id:Int) (z:List R5):List d4:=ge s ps from_ id z (min z.length 5)
theorem s5 (s:Nat->Int) (ps:List bQ) (from_ id:Int) (z:List R5):∀ i,(ge s ps from_ id z i).length<=i
 | 0=>ba _
 | i+1=>by
  have:=s5 s ps from_ id z i;simp only [ge,bY];split <;> simp <;> omega
theorem AV.weak.agg {cs ds:List AV} (h:bD cs ds) (a:∀ x∈ds,x.isCell=true):(AV.agg cs).weak (.agg ds):=by
 intro m v hv
 cases hv with
 | agg _ vs hl c b=>
  obtain ⟨h1,h2⟩:=h.spec;refine .agg ds vs ar a fun i x u g1 g2=>?_;have hi:i<cs.length:=by rw [h1]; exact (am.1 g1).1
  exact h2 i _ x (ai hi) g1 m u (b i _ u (ai hi) g2)
structure Za (s:Nat->Int) (ps:List bQ) (from_ id:Int):Prop where
 w:0<=s 9/\s 9<=4
 st:1<=s 10/\s 10<=1000000
 rt:1<=s 20/\s 20<=1000
 f:0<=from_/\from_<=900000
 id:0<=id/\id<=50
 pl:ps.length<=64
 p:∀ p∈ps,0<=p.sa/\p.sa<=1000001/\0<=p.sb/\p.sb<=1000001
theorem HZ {s:Nat->Int} {ps:List bQ} {p:Int} {a b c d e f g:Int}:jp s ps ⟨p,a,b,c,d,e,f,g,[]⟩=false:=by
 have:cQ (([]:List dZ).length:Int) 1 6=false:=by decide
 simp only [jp,js,this,bP,bJ]
set_option maxHeartbeats 16000000 in
theorem D9 (s:Nat->Int) (ps:List bQ) (from_ id:Int) (z:List R5) (hH:Za s ps from_ id) (hz:∀ x∈z,wv x):aq Tryz.prog 19 [.agg (bM s),cZ ps,.int .i64 from_,.int .i64 id,.sl .no 5 (z.map gU)] (cH (H8 s ps from_ id z)):=by
 have U:((z.map gU).length:Int)=(z.length:Int):=by rw [az]
 have hw:=hH.w; have hst:=hH.st; have hrt:=hH.rt; have hf:=hH.f; have hid:=hH.id; have hpl:=hH.pl
 refine aM Ku Tryz.func19 ?_;intro F n' w0 m0 hG hro h1 kp;refine bz ?_;refine aJ.loop (X:=Nat) (fun i=>⟨[(12,.int .i64 i),(11,(.sl (.id 11) 9 ((ge s ps from_ id z i).map bO))),(5,.loc 5 0),(4,.sl .no 5 (z.map gU)),(3,.int .i64 id),(2,.int .i64 from_),(1,cZ ps)],[(5,bM s)]⟩) (fun i=>i<=z.length/\i<=5) (fun i=>z.length - i) 0 ⟨aU _,aU _⟩ (LE) (fun i hx=>?_)
 ·obtain ⟨hi,h6⟩:=hx;have hol:=s5 s ps from_ id z i;by_cases u:i<z.length
  ·by_cases h5:i<5
   ·have b1:decide ((i:Int)<((z.map gU).length:Int))=false->False:=fun h=>by have:=aW h; omega
    have b2:decide ((i:Int)<5)=false->False:=fun h=>by have:=aW h; omega
    have hx:=C6 (f:=gU) VC u;have G:wv (z.getD i VC):=hz _ (by rw [aK,ai u]; exact bT u);have B:ge s ps from_ id z (i+1)=ge s ps from_ id z i++if jp s ps (sx s ps from_ (id+i) (z.getD i VC)) then [sx s ps from_ (id+i) (z.getD i VC)] else []:=rfl
    generalize z.getD i VC=x at hx G B;have p1:=bN G.1 (n:=40) ar;have p2:=bN G.2.1 (n:=5) ar;have p3:=bN G.2.2.1 (n:=2*s 9+1) ar;have p4:=bN G.2.2.2.1 (n:=4) ar;have p5:=bN (nq (x.d.tdiv 4)) (n:=3) ar;have p6:=bN (nq (x.e.tdiv 4)) (n:=3) ar;have cE:=ib (bW (x.e.tdiv 4)) 3 bq;have cD:=ib (bW (x.d.tdiv 4)) 3 bq;have wc:IntKind.i64.wrap (IntKind.i64.wrap (2*s 9)+1)=2*s 9+1:=by rw [show IntKind.i64.wrap (2*s 9)=2*s 9 from aZ ar ar]; exact aZ ar ar
    have cC:aq Tryz.prog 50 [.int .i64 x.c,.int .i64 (IntKind.i64.wrap (IntKind.i64.wrap (2*s 9)+1))] (.int .i64 (aF x.c (2*s 9+1))):=by
     have h:=ib x.c (IntKind.i64.wrap (IntKind.i64.wrap (2*s 9)+1)) (by rw [wc]; omega);rw [wc] at h ⊢;exact h
    have c1:=ib x.a 40 bq;have c2:=ib x.b 5 bq;have c4:=ib x.d 4 bq;have v:sx s ps from_ (id+i) x=⟨id+i,aF x.e 4,0,s 0,from_+aF x.a 40,from_+aF x.a 40+1+aF x.b 5,aF x.c (2*s 9+1) - s 9,min (s 10) ((1+aF x.d 4)*s 20),
  (jH (s 0) (1+aF x.d 4) (aF (bW (x.d.tdiv 4)) 3) (1+aF (bW (x.e.tdiv 4)) 3) ps (from_+aF x.a 40+1+aF x.b 5) ps.length).2⟩:=rfl
    generalize aF x.a 40=j at *;generalize aF x.b 5=D at *;generalize aF x.c (2*s 9+1)=N at *;generalize aF x.d 4=l at *;generalize aF (bW (x.d.tdiv 4)) 3=A at *;generalize aF (bW (x.e.tdiv 4)) 3=nn at *;have Q:0<=(1+l)*s 20:=Zd ar ar;have Z:(1+l)*s 20<=4*1000:=Ze ar ar ar ar;have w1:IntKind.i64.wrap (id+(i:Int))=id+i:=aZ ar ar;have w2:IntKind.i64.wrap (from_+j)=from_+j:=aZ ar ar;have w3:IntKind.i64.wrap (from_+j+1)=from_+j+1:=aZ ar ar;have w4:IntKind.i64.wrap (from_+j+1+D)=from_+j+1+D:=aZ ar ar;have w5:IntKind.i64.wrap (N - s 9)=N - s 9:=aZ ar ar;have w6:IntKind.i64.wrap (1+l)=1+l:=aZ ar ar;have w7:IntKind.i64.wrap ((1+l)*s 20)=(1+l)*s 20:=aZ ar ar;have w8:IntKind.i64.wrap (1+nn)=1+nn:=aZ ar ar;have t:([.int .i64 (IntKind.i64.wrap (id+(i:Int))),.int .i64 (aF x.e 4),.int .i64 0,.int .i64 (s 0),.int .i64 (IntKind.i64.wrap (from_+j)),.int .i64 (IntKind.i64.wrap (IntKind.i64.wrap (IntKind.i64.wrap (from_+j)+1)+D)),.int .i64 (IntKind.i64.wrap (N - s 9)),.int .i64 (min (s 10) (IntKind.i64.wrap (IntKind.i64.wrap (1+l)*s 20))),.sl .full 0 []]:List AV)=[.int .i64 (id+(i:Int)),.int .i64 (aF x.e 4),.int .i64 0,.int .i64 (s 0),.int .i64 (from_+j),.int .i64 (from_+j+1+D),.int .i64 (N - s 9),.int .i64 (min (s 10) ((1+l)*s 20)),.sl .full 0 []]:=by rw [w1,w2,w3,w4,w5,w6,w7]
    have h15:0<=from_+j+1+D/\from_+j+1+D<=1900000:=by omega
    have E:IntKind.i64.wrap (IntKind.i64.wrap (IntKind.i64.wrap (from_+j)+1)+D)=from_+j+1+D:=by rw [w2,w3,w4]
    repeat' first|exact (b1 bf).elim|exact (b2 bf).elim|refine aS ?_|((conv=>whnf); first|refine aa (au i) (ae _ (aa hx ?_))|refine ae _ (aa (cC) ?_)|refine ae _ (aa (c1) ?_)|refine ae _ (aa (c2) ?_)|refine ae _ (aa (c4) ?_)|refine ae _ (aa (ib _ _ bq) ?_)|refine aa bq ?_|refine ⟨fun h=>?_,fun h=>?_⟩|refine ak ?_)
    have M:∀ sl:List dZ,sl.length<=64->aq Tryz.prog 51 [.agg (bM s),.agg [.int .i64 (id+(i:Int)),.int .i64 (aF x.e 4),.int .i64 0,.int .i64 (s 0),.int .i64 (from_+j),.int .i64 (from_+j+1+D),.int .i64 (N - s 9),.int .i64 (min (s 10) ((1+l)*s 20)),vX sl],cZ ps] (.bool (jp s ps ⟨id+i,aF x.e 4,0,s 0,from_+j,from_+j+1+D,N - s 9,min (s 10) ((1+l)*s 20),sl⟩)):=fun sl h=>D4 s ⟨id+(i:Int),aF x.e 4,0,s 0,from_+j,from_+j+1+D,N - s 9,min (s 10) ((1+l)*s 20),sl⟩ ps (bC h bq) ar;refine aJ.loop (X:=Nat×Int×List dZ×AV) (fun y=>⟨[(16,.int .i64 y.1),(15,.int .i64 y.2.1),(14,.int .i64 (1+l)),(13,.loc 13 0),(12,.int .i64 i),(11,(.sl (.id 11) 9 ((ge s ps from_ id z i).map bO))),(5,.loc 5 0),(4,.sl .no 5 (z.map gU)),(3,.int .i64 id),(2,.int .i64 from_),(1,cZ ps)],[(13,[.int .i64 (id+(i:Int)),.int .i64 (aF x.e 4),.int .i64 0,.int .i64 (s 0),.int .i64 (from_+j),.int .i64 (from_+j+1+D),.int .i64 (N - s 9),.int .i64 (min (s 10) ((1+l)*s 20)),y.2.2.2]),(5,bM s)]⟩) (fun y=>y.1<=ps.length/\(y.2.1,y.2.2.1)=jH (s 0) (1+l) A (1+nn) ps (from_+j+1+D) y.1/\(0<=y.2.1/\y.2.1<=1900000)/\y.2.2.1.length<=y.1/\((y.2.2.1=[]/\y.2.2.2 = .sl .full 0 [])\/y.2.2.2 = .sl (.id 160) 3 (y.2.2.1.map dM))) (fun y=>ps.length - y.1) (0,from_+j+1+D,[],.sl .full 0 []) ⟨aU _,rfl,h15,ba _,.inl ⟨rfl,rfl⟩⟩ (St.le.of ?_ ?_) (fun y hy=>?_)
    ·refine aa rfl (aa (ax (fun z=>some (AV.int .i64 z)) E) (aa (ax (fun z=>some (AV.int .i64 z)) w6) ?_));exact RF
    ·refine aa (ax some t) ?_;exact RF
    ·obtain ⟨k,en,sl,cell⟩:=y;obtain ⟨hk,hr,hen,hsl,hc⟩:=hy;simp only at hk hr hen hsl hc ⊢;rcases hc with ⟨rfl,rfl⟩ | rfl
     ·have cP:aq Tryz.prog 51 [.agg (bM s),.agg [.int .i64 (id+(i:Int)),.int .i64 (aF x.e 4),.int .i64 0,.int .i64 (s 0),.int .i64 (from_+j),.int .i64 (from_+j+1+D),.int .i64 (N - s 9),.int .i64 (min (s 10) ((1+l)*s 20)),.sl .full 0 []],cZ ps] (.bool (jp s ps ⟨id+(i:Int),aF x.e 4,0,s 0,from_+j,from_+j+1+D,N - s 9,min (s 10) ((1+l)*s 20),([]:List dZ)⟩)):=(M [] cU).weak (.cons (.refl _) (.cons (AV.weak.agg (.cons (.refl _) (.cons (.refl _) (.cons (.refl _) (.cons (.refl _) (.cons (.refl _) (.cons (.refl _) (.cons (.refl _) (.cons (.refl _) (.cons bK .nil))))))))) (by intro y hy; simp at hy; rcases hy with rfl | rfl | rfl | rfl | rfl | rfl | rfl | rfl | rfl <;> rfl)) (.refl _)));by_cases o:k<ps.length
      ·have bbk:=dF (show (k:Int)<((ps.map bU).length:Int) by simp; omega);have hy:=ui o;have hqb:=hH.p (passAt ps k) (by rw [gt o]; exact bT o);have H:=oY (s 0) (1+l) A (1+nn) ps (from_+j+1+D) k;rw [<- hr,tU] at H;simp only at H
       have r:¬ ((([]:List dZ):List dZ).length:Int)<1+nn->sx s ps from_ (id+i) x=⟨id+(i:Int),aF x.e 4,0,s 0,from_+j,from_+j+1+D,N - s 9,min (s 10) ((1+l)*s 20),([]:List dZ)⟩:=fun h=>by
        have h2:=tV hk (s0:=s 0) (m:=1+l) (d:=A) (n:=1+nn) (t0:=from_+j+1+D) (by rw [<- hr]; exact h);rw [v,h2,<- hr]
       generalize passAt ps k=q at hy hqb H;have v1:IntKind.i64.wrap (q.sa+A)=q.sa+A:=aZ ar ar;have v2:IntKind.i64.wrap (max en (q.sa+A)+(1+l))=max en (q.sa+A)+(1+l):=aZ ar ar;have e15:IntKind.i64.wrap (max en (IntKind.i64.wrap (q.sa+A))+(1+l))=max en (q.sa+A)+(1+l):=by rw [v1,v2]
       have J:([]:List (List AV))++[[.int .i64 (k:Int),.int .i64 (max en (IntKind.i64.wrap (q.sa+A))),.int .i64 (IntKind.i64.wrap (max en (IntKind.i64.wrap (q.sa+A))+(1+l)))]]=(([]:List dZ)++[(⟨(k:Int),max en (q.sa+A),max en (q.sa+A)+(1+l)⟩:dZ)]).map dM:=by rw [v1,v2]; simp [dM]
       repeat' first|exact (bbk bf).elim|refine aS ?_|((conv=>whnf); first|refine aa (au k) (ae _ (aa hy ?_))|refine aa (au i) (ae _ (aa hx ?_))|refine ae _ (aa (cE) ?_)|refine ae _ (aa (cD) ?_)|refine aa bq ?_|refine aa (ah rfl) (aa (ah rfl) ?_)|refine ae _ (aa (cP) ?_)|refine aa (show (((ge s ps from_ id z i).map bO).length+1)*88<=70368744177664 by rw [az]; omega) (aa (show ((ge s ps from_ id z i).map bO).length+1<=4611686018427387904 by rw [az]; omega) ?_)|refine ⟨fun h=>?_,fun h=>?_⟩|refine ak ?_)
       all_goals first
        |(conv=>whnf
          refine ae (k+1,max en (q.sa+A)+(1+l),([]:List dZ)++[(⟨(k:Int),max en (q.sa+A),max en (q.sa+A)+(1+l)⟩:dZ)],AV.sl (.id 160) 3 ((([]:List dZ)++[(⟨(k:Int),max en (q.sa+A),max en (q.sa+A)+(1+l)⟩:dZ)]).map dM)) (aa ⟨o,?_,?_,?_,.inr rfl⟩ (aa (by show ps.length - (k+1)<ps.length - k; omega) (St.le.of ?_ ?_)))
          ·rw [H]; symm; apply aX; clear hG t v B hx hy cP M r J cE cD cC c1 c2 c4 w1 w2 w3 w4 w5 w6 w7 wc E Q Z hH hz G U; (try simp only [aR,br] at *); grind
          ·clear hG t v B hx hy cP M r J cE cD cC c1 c2 c4 w1 w2 w3 w4 w5 w6 w7 wc E Q Z hH hz G U; (try simp only [aR,br] at *); grind
          ·simp <;> omega
          ·refine aa (ax some (bL ar)) (aa (ax (fun z=>some (AV.int .i64 z)) e15) ?_);exact RF
          ·refine aa (ax (fun z=>some ([.int .i64 (id+(i:Int)),.int .i64 (aF x.e 4),.int .i64 0,.int .i64 (s 0),.int .i64 (from_+j),.int .i64 (from_+j+1+D),.int .i64 (N - s 9),.int .i64 (min (s 10) ((1+l)*s 20)),AV.sl (.id 160) 3 z]:List AV)) J) ?_
           repeat' (first | exact trivial | refine aa rfl ?_))
        |(conv=>whnf
          refine ae (k+1,en,([]:List dZ),.sl .full 0 []) (aa ⟨o,?_,hen,?_,.inl ⟨rfl,rfl⟩⟩ (aa (by show ps.length - (k+1)<ps.length - k; omega) (St.le.of ?_ ?_)))
          ·rw [H]; symm; apply aV; clear hG t v B hx hy cP M r J cE cD cC c1 c2 c4 w1 w2 w3 w4 w5 w6 w7 wc E Q Z hH hz G U; (try simp only [aR,br] at *); grind
          ·exact Nat.le_succ_of_le hsl
          ·refine aa (ax some (bL ar)) ?_;exact RF
          ·repeat' (first | exact trivial | refine aa rfl ?_))
        | skip
       all_goals have P:=r (by clear hG t v B hx hy cP M r J cE cD cC c1 c2 c4 w1 w2 w3 w4 w5 w6 w7 wc E Q Z hH hz G U; (try simp only [aR,br] at *); grind)
       all_goals first
        |(exact absurd (by assumption:jp s ps _=true) (by rw [HZ]; simp))
        |(have L:=(by assumption:jp s ps _=false)
          conv=>whnf
          refine ae (i+1) (aa ⟨u,h5⟩ (aa ar (St.le.of ?_ ?_)))
          ·refine aa (ax some (bL ar)) (aa (ax (fun z=>some (AV.sl (.id 11) 9 z)) ?_) ?_)
           ·rw [B,P,aV (by rw [L]; simp),bR]
           ·exact RF
          ·repeat' (first | exact trivial | refine aa rfl ?_))
      ·have bbk:=dT (show ¬((k:Int)<((ps.map bU).length:Int)) by simp; omega);have he:k=ps.length:=by omega
       have P:sx s ps from_ (id+i) x=⟨id+(i:Int),aF x.e 4,0,s 0,from_+j,from_+j+1+D,N - s 9,min (s 10) ((1+l)*s 20),([]:List dZ)⟩:=by rw [v,<- he,<- hr]
       repeat' first|exact (bbk bf).elim|refine aS ?_|((conv=>whnf); first|refine ae _ (aa (cP) ?_)|refine aa (show (((ge s ps from_ id z i).map bO).length+1)*88<=70368744177664 by rw [az]; omega) (aa (show ((ge s ps from_ id z i).map bO).length+1<=4611686018427387904 by rw [az]; omega) ?_)|refine ⟨fun h=>?_,fun h=>?_⟩|refine ak ?_)
       all_goals first
        |(exact absurd (by assumption:jp s ps _=true) (by rw [HZ]; simp))
        |(have L:=(by assumption:jp s ps _=false)
          conv=>whnf
          refine ae (i+1) (aa ⟨u,h5⟩ (aa ar (St.le.of ?_ ?_)))
          ·refine aa (ax some (bL ar)) (aa (ax (fun z=>some (AV.sl (.id 11) 9 z)) ?_) ?_)
           ·rw [B,P,aV (by rw [L]; simp),bR]
           ·exact RF
          ·repeat' (first | exact trivial | refine aa rfl ?_))
     ·have cP:aq Tryz.prog 51 [.agg (bM s),.agg [.int .i64 (id+(i:Int)),.int .i64 (aF x.e 4),.int .i64 0,.int .i64 (s 0),.int .i64 (from_+j),.int .i64 (from_+j+1+D),.int .i64 (N - s 9),.int .i64 (min (s 10) ((1+l)*s 20)),.sl .no 3 (sl.map dM)],cZ ps] (.bool (jp s ps ⟨id+(i:Int),aF x.e 4,0,s 0,from_+j,from_+j+1+D,N - s 9,min (s 10) ((1+l)*s 20),sl⟩)):=M sl ar;by_cases o:k<ps.length
      ·have bbk:=dF (show (k:Int)<((ps.map bU).length:Int) by simp; omega);have hy:=ui o;have hqb:=hH.p (passAt ps k) (by rw [gt o]; exact bT o);have H:=oY (s 0) (1+l) A (1+nn) ps (from_+j+1+D) k;rw [<- hr,tU] at H;simp only at H
       have r:¬ ((sl:List dZ).length:Int)<1+nn->sx s ps from_ (id+i) x=⟨id+(i:Int),aF x.e 4,0,s 0,from_+j,from_+j+1+D,N - s 9,min (s 10) ((1+l)*s 20),sl⟩:=fun h=>by
        have h2:=tV hk (s0:=s 0) (m:=1+l) (d:=A) (n:=1+nn) (t0:=from_+j+1+D) (by rw [<- hr]; exact h);rw [v,h2,<- hr]
       generalize passAt ps k=q at hy hqb H;have v1:IntKind.i64.wrap (q.sa+A)=q.sa+A:=aZ ar ar;have v2:IntKind.i64.wrap (max en (q.sa+A)+(1+l))=max en (q.sa+A)+(1+l):=aZ ar ar;have e15:IntKind.i64.wrap (max en (IntKind.i64.wrap (q.sa+A))+(1+l))=max en (q.sa+A)+(1+l):=by rw [v1,v2]
       have J:sl.map dM++[[.int .i64 (k:Int),.int .i64 (max en (IntKind.i64.wrap (q.sa+A))),.int .i64 (IntKind.i64.wrap (max en (IntKind.i64.wrap (q.sa+A))+(1+l)))]]=(sl++[(⟨(k:Int),max en (q.sa+A),max en (q.sa+A)+(1+l)⟩:dZ)]).map dM:=by rw [v1,v2]; simp [dM]
       repeat' first|exact (bbk bf).elim|refine aS ?_|((conv=>whnf); first|refine aa (au k) (ae _ (aa hy ?_))|refine aa (au i) (ae _ (aa hx ?_))|refine ae _ (aa (cE) ?_)|refine ae _ (aa (cD) ?_)|refine aa bq ?_|refine aa (show ((sl.map dM).length+1)*24<=70368744177664 by rw [az]; omega) (aa (show (sl.map dM).length+1<=4611686018427387904 by rw [az]; omega) ?_)|refine ae _ (aa (cP) ?_)|refine aa (show (((ge s ps from_ id z i).map bO).length+1)*88<=70368744177664 by rw [az]; omega) (aa (show ((ge s ps from_ id z i).map bO).length+1<=4611686018427387904 by rw [az]; omega) ?_)|refine ⟨fun h=>?_,fun h=>?_⟩|refine ak ?_)
       all_goals first
        |(conv=>whnf
          refine ae (k+1,max en (q.sa+A)+(1+l),sl++[(⟨(k:Int),max en (q.sa+A),max en (q.sa+A)+(1+l)⟩:dZ)],AV.sl (.id 160) 3 ((sl++[(⟨(k:Int),max en (q.sa+A),max en (q.sa+A)+(1+l)⟩:dZ)]).map dM)) (aa ⟨o,?_,?_,?_,.inr rfl⟩ (aa (by show ps.length - (k+1)<ps.length - k; omega) (St.le.of ?_ ?_)))
          ·rw [H]; symm; apply aX; clear hG t v B hx hy cP M r J cE cD cC c1 c2 c4 w1 w2 w3 w4 w5 w6 w7 wc E Q Z hH hz G U; (try simp only [aR,br] at *); grind
          ·clear hG t v B hx hy cP M r J cE cD cC c1 c2 c4 w1 w2 w3 w4 w5 w6 w7 wc E Q Z hH hz G U; (try simp only [aR,br] at *); grind
          ·simp <;> omega
          ·refine aa (ax some (bL ar)) (aa (ax (fun z=>some (AV.int .i64 z)) e15) ?_);exact RF
          ·refine aa (ax (fun z=>some ([.int .i64 (id+(i:Int)),.int .i64 (aF x.e 4),.int .i64 0,.int .i64 (s 0),.int .i64 (from_+j),.int .i64 (from_+j+1+D),.int .i64 (N - s 9),.int .i64 (min (s 10) ((1+l)*s 20)),AV.sl (.id 160) 3 z]:List AV)) J) ?_
           repeat' (first | exact trivial | refine aa rfl ?_))
        |(conv=>whnf
          refine ae (k+1,en,sl,.sl (.id 160) 3 (sl.map dM)) (aa ⟨o,?_,hen,?_,.inr rfl⟩ (aa (by show ps.length - (k+1)<ps.length - k; omega) (St.le.of ?_ ?_)))
          ·rw [H]; symm; apply aV; clear hG t v B hx hy cP M r J cE cD cC c1 c2 c4 w1 w2 w3 w4 w5 w6 w7 wc E Q Z hH hz G U; (try simp only [aR,br] at *); grind
          ·exact Nat.le_succ_of_le hsl
          ·refine aa (ax some (bL ar)) ?_;exact RF
          ·repeat' (first | exact trivial | refine aa rfl ?_))
        | skip
       all_goals have P:=r (by clear hG t v B hx hy cP M r J cE cD cC c1 c2 c4 w1 w2 w3 w4 w5 w6 w7 wc E Q Z hH hz G U; (try simp only [aR,br] at *); grind)
       all_goals first
        |(have L:=(by assumption:jp s ps ⟨id+(i:Int),aF x.e 4,0,s 0,from_+j,from_+j+1+D,N - s 9,min (s 10) ((1+l)*s 20),sl⟩=true)
          conv=>whnf
          refine ae (i+1) (aa ⟨u,h5⟩ (aa ar (St.le.of ?_ ?_)))
          ·refine aa (ax some (bL ar)) (aa (ax (fun z=>some (AV.sl (.id 11) 9 z)) ?_) ?_)
           ·rw [B,P,aX L,c7]; rfl
           ·exact RF
          ·repeat' (first | exact trivial | refine aa rfl ?_))
        |(have L:=(by assumption:jp s ps _=false)
          conv=>whnf
          refine ae (i+1) (aa ⟨u,h5⟩ (aa ar (St.le.of ?_ ?_)))
          ·refine aa (ax some (bL ar)) (aa (ax (fun z=>some (AV.sl (.id 11) 9 z)) ?_) ?_)
           ·rw [B,P,aV (by rw [L]; simp),bR]
           ·exact RF
          ·repeat' (first | exact trivial | refine aa rfl ?_))
      ·have bbk:=dT (show ¬((k:Int)<((ps.map bU).length:Int)) by simp; omega);have he:k=ps.length:=by omega
       have P:sx s ps from_ (id+i) x=⟨id+(i:Int),aF x.e 4,0,s 0,from_+j,from_+j+1+D,N - s 9,min (s 10) ((1+l)*s 20),sl⟩:=by rw [v,<- he,<- hr]
       repeat' first|exact (bbk bf).elim|refine aS ?_|((conv=>whnf); first|refine ae _ (aa (cP) ?_)|refine aa (show (((ge s ps from_ id z i).map bO).length+1)*88<=70368744177664 by rw [az]; omega) (aa (show ((ge s ps from_ id z i).map bO).length+1<=4611686018427387904 by rw [az]; omega) ?_)|refine ⟨fun h=>?_,fun h=>?_⟩|refine ak ?_)
       all_goals first
        |(have L:=(by assumption:jp s ps ⟨id+(i:Int),aF x.e 4,0,s 0,from_+j,from_+j+1+D,N - s 9,min (s 10) ((1+l)*s 20),sl⟩=true)
          conv=>whnf
          refine ae (i+1) (aa ⟨u,h5⟩ (aa ar (St.le.of ?_ ?_)))
          ·refine aa (ax some (bL ar)) (aa (ax (fun z=>some (AV.sl (.id 11) 9 z)) ?_) ?_)
           ·rw [B,P,aX L,c7]; rfl
           ·exact RF
          ·repeat' (first | exact trivial | refine aa rfl ?_))
        |(have L:=(by assumption:jp s ps _=false)
          conv=>whnf
          refine ae (i+1) (aa ⟨u,h5⟩ (aa ar (St.le.of ?_ ?_)))
          ·refine aa (ax some (bL ar)) (aa (ax (fun z=>some (AV.sl (.id 11) 9 z)) ?_) ?_)
           ·rw [B,P,aV (by rw [L]; simp),bR]
           ·exact RF
          ·repeat' (first | exact trivial | refine aa rfl ?_))
   ·have b2:decide ((i:Int)<5)=true->False:=fun h=>by have:=aH h; omega
    have b1:decide ((i:Int)<((z.map gU).length:Int))=false->False:=fun h=>by have:=aW h; omega
    have he:i=5:=by omega
    subst he
    repeat' first|exact (b1 bf).elim|exact (b2 bf).elim|refine aS ?_|((conv=>whnf); first|refine ⟨fun h=>?_,fun h=>?_⟩|refine ak ?_)
    exact Ends.mk (ak rfl) (ay (by rw [H8,Nat.min_eq_right ar]; rfl))
  ·have b1:decide ((i:Int)<((z.map gU).length:Int))=true->False:=fun h=>by have:=aH h; omega
   have he:i=z.length:=by omega
   repeat' first|exact (b1 bf).elim|refine aS ?_|((conv=>whnf); first|refine ⟨fun h=>?_,fun h=>?_⟩|refine ak ?_)
   exact Ends.mk (ak rfl) (ay (by rw [H8,rD ar,<- he]; rfl))
open Go Go.AI
namespace TCase
end TCase
theorem ZF {s:Nat->Int} (h:kP s=true):(0<=s 9/\s 9<=4)/\(1<=s 10/\s 10<=1000000)/\(1<=s 20/\s 20<=1000)/\(0<=s 19/\s 19<=60)/\(1<=s 11/\s 11<=1000000)/\(1<=s 18/\s 18<=1000000)/\(0<=s 17/\s 17<=10000)/\(0<=s 16/\s 16<=10000):=by
 simp only [kP,cQ,al,aP] at h;omega
theorem yW {s:Nat->Int} {ps:List bQ} {z m:Int} (a:∀ p∈ps,p.sb<=m) (hl:ps.length<=64):∀ (l:List dZ) (t:Int),fG s ps z t l=true->∀ x∈l,x.b<=m
 | [],_,_,x,hx=>nomatch hx
 | y::r,t,h,x,hx=>by
  simp only [fG,mI,al,cQ,aP] at h;rcases bF.1 hx with rfl | hx
  ·grind [aZ,gt,List.getElem_mem]
  ·exact yW a hl r _ h.2 x hx
theorem P9 {s:Nat->Int} {o:d4} {ps:List bQ} {m:Int} (a:∀ p∈ps,p.sb<=m) (hl:ps.length<=64) (h:js s o ps=true):uq o<=m:=by
 have d:=IC h;have c:fG s ps o.size o.b o.sl=true:=by simp only [js,al] at h; exact h.2
 refine yW a hl o.sl _ c _ ?_;grind [LJ,List.getElem?_eq_getElem,List.getElem_mem]
theorem o3 {s:Nat->Int} {ps:List bQ} {from_ id:Int} {z:List R5} (hz:∀ x∈z,wv x):∀ i,i<=z.length->∀ o∈ge s ps from_ id z i,jp s ps o=true/\from_<=o.a/\id<=o.id/\o.id<id+i
 | 0,_,o,b=>nomatch b
 | i+1,hi,o,b=>by
  rw [ge,eT] at b;rcases b with b | b
  ·have:=o3 hz i ar o b;grind
  ·split at b
   ·rename_i c;rw [cv.1 b];have hx:wv (z.getD i VC):=hz _ (by grind);have p1:=bN hx.1 (n:=40) ar;exact ⟨c,by show from_<=from_+_; omega,by show id<=id+(i:Int); omega,by show id+(i:Int)<_; omega⟩
   ·cases b
open Go Go.AI
set_option maxRecDepth 10000
theorem AV.weak.tup {cs ds:List AV} (h:bD cs ds):(AV.tup cs).weak (.tup ds):=by
 intro m v hv
 cases hv with
 | tup _ vs hl a=>
  obtain ⟨h1,h2⟩:=h.spec;refine .tup ds vs ar fun i x u g1 g2=>?_;have hi:i<cs.length:=by rw [h1]; exact (am.1 g1).1
  exact h2 i _ x (ai hi) g1 m u (a i _ u (ai hi) g2)
open Go Go.AI
set_option maxRecDepth 10000
structure nY where
 id:Int
 x:Int
 y:Int
 reach:Int
 ant:Int
 skew:Int
deriving DecidableEq
def eB (s:nY):List AV:=[.int .i64 s.id,.int .i64 s.x,.int .i64 s.y,.int .i64 s.reach,.int .i64 s.ant,.int .i64 s.skew]
def LH:nY:=⟨0,0,0,0,0,0⟩
def yV (l:List nY):AV := .sl .no 6 (l.map eB)
def iM:Nat->Int:=fun _=>0
def qC (l:List (Nat->Int)):AV := .sl .no 21 (l.map bM)
structure gp where
 rows:List Int
 a:Int
 b:Int
 lo:Int
 hi:Int
 clear:Bool
deriving DecidableEq
def hU (s:gp):List AV:=[.int .i64 1,bu s.rows,.int .i64 s.a,.int .i64 s.b,.int .i64 s.lo,.int .i64 s.hi,.bool s.clear,.int .i64 0,.int .i64 0,.int .i64 0,.sl .no 1 [],.sl .no 12 []]
structure qh where
 kind:Int
 see:gp
 within:Int
 kids:List gp
deriving DecidableEq
def di (g:qh):List AV:=[.int .i64 g.kind,bu g.see.rows,.int .i64 g.see.a,.int .i64 g.see.b,.int .i64 g.see.lo,.int .i64 g.see.hi,.bool g.see.clear,.int .i64 0,.int .i64 0,.int .i64 g.within,.sl .no 1 [],.sl .no 12 (g.kids.map hU)]
structure kM where
 id:Int
 own:Int
 goal:qh
 price:Int
 group:Int
 urgent:Bool
 known:Int
 due:Int
deriving DecidableEq
def fb (o:kM):List AV:=[.int .i64 o.id,.int .i64 o.own,.int .i64 o.goal.kind,bu o.goal.see.rows,.int .i64 o.goal.see.a,.int .i64 o.goal.see.b,.int .i64 o.goal.see.lo,.int .i64 o.goal.see.hi,.bool o.goal.see.clear,.int .i64 0,.int .i64 0,.int .i64 o.goal.within,.sl .no 1 [],.sl .no 12 (o.goal.kids.map hU),.int .i64 o.price,.int .i64 o.group,.bool o.urgent,.int .i64 o.known,.int .i64 o.due]
def mg:gp:=⟨[],0,0,0,0,false⟩
def Tm:qh:=⟨0,mg,0,[]⟩
def jO:kM:=⟨0,0,Tm,0,0,false,0,0⟩
def zg (l:List kM):AV := .sl .no 19 (l.map fb)
structure jY where
 ord:Int
 opts:List Int
deriving DecidableEq
def fH (b:jY):List AV:=[.int .i64 b.ord,bu b.opts]
def h9:jY:=⟨0,[]⟩
def uO (l:List jY):AV := .sl .no 2 (l.map fH)
structure eo where
 sats:List (Nat->Int)
 stas:List nY
 passes:List bQ
 ords:List kM
 opts:List d4
 buns:List jY
 prom:List Int
 quo:List Int
 loss:Int
 a:Int
 b:Int
def gz (s:eo):List AV:=[qC s.sats,yV s.stas,cZ s.passes,zg s.ords,cH s.opts,uO s.buns,bu s.prom,bu s.quo,.int .i64 s.loss,.int .i64 s.a,.int .i64 s.b]
structure eo.Small (s:eo):Prop where
 sats:s.sats.length<=1000000
 stas:s.stas.length<=1000000
 passes:s.passes.length<=1000000
 ords:s.ords.length<=1000000
 opts:s.opts.length<=1000000
 buns:s.buns.length<=1000000
 prom:s.prom.length<=1000000
 quo:s.quo.length<=1000000
 slots:∀ o∈s.opts,o.sl.length<=1000000
 bopts:∀ b∈s.buns,b.opts.length<=1000000
abbrev cA (b:Nat) (s:eo):AV := .pin 5000011 b 0 (gz s)
theorem wx {α:Type} (p:α->Bool):∀ (l:List α) (k:Nat),(∃ (n:Nat) (x:α),lR p l k=((k+n:Nat):Int)/\l[n]?=some x/\l.find? p=some x)\/(lR p l k = -1/\l.find? p=none)
 | [],k => .inr ⟨rfl,rfl⟩
 | x::r,k=>by
  by_cases h:p x=true
  ·exact .inl ⟨0,x,by simp [lR,h],rfl,by simp [h]⟩
  ·rcases wx p r (k+1) with ⟨n,y,h1,h2,a⟩ | ⟨h1,h2⟩
   ·exact .inl ⟨n+1,y,by simp only [lR,h,cu,h1]; simp only [bv,cu]; omega,by simpa using h2,by simp only [List.find?_cons,h]; exact a⟩
   ·exact .inr ⟨by simp [lR,h,h1],by simp only [List.find?_cons,h]; exact h2⟩
theorem oy (n a b:Int):aq Tryz.prog 34 [.int .i64 n,.int .i64 a,.int .i64 b] (.bool (cQ n a b)):=by
 refine aM Kn Tryz.func34 ?_;intro F d w0 m0 hG c h1 kp
 repeat' first|refine aS ?_|((conv=>whnf); first|constructor <;> intro h|refine ak ?_)
 all_goals refine Eb ?_
 all_goals (simp_all [cQ] <;> omega)
theorem Bs (l:List nY) (p:nY->Bool) (g:FuncId) (fv:AV) (cap:List AV) (hf:fv = .clo g cap\/(fv = .fn g/\cap=[])) (hl:l.length<=1000000)
  (hp:∀ x∈l,aq Tryz.prog g ((.agg (eB x))::cap) (.bool (p x))):aq Tryz.prog 169 [.sl .no 6 (l.map eB),fv] (.int .i64 (lR p l 0)):=by
 let E:=eB; let D:=LH; let K:=Gc; let N:=6; have f:=Tryz.func169; exact Vy
theorem wQ (l:List nY) (p:nY->Bool) (g:FuncId) (fv:AV) (cap:List AV) (hf:fv = .clo g cap\/(fv = .fn g/\cap=[])) (hl:l.length<=1000000)
  (hp:∀ x∈l,aq Tryz.prog g ((.agg (eB x))::cap) (.bool (p x))):aq Tryz.prog 101 [.sl .no 6 (l.map eB),fv] (.bool (l.any p)):=by
 have I:=Bs l p g fv cap hf hl hp; let K:=G4; have f:=Tryz.func101; exact X3
theorem Bt (l:List (Nat->Int)) (p:(Nat->Int)->Bool) (g:FuncId) (fv:AV) (cap:List AV) (hf:fv = .clo g cap\/(fv = .fn g/\cap=[])) (hl:l.length<=1000000)
  (hp:∀ x∈l,aq Tryz.prog g ((.agg (bM x))::cap) (.bool (p x))):aq Tryz.prog 143 [.sl .no 21 (l.map bM),fv] (.int .i64 (lR p l 0)):=by
 let E:=bM; let D:=iM; let K:=Gx; let N:=21; have f:=Tryz.func143; exact Vy
theorem Bu (l:List kM) (p:kM->Bool) (g:FuncId) (fv:AV) (cap:List AV) (hf:fv = .clo g cap\/(fv = .fn g/\cap=[])) (hl:l.length<=1000000)
  (hp:∀ x∈l,aq Tryz.prog g ((.agg (fb x))::cap) (.bool (p x))):aq Tryz.prog 139 [.sl .no 19 (l.map fb),fv] (.int .i64 (lR p l 0)):=by
 let E:=fb; let D:=jO; let K:=Gz; let N:=19; have f:=Tryz.func139; exact Vy
open Go Go.AI
def sortI (l:List Int):List Int:=l.mergeSort fun x y=>decide (x<=y)
def dW (l:List Int) (i:Nat):Int:=l.getD i 0
def zq (n:Nat) (l:List Int) (i:Nat):Bool:=decide (0<=dW l i)&&decide (dW l i<n)&&(decide (i=0)||decide (dW l (i - 1)<dW l i))
def DO (l:List Int) (d:Int):Nat:=(l.filter fun x=>decide (x=d)).length
open Go Go.AI
set_option maxRecDepth 10000
theorem rK {l:List Int} {i:Nat} (h:i<l.length):(l.map fun h=>[AV.int .i64 h])[(i:Int).toNat]?=some [.int .i64 (dW l i)]:=by simp [dW,ai h]
theorem ot (p:Nat->Bool) (n:Nat):(List.range (n+1)).all p=((List.range n).all p&&p n):=by rw [dJ,List.all_append]; simp
def lW (ds:List Int) (i:Nat):List (Int×Int):=(ds.take i).foldl (fun t d=>oa d (mm t d+1) t) []
theorem wA (x y z:Int):∀ l:List (Int×Int),mm (oa x y l) z=if x=z then y else mm l z
 | []=>by simp [oa,mm]
 | p::r=>by
  by_cases h:p.1=x
  ·simp only [oa,aX h,mm];by_cases h2:x=z
   ·rw [aX h2,aX h2]
   ·rw [aV h2,aV h2,aV (by rw [h]; exact h2)]
  ·simp only [oa,aV h,mm,wA x y z r];by_cases h2:x=z
   ·subst h2; simp [h]
   ·simp [h2]
theorem oT {ds:List Int} {i:Nat} (h:i<ds.length):ds.take (i+1)=ds.take i++[ds.getD i 0]:=by
 rw [ef,aK,ai h]; rfl
theorem xA {ds:List Int} {i:Nat} (h:i<ds.length):lW ds (i+1)=oa (ds.getD i 0) (mm (lW ds i) (ds.getD i 0)+1) (lW ds i):=by
 unfold lW; rw [oT h,cV]; rfl
theorem pn (ds:List Int) (z:Int):∀ i,i<=ds.length->mm (lW ds i) z=(DO (ds.take i) z:Int)
 | 0,_=>by simp [lW,DO,mm]
 | i+1,h=>by
  rw [xA h,wA,pn ds z i ar,pn ds _ i ar,oT h];unfold DO;rw [nf,bY];by_cases hz:ds.getD i 0=z
  ·have a:List.filter (fun x=>decide (x=z)) [ds.getD i 0]=[ds.getD i 0]:=by rw [List.filter_cons_of_pos (by simpa using hz)]; rfl
   rw [aX hz,hz] at *; rw [a]; simp
  ·have a:List.filter (fun x=>decide (x=z)) [ds.getD i 0]=[]:=by rw [List.filter_cons_of_neg (by simpa using hz)]; rfl
   rw [aV hz,a]; simp
theorem T2 (l:List Int) (d:Int):DO l d<=l.length:=iu _ _
theorem gu:∀ t,t=150->AK Tryz.prog t:=by
 rintro _ rfl;exact ⟨_,_,rfl,rfl,fun w=>rfl⟩
open Go Go.AI
set_option maxRecDepth 10000
theorem KK (l:List Int) (hl:l.length<=1000000):aq Tryz.prog 77 [bu l] (bu l):=by
 rcases l with _ | ⟨x,l⟩
 ·refine aM fN Tryz.func77 ?_;intro F d w0 m0 hG c h1 kp
  repeat' first|refine aJ.seq ?_|refine aJ.block ?_|refine oF hG af fN aI ?_|refine m9 hG af (M:=fun t=>t=150) gu fN aI ?_|refine aJ.skip hG af ?_|refine aJ.label hG af ?_|refine aJ.ret hG af ?_|refine aJ.exit hG af ?_|refine ck rfl ?_|refine cm rfl ?_|refine aJ.cond rfl (aa (fun h=>?_) (fun h=>?_))|((conv=>whnf); first|refine cX ?_|refine cW ?_|refine fc ?_|refine aa (ah rfl) (aa (ah rfl) ?_)|refine aa (fun _=>?_) ?_|refine aa (fun h=>?_) (fun h=>?_)|refine ak ?_)
  all_goals (first | exact Ends.mk (ak rfl) (ay rfl) | (dsimp only; exact Ends.mk (ak rfl) (ay rfl)) | (show AI.Ends _ _ _ _ _; exact Ends.mk (ak rfl) (ay rfl)))
 ·have b:(([]:List (List AV)).length+((x::l).map fun h=>[AV.int .i64 h]).length)*8<=70368744177664:=by simp at hl ⊢; omega
  have a:([]:List (List AV)).length+((x::l).map fun h=>[AV.int .i64 h]).length<=4611686018427387904:=by simp at hl ⊢; omega
  refine aM fN Tryz.func77 ?_;intro F d w0 m0 hG c h1 kp
  repeat' first|refine aJ.seq ?_|refine aJ.block ?_|refine oF hG af fN aI ?_|refine m9 hG af (M:=fun t=>t=150) gu fN aI ?_|refine aJ.skip hG af ?_|refine aJ.label hG af ?_|refine aJ.ret hG af ?_|refine aJ.exit hG af ?_|refine ck rfl ?_|refine cm rfl ?_|refine aJ.cond rfl (aa (fun h=>?_) (fun h=>?_))|((conv=>whnf); first|refine cX ?_|refine cW ?_|refine fc ?_|refine aa (fun h=>absurd h cU) ?_|refine aa b (aa a ?_)|refine aa (fun h=>?_) (fun h=>?_)|refine ak ?_)
  all_goals (first | exact Ends.mk (ak rfl) (ay rfl) | (dsimp only; exact Ends.mk (ak rfl) (ay rfl)) | (show AI.Ends _ _ _ _ _; exact Ends.mk (ak rfl) (ay rfl)))
open Go Go.Shelf
def Br:Go.Shelf.Ren:=⟨fun | 189=>55 | 125=>121 | 257=>120 | 128=>200 | 129=>201 | 294=>191 | 295=>192 | 296=>193 | 297=>194 | 298=>195 | 299=>196 | 216=>197 | 300=>198 | 301=>199 | 328=>254 | 329=>255 | 330=>256 | 331=>257 | 332=>258 | 215=>158 | 343=>298 | n=>n,fun | 28=>27 | 3=>3 | 46=>206 | 0=>0 | 51=>272 | 53=>274 | 4=>4 | 183=>265 | 182=>264 | 131=>181 | 5=>5 | 9=>9 | 218=>312 | 222=>316 | 228=>358 | 229=>359 | n=>n,fun | n=>n⟩
theorem wP:Lays.n189 Tryz.prog Br where
 mixed:=by kernel_rfl
 f125:=Tryz.func121.trans (ax some aI)
 f128:=Tryz.func200.trans (ax some aI)
 f129:=Tryz.func201.trans (ax some aI)
 f189:=Tryz.func55.trans (ax some aI)
 f215:=Tryz.func158.trans (ax some aI)
 f216:=Tryz.func197.trans (ax some aI)
 f257:=Tryz.func120.trans (ax some aI)
 f294:=Tryz.func191.trans (ax some aI)
 f295:=Tryz.func192.trans (ax some aI)
 f296:=Tryz.func193.trans (ax some aI)
 f297:=Tryz.func194.trans (ax some aI)
 f298:=Tryz.func195.trans (ax some aI)
 f299:=Tryz.func196.trans (ax some aI)
 f300:=Tryz.func198.trans (ax some aI)
 f301:=Tryz.func199.trans (ax some aI)
 f328:=Tryz.func254.trans (ax some aI)
 f329:=Tryz.func255.trans (ax some aI)
 f330:=Tryz.func256.trans (ax some aI)
 f331:=Tryz.func257.trans (ax some aI)
 f332:=Tryz.func258.trans (ax some aI)
 f343:=Tryz.func298.trans (ax some aI)
 t0:=Tryz.underlying0
 a0:=Tryz.isAgg0
 z0:=Tryz.sizeOf0
 v0:=Tryz.zeroValue0
 t3:=Tryz.underlying3
 a3:=Tryz.isAgg3
 z3:=Tryz.sizeOf3
 v3:=Tryz.zeroValue3
 t4:=Tryz.underlying4
 a4:=Tryz.isAgg4
 z4:=Tryz.sizeOf4
 v4:=Tryz.zeroValue4
 t5:=Tryz.underlying5
 a5:=Tryz.isAgg5
 z5:=Tryz.sizeOf5
 v5:=Tryz.zeroValue5
 t9:=Tryz.underlying9
 a9:=Tryz.isAgg9
 z9:=Tryz.sizeOf9
 v9:=Tryz.zeroValue9
 t28:=Tryz.underlying27
 a28:=Tryz.isAgg27
 z28:=Tryz.sizeOf27
 v28:=Tryz.zeroValue27
 t46:=Tryz.underlying206
 a46:=Tryz.isAgg206
 z46:=Tryz.sizeOf206
 v46:=Tryz.zeroValue206
 t51:=Tryz.underlying272
 a51:=Tryz.isAgg272
 z51:=Tryz.sizeOf272
 v51:=Tryz.zeroValue272
 t53:=Tryz.underlying274
 a53:=Tryz.isAgg274
 z53:=Tryz.sizeOf274
 v53:=Tryz.zeroValue274
 t131:=Tryz.underlying181
 a131:=Tryz.isAgg181
 z131:=Tryz.sizeOf181
 v131:=Tryz.zeroValue181
 t182:=Tryz.underlying264
 a182:=Tryz.isAgg264
 z182:=Tryz.sizeOf264
 v182:=Tryz.zeroValue264
 t183:=Tryz.underlying265
 a183:=Tryz.isAgg265
 z183:=Tryz.sizeOf265
 v183:=Tryz.zeroValue265
 t218:=Tryz.underlying312
 a218:=Tryz.isAgg312
 z218:=Tryz.sizeOf312
 v218:=Tryz.zeroValue312
 t222:=Tryz.underlying316
 a222:=Tryz.isAgg316
 z222:=Tryz.sizeOf316
 v222:=Tryz.zeroValue316
 t228:=Tryz.underlying358
 a228:=Tryz.isAgg358
 z228:=Tryz.sizeOf358
 v228:=Tryz.zeroValue358
 t229:=Tryz.underlying359
 a229:=Tryz.isAgg359
 z229:=Tryz.sizeOf359
 v229:=Tryz.zeroValue359
open Go Go.Shelf
def By:Go.Shelf.Ren:=⟨fun | 20=>56 | n=>n,fun | 22=>27 | 3=>3 | 4=>4 | 0=>0 | n=>n,fun | n=>n⟩
theorem CJ:Lays2.n20 Tryz.prog By where
 mixed:=by kernel_rfl
 f20:=Tryz.func56.trans (ax some aI)
 t0:=Tryz.underlying0
 a0:=Tryz.isAgg0
 z0:=Tryz.sizeOf0
 v0:=Tryz.zeroValue0
 t3:=Tryz.underlying3
 a3:=Tryz.isAgg3
 z3:=Tryz.sizeOf3
 v3:=Tryz.zeroValue3
 t4:=Tryz.underlying4
 a4:=Tryz.isAgg4
 z4:=Tryz.sizeOf4
 v4:=Tryz.zeroValue4
 t22:=Tryz.underlying27
 a22:=Tryz.isAgg27
 z22:=Tryz.sizeOf27
 v22:=Tryz.zeroValue27
 i3:=by kernel_rfl
open Go Go.AI
set_option maxRecDepth 10000
theorem mU (l:List Int):ek (kk l)=l.map fun h=>[AV.int .i64 h]:=by simp [ek,kk]
theorem oi (l:List Int):∀ x∈kk l,x.length=1:=fun x hx=>by
 obtain ⟨y,_,rfl⟩:=bp.1 hx; rfl
theorem nE (l:List Int) (hl:l.length<=1000000):wM Tryz.prog 55 l (sortI l):=DZ wP (AO Tryz.func55 aI rfl) l ar
theorem lz (l:List Int) (hl:l.length<=1000000):lZ Tryz.prog 56 1 (kk l) [] (fun r _=>r = .sl .no 1 (ek (kk (Lib.compact l)))):=yk CJ (AO Tryz.func56 aI rfl) l ar
theorem sM (sz:Nat) {o:Go.AI.Own}:aq Tryz.prog 55 [.sl o sz []] (.tup []):=yt wP (AO Tryz.func55 aI rfl) sz
theorem oC (sz a:Nat) {o:Go.AI.Own}:aq Tryz.prog 56 [.sl o sz []] (.sl .no a []):=vH CJ (AO Tryz.func56 aI rfl) sz a
open Go Go.AI
set_option maxRecDepth 10000
open Go.Shelf
def Jc:Go.Shelf.Ren:=⟨fun | 27=>371 | 28=>382 | 29=>383 | n=>n,fun | 25=>206 | 3=>3 | 27=>272 | 22=>274 | 4=>4 | 53=>423 | 0=>0 | 5=>5 | 54=>424 | n=>n,fun n=>n⟩
theorem Ui:Lays7.n27 Tryz.prog Jc where
 mixed:=bh
 f27:=Tryz.func371.trans (ax some aI)
 f28:=Tryz.func382.trans (ax some aI)
 f29:=Tryz.func383.trans (ax some aI)
 t0:=Tryz.underlying0
 a0:=Tryz.isAgg0
 z0:=Tryz.sizeOf0
 v0:=Tryz.zeroValue0
 i0:=by kernel_rfl
 t3:=Tryz.underlying3
 a3:=Tryz.isAgg3
 z3:=Tryz.sizeOf3
 v3:=Tryz.zeroValue3
 i3:=by kernel_rfl
 t4:=Tryz.underlying4
 a4:=Tryz.isAgg4
 z4:=Tryz.sizeOf4
 v4:=Tryz.zeroValue4
 i4:=by kernel_rfl
 t5:=Tryz.underlying5
 a5:=Tryz.isAgg5
 z5:=Tryz.sizeOf5
 v5:=Tryz.zeroValue5
 i5:=by kernel_rfl
 t22:=Tryz.underlying274
 a22:=Tryz.isAgg274
 z22:=Tryz.sizeOf274
 v22:=Tryz.zeroValue274
 i22:=by kernel_rfl
 t25:=Tryz.underlying206
 a25:=Tryz.isAgg206
 z25:=Tryz.sizeOf206
 v25:=Tryz.zeroValue206
 i25:=by kernel_rfl
 t27:=Tryz.underlying272
 a27:=Tryz.isAgg272
 z27:=Tryz.sizeOf272
 v27:=Tryz.zeroValue272
 i27:=by kernel_rfl
 t53:=Tryz.underlying423
 a53:=Tryz.isAgg423
 z53:=Tryz.sizeOf423
 v53:=Tryz.zeroValue423
 i53:=by kernel_rfl
 t54:=Tryz.underlying424
 a54:=Tryz.isAgg424
 z54:=Tryz.sizeOf424
 g0:=by kernel_rfl
 g1:=by kernel_rfl
theorem Rx (j:Nat) (hj:j<64):gf Tryz.prog 1 j=some (.int .u8 (Lib.deBruijn64tab.getD j 0)):=by
 have h:∀ o,gf Tryz.prog 1 o=(Lib.deBruijn64tab[o]?).map fun n => .int .u8 n:=fun o=>by
  have h1:(Tryz.prog.globals[1]?).map (fun g=>g.name == "math/bits.deBruijn64tab")=some true:=by kernel_rfl
  unfold gf;grind
 have hl:Lib.deBruijn64tab.length=64:=rfl;grind
theorem Xk (n:Nat) (h:n<18446744073709551616):aq Tryz.prog 371 [.int .u64 n] (.int .i64 (Lib.ctz 64 n)):=by
 refine ⟨AO Tryz.func371 aI rfl,fun m w vs a c hl b=>?_⟩
 obtain ⟨v,rfl⟩:∃ v,vs=[v]:=by
  match vs,hl with
  | [v],_=>exact ⟨v,rfl⟩
 have hv:v = .int .u64 n:=by
  have:=b 0 _ v rfl rfl;cases this; rfl
 subst hv;refine (Any7.bits_TrailingZeros Ui n h w fun _ j hj=>(c.sub a).cell _ _ _ (Rx j hj)).mono ?_;rintro e w' ⟨rfl,rfl⟩;exact ⟨_,m,rfl,.int _ _,.refl m,a,.refl _ _,⟨fun _ _ _ h => .inl h,fun _ _ h => .inl h⟩,.refl _⟩
open Go Go.AI
set_option maxRecDepth 10000
def NI:List (List AV):=List.replicate 24 [.int .i64 0]
theorem Lk {q:Prop} (h:q:=by
 refine lP.ofB af V0 rfl aI bh (ah rfl) ?_;intro F n' w0 m0 hG hro h1;refine aJ.seq ?_;refine aJ.reg hG af V1 aI ?_
 conv=>whnf
 refine aJ.seq ?_;refine Vo hG af V1 [5000000001,7000000001] aI ?_
 conv=>whnf
 refine aa (aH (Eq.refl true)) (aa (aH (Eq.refl true)) (aa (ah rfl) (aa (aH (Eq.refl true)) ?_)));intro b cap
 conv=>whnf
 refine gq (g := .row b cap) 1 5000000 rfl rfl ?_;refine aJ.ret hG af ?_
 conv=>whnf
 exact gc.mk (ak rfl) (ae _ (ae _ (aa (ae b (ae cap (aa rfl rfl))) (aa (ak (ay rfl)) (aa aI aI)))))):q:=h
theorem xT:lP Tryz.prog 225 [5000000] [] [] [] (fun r L'=>∃ b cap,r = .agg [.lit (.slice (some ⟨b,0,none⟩) 24 cap)]/\L'=[(5000000,.me (.row b cap) 5000000 1 NI)]):=by
 have V0:=Tryz.func225; let V1:=Fz; exact Lk
theorem nI:lP Tryz.prog 33 [5000000] [] [] [] (fun r L'=>∃ b cap,r = .agg [.lit (.slice (some ⟨b,0,none⟩) 24 cap)]/\L'=[(5000000,.me (.row b cap) 5000000 1 NI)]):=by
 have V0:=Tryz.func33; let V1:=Ko; exact Lk
theorem KG (l:List Int) (p:Int->Bool) (g:FuncId) (fv:AV) (cap:List AV) (hf:fv = .clo g cap\/(fv = .fn g/\cap=[])) (hl:l.length<=1000000)
  (hp:∀ x∈l,aq Tryz.prog g (.int .i64 x::cap) (.bool (p x))):aq Tryz.prog 181 [bu l,fv] (.int .i64 (lR p l 0)):=by
 let E:=fun (h:Int)=>[AV.int .i64 h]; let D:=(0:Int); let K:=vm; let N:=1; have f:=Tryz.func181; exact Vy
theorem rz (l:List Int) (p:Int->Bool) (g:FuncId) (fv:AV) (cap:List AV) (hf:fv = .clo g cap\/(fv = .fn g/\cap=[])) (hl:l.length<=1000000)
  (hp:∀ x∈l,aq Tryz.prog g (.int .i64 x::cap) (.bool (p x))):aq Tryz.prog 109 [bu l,fv] (.bool (l.any p)):=by
 have I:=KG l p g fv cap hf hl hp; let K:=GW; have f:=Tryz.func109; exact X3
def y4 (r:Int):Bool:=cQ r 0 281474976710655
def oq (rows:List Int):Bool:=decide (rows.length=24) && !(rows.any fun r => !y4 r)
theorem JF (r:Int):aq Tryz.prog 347 [.int .i64 r] (.bool (!y4 r)):=by
 refine aM Et Tryz.func347 ?_;intro F b w0 m0 hG a h1 kp
 repeat' first|refine aS ?_|((conv=>whnf); first|refine ae _ (aa (KL _ _ _) ?_)|constructor <;> intro h|refine ak ?_)
 all_goals exact Ez
theorem rv (rows:List Int) (hl:rows.length<=1000000):aq Tryz.prog 306 [.agg [bu rows]] (.bool (oq rows)):=by
 have a:(((rows.map fun h=>[AV.int .i64 h]).length:Int)==24)=decide (rows.length=24):=by rw [az,fE]; simp; omega
 refine aM EI Tryz.func306 ?_;intro F c w0 m0 hG b h1 kp
 repeat' first|refine aS ?_|((conv=>whnf); first|refine ae _ (aa (rz rows (fun r => !y4 r) 347 _ [] (bA ⟨rfl,rfl⟩) hl (fun r _=>JF r)) ?_)|constructor <;> intro h|refine ak ?_)
 all_goals refine Eb ?_
 all_goals (unfold oq; rw [<- a]; clear a; simp only [*,bG,bJ])
open Go Go.AI
set_option maxRecDepth 10000
theorem BU {α:Type} (v:α):∀ (p r:List α),dD (p++r) p.length v=p++dD r 0 v
 | [],_=>rfl
 | x::p,r=>by rw [gT,bt,dD,BU v p r]; rfl
theorem vY {α β:Type} (g:α->β) (v:α):∀ (l:List α) (i:Nat),dD (l.map g) i (g v)=(dD l i v).map g
 | [],_=>rfl
 | _::_,0=>rfl
 | x::l,i+1=>by simp only [cp,dD]; rw [vY g v l i]
theorem K6 (x y:Int):aq Tryz.prog 400 [.int .i64 x,.int .i64 y] (.int .i64 (pw .andNot .i64 x y)):=dK Eh Tryz.func400
open Go Go.AI
set_option maxRecDepth 10000
def ri:Nat->Nat->List Nat
 | 0,_=>[]
 | f+1,n=>if n=0 then [] else Lib.ctz 64 n::ri f (n &&& (n - 1))
theorem rk {n:Nat} (h:n≠0):n &&& (n - 1)<n:=Nat.lt_of_le_of_lt Nat.and_le_right ar
theorem z6:∀ (f n g:Nat),n<=f->n<=g->ri f n=ri g n
 | 0,n,g,h,_=>by
  have:n=0:=by omega
  subst this;cases g <;> simp [ri]
 | f+1,n,0,_,h=>by
  have:n=0:=by omega
  subst this;simp [ri]
 | f+1,n,g+1,h1,h2=>by
  simp only [ri];by_cases h:n=0
  ·rw [aX h,aX h]
  ·rw [aV h,aV h];have:=rk h;rw [z6 f _ g ar ar]
def nB (n:Nat):List Nat:=ri n n
theorem IX {n:Nat} (h:n≠0):nB n=Lib.ctz 64 n::nB (n &&& (n - 1)):=by
 obtain ⟨m,rfl⟩:∃ m,n=m+1:=⟨n - 1,by omega⟩;have:=rk h;show ri (m+1) (m+1)=_;rw [ri,aV h,z6 m _ ((m+1) &&& (m+1 - 1)) ar (ba _)];rfl
theorem Xa:nB 0=[]:=rfl
def A6 (i:Nat) (r:Int):List (Int×Int):=(nB r.toNat).map fun (x:Nat)=>((x:Int),(i:Int))
def PZ:Nat->List Int->List (Int×Int)
 | _,[]=>[]
 | k,r::l=>A6 k r++PZ (k+1) l
def iE (rows:List Int):List (Int×Int):=PZ 0 rows
theorem Dw:∀ (l m:List Int) (k:Nat),PZ k (l++m)=PZ k l++PZ (k+l.length) m
 | [],m,k=>rfl
 | r::l,m,k=>by rw [gT,PZ,PZ,Dw l m,n4,bt]; congr 3; omega
theorem xB {l:List Int} {i:Nat} (hi:i<l.length):iE (l.take (i+1))=iE (l.take i)++A6 i (l.getD i 0):=by
 rw [ef,ai hi,iE,Dw,dA,rD ar,bI,aK,ai hi];simp [iE,PZ]
theorem MC {l:List Int} {i j:Nat} {c:Int×Int} (hi:i<l.length) (hj:(A6 i (l.getD i 0))[j]?=some c):(iE l)[(iE (l.take i)).length+j]?=some c:=by
 have h:=xB hi
 have e:iE l=iE (l.take (i+1))++PZ (i+1) (l.drop (i+1)):=by
  have:=Dw (l.take (i+1)) (l.drop (i+1)) 0;rw [BE,dA,rD ar,bI] at this;exact this
 have a:=(am.1 hj).1;rw [e,h,n4,cF ar,Nat.add_sub_cancel_left,dp a];exact hj
theorem MJ {a b:Nat} (d:a<9223372036854775808) (c:b<9223372036854775808):pw .and .i64 (a:Int) (b:Int)=((a &&& b:Nat):Int):=by
 have h:a &&& b<9223372036854775808:=Nat.lt_of_le_of_lt Nat.and_le_right c;have h1:(BitVec.ofInt 64 (a:Int)).toNat=a:=by rw [qq,tC]; exact lM ar
 have h2:(BitVec.ofInt 64 (b:Int)).toNat=b:=by rw [qq,tC]; exact lM ar
 show IntKind.i64.wrap (((BitVec.ofInt 64 (a:Int)) &&& (BitVec.ofInt 64 (b:Int))).toNat:Int)=_;rw [BitVec.toNat_and,h1,h2];exact aZ ar ar
set_option maxHeartbeats 4000000 in
theorem BB (l:List Int) (hl:l.length<=1000000) (L:∀ r∈l,0<=r/\r<=281474976710655):iA Tryz.prog (fun c=>[.agg (eM c)]) 370 [.ref [bu l]] (iE l):=by
 refine iA.of Tryz.func370 rfl aI bh (ah rfl) rfl ?_;intro F n m y J Jx hY
 repeat' first|refine QM rfl hY af (.mk:KP ic) ?_|((conv=>whnf); first|refine cX ?_|refine cW ?_|refine fc ?_|refine aa (fun h=>?_) (fun h=>?_)|refine ak ?_)
 refine io.loop (X:=Nat) (fun i=>((false,(iE (l.take i)).length),⟨[(9,.int .i64 i),(8,.int .i64 (l.map fun h=>[AV.int .i64 h]).length),(7,bu l),(0,.lit (.func (.yield y) #[] #[]))],[]⟩)) (fun i=>i<=l.length) (fun i=>l.length - i) 0 (aU _) rfl (LE) (fun i hi=>?_)
 ·by_cases a:i<l.length
  ·have d:=dF (show (i:Int)<((l.map fun h=>[AV.int .i64 h]).length:Int) by simp; omega);have hx:(l.map fun h=>[AV.int .i64 h])[(i:Int).toNat]?=some [AV.int .i64 (l.getD i 0)]:=by simp [ai a]
   have b:=fun (j:Nat) (c:Int×Int) (hj:(A6 i (l.getD i 0))[j]?=some c)=>MC a hj;have f:(iE (l.take (i+1))).length=(iE (l.take i)).length+(A6 i (l.getD i 0)).length:=by rw [xB a]; simp
   obtain ⟨r,w,A⟩:∃ r:Nat,l.getD i 0=(r:Int)/\r<=281474976710655:=by
    have:=L (l.getD i 0) (by rw [aK,ai a]; exact bT a);exact ⟨(l.getD i 0).toNat,by omega,by omega⟩
   rw [w] at hx b f
   repeat' first|exact (d bf).elim|refine QM rfl hY af (.mk:KP ic) ?_|((conv=>whnf); first|refine cX ?_|refine cW ?_|refine fc ?_|refine aa (au i) (ae _ (aa hx ?_))|refine aa (fun h=>?_) (fun h=>?_)|refine ak ?_)
   refine io.loop (X:=Nat×Nat) (fun x=>((false,(iE (l.take i)).length+x.1),⟨[(4,.int .i64 x.2),(3,.int .i64 i),(9,.int .i64 i),(8,.int .i64 (l.map fun h=>[AV.int .i64 h]).length),(7,bu l),(0,.lit (.func (.yield y) #[] #[]))],[]⟩))
    (fun x=>x.2<=281474976710655/\(nB r).drop x.1=nB x.2/\x.1+(nB x.2).length=(nB r).length) (fun x=>x.2) (0,r) ⟨A,rfl,by simp⟩ rfl (St.le.of ?_ ?_) (fun x v=>?_)
   ·exact RF
   ·exact RF
   ·obtain ⟨j,q⟩:=x;obtain ⟨H,u,p⟩:=v;simp only at H u p;by_cases o:q=0
    ·have e:((q:Int)!=0)=true->False:=fun h=>by subst o; simp at h
     subst o;rw [Xa] at p
     repeat' first|exact (e bf).elim|refine QM rfl hY af (.mk:KP ic) ?_|((conv=>whnf); first|refine cX ?_|refine cW ?_|refine fc ?_|refine aa (fun h=>?_) (fun h=>?_)|refine ak ?_)
     refine ae (i+1) (aa a (aa ar (aa (ax (Prod.mk false) (by rw [f]; simp [A6]; simpa using p.symm)) (LE))))
    ·have e:((q:Int)!=0)=false->False:=fun h=>by simp at h; omega
     have B:=Xk q ar;have hz:IntKind.u64.wrap (q:Int)=(q:Int):=by rw [IntKind.wrap_u64]; omega
     rw [<- hz] at B;rw [IX o] at u p
     have G:=b j ((Lib.ctz 64 q:Int),(i:Int)) (by
      have E:(nB r)[j]?=some (Lib.ctz 64 q):=by rw [<- AS,u]; rfl
      rw [A6,aQ,eK,E]; rfl)
     repeat' first|exact (e bf).elim|refine QM rfl hY af (.mk:KP ic) ?_|((conv=>whnf); first|refine cX ?_|refine cW ?_|refine fc ?_|refine ae _ (aa (B) ?_)|refine aa (fun h=>?_) (fun h=>?_)|refine ak ?_)
     refine ae ((Lib.ctz 64 q:Int),(i:Int)) (aa G (aa rfl (fun t D=>?_)));subst D;refine aa ?_ ?_
     ·repeat' first|refine QM rfl hY af (.mk:KP ic) ?_|((conv=>whnf); first|refine cX ?_|refine cW ?_|refine fc ?_|refine aa (fun h=>?_) (fun h=>?_)|refine ak ?_)
      refine ae (j+1,q &&& (q - 1)) (aa ⟨?_,?_,?_⟩ (aa (rk o) (aa rfl (St.le.of ?_ ?_))))
      ·have:=rk o; show q &&& (q - 1)<=_; omega
      ·show (nB r).drop (j+1)=_;rw [<- Zb,u]; rfl
      ·simp only [bt] at p; show (j+1)+(nB (q &&& (q - 1))).length=(nB r).length; omega
      ·refine aa (ax (fun z=>some (AV.int .i64 z)) ?_) ?_
       ·show pw .and .i64 (q:Int) (IntKind.i64.wrap ((q:Int) - 1))=((q &&& (q - 1):Nat):Int);rw [show IntKind.i64.wrap ((q:Int) - 1)=((q - 1:Nat):Int) from (aZ ar ar).trans ar];exact MJ ar ar
       ·exact RF
      ·exact RF
     ·repeat' first|refine QM rfl hY af (.mk:KP ic) ?_|((conv=>whnf); first|refine cX ?_|refine cW ?_|refine fc ?_|refine aa (fun h=>?_) (fun h=>?_)|refine ak ?_)
      exact iL.mk (ak rfl) (bA rfl)
  ·have d:=dT (show ¬((i:Int)<((l.map fun h=>[AV.int .i64 h]).length:Int)) by simp; omega);have he:l.take i=l:=bE ar
   repeat' first|exact (d bf).elim|refine QM rfl hY af (.mk:KP ic) ?_|((conv=>whnf); first|refine cX ?_|refine cW ?_|refine fc ?_|refine aa (fun h=>?_) (fun h=>?_)|refine ak ?_)
   exact iL.mk (bA rfl) (ak (ax (Prod.mk false) (by rw [he])))
open Go Go.AI
set_option maxRecDepth 10000
theorem Nw (l:List Int):aq Tryz.prog 348 [.agg [bu l]] (.clo 370 [.ref [bu l]]):=dK Es Tryz.func348
theorem SC {r:Int} (h:y4 r=true):0<=r/\r<=281474976710655:=by simpa [y4,cQ] using h
theorem I6 {l:List Int} (h:oq l=true):∀ r∈l,0<=r/\r<=281474976710655:=fun r a=>by
 simp only [oq,al,cI,eJ] at h;have:=h.2 r a;exact SC (by simpa using this)
theorem IY:∀ (f n:Nat),(ri f n).length<=n
 | 0,n=>aU _
 | f+1,n=>by
  rw [ri]; split
  ·exact aU _
  ·have:=IY f (n &&& (n - 1)); have:=rk ‹_›; simp only [bt]; omega
theorem OF:∀ (l:List Int) (k:Nat),(∀ r∈l,0<=r/\r<=281474976710655)->(PZ k l).length<=l.length*281474976710655
 | [],k,_=>ba _
 | r::l,k,h=>by
  have h1:=OF l (k+1) fun r a=>h r (a6 _ a);have h2:=h r (a7 ..);have b:=IY r.toNat r.toNat;simp only [PZ,A6,nB,bY,az,bt];omega
theorem Qp {l:List Int} (h:oq l=true):(iE l).length<=6755399441055720:=by
 have h1:=OF l 0 (I6 h);have h2:l.length=24:=by simp only [oq,al,aP] at h; exact h.1
 rw [h2] at h1; exact h1
def zW (l:List Int):Int:=if oq l=true then (iE l).length else 0
set_option maxHeartbeats 4000000 in
theorem Nv (l:List Int) (hl:l.length<=1000000):aq Tryz.prog 307 [.agg [bu l]] (.int .i64 (zW l)):=by
 refine aM va Tryz.func307 ?_;intro F j w0 m0 hG e h1 kp
 repeat' first|refine aS ?_|((conv=>whnf); first|refine ae _ (aa (rv l hl) ?_)|refine ae _ (aa (Nw l) ?_)|refine ⟨fun h=>?_,fun h=>?_⟩|refine ak ?_)
 ·have i:=Qp ‹_›
  refine ⟨oG hG (bC bq h1) (α:=Int×Int) (fun c=>[.agg (eM c)]) (f:=370) (cap:=[.ref [bu l]]) (items:=iE l) rfl (BB l hl (I6 ‹_›)) (fun _=>rfl)
   (fun _=>[(3,.loc 3 0)]) [3] (fun _=>rfl) (fun pre=>[(3,[.int .i64 pre.length])]) (St.le.of ?_ ?_) aI bq ?_ ?_⟩
  ·exact RF
  ·exact RF
  ·intro m b m' a _ _ pre x rest hx;clear hG;have hG:=a;have d:pre.length<(iE l).length:=by rw [hx]; simp
   refine aJ.out (aJ.skip hG af ?_)
   conv=>whnf
   refine aa rfl (aa (St.le.of ?_ ?_) ?_)
   ·exact RF
   ·exact RF
   refine aJ.out ?_
   repeat' first|refine QE [] rfl hG af (.mk:KP va) ?_|((conv=>whnf); first|refine cX ?_|refine cW ?_|refine fc ?_|refine aa (fun h=>?_) (fun h=>?_)|refine ak ?_)
   all_goals (refine St.le.of ?_ ?_)
   ·exact RF
   ·refine aa (ax (fun z=>some [AV.int .i64 z]) ((aZ ar ar).trans cU)) ?_;exact RF
  ·conv=>whnf
   repeat' first|refine aS ?_|((conv=>whnf); first|refine ⟨fun h=>?_,fun h=>?_⟩|refine ak ?_)
   exact Ends.mk (ak rfl) (ay (ax (AV.int .i64) (aX ‹_›).symm))
 ·exact Ends.mk (ak rfl) (ay (ax (AV.int .i64) (aV (Bool.eq_false_iff.1 ‹_›)).symm))
end Go.Proofs
