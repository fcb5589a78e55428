/- Part 7 of the proof: an abstract interpreter for the code, contracts of the functions, and plain facts; the conditions are those typed. -/
import Derived.Test.YtapmehbkgihgaaaGreatDoorNF
set_option linter.unusedSectionVars false
set_option linter.unusedVariables false
set_option linter.unusedSimpArgs false
namespace Go.AI
open Go
abbrev iC:=@List.findIdx?_eq_some_iff_getElem
abbrev ym:=@List.length_drop
abbrev Ld:=@Nat.sub_lt_sub_left
abbrev RY:=@Int.add_zero
end Go.AI
namespace Go.Proofs
open Go Go.AI
set_option maxRecDepth 10000
structure jV where
 kind:Int
 a:Int
 b:Int
 at':Int
 coef:List Int
 most:Int
deriving DecidableEq
def qr (r:jV):List AV:=[.int .i64 r.kind,.int .i64 r.a,.int .i64 r.b,.int .i64 r.at',bu r.coef,.int .i64 r.most]
def Ho (f:Nat->Int):List AV:=[.int .i64 (f 0),.int .i64 (f 1),.int .i64 (f 2),.int .i64 (f 3),.int .i64 (f 4),.int .i64 (f 5),.int .i64 (f 6),.int .i64 (f 7),.int .i64 (f 8),.int .i64 (f 9),.int .i64 (f 10),.int .i64 (f 11)]
abbrev Hb:=jV×(Nat->Int)
def ud (p:Hb):List AV:=qr p.1++Ho p.2
def HQ (l:List jV):AV := .sl .no 6 (l.map qr)
def Wg (l:List Hb):AV := .sl .no 18 (l.map ud)
theorem ZK {g:Nat} (h:g<12):g=0\/g=1\/g=2\/g=3\/g=4\/g=5\/g=6\/g=7\/g=8\/g=9\/g=10\/g=11:=by omega
theorem W9 (f:Nat->Int) {g:Nat} (h:g<12):(Ho f)[(g:Int).toNat]?=some (.int .i64 (f g)):=by
 rcases ZK h with rfl | rfl | rfl | rfl | rfl | rfl | rfl | rfl | rfl | rfl | rfl | rfl <;> rfl
theorem Yj (r:jV) (V:Nat->Int) (x:Int) {g:Nat} (h:g<12):dD (qr r++Ho V) (6+(g:Int).toNat*1) (.int .i64 x)=qr r++Ho (fun j=>if j=g then x else V j):=by
 rcases ZK h with rfl | rfl | rfl | rfl | rfl | rfl | rfl | rfl | rfl | rfl | rfl | rfl <;> rfl
def AY (f:Nat->Int) (n:Nat):Nat->Int:=fun j=>if j<n then f j else 0
theorem Sl (f:Nat->Int) (n:Nat):(fun j=>if j=n then f n else AY f n j)=AY f (n+1):=by
 funext j;unfold AY;by_cases h:j=n
 ·subst h; rw [aX rfl,aX (jy _)]
 ·rw [aV h];by_cases g:j<n
  ·rw [aX g,aX (Nat.lt_succ_of_lt g)]
  ·rw [aV g,aV ar]
set_option maxHeartbeats 8000000 in
theorem Um (b:Nat) (s:eo) (t:s.buns.length<=12) (r:jV) (g:FuncId) (cap:List AV) (f:Nat->Int) (hf:∀ j,j<s.buns.length->aq Tryz.prog g (.int .i64 j :: .agg (fH (s.buns.getD j h9))::cap) (.int .i64 (f j))):aq Tryz.prog 37 [cA b s,.agg (qr r),.clo g cap] (.agg (ud (r,AY f s.buns.length))):=by
 refine aM xM Tryz.func37 ?_;intro F q w0 m0 hG n h1 kp;refine bz ?_;refine aJ.loop (X:=Nat) (fun x=>⟨[(18,.int .i64 x),(17,.int .i64 (s.buns.map fH).length),(16,uO s.buns),(0,cA b s),(2,.clo g cap),(6,.loc 6 0),(7,.loc 7 0)],[(7,qr r++Ho (AY f x)),(6,[.int .i64 0,.int .i64 0,.int .i64 0,.int .i64 0,.sl (.id 1006004) 0 [],.int .i64 0,.int .i64 0,.int .i64 0,.int .i64 0,.int .i64 0,.int .i64 0,.int .i64 0,.int .i64 0,.int .i64 0,.int .i64 0,.int .i64 0,.int .i64 0,.int .i64 0])]⟩) (fun x=>x<=s.buns.length) (fun x=>s.buns.length - x) 0 (aU _) (LE) (fun x hx=>?_)
 ·rename Nat=>i
  have hi:=hx;by_cases a:i<s.buns.length
  ·have c:=dF (show (i:Int)<((s.buns.map fH).length:Int) by simp; omega);have hx:=cG fH h9 a;have p:=hf i a;have o:(0:Int)<=(i:Int):=au i;have e:(i:Int)<((12:Nat):Int):=by omega
   have d:=Yj r (AY f i) (f i) (show i<12 by omega);rw [Sl] at d;have l:6+(i:Int).toNat*1<(qr r++Ho (AY f i)).length:=by rw [eK,gO,bY]; show 6+i<6+12; omega
   generalize s.buns.getD i h9=u at *;generalize v:AY f i=V at *
   repeat' first|exact (c bf).elim|refine oE hG af xM [] aI ?_|refine aS ?_|((conv=>whnf); first|refine aa (au i) (ae _ (aa hx ?_))|refine ae _ (aa (p) ?_)|refine aa o (aa e ?_)|refine aa l ?_|refine ⟨fun h=>?_,fun h=>?_⟩|refine ak ?_)
   refine ae (i+1) (aa a (aa ar (St.le.of ?_ ?_)))
   ·refine aa (ax some (bL ar)) ?_;exact RF
   ·refine aa (ax some d) ?_;exact RF
  ·have c:=dT (show ¬((i:Int)<((s.buns.map fH).length:Int)) by simp; omega);have m:i=s.buns.length:=by omega
   subst m;refine bz ?_
   all_goals exact Ez
theorem ke (b:Nat) (s:eo) (e:s.buns.length<=12) (o:Go.AI.Own) (z:Nat) (k1 a c d m:Int) (g:FuncId) (cap:List AV) (f:Nat->Int) (hf:∀ j,j<s.buns.length->aq Tryz.prog g (.int .i64 j :: .agg (fH (s.buns.getD j h9))::cap) (.int .i64 (f j))):aq Tryz.prog 37 [cA b s,.agg [.int .i64 k1,.int .i64 a,.int .i64 c,.int .i64 d,.sl o z [],.int .i64 m],.clo g cap] (.agg (ud (⟨k1,a,c,d,[],m⟩,AY f s.buns.length))):=
 (Um b s e ⟨k1,a,c,d,[],m⟩ g cap f hf).weak (us:=[cA b s,.agg [.int .i64 k1,.int .i64 a,.int .i64 c,.int .i64 d,.sl o z [],.int .i64 m],.clo g cap]) (.cons (.refl _) (.cons (AV.weak.agg (.cons (.refl _) (.cons (.refl _) (.cons (.refl _) (.cons (.refl _) (.cons bK (.cons (.refl _) .nil)))))) (by simp [qr,bu,AV.isCell])) (.cons (.refl _) .nil)))
open Go Go.AI
set_option maxRecDepth 10000
def ug (f:Nat->Int):Nat->Int
 | 0=>0
 | n+1=>ug f n+max 0 (f n)
def wS (f:Nat->Int):Prop:=∀ j,f j<=1000000000000
theorem H1 {f:Nat->Int} (h:wS f):∀ n,0<=ug f n/\ug f n<=n*1000000000000
 | 0=>⟨qn _,qn _⟩
 | n+1=>by
  obtain ⟨h1,h2⟩:=H1 h n;have b:=h n;have a:((n+1:Nat):Int)=(n:Int)+1:=by omega
  simp only [ug];rw [a,Int.add_mul];omega
theorem O3 (r:jV) (f:Nat->Int) {n:Nat} (h:n<=12):(((qr r++Ho f).drop 6).take n)=((List.range n).map f).map (fun x=>AV.int .i64 x):=by
 have e:(qr r++Ho f).drop 6=Ho f:=rfl;rw [e];have h2:n=0\/n=1\/n=2\/n=3\/n=4\/n=5\/n=6\/n=7\/n=8\/n=9\/n=10\/n=11\/n=12:=by omega
 rcases h2 with rfl | rfl | rfl | rfl | rfl | rfl | rfl | rfl | rfl | rfl | rfl | rfl | rfl <;> rfl
set_option maxHeartbeats 4000000 in
theorem Bz (b:Nat) (r:jV) (f:Nat->Int) (n:Nat) (j:1<=n) (a:n<=12):bX Tryz.prog 77 [5007000] [] [.lit (.slice (some ⟨b,6,none⟩) n 12)] [(5007000,.me .box 5007000 b [qr r++Ho f])] (bu ((List.range n).map f)) [(5007000,.me .box 5007000 b [qr r++Ho f])]:=by
 have m:6+n<=(qr r++Ho f).length:=by rw [bY]; show 6+n<=6+12; omega
 have l:(((qr r++Ho f).drop 6).take n).all Do=true:=by
  rw [O3 r f a]; simp [aN,Do]
 have c:0<n:=by omega
 have o:n*8<=70368744177664:=by omega
 have i:n<=4611686018427387904:=by omega
 have d:(((qr r++Ho f).drop 6).take n).map (fun y=>[y])=((List.range n).map f).map fun h=>[AV.int .i64 h]:=by rw [O3 r f a,List.map_map]; rfl
 refine lP.ofB af Tryz.func77 rfl aI bh (ah rfl) ?_;intro F p w0 m0 hG e h1
 repeat' first|refine aJ.seq ?_|refine aJ.block ?_|refine dh hG af fN [] aI ?_|refine K9 hG af fN [] aI ?_|refine aJ.skip hG af ?_|refine aJ.label hG af ?_|refine aJ.exit hG af ?_|refine ck rfl ?_|refine cm rfl ?_|refine aJ.cond rfl (aa (fun h=>?_) (fun h=>?_))|((conv=>whnf); first|refine cX ?_|refine cW ?_|refine fc ?_|refine ae 5007000 (aa rfl (aa m (aa l (aa c (aa o (aa i ?_))))))|refine aa (fun h=>?_) (fun h=>?_)|refine ak ?_)
 refine aJ.frz [.tmp 2] ?_
 conv=>whnf
 refine aJ.ret hG af ?_;exact gc.mk (ak rfl) (ae _ (ae [(5007000,.me .box 5007000 b [qr r++Ho f])] (aa (aa rfl rfl) (aa (ak (ay (ax (fun z=>AV.sl .no 1 z) d))) (aa aI aI)))))
def LR (b:Nat) (R:List jV):List (Nat×AV):=[(5000011,.me .box 5000011 b [[.sl .full 0 [],.sl (.id 5005000) 6 (R.map qr)]])]
def mM (c:Nat) (p:Hb):List jV:=if ug p.2 12>p.1.most then [⟨p.1.kind,p.1.a,p.1.b,p.1.at',(List.range c).map p.2,p.1.most⟩] else []
theorem LQ (a:Nat) (p:Hb):(mM a p).length<=1:=by unfold mM; split <;> simp
set_option maxHeartbeats 16000000 in
theorem Jt (b:Nat) (s:eo) (G:1<=s.buns.length) (U:s.buns.length<=12) (R:List jV) (Z:R.length<=1000000000) (r:jV) (f:Nat->Int) (hf:wS f):bX Tryz.prog 36 [5000011] [5005000] [cA b s,.agg (ud (r,f))] (LR b R) (.tup []) (LR b (R++mM s.buns.length (r,f))):=by
 have B:((R.map qr).length+1)*64<=70368744177664:=by rw [az]; omega
 have u:(R.map qr).length+1<=4611686018427387904:=by rw [az]; omega
 have e:(R++[(⟨r.kind,r.a,r.b,r.at',(List.range s.buns.length).map f,r.most⟩:jV)]).map qr=R.map qr++[[AV.int .i64 r.kind,AV.int .i64 r.a,AV.int .i64 r.b,AV.int .i64 r.at',bu ((List.range s.buns.length).map f),AV.int .i64 r.most]]:=by simp [qr]
 have p:ug f 12>r.most->mM s.buns.length (r,f)=[⟨r.kind,r.a,r.b,r.at',(List.range s.buns.length).map f,r.most⟩]:=fun h=>aX h;have l:¬ ug f 12>r.most->mM s.buns.length (r,f)=[]:=fun h=>aV h;refine lP.ofB af Tryz.func36 rfl aI bh (ah rfl) ?_;intro F N w0 m0 hG H h1;refine aJ.seq ?_
 repeat' first|refine QF [] rfl hG af (.mk:KP gn) ?_|((conv=>whnf); first|refine cX ?_|refine cW ?_|refine fc ?_|refine aa (fun h=>?_) (fun h=>?_)|refine ak ?_)
 refine aJ.pin 3 5007000 rfl rfl rfl (fun v=>?_)
 conv=>whnf
 refine aJ.seq ?_
 repeat' first|refine QF [] rfl hG af (.mk:KP gn) ?_|((conv=>whnf); first|refine cX ?_|refine cW ?_|refine fc ?_|refine aa (fun h=>?_) (fun h=>?_)|refine ak ?_)
 repeat' first|refine aJ.seq ?_|refine aJ.block ?_|refine dh hG af gn [] aI ?_|refine oE hG af gn [] aI ?_|refine aJ.skip hG af ?_|refine aJ.label hG af ?_|refine aJ.ret hG af ?_|refine aJ.exit hG af ?_|refine ck rfl ?_|refine cm rfl ?_|refine aJ.cond rfl (aa (fun h=>?_) (fun h=>?_))|((conv=>whnf); first|refine cX ?_|refine cW ?_|refine fc ?_|refine aa (fun h=>?_) (fun h=>?_)|refine ak ?_)
 refine aJ.loop (X:=Nat) (fun x=>⟨[(9,.int .i64 x),(8,.agg (Ho f)),(4,.int .i64 (ug f x)),(3,.pin 5007000 v 0 []),(0,cA b s),(xk 5007000,.me .box 5007000 v [qr r++Ho f]),(xk 5000011,.me .box 5000011 b [[.sl .full 0 [],.sl (.id 5005000) 6 ((R).map qr)]])],[]⟩) (fun x=>x<=12) (fun x=>12 - x) 0 (aU _) (LE) (fun x hx=>?_)
 ·rename Nat=>i
  have hi:=hx;by_cases c:i<12
  ·have d:=dF (show (i:Int)<12 by grind);have L:(0:Int)<=(i:Int):=au i;have t:(i:Int)<((12:Nat):Int):=by omega
   have A:=W9 f c
   have m:IntKind.i64.wrap (ug f i+max 0 (f i))=ug f (i+1):=by
    obtain ⟨s1,s2⟩:=H1 hf (i+1);have w:ug f (i+1)=ug f i+max 0 (f i):=rfl;rw [w] at s1 s2 ⊢;exact aZ ar ar
   generalize M:f i=fi at *;generalize ug f i=P at *;generalize J:Ho f=Q at *
   repeat' first|exact (d bf).elim|refine aJ.seq ?_|refine aJ.block ?_|refine dh hG af gn [] aI ?_|refine oE hG af gn [] aI ?_|refine aJ.skip hG af ?_|refine aJ.label hG af ?_|refine aJ.ret hG af ?_|refine aJ.exit hG af ?_|refine ck rfl ?_|refine cm rfl ?_|refine aJ.cond rfl (aa (fun h=>?_) (fun h=>?_))|((conv=>whnf); first|refine cX ?_|refine cW ?_|refine fc ?_|refine aa L (aa t (ae _ (aa A ?_)))|refine aa (fun h=>?_) (fun h=>?_)|refine ak ?_)
   refine ae (i+1) (aa c (aa ar (St.le.of ?_ ?_)))
   ·refine aa (ax some (bL ar)) (aa rfl (aa (ax (fun z=>some (AV.int .i64 z)) m) ?_));exact RF
   ·exact RF
  ·have d:=dT (show ¬((i:Int)<12) by grind);have n:i=12:=by omega
   subst n;have q:(s.buns.map fH).length=s.buns.length:=az _;rw [<- q] at e p;have D:(0:Int)<=((s.buns.map fH).length:Int):=au _;have o:((s.buns.map fH).length:Int)<=((12:Nat):Int):=by omega
   have c1:=Bz v r f (s.buns.map fH).length ar ar;rw [show mM s.buns.length (r,f)=mM (s.buns.map fH).length (r,f) by rw [q]] at l ⊢;generalize ug f 12=y at *
   cases E:decide (y>r.most) with
   | true=>
    have j:=dF (show y>r.most by grind);rw [show mM (s.buns.map fH).length (r,f)=[⟨r.kind,r.a,r.b,r.at',(List.range (s.buns.map fH).length).map f,r.most⟩] from p (aH E)]
    repeat' first|exact (d bf).elim|exact (j bf).elim|refine aJ.seq ?_|refine aJ.block ?_|refine dh hG af gn [] aI ?_|refine K9 hG af gn [30] aI ?_|refine aJ.skip hG af ?_|refine aJ.label hG af ?_|refine aJ.ret hG af ?_|refine aJ.exit hG af ?_|refine ck rfl ?_|refine cm rfl ?_|refine aJ.cond rfl (aa (fun h=>?_) (fun h=>?_))|((conv=>whnf); first|refine cX ?_|refine cW ?_|refine fc ?_|refine aa (aa D o) ?_|refine xE c1 ?_|refine aa B (aa u ?_)|refine aa (fun h=>?_) (fun h=>?_)|refine ak ?_)
    refine gc.mk (bA rfl) (ae (.tup []) (ae [(5000011,.me .box 5000011 b [[.sl .full 0 [],.sl (.id 5005000) 6 (R.map qr++[[AV.int .i64 r.kind,AV.int .i64 r.a,AV.int .i64 r.b,AV.int .i64 r.at',bu ((List.range (s.buns.map fH).length).map f),AV.int .i64 r.most]])]])] (aa (aa rfl (by unfold LR; rw [e])) (aa (ak (ay rfl)) (aa aI aI)))))
   | false=>
    have j:=dT (show ¬(y>r.most) by grind);rw [l (aW E)]
    repeat' first|exact (d bf).elim|exact (j bf).elim|refine QE [] rfl hG af (.mk:KP gn) ?_|((conv=>whnf); first|refine cX ?_|refine cW ?_|refine fc ?_|refine aa (fun h=>?_) (fun h=>?_)|refine ak ?_)
    refine gc.mk (bA rfl) (ae (.tup []) (ae [(5000011,.me .box 5000011 b [[.sl .full 0 [],.sl (.id 5005000) 6 (R.map qr)]])] (aa (aa rfl (by unfold LR; rw [bR])) (aa (ak (ay rfl)) (aa aI aI)))))
open Go Go.AI
set_option maxRecDepth 10000
theorem rQ (k' k:List Int) (v:AV):∀ l:List (List Int×AV),nj k' (jM k v l)=if k=k' then some v else nj k' l
 | []=>by simp [jM,nj]
 |(a,b)::r=>by
  have c:=rQ k' k v r;simp only [jM];by_cases h:a=k
  ·rw [aX h]; subst h;simp only [nj];by_cases g:a=k' <;> simp [g]
  ·rw [aV h];simp only [nj,c];by_cases g:a=k'
   ·subst g; rw [aX rfl,aV (fun e=>h e.symm),aX rfl]
   ·rw [aV g,aV g]
def yf (f:Nat->Int):List Int:=[f 0,f 1,f 2,f 3,f 4,f 5,f 6,f 7,f 8,f 9,f 10,f 11]
def qt:Hb:=(⟨0,0,0,0,[],0⟩,fun _=>0)
def mY (l:List Hb) (q:List Int):Nat->Option Nat
 | 0=>none
 | i+1=>if yf (l.getD i qt).2=q then (match mY l q i with
   | none=>some i
   | some j=>if (l.getD i qt).1.most<(l.getD j qt).1.most then some i else some j) else mY l q i
def kD (l:List Hb):Nat->List (List Int×AV)
 | 0=>[]
 | i+1=>match mY l (yf (l.getD i qt).2) i with
  | none=>jM (yf (l.getD i qt).2) (.int .i64 i) (kD l i)
  | some j=>if (l.getD i qt).1.most<(l.getD j qt).1.most then jM (yf (l.getD i qt).2) (.int .i64 i) (kD l i) else kD l i
theorem yP {n:Nat} {k:List Int} {v:AV} (d:k.length=n):∀ {l:List (List Int×AV)},(∀ p∈l,p.1.length=n)->∀ p∈jM k v l,p.1.length=n
 | [],_,p,c=>by
  simp only [jM,cv] at c;subst c; exact d
 |(a,b)::r,h,p,c=>by
  simp only [jM] at c;split at c
  ·rcases bF.1 c with rfl | c
   ·exact d
   ·exact h p (a6 _ c)
  ·rcases bF.1 c with rfl | c
   ·exact h _ a7
   ·exact yP d (fun q e=>h q (a6 _ e)) p c
theorem wK (l:List Hb):∀ i,∀ p∈kD l i,p.1.length=12
 | 0,p,a=>by cases a
 | i+1,p,a=>by
  have b:=wK l i;simp only [kD] at a;split at a
  ·exact yP rfl b p a
  ·split at a
   ·exact yP rfl b p a
   ·exact b p a
theorem wL (l:List Hb) (q:List Int):∀ i,nj q (kD l i)=(mY l q i).map fun j => .int .i64 j
 | 0=>rfl
 | i+1=>by
  have a:=wL l q i;simp only [kD,mY];by_cases h:yf (l.getD i qt).2=q
  ·rw [aX h,h]
   cases b:mY l q i with
   | none=>simp only [rQ,aX]; rfl
   | some j=>
    dsimp only;split
    ·simp only [rQ,aX]; rfl
    ·rw [a,b]
  ·rw [aV h,<- a];have hu:nj q (jM (yf (l.getD i qt).2) (.int .i64 i) (kD l i))=nj q (kD l i):=by rw [rQ,aV h]
   split
   ·exact hu
   ·split
    ·exact hu
    ·rfl
theorem z8 (l:List Hb) (q:List Int):∀ i j,mY l q i=some j->j<i
 | 0,j,h=>by cases h
 | i+1,j,h=>by
  simp only [mY] at h;split at h
  ·split at h
   ·cases h; omega
   ·rename_i a hj;have:=z8 l q i a hj;split at h <;> cases h <;> omega
  ·have:=z8 l q i j h; omega
theorem z7 (l:List Hb) (q:List Int):∀ n i,i<n->yf (l.getD i qt).2=q->(mY l q n).isSome=true
 | 0,i,h,_=>by omega
 | n+1,i,h,a=>by
  simp only [mY];by_cases e:i=n
  ·subst e;rw [aX a];split
   ·rfl
   ·split <;> rfl
  ·have b:=z7 l q n i ar a;split
   ·split
    ·rfl
    ·split <;> rfl
   ·exact b
def mT (a:Nat) (l:List Hb) (i:Nat):List jV:=if mY l (yf (l.getD i qt).2) l.length=some i then mM a (l.getD i qt) else []
def wo (a:Nat) (l:List Hb):List jV:=(List.range l.length).flatMap (mT a l)
theorem zt (a:Nat) (l:List Hb):∀ i,((List.range i).flatMap (mT a l)).length<=i
 | 0=>by simp
 | i+1=>by
  have b:=zt a l i
  have h1:(mT a l i).length<=1:=by
   unfold mT; split
   ·exact LQ a _
   ·simp
  rw [dJ,List.flatMap_append,bY];simp only [List.flatMap_cons,List.flatMap_nil,bR];omega
set_option maxHeartbeats 16000000 in
theorem pC (b:Nat) (s:eo) (E:1<=s.buns.length) (P:s.buns.length<=12) (R:List jV) (l:List Hb) (hR:R.length+l.length<=1000000000) (hf:∀ p∈l,wS p.2):bX Tryz.prog 42 [5000011] [5005000] [cA b s,Wg l] (LR b R) (.tup []) (LR b (R++wo s.buns.length l)):=by
 have Z:((l.map ud).length:Int)=l.length:=by rw [az]
 refine lP.ofB af Tryz.func42 rfl aI bh (ah rfl) ?_;intro F n' w0 m0 hG Q h1;have kp:KP Kl := .mk
 repeat' first|refine aS ?_|((conv=>whnf); first|refine fun m=>?_|refine ⟨fun h=>?_,fun h=>?_⟩|refine ak ?_)
 refine aJ.loop (X:=Nat) (fun x=>⟨[(14,.int .i64 x),(13,.int .i64 (l.map ud).length),(12,Wg l),(4,.lit (.map (some m))),(xk 11,.me .ents 11 m (f8 true (kD l x))),(1,Wg l),(0,cA b s),(xk 5000011,.me .box 5000011 b [[.sl .full 0 [],.sl (.id 5005000) 6 ((R).map qr)]])],[]⟩) (fun x=>x<=l.length) (fun x=>l.length - x) 0 (aU _) (LE) (fun x hx=>?_)
 ·rename Nat=>i
  have hi:=hx;by_cases a:i<l.length
  ·have w:=dF (show (i:Int)<((l.map ud).length:Int) by omega);have hx:(l.map ud)[(i:Int).toNat]?=some (ud (l.getD i qt)):=cG ud qt a;have t:=wL l (yf (l.getD i qt).2) i;have d:=wK l i;have H:=z8 l (yf (l.getD i qt).2) i
   have c:kD l (i+1)=(match mY l (yf (l.getD i qt).2) i with
     | none=>jM (yf (l.getD i qt).2) (.int .i64 i) (kD l i)
     | some j=>if (l.getD i qt).1.most<(l.getD j qt).1.most then jM (yf (l.getD i qt).2) (.int .i64 i) (kD l i) else kD l i):=rfl
   have G:∀ j,j<i->(l.map ud)[(j:Int).toNat]?=some (ud (l.getD j qt)):=fun j hj=>cG ud qt (show j<l.length by omega);generalize mY l (yf (l.getD i qt).2) i=bi at *;generalize kD l i=n at *;generalize l.getD i qt=J at *;obtain ⟨r,f⟩:=J;dsimp only at t c
   cases bi with
   | none=>
    simp only [AP] at t;have c:kD l (i+1)=jM (yf f) (.int .i64 i) n:=c
    repeat' first|exact (w bf).elim|refine aS ?_|((conv=>whnf); first|refine aa (au i) (ae _ (aa hx ?_))|refine ae 11 (ae n (ae (yf f) (ae _ (aa (aa rfl (aa rfl (aa rfl (aa d t)))) ?_))))|refine ae 11 (ae n (ae (yf f) (aa (aa rfl (aa rfl (aa rfl d))) ?_)))|refine ⟨fun h=>?_,fun h=>?_⟩|refine ak ?_)
    all_goals (refine ae (i+1) (aa a (aa ar (St.le.of ?_ ?_))))
    all_goals first
     |(refine aa (ax some (bL ar)) ?_
       repeat' (first | exact trivial | refine aa rfl ?_ | refine aa (ax (fun (z:List (List Int×AV))=>some (AV.me .ents 11 m (f8 true z))) c.symm) ?_ | fail))
     |(repeat' (first | exact trivial | refine aa rfl ?_))
   | some j=>
    simp only [bH] at t;have o:=H j rfl;have hy:=G j o;have c:kD l (i+1)=if r.most<(l.getD j qt).1.most then jM (yf f) (.int .i64 i) n else n:=c
    generalize l.getD j qt=U at *;obtain ⟨N,f'⟩:=U;dsimp only at c
    repeat' first|exact (w bf).elim|refine aS ?_|((conv=>whnf); first|refine aa (au i) (ae _ (aa hx ?_))|refine aa (au j) (ae _ (aa hy ?_))|refine ae 11 (ae n (ae (yf f) (ae _ (aa (aa rfl (aa rfl (aa rfl (aa d t)))) ?_))))|refine ae 11 (ae n (ae (yf f) (aa (aa rfl (aa rfl (aa rfl d))) ?_)))|refine ⟨fun h=>?_,fun h=>?_⟩|refine ak ?_)
    all_goals (refine ae (i+1) (aa a (aa ar (St.le.of ?_ ?_))))
    all_goals first
     |(rw [aX (aH (by assumption:decide (r.most<N.most)=true))] at c
       refine aa (ax some (bL ar)) ?_
       repeat' (first | exact trivial | refine aa rfl ?_ | refine aa (ax (fun (z:List (List Int×AV))=>some (AV.me .ents 11 m (f8 true z))) c.symm) ?_ | fail))
     |(rw [aV (aW (by assumption:decide (r.most<N.most)=false))] at c
       refine aa (ax some (bL ar)) ?_
       repeat' (first | exact trivial | refine aa rfl ?_ | refine aa (ax (fun (z:List (List Int×AV))=>some (AV.me .ents 11 m (f8 true z))) c.symm) ?_ | fail))
     |(repeat' (first | exact trivial | refine aa rfl ?_))
  ·have w:=dT (show ¬((i:Int)<((l.map ud).length:Int)) by omega);have A:i=l.length:=by omega
   subst A;refine bz ?_;refine aJ.loop (X:=Nat) (fun x=>⟨[(47,.int .i64 x),(46,.int .i64 (l.map ud).length),(45,Wg l),(4,.lit (.map (some m))),(xk 11,.me .ents 11 m (f8 true (kD l l.length))),(0,cA b s),(xk 5000011,.me .box 5000011 b [[.sl .full 0 [],.sl (.id 5005000) 6 ((R++(List.range x).flatMap (mT s.buns.length l)).map qr)]])],[]⟩) (fun x=>x<=l.length) (fun x=>l.length - x) 0 (aU _) (St.le.of ?_ ?_) (fun x hx=>?_)
   ·repeat' (first | exact trivial | refine aa rfl ?_ | refine aa (ax (fun (z:List jV)=>some (AV.me .box 5000011 b [[AV.sl .full 0 [],AV.sl (.id 5005000) 6 (z.map qr)]])) (bR _).symm) ?_ | fail)
   ·exact RF
   ·rename Nat=>i
    have hi:=hx;by_cases a:i<l.length
    ·have u:=dF (show (i:Int)<((l.map ud).length:Int) by omega);have hx:(l.map ud)[(i:Int).toNat]?=some (ud (l.getD i qt)):=cG ud qt a;have t:=wL l (yf (l.getD i qt).2) l.length;have d:=wK l l.length;have L:=z7 l _ l.length i a rfl;have v:=hf _ (c8 qt a);have c:(List.range (i+1)).flatMap (mT s.buns.length l)=(List.range i).flatMap (mT s.buns.length l)++mT s.buns.length l i:=by rw [dJ,List.flatMap_append]; simp
     have q:mT s.buns.length l i=if mY l (yf (l.getD i qt).2) l.length=some i then mM s.buns.length (l.getD i qt) else []:=rfl
     have D:(R++(List.range i).flatMap (mT s.buns.length l)).length<=1000000000:=by
      have:=zt s.buns.length l i;rw [bY]; omega
     generalize mY l (yf (l.getD i qt).2) l.length=bi at *;generalize kD l l.length=n at *;generalize l.getD i qt=J at *;obtain ⟨r,f⟩:=J;dsimp only at t q v;obtain ⟨M,y⟩:∃ M,R++(List.range i).flatMap (mT s.buns.length l)=M:=⟨_,rfl⟩;rw [y] at D ⊢;have c1:=Jt b s E P M D r f v
     cases bi with
     | none=>cases L
     | some j=>
      simp only [bH] at t
      cases hj:((j:Int)==(i:Int)) with
      | true=>
       have B:((j:Int)==(i:Int))=false->False:=fun h=>by rw [hj] at h; cases h
       have o:j=i:=by have:=eq_of_beq hj; omega
       rw [aX (by rw [o])] at q
       repeat' first|exact (u bf).elim|exact (B bf).elim|refine QE [60] rfl hG af kp ?_|((conv=>whnf); first|refine cX ?_|refine cW ?_|refine fc ?_|refine aa (au i) (ae _ (aa hx ?_))|refine ae 11 (ae n (ae (yf f) (ae _ (aa (aa rfl (aa rfl (aa rfl (aa d t)))) ?_))))|refine xE c1 ?_|refine ⟨fun h=>?_,fun h=>?_⟩|refine ak ?_)
       refine ae (i+1) (aa a (aa ar (St.le.of ?_ ?_)))
       ·refine aa (ax some (bL ar)) ?_
        repeat' (first | exact trivial | refine aa rfl ?_ | refine aa (ax (fun (z:List jV)=>some (AV.me .box 5000011 b [[AV.sl .full 0 [],AV.sl (.id 5005000) 6 (z.map qr)]])) (by rw [c,q,<- n4,y])) ?_ | fail)
       ·exact RF
      | false=>
       have B:((j:Int)==(i:Int))=true->False:=fun h=>by rw [hj] at h; cases h
       have o:¬ j=i:=fun e=>by rw [e] at hj; simp at hj
       rw [aV (fun e=>o (iK e))] at q
       repeat' first|exact (u bf).elim|exact (B bf).elim|refine QE [60] rfl hG af kp ?_|((conv=>whnf); first|refine cX ?_|refine cW ?_|refine fc ?_|refine aa (au i) (ae _ (aa hx ?_))|refine ae 11 (ae n (ae (yf f) (ae _ (aa (aa rfl (aa rfl (aa rfl (aa d t)))) ?_))))|refine xE c1 ?_|refine ⟨fun h=>?_,fun h=>?_⟩|refine ak ?_)
       refine ae (i+1) (aa a (aa ar (St.le.of ?_ ?_)))
       ·refine aa (ax some (bL ar)) ?_
        repeat' (first | exact trivial | refine aa rfl ?_ | refine aa (ax (fun (z:List jV)=>some (AV.me .box 5000011 b [[AV.sl .full 0 [],AV.sl (.id 5005000) 6 (z.map qr)]])) (by rw [c,q,bR,y])) ?_ | fail)
       ·exact RF
    ·have u:=dT (show ¬((i:Int)<((l.map ud).length:Int)) by omega);have A:i=l.length:=by omega
     subst A
     repeat' first|exact (u bf).elim|refine QE [60] rfl hG af kp ?_|((conv=>whnf); first|refine cX ?_|refine cW ?_|refine fc ?_|refine ⟨fun h=>?_,fun h=>?_⟩|refine ak ?_)
     refine gc.mk (bA rfl) (ae (.tup []) (ae (LR b (R++wo s.buns.length l)) (aa (aa rfl rfl) (aa (ak (ay rfl)) (aa aI aI)))))
open Go Go.AI
set_option maxRecDepth 10000
theorem Dd {s:eo} {id:Int} {l:List Int} (h:∀ j∈l,0<=j/\j<(s.opts.length:Int)) {o:d4} (a:o∈qK s id l):o∈s.opts:=by
 unfold qK xp at a;obtain ⟨j,hj,rfl⟩:=bp.1 (gx.1 a).1;have:=h j hj;unfold qI;exact c8 _ ar
theorem De (s:eo) (id:Int) (l:List Int):(qK s id l).length<=l.length:=by
 have:=iu (fun y:d4=>decide (y.sat=id)) (xp s l);simp only [qK,xp,az] at *; exact this
open Go Go.AI
set_option maxRecDepth 10000
theorem Up (s:Nat->Int) (l:List dX) (a b:Int) (hl:l.length<=1000000) (hv:kY s l a b=true):aq Tryz.prog 89 [.agg (bM s),iY l,.agg (cj a b)] (.tup [.int .i64 (qy (jD s l a b)),.int .i64 0]):=by
 obtain ⟨c,j,e,o⟩:=CU hv;have d:=KW s l a b hl;rw [hv] at d;have hlen:(jD s l a b).length<=4320:=by rw [um]; omega
 refine aq.ofB af Tryz.func89 rfl aI bh (ah rfl) ?_;intro F n w0 m0 hG m h1
 repeat' first|refine QE [] rfl hG af (.mk:KP nJ) ?_|((conv=>whnf); first|refine cX ?_|refine cW ?_|refine fc ?_|refine ae _ (aa (d) ?_)|refine ae _ (aa (KV s l a b) ?_)|refine aa (fun h=>?_) (fun h=>?_)|refine ak ?_)
 refine ⟨oG hG h1 (α:=Int×Int) (fun p=>[.int .i64 p.1,.int .i64 p.2]) (f:=246) (cap:=un s l a b) (items:=jD s l a b) rfl (vG (Jn s l a b c.1 c.2.2 (by have:=y9 e; omega) (xg e)) (fun _=>rfl) Ok) (fun _=>rfl)
  (fun _=>[(8,.loc 8 0)]) [8] (fun _=>rfl) (fun pre=>[(8,[.int .i64 (qy pre)])]) (St.le.of ?_ ?_) aI bq ?_ ?_⟩
 ·exact RF
 ·exact RF
 ·intro q i m' hG _ _ pre x rest hx;refine aJ.out (aJ.reg hG af nJ aI ?_)
  conv=>whnf
  refine aa rfl (aa (LE) ?_)
  ·refine aJ.out ?_
   repeat' first|refine QE [] rfl hG af (.mk:KP nJ) ?_|((conv=>whnf); first|refine cX ?_|refine cW ?_|refine fc ?_|refine aa (fun h=>?_) (fun h=>?_)|refine ak ?_)
   refine St.le.of ?_ ?_
   ·exact RF
   ·refine aa ?_ trivial;rw [HF]; rfl
 ·conv=>whnf
  repeat' first|refine QE [] rfl hG af (.mk:KP nJ) ?_|((conv=>whnf); first|refine cX ?_|refine cW ?_|refine fc ?_|refine aa (fun h=>?_) (fun h=>?_)|refine ak ?_)
  all_goals exact Ez
theorem JG (s:Nat->Int) (a b:Int) (hv:kY s [] a b=true):aq Tryz.prog 89 [.agg (bM s),.sl .full 0 [],.agg (cj a b)] (.tup [.int .i64 (qy (jD s [] a b)),.int .i64 0]):=(Up s [] a b cU hv).weak (us:=[.agg (bM s),.sl .full 0 [],.agg (cj a b)]) (.cons (.refl _) (.cons bK (.cons (.refl _) .nil)))
def VY (x y:Int×Int):Int:=max 0 (bW (min x.2 y.2 - max x.1 y.1))
theorem nF (a b c d:Int):aq Tryz.prog 86 [.agg [.int .i64 a,.int .i64 b],.agg [.int .i64 c,.int .i64 d]] (.int .i64 (VY (a,b) (c,d))):=dK JU Tryz.func86
def o8 (x:Nat->Int) (w:Int×Int) (l:List d4):Int:=l.foldl (fun n o=>bW (n+bW (x 16*VY (o.a,o.b) w))) 0
set_option maxHeartbeats 8000000 in
theorem Nt (b:Nat) (s:eo) (x:Nat->Int) (w:Int×Int) (i:Int) (u:jY) (hu:u.opts.length<=1000000) (m:∀ j∈u.opts,0<=j/\j<s.opts.length):aq Tryz.prog 85 [.int .i64 i,.agg (fH u),.ref [cA b s],.ref [.clo 159 [.ref [.int .i64 (x 0)]]],.ref (bM x),.ref (cj w.1 w.2)] (.int .i64 (o8 x w (qK s (x 0) u.opts))):=by
 have c1:=jc b s u (x 0) hu m;have t:=fun o (p:o∈qK s (x 0) u.opts)=>Dd m p;have q:=De s (x 0) u.opts;generalize qK s (x 0) u.opts=l at *;refine aM JV Tryz.func85 ?_;intro F y w0 m0 hG r h1 kp;refine bz ?_;refine aJ.loop (X:=Nat) (fun j=>⟨[(16,.int .i64 j),(15,.int .i64 (l.map bO).length),(14,cH l),(8,.int .i64 (o8 x w (l.take j))),(4,.ref (bM x)),(5,.ref (cj w.1 w.2))],[]⟩) (fun j=>j<=l.length) (fun j=>l.length - j) 0 (aU _) (LE) (fun i hx=>?_)
 ·have hi:=hx;by_cases c:i<l.length
  ·have d:=dF (show (i:Int)<((l.map bO).length:Int) by simp; omega);have hx:=cG bO dt c;have n:=c8 dt c;have f:o8 x w (l.take (i+1))=bW (o8 x w (l.take i)+bW (x 16*VY ((l.getD i dt).a,(l.getD i dt).b) w)):=by rw [dz dt c,o8,cV]; rfl
   generalize o8 x w (l.take i)=acc at *;generalize l.getD i dt=v at *
   repeat' first|exact (d bf).elim|refine aS ?_|((conv=>whnf); first|refine aa (au i) (ae _ (aa hx ?_))|refine ae _ (aa (nF _ _ _ _) ?_)|refine ⟨fun h=>?_,fun h=>?_⟩|refine ak ?_)
   all_goals (refine ae (i+1) (aa c (aa ar (St.le.of ?_ ?_))))
   all_goals first
    |(refine aa (ax some (bL ar)) ?_
      repeat' (first | exact trivial | refine aa rfl ?_ | refine aa (ax (fun z=>some (AV.int .i64 z)) f.symm) ?_))
    |(repeat' (first | exact trivial | refine aa rfl ?_))
  ·have d:=dT (show ¬((i:Int)<((l.map bO).length:Int)) by simp; omega);have e:i=l.length:=by omega
   subst e;rw [dl];refine bz ?_
   all_goals exact Ez
def ll (t:Int) (l:List d4):Int:=l.foldl (fun n o=>if o.a<=t/\t<uq o then bW (n+o.size) else n) 0
set_option maxHeartbeats 8000000 in
theorem Jh (b:Nat) (s:eo) (x:Nat->Int) (t:Int) (A:∀ o∈s.opts,DV o=true/\o.sl.length<=1000000) (i:Int) (u:jY) (hu:u.opts.length<=1000000) (v:∀ j∈u.opts,0<=j/\j<s.opts.length):aq Tryz.prog 87 [.int .i64 i,.agg (fH u),.ref [cA b s],.ref [.clo 159 [.ref [.int .i64 (x 0)]]],.ref [.int .i64 t]] (.int .i64 (ll t (qK s (x 0) u.opts))):=by
 have c1:=jc b s u (x 0) hu v;have p:=fun o (w:o∈qK s (x 0) u.opts)=>Dd v w;have B:=De s (x 0) u.opts;generalize qK s (x 0) u.opts=l at *;refine aM JT Tryz.func87 ?_;intro F G w0 m0 hG D h1 kp;refine bz ?_;refine aJ.loop (X:=Nat) (fun j=>⟨[(17,.int .i64 j),(16,.int .i64 (l.map bO).length),(15,cH l),(7,.int .i64 (ll t (l.take j))),(4,.ref [.int .i64 t])],[]⟩) (fun j=>j<=l.length) (fun j=>l.length - j) 0 (aU _) (LE) (fun i hx=>?_)
 ·have hi:=hx;by_cases c:i<l.length
  ·have d:=dF (show (i:Int)<((l.map bO).length:Int) by simp; omega);have hx:=cG bO dt c;have e:=c8 dt c;have r:ll t (l.take (i+1))=if (l.getD i dt).a<=t/\t<uq (l.getD i dt) then bW (ll t (l.take i)+(l.getD i dt).size) else ll t (l.take i):=by rw [dz dt c,ll,cV]; rfl
   generalize ll t (l.take i)=acc at *;obtain ⟨f,m⟩:=A _ (p _ e);have y:=tt _ m f;generalize l.getD i dt=E at *
   repeat' first|exact (d bf).elim|refine aS ?_|((conv=>whnf); first|refine aa (au i) (ae _ (aa hx ?_))|refine ae _ (aa (y) ?_)|refine ⟨fun h=>?_,fun h=>?_⟩|refine ak ?_)
   all_goals (refine ae (i+1) (aa c (aa ar (St.le.of ?_ ?_))))
   all_goals first
    |(refine aa (ax some (bL ar)) ?_
      repeat' (first | exact trivial | refine aa rfl ?_ | refine aa (ax (fun z=>some (AV.int .i64 z)) (r.trans (by first | exact aX ⟨aH bf,aH bf⟩ | exact aV (fun n=>aW bf n.1) | exact aV (fun n=>aW bf n.2))).symm) ?_))
    |(repeat' (first | exact trivial | refine aa rfl ?_))
  ·have d:=dT (show ¬((i:Int)<((l.map bO).length:Int)) by simp; omega);have q:i=l.length:=by omega
   subst q;rw [dl];refine bz ?_
   all_goals exact Ez
open Go Go.AI
set_option maxRecDepth 10000
def PB (id n:Int) (u:jY):Int:=if u.ord=id then n else 0
theorem Am (id n i:Int) (u:jY):aq Tryz.prog 96 [.int .i64 i,.agg (fH u),.ref [.int .i64 id],.ref [.int .i64 n]] (.int .i64 (PB id n u)):=by
 refine aM JL Tryz.func96 ?_;intro F b w0 m0 hG a h1 kp
 repeat' first|refine aS ?_|((conv=>whnf); first|refine ⟨fun h=>?_,fun h=>?_⟩|refine ak ?_)
 all_goals refine Ei ?_
 all_goals (clear hG; unfold PB; grind)
theorem Ng (id n:Int):aq Tryz.prog 95 [.int .i64 id,.int .i64 n] (.clo 96 [.ref [.int .i64 id],.ref [.int .i64 n]]):=dK JM Tryz.func95
def Ym (i k:Int):Int:=bW (1 - min 1 (max (bW (i - k)) (bW (k - i))))
theorem Nh (i k:Int) (u:jY):aq Tryz.prog 97 [.int .i64 k,.agg (fH u),.ref [.int .i64 i]] (.int .i64 (Ym i k)):=dK JK Tryz.func97
theorem G6 (l:List dZ) (p:dZ->Bool) (g:FuncId) (fv:AV) (cap:List AV) (hf:fv = .clo g cap\/(fv = .fn g/\cap=[])) (hl:l.length<=1000000)
  (hp:∀ x∈l,aq Tryz.prog g ((.agg (dM x))::cap) (.bool (p x))):aq Tryz.prog 168 [.sl .no 3 (l.map dM),fv] (.int .i64 (lR p l 0)):=by
 let E:=dM; let D:=Zg; let K:=Gd; let N:=3; have f:=Tryz.func168; exact Vy
theorem qf (l:List dZ) (p:dZ->Bool) (g:FuncId) (fv:AV) (cap:List AV) (hf:fv = .clo g cap\/(fv = .fn g/\cap=[])) (hl:l.length<=1000000)
  (hp:∀ x∈l,aq Tryz.prog g ((.agg (dM x))::cap) (.bool (p x))):aq Tryz.prog 92 [.sl .no 3 (l.map dM),fv] (.bool (l.any p)):=by
 have I:=G6 l p g fv cap hf hl hp; let K:=JP; have f:=Tryz.func92; exact X3
def yX (x y:dZ):Bool:=decide (VY (x.a,x.b) (y.a,y.b)>0)
theorem D0 (x y:dZ):aq Tryz.prog 94 [.agg (dM y),.ref (dM x)] (.bool (yX x y)):=by
 refine aM JN Tryz.func94 ?_;intro F b w0 m0 hG a h1 kp
 repeat' first|refine aS ?_|((conv=>whnf); first|refine ae _ (aa (nF _ _ _ _) ?_)|refine ⟨fun h=>?_,fun h=>?_⟩|refine ak ?_)
 all_goals exact Ez
def Mj (x:Nat->Int) (w:Int×Int) (n:Int) (l:List dZ):Int:=l.foldl (fun n y=>bW (n+bW (x 15*VY (y.a,y.b) w))) n
def ls (x:Nat->Int) (w:Int×Int) (l:List d4):Int:=l.foldl (fun n o=>Mj x w (bW (n+bW (x 14*VY (o.a,o.b) w))) o.sl) 0
set_option maxHeartbeats 8000000 in
theorem JI (b:Nat) (s:eo) (x:Nat->Int) (w:Int×Int) (r:∀ o∈s.opts,o.sl.length<=1000000) (i:Int) (u:jY) (hu:u.opts.length<=1000000) (D:∀ j∈u.opts,0<=j/\j<s.opts.length):aq Tryz.prog 90 [.int .i64 i,.agg (fH u),.ref [cA b s],.ref [.clo 159 [.ref [.int .i64 (x 0)]]],.ref (bM x),.ref (cj w.1 w.2)] (.int .i64 (ls x w (qK s (x 0) u.opts))):=by
 have c1:=jc b s u (x 0) hu D;have v:=fun o (L:o∈qK s (x 0) u.opts)=>Dd D L;have E:=De s (x 0) u.opts;generalize qK s (x 0) u.opts=l at *;refine aM JR Tryz.func90 ?_;intro F N w0 m0 hG H h1 kp;refine bz ?_;refine aJ.loop (X:=Nat) (fun j=>⟨[(18,.int .i64 j),(17,.int .i64 (l.map bO).length),(16,cH l),(8,.int .i64 (ls x w (l.take j))),(4,.ref (bM x)),(5,.ref (cj w.1 w.2))],[]⟩) (fun j=>j<=l.length) (fun j=>l.length - j) 0 (aU _) (LE) (fun i hi=>?_)
 ·by_cases c:i<l.length
  ·have n:=dF (show (i:Int)<((l.map bO).length:Int) by simp; omega);have hx:=cG bO dt c;have q:=r _ (v _ (c8 dt c));have e:ls x w (l.take (i+1))=Mj x w (bW (ls x w (l.take i)+bW (x 14*VY ((l.getD i dt).a,(l.getD i dt).b) w))) (l.getD i dt).sl:=by rw [dz dt c,ls,cV]; rfl
   generalize ls x w (l.take i)=acc at *;generalize l.getD i dt=J at *;obtain ⟨Q,U,P,G,M,A,ok,Z,os⟩:=J;dsimp only at q e;obtain ⟨d,p⟩:∃ d,bW (acc+bW (x 14*VY (M,A) w))=d:=⟨_,rfl⟩;rw [p] at e
   repeat' first|exact (n bf).elim|refine aS ?_|((conv=>whnf); first|refine aa (au i) (ae _ (aa hx ?_))|refine ae _ (aa (nF _ _ _ _) ?_)|refine ⟨fun h=>?_,fun h=>?_⟩|refine ak ?_)
   refine aJ.loop (X:=Nat) (fun j=>⟨[(34,.int .i64 j),(33,.int .i64 (os.map dM).length),(32,vX os),(8,.int .i64 (Mj x w d (os.take j))),(18,.int .i64 i),(17,.int .i64 (l.map bO).length),(16,cH l),(4,.ref (bM x)),(5,.ref (cj w.1 w.2))],[]⟩) (fun j=>j<=os.length) (fun j=>os.length - j) 0 (aU _) (St.le.of ?_ ?_) (fun j hj=>?_)
   ·repeat' (first | exact trivial | refine aa rfl ?_ | refine aa (ax (fun z=>some (AV.int .i64 z)) (show _=d from p)) ?_ | fail)
   ·exact RF
   ·by_cases f:j<os.length
    ·have m:=dF (show (j:Int)<((os.map dM).length:Int) by simp; omega);have hy:=cG dM Zg f;have B:Mj x w d (os.take (j+1))=bW (Mj x w d (os.take j)+bW (x 15*VY ((os.getD j Zg).a,(os.getD j Zg).b) w)):=by rw [dz Zg f,Mj,cV]; rfl
     generalize Mj x w d (os.take j)=ac at *;generalize os.getD j Zg=z at *
     repeat' first|exact (m bf).elim|refine aS ?_|((conv=>whnf); first|refine aa (au j) (ae _ (aa hy ?_))|refine ae _ (aa (nF _ _ _ _) ?_)|refine ⟨fun h=>?_,fun h=>?_⟩|refine ak ?_)
     refine ae (j+1) (aa f (aa ar (St.le.of ?_ ?_)))
     ·refine aa (ax some (bL ar)) ?_
      repeat' (first | exact trivial | refine aa rfl ?_ | refine aa (ax (fun z=>some (AV.int .i64 z)) B.symm) ?_ | fail)
     ·exact RF
    ·have m:=dT (show ¬((j:Int)<((os.map dM).length:Int)) by simp; omega);have t:j=os.length:=by omega
     subst t;rw [dl,<- e]
     repeat' first|exact (m bf).elim|refine aS ?_|((conv=>whnf); first|refine ⟨fun h=>?_,fun h=>?_⟩|refine ak ?_)
     refine ae (i+1) (aa c (aa ar (LE)))
  ·have n:=dT (show ¬((i:Int)<((l.map bO).length:Int)) by simp; omega);have y:i=l.length:=by omega
   subst y;rw [dl];refine bz ?_
   all_goals exact Ez
def ue (s:eo) (q:Int) (l:List d4):Int:=l.foldl (fun n o=>if Wk s o=q then bW (n+bW (o.b - o.a)) else n) 0
set_option maxHeartbeats 8000000 in
theorem QJ (b:Nat) (s:eo) (n:s.Small) (q i:Int) (u:jY) (hu:u.opts.length<=1000000) (t:∀ j∈u.opts,0<=j/\j<s.opts.length):aq Tryz.prog 99 [.int .i64 i,.agg (fH u),.ref [cA b s],.ref [.int .i64 q]] (.int .i64 (ue s q (xp s u.opts))):=by
 have c1:=jd b s n u hu t;have p:(xp s u.opts).length=u.opts.length:=by simp [xp]
 generalize xp s u.opts=l at *;refine aM JJ Tryz.func99 ?_;intro F v w0 m0 hG r h1 kp;refine bz ?_;refine aJ.loop (X:=Nat) (fun j=>⟨[(13,.int .i64 j),(12,.int .i64 (l.map bO).length),(11,cH l),(6,.int .i64 (ue s q (l.take j))),(2,.ref [cA b s]),(3,.ref [.int .i64 q])],[]⟩) (fun j=>j<=l.length) (fun j=>l.length - j) 0 (aU _) (LE) (fun i hi=>?_)
 ·by_cases d:i<l.length
  ·have e:=dF (show (i:Int)<((l.map bO).length:Int) by simp; omega);have hx:=cG bO dt d;have c:ue s q (l.take (i+1))=if Wk s (l.getD i dt)=q then bW (ue s q (l.take i)+bW ((l.getD i dt).b - (l.getD i dt).a)) else ue s q (l.take i):=by rw [dz dt d,ue,cV]; rfl
   generalize ue s q (l.take i)=acc at *;generalize l.getD i dt=m at *;have c2:=tv b s n m;generalize Wk s m=o at *
   repeat' first|exact (e bf).elim|refine aS ?_|((conv=>whnf); first|refine aa (au i) (ae _ (aa hx ?_))|refine ae _ (aa (c2) ?_)|refine ⟨fun h=>?_,fun h=>?_⟩|refine ak ?_)
   all_goals (refine ae (i+1) (aa d (aa ar (St.le.of ?_ ?_))))
   all_goals first
    |(rw [aX (eq_of_beq (by assumption:(o==q)=true))] at c
      refine aa (ax some (bL ar)) ?_
      repeat' (first | exact trivial | refine aa rfl ?_ | refine aa (ax (fun z=>some (AV.int .i64 z)) c.symm) ?_ | fail))
    |(rw [aV (ne_of_beq_false (by assumption:(o==q)=false))] at c
      refine aa (ax some (bL ar)) ?_
      repeat' (first | exact trivial | refine aa rfl ?_ | refine aa (ax (fun z=>some (AV.int .i64 z)) c.symm) ?_ | fail))
    |(repeat' (first | exact trivial | refine aa rfl ?_))
  ·have e:=dT (show ¬((i:Int)<((l.map bO).length:Int)) by simp; omega);have f:i=l.length:=by omega
   subst f;rw [dl];refine bz ?_
   all_goals exact Ez
theorem MY (x:dZ) (l:List dZ) (p:d4) (hl:p.sl.length<=1000000):aq Tryz.prog 93 [.agg (dM x),.ref (bO p)] (.bool (p.sl.any (yX x))):=by
 have c1:=qf p.sl (yX x) 94 _ [.ref (dM x)] (ak rfl) hl (fun y _=>D0 x y);refine aM JO Tryz.func93 ?_;intro F b w0 m0 hG a h1 kp;refine bz ?_
 all_goals exact Ez
def VZ (a c:d4):Bool := !(a.sl.any fun x=>c.sl.any (yX x))
theorem Bj (a c:d4) (b:a.sl.length<=1000000) (d:c.sl.length<=1000000):aq Tryz.prog 91 [.agg (bO a),.agg (bO c)] (.bool (VZ a c)):=by
 have c1:=qf a.sl (fun x=>c.sl.any (yX x)) 93 _ [.ref (bO c)] (ak rfl) b (fun x _=>MY x [] c d);refine aM JQ Tryz.func91 ?_;intro F f w0 m0 hG e h1 kp;refine bz ?_
 all_goals exact Ez
def NT (x:Nat->Int) (a c:d4):Bool:=tM x (fI [a,c])&&(xa x (fI [a,c])).isNone
theorem Bi (x:Nat->Int) (a c:d4):aq Tryz.prog 81 [.agg (bO a),.agg (bO c),.ref (bM x)] (.bool (NT x a c)):=by
 have c1:=(RL [a,c] (ah rfl)).weak (us:=[.sl .full 9 ([a,c].map bO)]) (.cons AV.weak.sl .nil);have c2:=QL x (fI [a,c]) (ah rfl);unfold NT;unfold NS at c2
 cases hv:tM x (fI [a,c]) with
 | false=>
  rw [hv,aV cU] at c2;refine aM rn Tryz.func81 ?_;intro F d w0 m0 hG b h1 kp;refine bz ?_
  all_goals exact Ez
 | true=>
  rw [hv,aX rfl] at c2
  cases e:xa x (fI [a,c]) with
  | none=>
   rw [e] at c2;refine aM rn Tryz.func81 ?_;intro F d w0 m0 hG b h1 kp;refine bz ?_
   all_goals exact Ez
  | some p=>
   rw [e] at c2;refine aM rn Tryz.func81 ?_;intro F d w0 m0 hG b h1 kp;refine bz ?_
   all_goals exact Ez
open Go Go.AI
set_option maxRecDepth 10000
def BM (a:Int) (to:List Int):List (Int×Int):=(to.filter fun b=>decide (a<b)).map fun b=>(a,b)
def sT (from_ to:List Int):List (Int×Int):=from_.flatMap fun a=>BM a to
theorem LD (a x:Int) (r:List Int):BM a (x::r)=(bif decide (a<x) then [(a,x)] else [])++BM a r:=by
 simp only [BM,Vu];cases decide (a<x) <;> rfl
theorem uS (f t:List Int):aq Tryz.prog 84 [bu f,bu t] (.clo 164 [.ref [bu f],.ref [bu t]]):=dK JW Tryz.func84
set_option maxHeartbeats 8000000 in
theorem qe (l r:List Int) (hl:l.length<=1000000) (M:r.length<=1000000):iA Tryz.prog XC 164 [.ref [bu l],.ref [bu r]] (sT l r):=by
 refine iA.of Tryz.func164 rfl aI bh (ah rfl) rfl ?_;intro F n m y J Jx hY
 repeat' first|refine QM rfl hY af (.mk:KP ig) ?_|((conv=>whnf); first|refine cX ?_|refine cW ?_|refine fc ?_|refine aa (fun h=>?_) (fun h=>?_)|refine ak ?_)
 refine io.loop (X:=Nat×Nat) (fun x=>((false,x.1),⟨[(10,.int .i64 x.2),(9,.int .i64 (l.map fun h=>[AV.int .i64 h]).length),(8,bu l),(0,.lit (.func (.yield y) #[] #[])),(2,.ref [bu r])],[]⟩)) (fun x=>x.1<=(sT l r).length/\x.2<=l.length/\(sT l r).drop x.1=sT (l.drop x.2) r) (fun x=>l.length - x.2) (0,0) ⟨aU _,aU _,rfl⟩ rfl (LE) (fun x hx=>?_)
 ·obtain ⟨c,i⟩:=x;obtain ⟨E,hi,o⟩:=hx;simp only at E hi o;dsimp only;by_cases f:i<l.length
  ·have p:=dF (show (i:Int)<((l.map fun h=>[AV.int .i64 h]).length:Int) by grind);have hx:=cG (fun h=>[AV.int .i64 h]) (0:Int) f;rw [OY 0 f] at o;have o:(sT l r).drop c=BM (l.getD i 0) r++sT (l.drop (i+1)) r:=o;generalize l.getD i 0=a at *
   repeat' first|exact (p bf).elim|refine QM rfl hY af (.mk:KP ig) ?_|((conv=>whnf); first|refine cX ?_|refine cW ?_|refine fc ?_|refine aa (au i) (ae _ (aa hx ?_))|refine aa (fun h=>?_) (fun h=>?_)|refine ak ?_)
   refine io.loop (X:=Nat×Nat) (fun x=>((false,x.1),⟨[(16,.int .i64 x.2),(15,.int .i64 (r.map fun h=>[AV.int .i64 h]).length),(14,bu r),(5,.int .i64 a),(10,.int .i64 i),(9,.int .i64 (l.map fun h=>[AV.int .i64 h]).length),(8,bu l),(0,.lit (.func (.yield y) #[] #[])),(2,.ref [bu r])],[]⟩)) (fun x=>x.1<=(sT l r).length/\x.2<=r.length/\(sT l r).drop x.1=BM a (r.drop x.2)++sT (l.drop (i+1)) r) (fun x=>r.length - x.2) (c,0) ⟨E,aU _,o⟩ rfl (LE) (fun x w=>?_)
   ·obtain ⟨c2,j⟩:=x;obtain ⟨u,hj,b⟩:=w;simp only at u hj b;dsimp only;by_cases d:j<r.length
    ·have e:=dF (show (j:Int)<((r.map fun h=>[AV.int .i64 h]).length:Int) by grind);have hy:=cG (fun h=>[AV.int .i64 h]) (0:Int) d;rw [OY 0 d,LD] at b;generalize r.getD j 0=z at *
     cases v:decide (a<z) with
     | true=>
      rw [v] at b;have q:=dF (show a<z by grind);obtain ⟨H,A,D⟩:=Qj b
      repeat' first|exact (e bf).elim|exact (q bf).elim|refine QM rfl hY af (.mk:KP ig) ?_|((conv=>whnf); first|refine cX ?_|refine cW ?_|refine fc ?_|refine aa (au j) (ae _ (aa hy ?_))|refine aa (fun h=>?_) (fun h=>?_)|refine ak ?_)
      all_goals refine ae (a,z) (aa H (aa rfl (fun t G=>?_)))
      all_goals subst G
      all_goals refine aa ?_ ?_
      repeat' first|exact (e bf).elim|refine QM rfl hY af (.mk:KP ig) ?_|((conv=>whnf); first|refine cX ?_|refine cW ?_|refine fc ?_|refine aa (fun h=>?_) (fun h=>?_)|refine ak ?_)
      all_goals first
       | exact iL.mk (ak rfl) (bA rfl)
       |(refine ae (c2+1,j+1) (aa ⟨D,d,A⟩ (aa (Ld d (jy _)) (aa rfl (St.le.of ?_ ?_))))
         ·refine aa (ax some (bL ar)) ?_;exact RF
         ·(repeat' (first | exact trivial | refine aa rfl ?_)))
     | false=>
      rw [v] at b;have q:=dT (show ¬(a<z) by grind)
      repeat' first|exact (e bf).elim|exact (q bf).elim|refine QM rfl hY af (.mk:KP ig) ?_|((conv=>whnf); first|refine cX ?_|refine cW ?_|refine fc ?_|refine aa (au j) (ae _ (aa hy ?_))|refine aa (fun h=>?_) (fun h=>?_)|refine ak ?_)
      all_goals refine ae (c2,j+1) (aa ⟨u,d,b⟩ (aa (Ld d (jy _)) (aa rfl (St.le.of ?_ ?_))))
      all_goals first
       |(refine aa (ax some (bL ar)) ?_
         (repeat' (first | exact trivial | refine aa rfl ?_)))
       |(repeat' (first | exact trivial | refine aa rfl ?_))
    ·have e:=dT (show ¬((j:Int)<((r.map fun h=>[AV.int .i64 h]).length:Int)) by grind);rw [dg (show r.length<=j by omega)] at b;have b:(sT l r).drop c2=sT (l.drop (i+1)) r:=b
     repeat' first|exact (e bf).elim|refine QM rfl hY af (.mk:KP ig) ?_|((conv=>whnf); first|refine cX ?_|refine cW ?_|refine fc ?_|refine aa (fun h=>?_) (fun h=>?_)|refine ak ?_)
     refine ae (c2,i+1) (aa ⟨u,f,b⟩ (aa (Ld f (jy _)) (aa rfl (LE))))
  ·have p:=dT (show ¬((i:Int)<((l.map fun h=>[AV.int .i64 h]).length:Int)) by grind);rw [dg (show l.length<=i by omega)] at o
   have B:c=(sT l r).length:=by
    have:=ax List.length o;have L:(sT [] r).length=0:=rfl;rw [ym] at this; omega
   repeat' first|exact (p bf).elim|refine QM rfl hY af (.mk:KP ig) ?_|((conv=>whnf); first|refine cX ?_|refine cW ?_|refine fc ?_|refine aa (fun h=>?_) (fun h=>?_)|refine ak ?_)
   exact iL.mk (bA rfl) (ak (ax (Prod.mk false) B))
open Go Go.AI
set_option maxRecDepth 10000
structure Az (o:Nat->Int) (a b k late:Int):Prop where
 pv:PV o
 a0:0<=a
 ab:a<b
 b1:b<=1000001
 m:b - a<=60
 k0:-4<=k
 k1:k<=4
 s1:o 6<=10
 l0:-(o 6)<=late
 l1:late<=o 6
def A0 (o:Nat->Int) (k late t:Int):Int×Int×Int:=((((kS o (t - late)).1+k)+48).tmod 48,(kS o (t - late)).2,t)
def Lq (o:Nat->Int) (a b k late:Int):List (Int×Int×Int):=(List.range (b - a).toNat).map fun (i:Nat)=>A0 o k late (a+i)
def Zh (p:Int×Int×Int):List AV:=[.agg [.int .i64 p.1,.int .i64 p.2.1,.int .i64 p.2.2]]
theorem Az.cell {o:Nat->Int} {a b k late:Int} (h:Az o a b k late) {t:Int} (h1:a<=t) (h2:t<b):sj o t late=true/\0<=(kS o (t - late)).1/\(kS o (t - late)).1<=47/\0<=(kS o (t - late)).2/\(kS o (t - late)).2<=23:=by
 obtain ⟨pv,a0,ab,b1,m,k0,k1,s1,l0,l1⟩:=h;have c:=T5 pv (d:=t - late) ar ar;simp only [kC,cQ,al,aP] at c;exact ⟨Y3 pv ar ar ar ar,c.1.1,c.1.2,c.2.1,c.2.2⟩
theorem Az.rng {o:Nat->Int} {a b k late:Int} (h:Az o a b k late):∀ p∈Lq o a b k late,0<=p.1/\p.1<=47/\0<=p.2.1/\p.2.1<=23/\a<=p.2.2/\p.2.2<b:=by
 intro p c;obtain ⟨i,hi,rfl⟩:=bp.1 c;have hi:=bB.1 hi;obtain ⟨_,c1,c2,e,f⟩:=h.cell (t:=a+i) ar ar;have d:=h.k0;have h1:=h.k1;simp only [A0];rw [ip ar];omega
theorem NU (o:Nat->Int) (a b k late:Int) {i:Nat} (h:i<(b - a).toNat):(Lq o a b k late)[i]?=some (A0 o k late (a+i)):=by
 simp [Lq,h]
theorem C3 (o:Nat->Int) (a b k late:Int):(Lq o a b k late).length=(b - a).toNat:=by simp [Lq]
def S9 (z:Int):List AV:=[.int .i64 z]
open Go Go.AI
set_option maxRecDepth 10000
def SJ (r x:Int):Int:=pw .or .i64 r (bW (1*2 ^ (min x.toNat 64)))
def sX (a:List Int) (l:List (Int×Int×Int)):List Int:=l.foldl (fun a p=>a.set p.2.1.toNat (SJ (a.getD p.2.1.toNat 0) p.1)) a
def tE:List Int:=List.replicate 24 0
def nC (o:Nat->Int) (a b k late:Int):List Int:=sX tE (Lq o a b k late)
theorem za:∀ (l:List (Int×Int×Int)) (a:List Int),(sX a l).length=a.length
 | [],_=>rfl
 | p::r,a=>by
  have:=za r (a.set p.2.1.toNat (SJ (a.getD p.2.1.toNat 0) p.1));rw [List.length_set] at this;exact this
theorem Pt (a:List Int) (l:List (Int×Int×Int)) (p:Int×Int×Int):sX a (l++[p])=(sX a l).set p.2.1.toNat (SJ ((sX a l).getD p.2.1.toNat 0) p.1):=by simp [sX]
theorem mJ (l:List Int) (i:Nat) (x:Int):dD (l.map fun h=>[AV.int .i64 h]) i [AV.int .i64 x]=(l.set i x).map fun h=>[AV.int .i64 h]:=by
 refine vR fun j=>?_;rw [eh,az,aQ,aQ,List.getElem?_set];by_cases h1:i=j
 ·subst h1;by_cases h2:i<l.length
  ·rw [aX ⟨rfl,h2⟩,aX rfl,aX h2]; rfl
  ·rw [aV (fun h=>h2 h.2),aX rfl,aV h2,fR ar]
 ·rw [aV (fun h=>h1 h.1),aV h1]
def nQ (b n cap:Nat):AV := .lit (.slice (some ⟨b,0,none⟩) n cap)
theorem Qs (o:Nat->Int) (a b k late:Int):(nC o a b k late).length=24:=by unfold nC; rw [za]; rfl
theorem Az.of {o:Nat->Int} {a b k:Int} (h:g9 o a b k=true) {late:Int} (h1:-(o 6)<=late) (h2:late<=o 6):Az o a b k late:=by
 simp only [g9,Cl,wt,cQ,al,aP] at h;obtain ⟨⟨g1,⟨⟨g2,g3⟩,g4⟩,g5⟩,g6,g7⟩:=h;have pv:=(lE o).1 g1;have:=pv.s2;rw [aZ ar ar] at g5;exact ⟨pv,by omega,by omega,by omega,by omega,g6,g7,by omega,h1,h2⟩
open Go Go.AI
set_option maxRecDepth 10000
set_option maxHeartbeats 4000000 in
theorem lY (l m:List yo) (hl:l.length<=1000000):aq Tryz.prog 10 [jr l,jr m] (.bool (decide (l=m))):=by
 have c:((l.map gQ).length:Int)=(l.length:Int):=by rw [az]
 have d:((m.map gQ).length:Int)=(m.length:Int):=by rw [az]
 refine aM KC Tryz.func10 ?_;intro F w w0 m0 hG t h1 kp
 repeat' first|refine aS ?_|((conv=>whnf); first|refine ⟨fun h=>?_,fun h=>?_⟩|refine ak ?_)
 all_goals first
  |(refine Eb ?_
    have h:=(by assumption:(((l.map gQ).length:Int)!=((m.map gQ).length:Int))=true);rw [c,d] at h;exact (eq fun e=>by rw [e] at h; simp at h).symm)
  | skip
 have r:l.length=m.length:=by
  have h:=(by assumption:(((l.map gQ).length:Int)!=((m.map gQ).length:Int))=false);rw [c,d] at h;simp at h; omega
 refine aJ.loop (X:=Nat) (fun x=>⟨[(5,.int .i64 x),(1,jr m),(0,jr l)],[]⟩) (fun x=>x<=l.length/\l.take x=m.take x) (fun x=>l.length - x) 0 ⟨aU _,rfl⟩ (LE) (fun x hx=>?_)
 ·rename Nat=>i
  obtain ⟨hi,n⟩:=hx;by_cases a:i<l.length
  ·have b:=dF (show (i:Int)<((l.map gQ).length:Int) by omega);have hx:=C6 (f:=gQ) IA a;have hy:=C6 (f:=gQ) IA (show i<m.length by omega);have o:=vW IA a;have q:=vW IA (show i<m.length by omega);have j:l.getD i IA≠m.getD i IA->decide (l=m)=false:=fun h=>eq fun e=>h (by rw [e]);generalize l.getD i IA=u at *;generalize m.getD i IA=v at *
   repeat' first|exact (b bf).elim|refine aS ?_|((conv=>whnf); first|refine aa (au i) (ae _ (aa hx ?_))|refine aa (au i) (ae _ (aa hy ?_))|refine ⟨fun h=>?_,fun h=>?_⟩|refine ak ?_)
   all_goals first
    |(refine Eb ?_
      exact (j fun e=>by subst e; have h:=(by assumption:(!_)=true); simp at h).symm)
    | skip
   refine ae (i+1) (aa ⟨a,?_⟩ (aa ar (LE)))
   ·rw [o,q,n]
    have e:u=v:=by
     have h:=zl (by assumption:(!_)=false);cases u; cases v; simp at h; simp [h]
    rw [e]
  ·have b:=dT (show ¬((i:Int)<((l.map gQ).length:Int)) by omega);have he:l.take i=l:=bE ar;have p:m.take i=m:=bE ar;rw [he,p] at n;refine bz ?_;exact Ends.mk (ak rfl) (ay (ax AV.bool (dQ n).symm))
open Go Go.AI
set_option maxRecDepth 10000
def Ye:jV:=⟨0,0,0,0,[],0⟩
theorem SU (x:Int):(!decide (x=x))=true->False:=fun h=>by simp at h
theorem yy (x:Int):(x != x)=true->False:=fun h=>by simp at h
set_option maxHeartbeats 4000000 in
theorem Bl (l:List Int) (hl:l.length<=1000000):aq Tryz.prog 44 [bu l,bu l] (.bool true):=by
 refine aM Kj Tryz.func44 ?_;intro F d w0 m0 hG c h1 kp
 repeat' first|exact (yy _ bf).elim|refine aS ?_|((conv=>whnf); first|refine ⟨fun h=>?_,fun h=>?_⟩|refine ak ?_)
 refine aJ.loop (X:=Nat) (fun i=>⟨[(5,.int .i64 i),(1,bu l),(0,bu l)],[]⟩) (fun i=>i<=l.length) (fun i=>l.length - i) 0 (aU _) (LE) (fun i hi=>?_)
 ·by_cases b:i<l.length
  ·have a:=dF (show (i:Int)<((l.map (fun h=>[AV.int .i64 h])).length:Int) by simp; omega);have hx:=cG (fun h=>[AV.int .i64 h]) (0:Int) b;generalize l.getD i 0=u at *
   repeat' first|exact (a bf).elim|exact (SU _ bf).elim|exact (yy _ bf).elim|refine aS ?_|((conv=>whnf); first|refine aa (au i) (ae _ (aa hx ?_))|refine ⟨fun h=>?_,fun h=>?_⟩|refine ak ?_)
   refine ae (i+1) (aa b (aa ar (LE)))
  ·have a:=dT (show ¬((i:Int)<((l.map (fun h=>[AV.int .i64 h])).length:Int)) by simp; omega);refine bz ?_;exact Ez
theorem gj (c n:Int) (a:n≠0):aq Tryz.prog 14 [.int .i64 c,.int .i64 n] (.int .i64 (aF c n)):=by
 refine aM Kz Tryz.func14 ?_;intro F d w0 m0 hG b h1 kp
 repeat' first|refine aS ?_|((conv=>whnf); first|refine aa a ?_|refine ⟨fun h=>?_,fun h=>?_⟩|refine ak ?_)
 all_goals refine Ei ?_
 all_goals (simp_all [aF,bW] <;> omega)
def pY (l:List (Nat->Int)) (n:Int):Int:=match l.findIdx? fun x=>decide (x 0=n) with
 | some i=>i
 | none => -1
set_option maxHeartbeats 4000000 in
theorem Jq (l:List (Nat->Int)) (n:Int) (hl:l.length<=1000000):aq Tryz.prog 52 [qC l,.int .i64 n] (.int .i64 (pY l n)):=by
 have e:∀ i,i<l.length->(l.take i).all (fun x => !decide (x 0=n))=true->decide ((l.getD i iM) 0=n)=false->(l.take (i+1)).all (fun x => !decide (x 0=n))=true:=fun i hi h1 h2=>by rw [dz iM hi,List.all_append,h1,qg,h2]; rfl
 refine aM Kd Tryz.func52 ?_;intro F q w0 m0 hG p h1 kp;refine bz ?_;refine aJ.loop (X:=Nat) (fun i=>⟨[(5,.int .i64 i),(1,.int .i64 n),(0,qC l)],[]⟩) (fun i=>i<=l.length/\(l.take i).all (fun x => !decide (x 0=n))=true) (fun i=>l.length - i) 0 ⟨aU _,rfl⟩ (LE) (fun i hi=>?_)
 ·obtain ⟨hi,d⟩:=hi;by_cases a:i<l.length
  ·have b:=dF (show (i:Int)<((l.map bM).length:Int) by simp; omega);have hx:=cG bM iM a;have m:=e i a d;have o:=c8 iM a
   have c:decide ((l.getD i iM) 0=n)=true->pY l n=(i:Int):=fun h=>by
    unfold pY
    have:l.findIdx? (fun x=>decide (x 0=n))=some i:=by
     rw [iC];refine ⟨a,?_,fun j hj=>?_⟩
     ·rw [aK,ai a] at h; exact h
     ·have:=aN.1 d (l[j]'(by omega)) (List.mem_take_iff_getElem.2 ⟨j,by omega,rfl⟩);simpa using this
    rw [this]
   generalize l.getD i iM=u at *
   repeat' first|exact (b bf).elim|refine aS ?_|((conv=>whnf); first|refine aa (au i) (ae _ (aa hx ?_))|refine ⟨fun h=>?_,fun h=>?_⟩|refine ak ?_)
   ·refine Ends.mk (ak rfl) (ay (ax (AV.int IntKind.i64) (c bf).symm))
   ·refine ae (i+1) (aa ⟨a,m bf⟩ (aa ar (LE)))
  ·have b:=dT (show ¬((i:Int)<((l.map bM).length:Int)) by simp; omega);have he:l.take i=l:=bE ar;rw [he] at d
   have f:pY l n = -1:=by
    unfold pY
    have:l.findIdx? (fun x=>decide (x 0=n))=none:=by
     rw [List.findIdx?_eq_none_iff];intro x hx;have:=aN.1 d x hx;simpa using this
    rw [this]
   refine bz ?_;exact Ends.mk (ak rfl) (ay (ax (AV.int IntKind.i64) f.symm))
def kl (x y:bQ):Bool:=if x.ca≠y.ca then decide (x.ca<y.ca) else if x.sat≠y.sat then decide (x.sat<y.sat) else if x.st≠y.st then decide (x.st<y.st) else if x.sa≠y.sa then decide (x.sa<y.sa) else decide (x.cb<y.cb)
theorem BC (x y:bQ):aq Tryz.prog 18 [.agg (bU x),.agg (bU y)] (.bool (kl x y)):=by
 refine aM Kv Tryz.func18 ?_;intro F b w0 m0 hG a h1 kp
 repeat' first|refine aS ?_|((conv=>whnf); first|refine ⟨fun h=>?_,fun h=>?_⟩|refine ak ?_)
 all_goals refine Eb ?_
 all_goals unfold kl
 all_goals simp_all
set_option maxHeartbeats 8000000 in
theorem Bk (l:List jV) (hl:l.length<=1000000) (e:∀ r∈l,r.coef.length<=1000000):aq Tryz.prog 11 [HQ l,HQ l] (.bool true):=by
 refine aM KB Tryz.func11 ?_;intro F f w0 m0 hG d h1 kp
 repeat' first|exact (yy _ bf).elim|refine aS ?_|((conv=>whnf); first|refine ⟨fun h=>?_,fun h=>?_⟩|refine ak ?_)
 refine aJ.loop (X:=Nat) (fun i=>⟨[(5,.int .i64 i),(1,HQ l),(0,HQ l)],[]⟩) (fun i=>i<=l.length) (fun i=>l.length - i) 0 (aU _) (LE) (fun i hi=>?_)
 ·by_cases a:i<l.length
  ·have b:=dF (show (i:Int)<((l.map qr).length:Int) by simp; omega);have hx:=cG qr Ye a;have c0:=Bl _ (e _ (c8 Ye a));generalize l.getD i Ye=u at *;have c:(!true)=true->False:=fun h=>by cases h
   repeat' first|exact (b bf).elim|exact (SU _ bf).elim|exact (yy _ bf).elim|exact (c bf).elim|refine aS ?_|((conv=>whnf); first|refine aa (au i) (ae _ (aa hx ?_))|refine ae _ (aa (c0) ?_)|refine ⟨fun h=>?_,fun h=>?_⟩|refine ak ?_)
   refine ae (i+1) (aa a (aa ar (LE)))
  ·have b:=dT (show ¬((i:Int)<((l.map qr).length:Int)) by simp; omega);refine bz ?_;exact Ez
open Go Go.AI
set_option maxRecDepth 10000
def Pn (id:Int) (x y:Nat->Int):Nat->Int
 | 0=>aF id 24
 | k+1=>ZG x y (k+1)
set_option maxHeartbeats 4000000 in
theorem QH (id:Int) (x y:Nat->Int) (hx:bW (2*bW (10+aF (x 0) 90))≠0):aq Tryz.prog 49 [.int .i64 id,.agg (d8 x),.agg (yA y)] (.agg (bM (Pn id x y))):=by
 exact aaA
def Zy (id:Int) (y:Nat->Int):nY:=⟨aF id 12,aF (y 0) 48,aF (y 1) 24,aF (y 2) 5,bW (1+aF (y 3) 2),aF (bW ((y 3).tdiv 2)) 9⟩
set_option maxHeartbeats 4000000 in
theorem Bm (id:Int) (y:Nat->Int):aq Tryz.prog 15 [.int .i64 id,.agg (yA y)] (.agg (eB (Zy id y))):=by
 refine aM Ky Tryz.func15 ?_;intro F b w0 m0 hG a h1 kp
 repeat' first|refine aS ?_|((conv=>whnf); first|refine ae _ (aa (KQ _ _ bq) ?_)|refine aa (show (2:Int)≠0 by decide) ?_|refine aa bq (aa bq ?_)|refine ⟨fun h=>?_,fun h=>?_⟩|refine ak ?_)
 all_goals exact Ez
def z4:Nat->Int:=fun _=>0
def LL (xs a:List (Nat->Int)) (i:Nat):Nat->Int:=Pn (2*(i:Int)+1) (xs.getD i iM) (a.getD i z4)
def HM (xs a:List (Nat->Int)):List (Nat->Int):=(List.range (min xs.length 3)).map (LL xs a)
set_option maxHeartbeats 4000000 in
theorem M9 (xs a:List (Nat->Int)) (hx:∀ x∈xs,bW (2*bW (10+aF (x 0) 90))≠0):aq Tryz.prog 16 [.sl .no 7 (xs.map d8),.sl .no 4 (a.map yA)] (qC (HM xs a)):=by
 refine aM Kx Tryz.func16 ?_;intro F w w0 m0 hG v h1 kp;refine bz ?_;refine aJ.loop (X:=Nat) (fun i=>⟨[(6,.int .i64 i),(5,.sl (.id 5) 21 (((List.range i).map (LL xs a)).map bM)),(1,.sl .no 4 (a.map yA)),(0,.sl .no 7 (xs.map d8))],[]⟩) (fun i=>i<=min xs.length 3) (fun i=>3 - i) 0 (aU _) (LE) (fun i hi=>?_)
 ·by_cases u:i<min xs.length 3
  ·have f:i<xs.length:=by omega
   have c:=dF (show (i:Int)<((xs.map d8).length:Int) by grind);have e:=dF (show (i:Int)<3 by grind);have r:=cG d8 iM f;have b:((List.range (i+1)).map (LL xs a)).map bM=((List.range i).map (LL xs a)).map bM++[bM (Pn (2*(i:Int)+1) (xs.getD i iM) (a.getD i z4))]:=by rw [dJ]; simp [LL]
   have t:(((List.range i).map (LL xs a)).map bM).length<=3:=by rw [az,az,vQ]; omega
   have p:=hx _ (c8 iM f);have n:IntKind.i64.wrap (IntKind.i64.wrap (2*(i:Int))+1)=2*(i:Int)+1:=by rw [show IntKind.i64.wrap (2*(i:Int))=2*(i:Int) from aZ ar ar]; exact aZ ar ar
   have c0:=fun (y:Nat->Int)=>QH (2*(i:Int)+1) (xs.getD i iM) y p;rw [<- n] at c0;generalize ((List.range i).map (LL xs a)).map bM=row at *;have j:(row.length+1)*168<=70368744177664:=by omega
   have l:row.length+1<=4611686018427387904:=by omega
   generalize xs.getD i iM=x at *;by_cases m:i<a.length
   ·have d:=dF (show (i:Int)<((a.map yA).length:Int) by grind);have hY:=cG yA z4 m;have c1:=c0 (a.getD i z4);generalize a.getD i z4=y at *
    repeat' first|exact (c bf).elim|exact (e bf).elim|exact (d bf).elim|refine aS ?_|((conv=>whnf); first|refine aa (au i) (ae _ (aa r ?_))|refine aa (au i) (ae _ (aa hY ?_))|refine ae _ (aa (c1) ?_)|refine aa j (aa l ?_)|refine ⟨fun h=>?_,fun h=>?_⟩|refine ak ?_)
    refine ae (i+1) (aa ar (aa ar (St.le.of ?_ ?_)))
    ·rw [b,<- n];refine aa (ax some (bL ar)) ?_;exact RF
    ·exact RF
   ·have d:=dT (show ¬((i:Int)<((a.map yA).length:Int)) by grind);have q:a.getD i z4=z4:=by rw [aK,fR ar]; rfl
    rw [q] at b;have c1:=c0 z4
    repeat' first|exact (c bf).elim|exact (e bf).elim|exact (d bf).elim|refine aS ?_|((conv=>whnf); first|refine aa (au i) (ae _ (aa r ?_))|refine ae _ (aa (c1) ?_)|refine aa j (aa l ?_)|refine ⟨fun h=>?_,fun h=>?_⟩|refine ak ?_)
    refine ae (i+1) (aa ar (aa ar (St.le.of ?_ ?_)))
    ·rw [b,<- n];refine aa (ax some (bL ar)) ?_;exact RF
    ·exact RF
  ·have c:decide ((i:Int)<((xs.map d8).length:Int))=true->decide ((i:Int)<3)=true->False:=fun h h2=>by have:=aH h; have:=aH h2; rw [az] at *; omega
   have o:i=min xs.length 3:=by omega
   subst o
   repeat' first|refine aS ?_|((conv=>whnf); first|refine ⟨fun h=>?_,fun h=>?_⟩|refine ak ?_)
   all_goals first | exact (c bf bf).elim | exact Ez
open Go Go.AI
set_option maxRecDepth 10000
theorem Ak (o:Nat->Int) (a b k late:Int) (h:Az o a b k late) (t:Int) (h1:a<=t) (h2:t<b):aq Tryz.prog 119 [.agg (d8 o),.int .i64 t,.int .i64 k,.int .i64 late] (.agg [.int .i64 (A0 o k late t).1,.int .i64 (A0 o k late t).2.1]):=by
 have c1:=UY o t late;obtain ⟨d,e,A,v,m⟩:=h.cell h1 h2;have r:=h.s1;have f:=h.l0;have x:=h.l1;have u:=h.a0;have y:=h.b1;have p:=h.k0;have i:=h.k1;rw [show MD o t late=kS o (t - late) by unfold MD; rw [aX d,aZ ar ar],d] at c1;unfold A0;generalize kS o (t - late)=j at *;obtain ⟨c,l⟩:=j;dsimp only at e A v m;have w:IntKind.i64.wrap (c+k)=c+k:=aZ ar ar;have q:IntKind.i64.wrap (c+k+48)=c+k+48:=aZ ar ar;refine aM GN Tryz.func119 ?_;intro F B w0 m0 hG n h1 kp
 repeat' first|refine aS ?_|((conv=>whnf); first|refine ae _ (aa (c1) ?_)|refine aa (show (48:Int)≠0 by decide) ?_|refine ⟨fun h=>?_,fun h=>?_⟩|refine ak ?_)
 all_goals exact Ends.mk (ak rfl) (ay (ax (fun z=>AV.agg [.int .i64 z,.int .i64 l]) (by rw [w,q])))
set_option maxHeartbeats 8000000 in
theorem Jp (o:Nat->Int) (a b k late:Int) (h:Az o a b k late) (hv:g9 o a b k=true):lP Tryz.prog 117 [5000000] [] [.agg (d8 o),.agg (cj a b),.int .i64 k,.int .i64 late] [] (fun r Q=>∃ e cap,r = .tup [.agg [nQ e 24 cap],.int .i64 0]/\Q=[(5000000,.me (.row e cap) 5000000 1 ((nC o a b k late).map fun h=>[AV.int .i64 h]))]):=by
 have c0:=nG o a b k;rw [hv] at c0;have E:=h.rng;have P:=h.l0;have hl1:=h.l1;have hs1:=h.s1;have U:=h.ab;have ha0:=h.a0;have hb1:=h.b1;have hm:=h.m;have N:IntKind.i64.wrap (0 - o 6) = -(o 6):=(aZ ar ar).trans ar;have u:=dT (show ¬(late<IntKind.i64.wrap (0 - o 6)) by omega);have q:=dT (show ¬(late>o 6) by omega);have B:=Ak o a b k late h;have D:(b - a).toNat<=60:=by omega
 have hA:nC o a b k late=sX tE (Lq o a b k late):=rfl;rw [hA];have x:=fun (i:Nat) (hi:i<(b - a).toNat)=>NU o a b k late hi;have hlen:=C3 o a b k late;generalize Lq o a b k late=items at *;refine lP.ofB af Tryz.func117 rfl aI bh (ah rfl) ?_;intro F n' w0 m0 hG Z h1;refine aJ.seq ?_;have kp:KP vq := .mk
 repeat' first|refine du ?_|((conv=>whnf); first|refine ⟨fun h=>?_,fun h=>?_⟩|refine ak ?_)
 refine aJ.seq ?_;refine aJ.seq ?_
 repeat' first|exact (u bf).elim|exact (q bf).elim|refine du ?_|((conv=>whnf); first|refine ae _ (aa (c0) ?_)|refine ⟨fun h=>?_,fun h=>?_⟩|refine ak ?_)
 conv=>whnf
 repeat' first|exact (u bf).elim|exact (q bf).elim|refine du ?_|((conv=>whnf); first|refine ⟨fun h=>?_,fun h=>?_⟩|refine ak ?_)
 refine aJ.seq ?_;refine jh hG af vq 0 aI ?_
 conv=>whnf
 refine ae _ (ae _ (ae _ (ae _ (aa (aa aI (aa aI (nI))) ?_))));rintro r L2 ⟨e,cap,rfl,rfl⟩
 conv=>whnf
 refine aJ.seq ?_
 repeat' first|refine du ?_|((conv=>whnf); first|refine ⟨fun h=>?_,fun h=>?_⟩|refine ak ?_)
 refine aJ.seq ?_;refine bz ?_;refine aJ.loop (X:=Nat) (fun i=>⟨[(11,.int .i64 (a+(i:Int))),(10,.loc 10 0),(xk 5000000,.me (.row e cap) 5000000 1 ((sX tE (items.take i)).map fun h=>[AV.int .i64 h])),(9,.int .i64 0),(8,.loc 8 0),(5,.loc 5 0),(4,.loc 4 0),(2,.int .i64 k),(3,.int .i64 late)],[(10,[nQ e 24 cap]),(8,[.sl (.id (nu 8 0)) 0 []]),(5,cj a b),(4,d8 o)]⟩) (fun i=>i<=items.length) (fun i=>items.length - i) 0 (aU _) (St.le.of ?_ ?_) (fun i hi=>?_)
 ·refine aa (ax (fun z=>some (AV.int .i64 z)) (RY a).symm) ?_;exact RF
 ·exact RF
 ·by_cases j:i<items.length
  ·have f:=dF (show a+(i:Int)<b by omega);have Mo:items[i]?=some (A0 o k late (a+(i:Int))):=x i ar;have d:items.getD i (0,0,0)=A0 o k late (a+(i:Int)):=by rw [aK,Mo]; rfl
   have l:=dz (0,0,0) j;rw [d] at l;have c1:=B (a+(i:Int)) ar ar;obtain ⟨v,H,w,A,_,_⟩:=E _ (aC Mo);have c:=Pt tE (items.take i) (A0 o k late (a+(i:Int)));rw [<- l] at c;have G:(sX tE (items.take i)).length=24:=by rw [za]; rfl
   have J:IntKind.i64.wrap (a+(i:Int)+1)=a+((i+1:Nat):Int):=(aZ ar ar).trans (by push_cast; omega);generalize sX tE (items.take i)=n at *;generalize A0 o k late (a+(i:Int))=p at *;obtain ⟨px,t,pt⟩:=p;dsimp only at v H w A c;have hL:(n.map fun h=>[AV.int .i64 h]).length=24:=by rw [az]; exact G
   have y:t<((24:Nat):Int):=by omega
   have M:(n.map fun h=>[AV.int .i64 h])[t.toNat]?=some [AV.int .i64 (n.getD t.toNat 0)]:=by simp [ai (show t.toNat<n.length by omega)]
   repeat' first|exact (f bf).elim|refine aS ?_|((conv=>whnf); first|refine ae 5000000 (ae _ (ae _ (ae _ (aa (aa rfl (aa rfl hL)) ?_))))|refine aa w (aa y ?_)|refine ae _ (aa M ?_)|refine aa v ?_|refine ae _ (aa (c1) ?_)|refine ⟨fun h=>?_,fun h=>?_⟩|refine ak ?_)
   refine ae (i+1) (aa j (aa ar (St.le.of ?_ ?_)))
   ·refine aa (ax (fun z=>some (AV.int .i64 z)) J) ?_
    repeat' (first | exact trivial | refine aa rfl ?_ | refine aa (ax (fun z=>some (AV.me (.row e cap) 5000000 1 z)) (by rw [c]; exact mJ n t.toNat _)) ?_ | fail)
   ·exact RF
  ·have f:=dT (show ¬(a+(i:Int)<b) by omega);have L:i=items.length:=by omega
   subst L;rw [dl];refine bz ?_;exact gc.mk (ak rfl) (ae _ (ae _ (aa (ae e (ae cap (aa rfl rfl))) (aa (ak (ay rfl)) (aa aI aI)))))
open Go Go.AI
set_option maxRecDepth 10000
def zC (p:Int×Int×Int):Int:=ky (p.1,p.2.1) p.2.2
def ko (q:Int×Int) (l:List (Int×Int×Int)):Int×Int:=l.foldl (fun q p=>(min q.1 (zC p),max q.2 (zC p))) q
def iI (o:Nat->Int) (a b k:Int):Nat->Int×Int
 | 0=>(1000,-1000)
 | n+1=>ko (iI o a b k n) (Lq o a b k (-(o 6)+(n:Int)))
theorem LG (q:Int×Int) (l:List (Int×Int×Int)) (p:Int×Int×Int):ko q (l++[p])=(min (ko q l).1 (zC p),max (ko q l).2 (zC p)):=by simp [ko]
theorem Az.late {o:Nat->Int} {a b k late:Int} (h:Az o a b k late) (l2:Int) (h1:-(o 6)<=l2) (h2:l2<=o 6):Az o a b k l2:=⟨h.pv,h.a0,h.ab,h.b1,h.m,h.k0,h.k1,h.s1,h1,h2⟩
set_option maxHeartbeats 8000000 in
theorem M8 (o:Nat->Int) (a b k:Int) (h:Az o a b k 0) (hv:g9 o a b k=true):aq Tryz.prog 54 [.agg (d8 o),.agg (cj a b),.int .i64 k] (.tup [.int .i64 (iI o a b k (2*o 6+1).toNat).1,.int .i64 (iI o a b k (2*o 6+1).toNat).2,.int .i64 0]):=by
 have c0:=nG o a b k;rw [hv] at c0;have hK:=h;have v:=h.s1;have hl0:=h.l0;have hl1:=h.l1;have hab:=h.ab;have ha0:=h.a0;have hb1:=h.b1;have hm:=h.m;have G:(b - a).toNat<=60:=by omega
 have A:IntKind.i64.wrap (0 - o 6) = -(o 6):=(aZ ar ar).trans ar;refine aM Kc Tryz.func54 ?_;intro F n' w0 m0 hG hro h1 kp;refine bz ?_;refine aJ.loop (X:=Nat) (fun n=>⟨[(11,.int .i64 (-(o 6)+((n:Nat):Int))),(9,.int .i64 (iI o a b k n).1),(10,.int .i64 (iI o a b k n).2),(8,.int .i64 0),(4,.loc 4 0),(3,.loc 3 0),(2,.int .i64 k)],[(4,cj a b),(3,d8 o)]⟩) (fun n=>n<=(2*o 6+1).toNat) (fun n=>(2*o 6+1).toNat - n) 0 (aU _) (St.le.of ?_ ?_) (fun n hn=>?_)
 ·refine aa (ax (fun z=>some (AV.int .i64 z)) (A.trans (RY _).symm)) ?_;exact RF
 ·exact RF
 ·by_cases d:n<(2*o 6+1).toNat
  ·have u:iI o a b k (n+1)=ko (iI o a b k n) (Lq o a b k (-(o 6)+(n:Int))):=rfl;have w:IntKind.i64.wrap (-(o 6)+(n:Int)+1) = -(o 6)+((n+1:Nat):Int):=(aZ ar ar).trans (by push_cast; omega);obtain ⟨late,e⟩:∃ late,-(o 6)+(n:Int)=late:=⟨_,rfl⟩;have U:=hK.late late ar ar;rw [e] at w u ⊢;have y:=dF (show late<=o 6 by omega);have E:=Ak o a b k late U;have H:=U.rng;have x:=fun (i:Nat) (hi:i<(b - a).toNat)=>NU o a b k late hi;have hlen:=C3 o a b k late;generalize Lq o a b k late=items at *;generalize iI o a b k n=r at *;refine bz ?_;refine aJ.loop (X:=Nat) (fun i=>⟨[(12,.int .i64 (a+(i:Int))),(11,.int .i64 late),(9,.int .i64 (ko r (items.take i)).1),(10,.int .i64 (ko r (items.take i)).2),(8,.int .i64 0),(4,.loc 4 0),(3,.loc 3 0),(2,.int .i64 k)],[(4,cj a b),(3,d8 o)]⟩) (fun i=>i<=items.length) (fun i=>items.length - i) 0 (aU _) (St.le.of ?_ ?_) (fun i hi=>?_)
   ·refine aa (ax (fun z=>some (AV.int .i64 z)) (RY a).symm) ?_;exact RF
   ·exact RF
   ·by_cases d:i<items.length
    ·have l:=dF (show a+(i:Int)<b by omega);have Mo:items[i]?=some (A0 o k late (a+(i:Int))):=x i ar;have f:items.getD i (0,0,0)=A0 o k late (a+(i:Int)):=by rw [aK,Mo]; rfl
     have t:=dz (0,0,0) d;rw [f] at t;have c1:=E (a+(i:Int)) ar ar;obtain ⟨M,J,P,D,_,_⟩:=H _ (aC Mo);have c:=LG r (items.take i) (A0 o k late (a+(i:Int)));rw [<- t] at c;have B:zC (A0 o k late (a+(i:Int)))=ky ((A0 o k late (a+(i:Int))).1,(A0 o k late (a+(i:Int))).2.1) (a+(i:Int)):=rfl;have c2:=QC ((A0 o k late (a+(i:Int))).1,(A0 o k late (a+(i:Int))).2.1) (a+(i:Int)) (by simp [cQ]; omega) (by simp [kC,cQ]; omega);have N:IntKind.i64.wrap (a+(i:Int)+1)=a+((i+1:Nat):Int):=(aZ ar ar).trans (by push_cast; omega);rw [B] at c;generalize A0 o k late (a+(i:Int))=p at *;obtain ⟨Z,py,pt⟩:=p;dsimp only at M J P D c c1 c2;generalize ky (Z,py) (a+(i:Int))=Q at *;generalize ko r (items.take i)=q at *;have v:min q.1 Q=(ko r (items.take (i+1))).1:=by rw [c]
     have L:max q.2 Q=(ko r (items.take (i+1))).2:=by rw [c]
     repeat' first|exact (l bf).elim|refine aS ?_|((conv=>whnf); first|refine ae _ (aa (c1) ?_)|refine ae _ (aa (c2) ?_)|refine ⟨fun h=>?_,fun h=>?_⟩|refine ak ?_)
     refine ae (i+1) (aa d (aa ar (St.le.of ?_ ?_)))
     ·refine aa (ax (fun z=>some (AV.int .i64 z)) N) ?_
      repeat' (first | exact trivial | refine aa rfl ?_ | refine aa (ax (fun z=>some (AV.int .i64 z)) v) ?_ | refine aa (ax (fun z=>some (AV.int .i64 z)) L) ?_ | fail)
     ·exact RF
    ·have l:=dT (show ¬(a+(i:Int)<b) by omega);have j:i=items.length:=by omega
     subst j;rw [dl]
     repeat' first|exact (l bf).elim|refine aS ?_|((conv=>whnf); first|refine ⟨fun h=>?_,fun h=>?_⟩|refine ak ?_)
     refine ae (n+1) (aa ar (aa ar (St.le.of ?_ ?_)))
     ·refine aa (ax (fun z=>some (AV.int .i64 z)) w) ?_
      repeat' (first | exact trivial | refine aa rfl ?_ | refine aa (ax (fun z=>some (AV.int .i64 z)) (by rw [u])) ?_ | fail)
     ·exact RF
  ·have y:=dT (show ¬(-(o 6)+(n:Int)<=o 6) by omega);have j:n=(2*o 6+1).toNat:=by omega
   subst j;refine bz ?_;exact Ez
open Go Go.AI
set_option maxRecDepth 10000
def kn (f:Nat->Int):List AV:=(List.range 1152).map fun j=>AV.int .i64 (f j)
theorem uR (f:Nat->Int) {j:Nat} (h:j<1152):(kn f)[j]?=some (.int .i64 (f j)):=by simp [kn,h]
def qL (f g:Nat->Int) (m:Nat):Nat->Int:=fun j=>if j<m then g j else f j
theorem PJ (f g:Nat->Int):qL f g 0=f:=by funext j; simp [qL]
theorem SWx (f g:Nat->Int):kn (qL f g 1152)=kn g:=by
 unfold kn;refine eG fun j hj=>?_;rw [bB] at hj;rw [qL,aX hj]
theorem Wt (f g:Nat->Int) (m:Nat):qL f g m m=f m:=by simp [qL]
theorem Xe (f g:Nat->Int) {m:Nat} (h:m<1152) (x:Int) (hx:x=g m):dD (kn (qL f g m)) m (.int .i64 x)=kn (qL f g (m+1)):=by
 subst hx;refine vR fun i=>?_;rw [eh];by_cases hi:i<1152
 ·rw [uR _ hi];split
  ·rename_i a;rw [<- a.1,uR _ h];show some (AV.int .i64 (g m))=some (AV.int .i64 (if m<m+1 then g m else f m));rw [aX ar]
  ·rename_i a;rw [uR _ hi];have:i≠m:=fun e=>a ⟨e.symm,by simp [kn]; omega⟩;show some (AV.int .i64 (if i<m then g i else f i))=some (AV.int .i64 (if i<m+1 then g i else f i));by_cases h2:i<m
   ·rw [aX h2,aX ar]
   ·rw [aV h2,aV ar]
 ·have hz:∀ f,(kn f)[i]?=none:=fun f=>fR (by simp [kn]; omega);rw [hz,hz];split
  ·rename_i a; exfalso; omega
  ·rfl
def Dp:TI:=⟨1,8,.int .i64 0,[],0,0,4,.i64,false⟩
theorem nv {cs:List AV} {off:Nat} {x:Int} (hx:cs[off]?=some (.int .i64 x)):eO Dp (cs.drop off)=some (.int .i64 x):=by
 have h:=(am.1 hx);rw [dq h.1,h.2];rfl
theorem Yw {l a:List AV} {K:List AV->Prop} (h:l=a) (b:K a):Mt l K:=by subst h; rw [lU]; exact b
def MK (a:List Int) (r c:Nat):Int:=((a.getD r 0).fdiv (2 ^ min (c:Int).toNat 64)).tmod 2
def rg (o:Nat->Int) (a b k:Int):Nat->Nat->Int
 | 0,_=>0
 | n+1,j=>bW (rg o a b k n j+MK (nC o a b k (-(o 6)+(n:Int))) (j / 48) (j % 48))
def ki (P:Nat->Nat->Bool):Nat->List Int
 | 0=>tE
 | m+1=>if P (m / 48) (m % 48) then (ki P m).set (m / 48) (SJ ((ki P m).getD (m / 48) 0) (m % 48:Nat)) else ki P m
theorem kr (P:Nat->Nat->Bool):∀ m,(ki P m).length=24
 | 0=>rfl
 | m+1=>by
  have:=kr P m;unfold ki;split
  ·rw [List.length_set]; exact this
  ·exact this
theorem H2 {P:Nat->Nat->Bool} {r c:Nat} (a:c<48) (h:P r c=true):ki P (48*r+(c+1))=(ki P (48*r+c)).set r (SJ ((ki P (48*r+c)).getD r 0) c):=by
 rw [<- dV]
 conv=>lhs; unfold ki
 rw [show (48*r+c) / 48=r by omega,show (48*r+c) % 48=c by omega,aX h]
theorem Oj {P:Nat->Nat->Bool} {r c:Nat} (a:c<48) (h:P r c=false):ki P (48*r+(c+1))=ki P (48*r+c):=by
 rw [<- dV]
 conv=>lhs; unfold ki
 rw [show (48*r+c) / 48=r by omega,show (48*r+c) % 48=c by omega,aV (by rw [h]; simp)]
def lQ (o:Nat->Int) (a b k:Int):List Int×List Int:=(ki (fun r c=>decide (rg o a b k (2*o 6+1).toNat (48*r+c)=2*o 6+1)) 1152,ki (fun r c=>decide (rg o a b k (2*o 6+1).toNat (48*r+c)>0)) 1152)
set_option maxHeartbeats 32000000 in
theorem Jo (o:Nat->Int) (a b k:Int) (h:Az o a b k 0) (hv:g9 o a b k=true):aq Tryz.prog 53 [.agg (d8 o),.agg (cj a b),.int .i64 k] (.tup [.agg [bu (lQ o a b k).1,bu (lQ o a b k).2],.int .i64 0]):=by
 have c0:=nG o a b k;rw [hv] at c0;have hK:=h;have hs1:=h.s1;have hl0:=h.l0;have B:=h.l1;have hng:IntKind.i64.wrap (0 - o 6) = -(o 6):=(aZ ar ar).trans ar;refine aM ro Tryz.func53 ?_;intro F n' w0 m0 hG hro h1 kp;refine bz ?_;refine aJ.loop (X:=Nat) (fun n=>⟨[(9,.int .i64 (-(o 6)+((n:Nat):Int))),(8,.loc 8 0),(7,.int .i64 0),(6,.loc 6 0),(4,.loc 4 0),(3,.loc 3 0),(2,.int .i64 k)],[(8,kn (rg o a b k n)),(6,[.sl (.id 1006000) 0 [],.sl (.id 1006001) 0 []]),(4,cj a b),(3,d8 o)]⟩) (fun n=>n<=(2*o 6+1).toNat) (fun n=>(2*o 6+1).toNat - n) 0 (aU _) (St.le.of ?_ ?_) (fun n hn=>?_)
 ·refine aa (ax (fun z=>some (AV.int .i64 z)) (hng.trans (RY _).symm)) ?_;exact RF
 ·exact RF
 ·by_cases hlt:n<(2*o 6+1).toNat
  ·have hdf:∀ j,rg o a b k (n+1) j=bW (rg o a b k n j+MK (nC o a b k (-(o 6)+(n:Int))) (j / 48) (j % 48)):=fun _=>rfl;have hnx:IntKind.i64.wrap (-(o 6)+(n:Int)+1) = -(o 6)+((n+1:Nat):Int):=(aZ ar ar).trans (by push_cast; omega);obtain ⟨late,Q⟩:∃ late,-(o 6)+(n:Int)=late:=⟨_,rfl⟩;have hS:=hK.late late ar ar;rw [Q] at hnx hdf ⊢;have x:=dF (show late<=o 6 by omega);have hc:=Jp o a b k late hS hv;have hzl:(nC o a b k late).length=24:=Qs o a b k late;generalize nC o a b k late=M at *;obtain ⟨f,hf⟩:∃ f,rg o a b k n=f:=⟨_,rfl⟩;obtain ⟨g,hg⟩:∃ g,rg o a b k (n+1)=g:=⟨_,rfl⟩;rw [hf];have hL:(M.map fun h=>[AV.int .i64 h]).length=24:=by rw [az]; exact hzl
   refine aJ.seq ?_
   repeat' first|exact (x bf).elim|refine du ?_|((conv=>whnf); first|refine ⟨fun h=>?_,fun h=>?_⟩|refine ak ?_)
   refine aJ.seq ?_
   repeat' first|exact (x bf).elim|refine du ?_|((conv=>whnf); first|refine ⟨fun h=>?_,fun h=>?_⟩|refine ak ?_)
   conv=>whnf
   refine aJ.seq ?_;refine aJ.block ?_;refine aJ.seq ?_;refine jh hG af ro 4 aI ?_
   conv=>whnf
   refine ae _ (ae _ (ae _ (ae _ (aa (aa aI (aa aI (hc))) ?_))));rintro r L2 ⟨bk,cap,rfl,rfl⟩
   conv=>whnf
   refine bz ?_;refine aJ.loop (X:=Nat) (fun r=>⟨[(12,.int .i64 r),(11,.int .i64 0),(10,.loc 10 0),(xk 5000000,.me (.row bk cap) 5000000 1 (M.map fun h=>[AV.int .i64 h])),(9,.int .i64 late),(8,.loc 8 0),(7,.int .i64 0),(6,.loc 6 0),(4,.loc 4 0),(3,.loc 3 0),(2,.int .i64 k)],[(10,[nQ bk 24 cap]),(8,kn (qL f g (48*r))),(6,[.sl (.id 1006000) 0 [],.sl (.id 1006001) 0 []]),(4,cj a b),(3,d8 o)]⟩) (fun r=>r<=24) (fun r=>24 - r) 0 (aU _) (St.le.of ?_ ?_) (fun r hr=>?_)
   ·exact RF
   ·refine aa rfl (aa (ax (fun z=>some (kn z)) (PJ f g).symm) ?_);exact RF
   ·by_cases hrt:r<24
    ·have w:=dF (show (r:Int)<24 by omega);have hgm:(M.map fun h=>[AV.int .i64 h])[(r:Int).toNat]?=some [AV.int .i64 (M.getD r 0)]:=by simp [ai (show r<M.length by omega)]
     refine bz ?_;refine aJ.loop (X:=Nat) (fun c=>⟨[(13,.int .i64 c),(12,.int .i64 r),(11,.int .i64 0),(10,.loc 10 0),(xk 5000000,.me (.row bk cap) 5000000 1 (M.map fun h=>[AV.int .i64 h])),(9,.int .i64 late),(8,.loc 8 0),(7,.int .i64 0),(6,.loc 6 0),(4,.loc 4 0),(3,.loc 3 0),(2,.int .i64 k)],[(10,[nQ bk 24 cap]),(8,kn (qL f g (48*r+c))),(6,[.sl (.id 1006000) 0 [],.sl (.id 1006001) 0 []]),(4,cj a b),(3,d8 o)]⟩) (fun c=>c<=48) (fun c=>48 - c) 0 (aU _) (LE) (fun c hc=>?_)
     ·by_cases A:c<48
      ·have l:=dF (show (c:Int)<48 by omega);have hm:48*r+c<1152:=by omega
       have e:=uR (qL f g (48*r+c)) hm;rw [Wt] at e;have hble:(Nat.ble (0+(r:Int).toNat*48+(c:Int).toNat*1+1) (kn (qL f g (48*r+c))).length&&true)=true:=by simp [kn]; omega
       have hgj:IntKind.i64.wrap (f (48*r+c)+((M.getD r 0).fdiv (2 ^ min (c:Int).toNat IntKind.i64.bits)).tmod 2)=g (48*r+c):=by rw [<- hg,<- hf,hdf,show (48*r+c) / 48=r by omega,show (48*r+c) % 48=c by omega]; rfl
       have hset:tZ (kn (qL f g (48*r+c))) (0+(r:Int).toNat*48+(c:Int).toNat*1) [.int .i64 (IntKind.i64.wrap (f (48*r+c)+((M.getD r 0).fdiv (2 ^ min (c:Int).toNat IntKind.i64.bits)).tmod 2))]=kn (qL f g (48*r+(c+1))):=by
        rw [show 0+(r:Int).toNat*48+(c:Int).toNat*1=48*r+c by simp; omega,hgj];rw [HK];exact Xe f g hm _ rfl
       have i:0+(r:Int).toNat*48+(c:Int).toNat*1=48*r+c:=by simp; omega
       repeat' first|exact (l bf).elim|refine aS ?_|((conv=>whnf); first|refine ae 5000000 (ae _ (ae _ (ae _ (aa (aa rfl (aa rfl hL)) ?_))))|refine aa (au r) (aa (show (r:Int)<24 by omega) ?_)|refine aa (au c) (aa (show (c:Int)<48 by omega) ?_)|refine ae _ (aa hgm ?_)|refine ae _ (aa e ?_)|refine aa (au c) ?_|refine aa (show (2:Int)≠0 by decide) ?_|refine ⟨fun h=>?_,fun h=>?_⟩|refine ak ?_)
       conv=>whnf
       split
       ·rename_i v hv;have d:eO Dp (List.drop (0+(r:Int).toNat*48+(c:Int).toNat*1) (kn (qL f g (48*r+c))))=some v:=hv;rw [i,nv e] at d;cases d;clear hv
        repeat' first|exact (l bf).elim|refine aS ?_|((conv=>whnf); first|refine ae 5000000 (ae _ (ae _ (ae _ (aa (aa rfl (aa rfl hL)) ?_))))|refine aa (au r) (aa (show (r:Int)<24 by omega) ?_)|refine aa (au c) (aa (show (c:Int)<48 by omega) ?_)|refine ae _ (aa hgm ?_)|refine aa (au c) ?_|refine aa (show (2:Int)≠0 by decide) ?_|refine ⟨fun h=>?_,fun h=>?_⟩|refine ak ?_)
        conv=>whnf
        split
        ·conv=>whnf
         refine Yw hset ?_
         repeat' first|exact (l bf).elim|refine aS ?_|((conv=>whnf); first|refine ⟨fun h=>?_,fun h=>?_⟩|refine ak ?_)
         refine ae (c+1) (aa ar (aa ar (LE)))
        ·rename_i hb;exact Bool.noConfusion (hb.symm.trans hble)
       ·rename_i hv;have d:eO Dp (List.drop (0+(r:Int).toNat*48+(c:Int).toNat*1) (kn (qL f g (48*r+c))))=none:=hv;rw [i,nv e] at d;cases d
      ·have l:=dT (show ¬((c:Int)<48) by omega);have m:c=48:=by omega
       subst m
       repeat' first|exact (l bf).elim|refine aS ?_|((conv=>whnf); first|refine ⟨fun h=>?_,fun h=>?_⟩|refine ak ?_)
       refine ae (r+1) (aa ar (aa ar (LE)))
    ·have w:=dT (show ¬((r:Int)<24) by omega);have m:r=24:=by omega
     subst m;have hall:kn (qL f g (48*24))=kn g:=SWx f g;rw [hall];rw [<- hg]
     repeat' first|exact (w bf).elim|refine aS ?_|((conv=>whnf); first|refine ⟨fun h=>?_,fun h=>?_⟩|refine ak ?_)
     refine ae (n+1) (aa ar (aa ar (St.le.of ?_ ?_)))
     ·refine aa (ax (fun z=>some (AV.int .i64 z)) hnx) ?_;exact RF
     ·exact RF
  ·have x:=dT (show ¬(-(o 6)+(n:Int)<=o 6) by omega);have m:n=(2*o 6+1).toNat:=by omega
   subst m;obtain ⟨kR,L⟩:∃ kR,rg o a b k (2*o 6+1).toNat=kR:=⟨_,rfl⟩;rw [L];refine aJ.seq ?_
   repeat' first|exact (x bf).elim|refine du ?_|((conv=>whnf); first|refine ⟨fun h=>?_,fun h=>?_⟩|refine ak ?_)
   refine aJ.seq ?_
   repeat' first|exact (x bf).elim|refine du ?_|((conv=>whnf); first|refine ⟨fun h=>?_,fun h=>?_⟩|refine ak ?_)
   conv=>whnf
   refine aJ.seq ?_;refine Vm hG af ro [0,1] [0] aI ?_
   conv=>whnf
   refine ae _ (ae _ (ae _ (ae _ (aa (aa aI (aa aI (nI))) ?_))));rintro r L2 ⟨b1,c1,rfl,rfl⟩
   conv=>whnf
   refine Tr.re 5000000 6000000 rfl rfl ?_;refine Tr.done ?_
   conv=>whnf
   refine ae _ (ae _ (ae _ (ae _ (aa (aa aI (aa aI (nI))) ?_))));rintro r L2 ⟨H,c2,rfl,rfl⟩
   conv=>whnf
   refine bz ?_;obtain ⟨t,hPS⟩:∃ t:Nat->Nat->Bool,t=fun r c=>decide (kR (48*r+c)=2*o 6+1):=⟨_,rfl⟩;obtain ⟨p,U⟩:∃ p:Nat->Nat->Bool,p=fun r c=>decide (kR (48*r+c)>0):=⟨_,rfl⟩;refine aJ.loop (X:=Nat) (fun r=>⟨[(15,.int .i64 r),(14,.loc 14 0),(xk 6000000,.me (.row b1 c1) 6000000 1 ((ki t (48*r)).map fun h=>[AV.int .i64 h])),(xk 5000000,.me (.row H c2) 5000000 1 ((ki p (48*r)).map fun h=>[AV.int .i64 h])),(8,.loc 8 0),(7,.int .i64 0),(6,.loc 6 0),(4,.loc 4 0),(3,.loc 3 0),(2,.int .i64 k)],[(14,[nQ b1 24 c1,nQ H 24 c2]),(8,kn kR),(6,[.sl (.id 1006000) 0 [],.sl (.id 1006001) 0 []]),(4,cj a b),(3,d8 o)]⟩) (fun r=>r<=24) (fun r=>24 - r) 0 (aU _) (LE) (fun r hr=>?_)
   ·by_cases hrt:r<24
    ·have w:=dF (show (r:Int)<24 by omega);refine bz ?_;refine aJ.loop (X:=Nat) (fun c=>⟨[(16,.int .i64 c),(15,.int .i64 r),(14,.loc 14 0),(xk 6000000,.me (.row b1 c1) 6000000 1 ((ki t (48*r+c)).map fun h=>[AV.int .i64 h])),(xk 5000000,.me (.row H c2) 5000000 1 ((ki p (48*r+c)).map fun h=>[AV.int .i64 h])),(8,.loc 8 0),(7,.int .i64 0),(6,.loc 6 0),(4,.loc 4 0),(3,.loc 3 0),(2,.int .i64 k)],[(14,[nQ b1 24 c1,nQ H 24 c2]),(8,kn kR),(6,[.sl (.id 1006000) 0 [],.sl (.id 1006001) 0 []]),(4,cj a b),(3,d8 o)]⟩) (fun c=>c<=48) (fun c=>48 - c) 0 (aU _) (LE) (fun c hc=>?_)
     ·by_cases A:c<48
      ·have l:=dF (show (c:Int)<48 by omega);have e:=uR kR (show 48*r+c<1152 by omega);have i:0+(r:Int).toNat*48+(c:Int).toNat*1=48*r+c:=by simp; omega
       have hwr:IntKind.i64.wrap (IntKind.i64.wrap (2*o 6)+1)=2*o 6+1:=by rw [show IntKind.i64.wrap (2*o 6)=2*o 6 from aZ ar ar]; exact aZ ar ar
       have N:t r c=decide (kR (48*r+c)=2*o 6+1):=by rw [hPS]
       have u:p r c=decide (kR (48*r+c)>0):=by rw [U]
       have ey1:=fun h=>H2 (P:=t) (r:=r) (c:=c) A h;have en1:=fun h=>Oj (P:=t) (r:=r) (c:=c) A h;have ey2:=fun h=>H2 (P:=p) (r:=r) (c:=c) A h;have en2:=fun h=>Oj (P:=p) (r:=r) (c:=c) A h;have B:=kr t (48*r+c);have Z:=kr p (48*r+c);generalize ki t (48*r+c)=z1 at *;generalize ki p (48*r+c)=z2 at *;have D:(z1.map fun h=>[AV.int .i64 h]).length=24:=by rw [az]; exact B
       have J:(z2.map fun h=>[AV.int .i64 h]).length=24:=by rw [az]; exact Z
       have E:(z1.map fun h=>[AV.int .i64 h])[(r:Int).toNat]?=some [AV.int .i64 (z1.getD r 0)]:=by simp [ai (show r<z1.length by omega)]
       have G:(z2.map fun h=>[AV.int .i64 h])[(r:Int).toNat]?=some [AV.int .i64 (z2.getD r 0)]:=by simp [ai (show r<z2.length by omega)]
       repeat' first|exact (l bf).elim|refine aS ?_|((conv=>whnf); first|refine aa (au r) (aa (show (r:Int)<24 by omega) ?_)|refine aa (au c) (aa (show (c:Int)<48 by omega) ?_)|refine ae 6000000 (ae _ (ae _ (ae _ (aa (aa rfl (aa rfl D)) ?_))))|refine ae 5000000 (ae _ (ae _ (ae _ (aa (aa rfl (aa rfl J)) ?_))))|refine ae _ (aa E ?_)|refine ae _ (aa G ?_)|refine aa (au c) ?_|refine ⟨fun h=>?_,fun h=>?_⟩|refine ak ?_)
       conv=>whnf
       split
       ·rename_i v hv;have d:eO Dp (List.drop (0+(r:Int).toNat*48+(c:Int).toNat*1) (kn kR))=some v:=hv;rw [i,nv e] at d;cases d;clear hv
        repeat' first|exact (l bf).elim|refine aS ?_|((conv=>whnf); first|refine aa (au r) (aa (show (r:Int)<24 by omega) ?_)|refine aa (au c) (aa (show (c:Int)<48 by omega) ?_)|refine ae 6000000 (ae _ (ae _ (ae _ (aa (aa rfl (aa rfl D)) ?_))))|refine ae 5000000 (ae _ (ae _ (ae _ (aa (aa rfl (aa rfl J)) ?_))))|refine ae _ (aa E ?_)|refine ae _ (aa G ?_)|refine aa (au c) ?_|refine ⟨fun h=>?_,fun h=>?_⟩|refine ak ?_)
        ·have y:t r c=true:=by rw [N]; have h:=(by assumption:(kR (48*r+c)==IntKind.i64.wrap (IntKind.i64.wrap (2*o 6)+1))=true); rw [hwr] at h; exact dQ (eq_of_beq h)
         conv=>whnf
         split
         ·rename_i v hv;have d:eO Dp (List.drop (0+(r:Int).toNat*48+(c:Int).toNat*1) (kn kR))=some v:=hv;rw [i,nv e] at d;cases d;clear hv
          repeat' first|exact (l bf).elim|refine aS ?_|((conv=>whnf); first|refine aa (au r) (aa (show (r:Int)<24 by omega) ?_)|refine aa (au c) (aa (show (c:Int)<48 by omega) ?_)|refine ae 6000000 (ae _ (ae _ (ae _ (aa (aa rfl (aa rfl D)) ?_))))|refine ae 5000000 (ae _ (ae _ (ae _ (aa (aa rfl (aa rfl J)) ?_))))|refine ae _ (aa E ?_)|refine ae _ (aa G ?_)|refine aa (au c) ?_|refine ⟨fun h=>?_,fun h=>?_⟩|refine ak ?_)
          ·have q:p r c=true:=u.trans (by assumption:decide (kR (48*r+c)>0)=true);refine ae (c+1) (aa ar (aa ar (St.le.of ?_ ?_)))
           ·refine aa (ax some (bL ar)) ?_
            repeat' (first | exact trivial | refine aa rfl ?_ | refine aa (ax (fun z=>some (AV.me (.row b1 c1) 6000000 1 z)) (by rw [ey1 y]; exact mJ z1 r _)) ?_ | refine aa (ax (fun z=>some (AV.me (.row H c2) 5000000 1 z)) (by rw [ey2 q]; exact mJ z2 r _)) ?_ | fail)
           ·exact RF
          ·have q:p r c=false:=u.trans (by assumption:decide (kR (48*r+c)>0)=false);refine ae (c+1) (aa ar (aa ar (St.le.of ?_ ?_)))
           ·refine aa (ax some (bL ar)) ?_
            repeat' (first | exact trivial | refine aa rfl ?_ | refine aa (ax (fun z=>some (AV.me (.row b1 c1) 6000000 1 z)) (by rw [ey1 y]; exact mJ z1 r _)) ?_ | refine aa (ax (fun z=>some (AV.me (.row H c2) 5000000 1 z)) (by rw [en2 q])) ?_ | fail)
           ·exact RF
         ·rename_i hv;have d:eO Dp (List.drop (0+(r:Int).toNat*48+(c:Int).toNat*1) (kn kR))=none:=hv;rw [i,nv e] at d;cases d
        ·have y:t r c=false:=by rw [N]; have h:=(by assumption:(kR (48*r+c)==IntKind.i64.wrap (IntKind.i64.wrap (2*o 6)+1))=false); rw [hwr] at h; exact eq (by simpa using h)
         conv=>whnf
         split
         ·rename_i v hv;have d:eO Dp (List.drop (0+(r:Int).toNat*48+(c:Int).toNat*1) (kn kR))=some v:=hv;rw [i,nv e] at d;cases d;clear hv
          repeat' first|exact (l bf).elim|refine aS ?_|((conv=>whnf); first|refine aa (au r) (aa (show (r:Int)<24 by omega) ?_)|refine aa (au c) (aa (show (c:Int)<48 by omega) ?_)|refine ae 6000000 (ae _ (ae _ (ae _ (aa (aa rfl (aa rfl D)) ?_))))|refine ae 5000000 (ae _ (ae _ (ae _ (aa (aa rfl (aa rfl J)) ?_))))|refine ae _ (aa E ?_)|refine ae _ (aa G ?_)|refine aa (au c) ?_|refine ⟨fun h=>?_,fun h=>?_⟩|refine ak ?_)
          ·have q:p r c=true:=u.trans (by assumption:decide (kR (48*r+c)>0)=true);refine ae (c+1) (aa ar (aa ar (St.le.of ?_ ?_)))
           ·refine aa (ax some (bL ar)) ?_
            repeat' (first | exact trivial | refine aa rfl ?_ | refine aa (ax (fun z=>some (AV.me (.row b1 c1) 6000000 1 z)) (by rw [en1 y])) ?_ | refine aa (ax (fun z=>some (AV.me (.row H c2) 5000000 1 z)) (by rw [ey2 q]; exact mJ z2 r _)) ?_ | fail)
           ·exact RF
          ·have q:p r c=false:=u.trans (by assumption:decide (kR (48*r+c)>0)=false);refine ae (c+1) (aa ar (aa ar (St.le.of ?_ ?_)))
           ·refine aa (ax some (bL ar)) ?_
            repeat' (first | exact trivial | refine aa rfl ?_ | refine aa (ax (fun z=>some (AV.me (.row b1 c1) 6000000 1 z)) (by rw [en1 y])) ?_ | refine aa (ax (fun z=>some (AV.me (.row H c2) 5000000 1 z)) (by rw [en2 q])) ?_ | fail)
           ·exact RF
         ·rename_i hv;have d:eO Dp (List.drop (0+(r:Int).toNat*48+(c:Int).toNat*1) (kn kR))=none:=hv;rw [i,nv e] at d;cases d
       ·rename_i hv;have d:eO Dp (List.drop (0+(r:Int).toNat*48+(c:Int).toNat*1) (kn kR))=none:=hv;rw [i,nv e] at d;cases d
      ·have l:=dT (show ¬((c:Int)<48) by omega);have m:c=48:=by omega
       subst m
       repeat' first|exact (l bf).elim|refine aS ?_|((conv=>whnf); first|refine ⟨fun h=>?_,fun h=>?_⟩|refine ak ?_)
       refine ae (r+1) (aa ar (aa ar (LE)))
    ·have w:=dT (show ¬((r:Int)<24) by omega);have m:r=24:=by omega
     subst m;have B:=kr t (48*24);have Z:=kr p (48*24);rw [<- L] at hPS U;have hs1:(lQ o a b k).1=ki t (48*24):=by rw [hPS]; rfl
     have hs2:(lQ o a b k).2=ki p (48*24):=by rw [U]; rfl
     rw [hs1,hs2];generalize ki t (48*24)=P1 at *;generalize ki p (48*24)=P2 at *;have e1:24=(P1.map fun h=>[AV.int .i64 h]).length:=by rw [az]; exact B.symm
     have e2:24=(P2.map fun h=>[AV.int .i64 h]).length:=by rw [az]; exact Z.symm
     refine aJ.seq ?_
     repeat' first|exact (w bf).elim|refine du ?_|((conv=>whnf); first|refine ⟨fun h=>?_,fun h=>?_⟩|refine ak ?_)
     refine aJ.seq ?_
     repeat' first|exact (w bf).elim|refine du ?_|((conv=>whnf); first|refine ⟨fun h=>?_,fun h=>?_⟩|refine ak ?_)
     conv=>whnf
     refine il 6000000 14 [bu P1,nQ H 24 c2] rfl rfl (aa (bA ⟨by rw [e1]; rfl,rfl⟩) (aa (ak rfl) trivial)) ?_;refine il 5000000 14 [bu P1,bu P2] rfl rfl (aa (ak rfl) (aa (bA ⟨by rw [e2]; rfl,rfl⟩) trivial)) ?_;refine bz ?_;exact Ez
open Go Go.AI
set_option maxRecDepth 10000
theorem oR {o:Go.AI.Own} {n:Nat} {x z:List AV} (l:bD x z) (r:∀ c∈z,c.isCell=true):(AV.sl o n [x]).weak (.sl .no n [z]):=fun m v h=>by
 obtain ⟨hl,l⟩:=l.spec
 cases h with
 | sl _ _ _ base len cap t hf hlen a f e b off p g hm q=>
  refine .sl _ _ _ _ _ _ (by intro k d; cases d) (by intro d; cases d) hlen a (fun y hy=>?_) (fun y hy=>?_) b off p g (fun i y j c h1 h2=>?_) (fun i y j c h1 h2=>?_)
  ·simp only [cv] at hy; subst hy; rw [<- hl]; exact f x cU
  ·simp only [cv] at hy; subst hy; exact r
  all_goals
   cases i with
   | zero=>
    simp at h1;subst h1;have hj:j<x.length:=by rw [hl]; exact (am.1 h2).1
    have hx:=ai hj
    first
     | exact hm 0 x j _ rfl hx
     | exact l j _ c hx h2 m _ (q 0 x j _ rfl hx)
   | succ i=>simp at h1
def kj (x:Nat->Int):Nat->Int:=fun i=>x (i+2)
def kT (l:List Int):Bool:=l.all fun x=>x==0
theorem Lx (l:List Int) (x:Int):kT (l++[x])=(kT l&&(x==0)):=by simp [kT]
def ub (o:Nat->Int) (a b k:Int):List Int:=if kT (lQ o a b k).1 then (lQ o a b k).2 else (lQ o a b k).1
def S6 (q:Int×Int):Int:=max 0 (IntKind.i64.wrap (q.1 - 5))
def x4 (o:Nat->Int) (a b k:Int) (y:Nat->Int):gp:=⟨ub o a b k,max 0 (IntKind.i64.wrap (a - aF (y 0) 30)),IntKind.i64.wrap (IntKind.i64.wrap (a+1)+aF (y 1) 60),S6 (iI o a b k (2*o 6+1).toNat),min 90 (IntKind.i64.wrap (max (S6 (iI o a b k (2*o 6+1).toNat)) (iI o a b k (2*o 6+1).toNat).2+aF (y 1) 5)),aF (y 0) 2==1⟩
def xu (o:Nat->Int) (a b k:Int) (y:Nat->Int):qh:=if aF (y 2) 4=0 then ix (aF (y 3) 120) (x4 o a b k y) else if aF (y 2) 4=1 then eL (IntKind.i64.wrap (1+aF (y 3) 60)) (x4 o a b k y) else gA (x4 o a b k y)
def aaS (s:eo) (v:Value):List AV:=[qC s.sats,yV s.stas,cZ s.passes,zg s.ords,cH s.opts,uO s.buns,bu s.prom,.lit v,.int .i64 s.loss,.int .i64 s.a,.int .i64 s.b]
set_option maxHeartbeats 32000000 in
theorem Na (s:eo) (w:Value) (B:s.sats.length<=1000000) (p:d4) (y:Nat->Int) (x:Nat->Int) (i:Nat) (hi:pY s.sats p.sat=i) (hx:s.sats[i]?=some x) (h:Az (kj x) p.a p.b p.look 0) (hv:g9 (kj x) p.a p.b p.look=true):aq Tryz.prog 20 [.agg (aaS s w),.agg (bO p),.agg (yA y)] (.agg (di (xu (kj x) p.a p.b p.look y))):=by
 have n:=Jq s.sats p.sat B;rw [hi] at n
 have q:(s.sats.map bM)[(i:Int).toNat]?=some (bM x):=by
  show (s.sats.map bM)[i]?=_;rw [aQ,hx]; rfl
 have o:=Jo (kj x) p.a p.b p.look h hv;have A:=M8 (kj x) p.a p.b p.look h hv;have E:(lQ (kj x) p.a p.b p.look).1.length=24:=kr _ _;have c:xu (kj x) p.a p.b p.look y=if aF (y 2) 4=0 then ix (aF (y 3) 120) (x4 (kj x) p.a p.b p.look y) else if aF (y 2) 4=1 then eL (IntKind.i64.wrap (1+aF (y 3) 60)) (x4 (kj x) p.a p.b p.look y) else gA (x4 (kj x) p.a p.b p.look y):=rfl
 have d:x4 (kj x) p.a p.b p.look y=⟨if kT (lQ (kj x) p.a p.b p.look).1 then (lQ (kj x) p.a p.b p.look).2 else (lQ (kj x) p.a p.b p.look).1,max 0 (IntKind.i64.wrap (p.a - aF (y 0) 30)),IntKind.i64.wrap (IntKind.i64.wrap (p.a+1)+aF (y 1) 60),S6 (iI (kj x) p.a p.b p.look (2*kj x 6+1).toNat),min 90 (IntKind.i64.wrap (max (S6 (iI (kj x) p.a p.b p.look (2*kj x 6+1).toNat)) (iI (kj x) p.a p.b p.look (2*kj x 6+1).toNat).2+aF (y 1) 5)),aF (y 0) 2==1⟩:=rfl;generalize xu (kj x) p.a p.b p.look y=G at *;generalize x4 (kj x) p.a p.b p.look y=L at *;generalize iI (kj x) p.a p.b p.look (2*kj x 6+1).toNat=Q at *;generalize lQ (kj x) p.a p.b p.look=ST at *;refine aM Kt Tryz.func20 ?_;intro F H w0 m0 hG t h1 kp
 repeat' first|refine aS ?_|((conv=>whnf); first|refine ae _ (aa (n) ?_)|refine aa (au i) (ae _ (aa q ?_))|refine ae _ (aa (o) ?_)|refine ae _ (aa (A) ?_)|refine ae _ (aa (gj _ _ bq) ?_)|refine aa bq (aa bq ?_)|refine ⟨fun h=>?_,fun h=>?_⟩|refine ak ?_)
 refine aJ.loop (X:=Nat) (fun r=>⟨[(15,.int .i64 r),(14,.bool (kT (ST.1.take r))),(13,.loc 13 0),(8,.loc 8 0),(6,.loc 6 0),(5,.loc 5 0)],[(13,[.int .i64 1,bu ST.1,.int .i64 (max 0 (IntKind.i64.wrap (p.a - aF (y 0) 30))),.int .i64 (IntKind.i64.wrap (IntKind.i64.wrap (p.a+1)+aF (y 1) 60)),.int .i64 (max 0 (IntKind.i64.wrap (Q.1 - 5))),.int .i64 (min 90 (IntKind.i64.wrap (max (max 0 (IntKind.i64.wrap (Q.1 - 5))) Q.2+aF (y 1) 5))),.bool (aF (y 0) 2==1),.int .i64 0,.int .i64 0,.int .i64 0,.sl .full 0 [],.sl .full 0 []]),(8,[bu ST.1,bu ST.2]),(6,[.int .i64 0,.sl (.id (nu 6 1)) 0 [],.int .i64 0,.int .i64 0,.int .i64 0,.int .i64 0,.bool false,.int .i64 0,.int .i64 0,.int .i64 0,.sl (.id (nu 6 10)) 0 [],.sl (.id (nu 6 11)) 0 []]),(5,yA y)]⟩) (fun r=>r<=24) (fun r=>24 - r) 0 (aU _) (LE) (fun r J=>?_)
 ·by_cases D:r<24
  ·have e:=dF (show (r:Int)<24 by omega);have j:=cG (fun h=>[AV.int .i64 h]) (0:Int) (show r<ST.1.length by omega);have f:kT (ST.1.take (r+1))=(kT (ST.1.take r)&&(ST.1.getD r 0==0)):=by rw [dz 0 (show r<ST.1.length by omega),Lx]
   generalize ST.1.getD r 0=u at *;generalize kT (ST.1.take r)=v at *
   cases v with
   | true=>
    repeat' first|exact (e bf).elim|refine aS ?_|((conv=>whnf); first|refine aa (au r) (ae _ (aa j ?_))|refine ⟨fun h=>?_,fun h=>?_⟩|refine ak ?_)
    refine ae (r+1) (aa ar (aa ar (St.le.of ?_ ?_)))
    ·refine aa (ax some (bL ar)) ?_
     repeat' (first | exact trivial | refine aa rfl ?_ | refine aa (ax (fun z=>some (AV.bool z)) f.symm) ?_ | fail)
    ·exact RF
   | false=>
    repeat' first|exact (e bf).elim|refine aS ?_|((conv=>whnf); first|refine aa (au r) (ae _ (aa j ?_))|refine ⟨fun h=>?_,fun h=>?_⟩|refine ak ?_)
    refine ae (r+1) (aa ar (aa ar (St.le.of ?_ ?_)))
    ·refine aa (ax some (bL ar)) ?_
     repeat' (first | exact trivial | refine aa rfl ?_ | refine aa (ax (fun z=>some (AV.bool z)) f.symm) ?_ | fail)
    ·exact RF
  ·have e:=dT (show ¬((r:Int)<24) by omega);have l:r=24:=by omega
   subst l;have m:ST.1.take 24=ST.1:=bE ar;rw [m]
   cases hz:kT ST.1 with
   | true=>
    rw [hz] at d;rw [aX rfl] at d
    repeat' first|exact (e bf).elim|refine aS ?_|((conv=>whnf); first|refine ae _ (aa (gj _ _ bq) ?_)|refine aa bq (aa bq ?_)|refine ⟨fun h=>?_,fun h=>?_⟩|refine ak ?_)
    ·have h:=(by assumption:(aF (y 2) 4==0)=true);rw [aX (eq_of_beq h)] at c;subst c;subst d;refine Ends.mk (ak rfl) (AV.weak.agg ?_ (by simp [di,bu,AV.isCell]))
     repeat (first | exact bD.nil | refine bD.cons (ay rfl) ?_ | refine bD.cons bK ?_)
     all_goals first
      | done
      |(refine bD.cons (oR ?_ (by simp [hU,bu,AV.isCell])) bD.nil
        repeat (first | exact bD.nil | refine bD.cons (ay rfl) ?_ | refine bD.cons bK ?_))
    ·have h:=(by assumption:(aF (y 2) 4==0)=false);have h2:=(by assumption:(aF (y 2) 4==1)=true);rw [aV (by simpa using h),aX (eq_of_beq h2)] at c;subst c;subst d;refine Ends.mk (ak rfl) (AV.weak.agg ?_ (by simp [di,bu,AV.isCell]))
     repeat (first | exact bD.nil | refine bD.cons (ay rfl) ?_ | refine bD.cons bK ?_)
     all_goals first
      | done
      |(refine bD.cons (oR ?_ (by simp [hU,bu,AV.isCell])) bD.nil
        repeat (first | exact bD.nil | refine bD.cons (ay rfl) ?_ | refine bD.cons bK ?_))
    ·have h:=(by assumption:(aF (y 2) 4==0)=false);have h2:=(by assumption:(aF (y 2) 4==1)=false);rw [aV (by simpa using h),aV (by simpa using h2)] at c;subst c;subst d;refine Ends.mk (ak rfl) (AV.weak.agg ?_ (by simp [di,bu,AV.isCell]))
     repeat (first | exact bD.nil | refine bD.cons (ay rfl) ?_ | refine bD.cons bK ?_)
     all_goals first
      | done
      |(refine bD.cons (oR ?_ (by simp [hU,bu,AV.isCell])) bD.nil
        repeat (first | exact bD.nil | refine bD.cons (ay rfl) ?_ | refine bD.cons bK ?_))
   | false=>
    rw [hz] at d;rw [aV cU] at d
    repeat' first|exact (e bf).elim|refine aS ?_|((conv=>whnf); first|refine ae _ (aa (gj _ _ bq) ?_)|refine aa bq (aa bq ?_)|refine ⟨fun h=>?_,fun h=>?_⟩|refine ak ?_)
    ·have h:=(by assumption:(aF (y 2) 4==0)=true);rw [aX (eq_of_beq h)] at c;subst c;subst d;refine Ends.mk (ak rfl) (AV.weak.agg ?_ (by simp [di,bu,AV.isCell]))
     repeat (first | exact bD.nil | refine bD.cons (ay rfl) ?_ | refine bD.cons bK ?_)
     all_goals first
      | done
      |(refine bD.cons (oR ?_ (by simp [hU,bu,AV.isCell])) bD.nil
        repeat (first | exact bD.nil | refine bD.cons (ay rfl) ?_ | refine bD.cons bK ?_))
    ·have h:=(by assumption:(aF (y 2) 4==0)=false);have h2:=(by assumption:(aF (y 2) 4==1)=true);rw [aV (by simpa using h),aX (eq_of_beq h2)] at c;subst c;subst d;refine Ends.mk (ak rfl) (AV.weak.agg ?_ (by simp [di,bu,AV.isCell]))
     repeat (first | exact bD.nil | refine bD.cons (ay rfl) ?_ | refine bD.cons bK ?_)
     all_goals first
      | done
      |(refine bD.cons (oR ?_ (by simp [hU,bu,AV.isCell])) bD.nil
        repeat (first | exact bD.nil | refine bD.cons (ay rfl) ?_ | refine bD.cons bK ?_))
    ·have h:=(by assumption:(aF (y 2) 4==0)=false);have h2:=(by assumption:(aF (y 2) 4==1)=false);rw [aV (by simpa using h),aV (by simpa using h2)] at c;subst c;subst d;refine Ends.mk (ak rfl) (AV.weak.agg ?_ (by simp [di,bu,AV.isCell]))
     repeat (first | exact bD.nil | refine bD.cons (ay rfl) ?_ | refine bD.cons bK ?_)
     all_goals first
      | done
      |(refine bD.cons (oR ?_ (by simp [hU,bu,AV.isCell])) bD.nil
        repeat (first | exact bD.nil | refine bD.cons (ay rfl) ?_ | refine bD.cons bK ?_))
end Go.Proofs
