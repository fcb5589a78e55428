/- Part 5 of the proof: an abstract interpreter for the code, contracts of the functions, and plain facts; the conditions are those typed. -/
import Derived.Test.YthjhnnmcdhokcaaGreatDoorND
import Derived.Lib.SlicesCompact
import Derived.Shelf.SlLaysF0
import Derived.Shelf.Lays
import Derived.Shelf.Lays2
import Derived.Shelf.Spec.TrailingZeros
set_option linter.unusedSectionVars false
set_option linter.unusedVariables false
set_option linter.unusedSimpArgs false
namespace Go.AI
open Go
abbrev du:=@Int.toNat_natCast
abbrev dV:=@List.range_succ
abbrev iR:=@List.pairwise_append
abbrev qt:=@BitVec.ofInt_natCast
abbrev so:=@Bool.true_or
abbrev sr:=@Bool.or_true
abbrev tQ:=@List.filter_append
abbrev tS:=@BitVec.toNat_ofNat
abbrev LV:=@List.length_take_le
abbrev SH:=@List.all_eq_false
end Go.AI
namespace Go.Proofs
open Go Go.AI
set_option maxRecDepth 10000
theorem Od (o:dZ) (k:Nat) (hl:o.sl.length<=1000000) (f:EC o=true) (hk:k<o.sl.length):ar Tryz.prog 172 [.agg (bL o),.int .i64 k] (.tup [.agg (Zv ⟨o.id,o.size,o.a,(o.sl.getD k ⟨0,0,0⟩).b⟩),.int .i64 0]):=by
 have d:=Ro o hl;rw [f] at d;have hx:=yS hk;have e:IntKind.i64.wrap (((o.sl.map dA).length:Int) - 1)=(o.sl.length:Int) - 1:=by rw [ay]; exact a6 am am
 have c:=r8 (k:Int) 0 (IntKind.i64.wrap (((o.sl.map dA).length:Int) - 1));rw [kB (show 0<=(k:Int)/\(k:Int)<=IntKind.i64.wrap (((o.sl.map dA).length:Int) - 1) by rw [e]; omega)] at c;refine aM GH Tryz.func172 ?_;intro F i w0 m0 hG h h1 kp;refine bv ?_
 all_goals exact Ez
theorem X1 {o:dZ} (h:EC o=true):1<=o.sl.length/\o.sl.length<=6:=by
 simp only [EC,cT,al,aO] at h;omega
theorem tJ (o:dZ) (hl:o.sl.length<=1000000) (c:EC o=true):ar Tryz.prog 93 [.agg (bL o)] (.tup [.agg (Zv ⟨o.id,o.size,o.a,uG o⟩),.int .i64 0]):=by
 have f:=X1 c;have b:=Od o (o.sl.length - 1) hl c am;rw [show ((o.sl.length - 1:Nat):Int)=IntKind.i64.wrap (((o.sl.map dA).length:Int) - 1) by rw [ay]; exact ((a6 am am).trans am).symm] at b;refine aM Km Tryz.func93 ?_;intro F e w0 m0 hG d h1 kp;refine bv ?_
 all_goals exact Ez
structure bU where
 sat:Int
 st:Int
 sa:Int
 sb:Int
 ca:Int
 cb:Int
deriving DecidableEq
def bY (p:bU):List AV:=[.int .i64 p.sat,.int .i64 p.st,.int .i64 p.sa,.int .i64 p.sb,.int .i64 p.ca,.int .i64 p.cb]
def dt (l:List bU):AV := .sl .no 6 (l.map bY)
def qd:bU:=⟨0,0,0,0,0,0⟩
def passAt (l:List bU) (i:Nat):bU:=l.getD i qd
def gN (p:bU):Bool:=(cT p.sat 0 23&&(cT p.st 0 11&&true))&&((decide (0<=p.ca)&&decide (p.ca<p.cb)&&decide (p.cb<=1000001))&&((p.sa==0&&(p.sb==0&&true))||(decide (p.ca<=p.sa)&&decide (p.sa<p.sb)&&decide (p.sb<=p.cb))))
set_option maxHeartbeats 4000000 in
theorem Lh (p:bU):ar Tryz.prog 183 [.agg (bY p)] (.bool (gN p)):=by
 have a:=(ry [⟨p.sat,0,23⟩,⟨p.st,0,11⟩] (ah rfl)).sl0 (o := .full);refine aM Gw Tryz.func183 ?_;intro F c w0 m0 hG b h1 kp
 repeat' first|refine aQ ?_|((conv=>whnf); first|refine ae _ (aa (a) ?_)|refine ⟨fun h=>?_,fun h=>?_⟩|refine aj ?_)
 all_goals refine Eb ?_
 all_goals (unfold gN; simp only [qj,SG,cH] at *; simp only [*,bG,cH,bE,bN,so,gX])
theorem EO (p:bU):ar Tryz.prog 182 [.agg (bY p)] (.bool (!gN p)):=by
 refine aM Gx Tryz.func182 ?_;intro F b w0 m0 hG a h1 kp
 repeat' first|refine aQ ?_|((conv=>whnf); first|refine ae _ (aa (Lh p) ?_)|refine ⟨fun h=>?_,fun h=>?_⟩|refine aj ?_)
 all_goals exact Ez
def wZ (p q:bU):Int:=O2 [gT p.ca q.ca,gT p.sat q.sat,gT p.st q.st,gT p.sa q.sa,gT p.cb q.cb]
theorem xh (p q:bU):ar Tryz.prog 185 [.agg (bY p),.agg (bY q)] (.int .i64 (wZ p q)):=by
 refine aM Gu Tryz.func185 ?_;intro F b w0 m0 hG a h1 kp
 repeat' first|refine aQ ?_|((conv=>whnf); first|refine ae _ (aa (nj _ _) ?_)|refine ae _ (aa (rA [gT p.ca q.ca,gT p.sat q.sat,gT p.st q.st,gT p.sa q.sa,gT p.cb q.cb] (ah rfl)) ?_)|refine ⟨fun h=>?_,fun h=>?_⟩|refine aj ?_)
 all_goals exact Ez
theorem AR (l:List bU) (p:bU->Bool) (g:FuncId) (fv:AV) (cap:List AV) (hf:fv = .clo g cap\/(fv = .fn g/\cap=[])) (hl:l.length<=1000000)
  (hp:∀ x∈l,ar Tryz.prog g ((.agg (bY x))::cap) (.bool (p x))):ar Tryz.prog 186 [.sl .no 6 (l.map bY),fv] (.int .i64 (lV p l 0)):=by
 let E:=bY; let D:=qd; let K:=Gt; let N:=6; have f:=Tryz.func186; exact Wk
theorem nX (l:List bU) (p:bU->Bool) (g:FuncId) (fv:AV) (cap:List AV) (hf:fv = .clo g cap\/(fv = .fn g/\cap=[])) (hl:l.length<=1000000)
  (hp:∀ x∈l,ar Tryz.prog g ((.agg (bY x))::cap) (.bool (p x))):ar Tryz.prog 111 [.sl .no 6 (l.map bY),fv] (.bool (l.any p)):=by
 have I:=AR l p g fv cap hf hl hp; let K:=Hq; have f:=Tryz.func111; exact Y2
def Ig (l:List bU):Bool:=(List.range (l.length - 1)).all fun i => !decide (wZ (passAt l (i+1)) (passAt l i)<0)
theorem mU {l:List bU} {i:Nat} (h:i<l.length):(l.map bY)[i]?=some (bY (passAt l i)):=by simp [passAt,ai h]
set_option maxHeartbeats 4000000 in
theorem BP (l:List bU) (hl:l.length<=1000000):ar Tryz.prog 184 [dt l,.fn 185] (.bool (Ig l)):=by
 refine aM Gv Tryz.func184 ?_;intro F o w0 m0 hG n h1 kp;refine bv ?_
 refine aI.loop (X:=Int) (fun i=>⟨[(5,.int .i64 i),(0,dt l),(1,.fn 185)],[]⟩)
  (fun i => -1<=i/\i<=(l.length:Int) - 1/\∀ j:Nat,i<=(j:Int)->(j:Int)<(l.length:Int) - 1->decide (wZ (passAt l (j+1)) (passAt l j)<0)=false) (fun i=>(i+1).toNat) (IntKind.i64.wrap (((l.map bY).length:Int) - 1)) ?_ (St.le.of ?_ ?_) (fun i hi=>?_)
 ·rw [show IntKind.i64.wrap (((l.map bY).length:Int) - 1)=(l.length:Int) - 1 by rw [ay]; exact a6 am am];exact ⟨by omega,by omega,fun j h1 h2=>by omega⟩
 ·exact RF
 ·exact RF
 ·obtain ⟨h1,h2,d⟩:=hi;by_cases e:i>0
  ·obtain ⟨j,rfl⟩:∃ j:Nat,i=((j+1:Nat):Int):=⟨(i - 1).toNat,by omega⟩;have a:IntKind.i64.wrap (((j+1:Nat):Int) - 1)=(j:Int):=(a6 am am).trans am;have hx:=mU (l:=l) (i:=j+1) am;have hy:=mU (l:=l) (i:=j) am;have c:(l.map bY)[(IntKind.i64.wrap (((j+1:Nat):Int) - 1)).toNat]?=some (bY (passAt l j)):=by rw [a]; exact hy
   have f:0<=IntKind.i64.wrap (((j+1:Nat):Int) - 1):=by rw [a]; exact au j
   have b:=dF (show ((j+1:Nat):Int)>0 by omega)
   repeat' first|exact (b a8).elim|refine aQ ?_|((conv=>whnf); first|refine aa (au (j+1)) (ae _ (aa hx ?_))|refine aa f (ae _ (aa c ?_))|refine ae _ (aa (xh _ _) ?_)|refine ⟨fun h=>?_,fun h=>?_⟩|refine aj ?_)
   ·refine Eb ?_
    symm
    unfold Ig;rw [SH]
    exact ⟨j,bz.2 am,by
     have m:=(by assumption:decide (wZ (passAt l (j+1)) (passAt l j)<0)=true);rw [m]; simp⟩
   ·refine ae (IntKind.i64.wrap (((j+1:Nat):Int) - 1)) (aa ?_ (aa ?_ (LE)))
    ·rw [a];refine ⟨by omega,by omega,fun k g1 g2=>?_⟩;by_cases hk:k=j
     ·rw [hk]; assumption
     ·exact d k am g2
    ·rw [a]; omega
  ·have b:decide (i>0)=true->False:=fun h=>e (aF h)
   repeat' first|exact (b a8).elim|refine aQ ?_|((conv=>whnf); first|refine ⟨fun h=>?_,fun h=>?_⟩|refine aj ?_)
   refine Eb ?_
   symm
   unfold Ig;rw [aN];intro j hj;have:=bz.1 hj;rw [d j am am]; rfl
def j9 (l:List bU):Bool:=decide (l.length<=64) && !(l.any fun p => !gN p)&&Ig l
theorem jS (l:List bU) (hl:l.length<=1000000):ar Tryz.prog 110 [dt l] (.bool (j9 l)):=by
 have a:decide (((l.map bY).length:Int)<=64)=decide (l.length<=64):=by rw [ay]; exact decide_eq_decide.2 am
 refine aM Hr Tryz.func110 ?_;intro F c w0 m0 hG b h1 kp
 repeat' first|refine aQ ?_|((conv=>whnf); first|refine ae _ (aa (nX l (fun p => !gN p) 182 _ [] (bw ⟨rfl,rfl⟩) hl (fun p _=>EO p)) ?_)|refine ae _ (aa (BP l hl) ?_)|refine ⟨fun h=>?_,fun h=>?_⟩|refine aj ?_)
 all_goals refine Eb ?_
 all_goals (unfold j9; rw [<- a]; clear a; simp only [*,bG,cH,bE,bN])
open Go Go.AI
def sortI (l:List Int):List Int:=l.mergeSort fun x y=>decide (x<=y)
def d4 (l:List Int) (i:Nat):Int:=l.getD i 0
def zV (n:Nat) (l:List Int) (i:Nat):Bool:=decide (0<=d4 l i)&&decide (d4 l i<n)&&(decide (i=0)||decide (d4 l (i - 1)<d4 l i))
def Eu (l:List Int) (d:Int):Nat:=(l.filter fun x=>decide (x=d)).length
open Go Go.AI
set_option maxRecDepth 10000
theorem rN {l:List Int} {i:Nat} (h:i<l.length):(l.map fun h=>[AV.int .i64 h])[(i:Int).toNat]?=some [.int .i64 (d4 l i)]:=by simp [d4,ai h]
theorem lI (p:Nat->Bool) (n:Nat):(List.range (n+1)).all p=((List.range n).all p&&p n):=by rw [dV,List.all_append]; simp
def l9 (ds:List Int) (i:Nat):List (Int×Int):=(ds.take i).foldl (fun t d=>om d (ms t d+1) t) []
theorem wT (x y z:Int):∀ l:List (Int×Int),ms (om x y l) z=if x=z then y else ms l z
 | []=>by simp [om,ms]
 | p::r=>by
  by_cases h:p.1=x
  ·simp only [om,aV h,ms];by_cases h2:x=z
   ·rw [aV h2,aV h2]
   ·rw [aY h2,aY h2,aY (by rw [h]; exact h2)]
  ·simp only [om,aY h,ms,wT x y z r];by_cases h2:x=z
   ·subst h2; simp [h]
   ·simp [h2]
theorem oV {ds:List Int} {i:Nat} (h:i<ds.length):ds.take (i+1)=ds.take i++[ds.getD i 0]:=by
 rw [eN,aG,ai h]; rfl
theorem xW {ds:List Int} {i:Nat} (h:i<ds.length):l9 ds (i+1)=om (ds.getD i 0) (ms (l9 ds i) (ds.getD i 0)+1) (l9 ds i):=by
 unfold l9; rw [oV h,cJ]; rfl
theorem pr (ds:List Int) (z:Int):∀ i,i<=ds.length->ms (l9 ds i) z=(Eu (ds.take i) z:Int)
 | 0,_=>by simp [l9,Eu,ms]
 | i+1,h=>by
  rw [xW h,wT,pr ds z i am,pr ds _ i am,oV h];unfold Eu;rw [tQ,cj];by_cases hz:ds.getD i 0=z
  ·have a:List.filter (fun x=>decide (x=z)) [ds.getD i 0]=[ds.getD i 0]:=by rw [List.filter_cons_of_pos (by simpa using hz)]; rfl
   rw [aV hz,hz] at *; rw [a]; simp
  ·have a:List.filter (fun x=>decide (x=z)) [ds.getD i 0]=[]:=by rw [List.filter_cons_of_neg (by simpa using hz)]; rfl
   rw [aY hz,a]; simp
theorem UI (l:List Int) (d:Int):Eu l d<=l.length:=kT _ _
theorem gE:∀ t,t=162->Bc Tryz.prog t:=by
 rintro _ rfl;exact ⟨_,_,rfl,rfl,fun w=>rfl⟩
open Go Go.AI
set_option maxRecDepth 10000
theorem Ln (l:List Int) (hl:l.length<=1000000):ar Tryz.prog 82 [bB l] (bB l):=by
 rcases l with _ | ⟨x,l⟩
 ·refine aM fS Tryz.func82 ?_;intro F d w0 m0 hG c h1 kp
  repeat' first|refine aI.seq ?_|refine aI.block ?_|refine oJ hG af fS aK ?_|refine nl hG af (M:=fun t=>t=162) gE fS aK ?_|refine aI.skip hG af ?_|refine aI.label hG af ?_|refine aI.ret hG af ?_|refine aI.exit hG af ?_|refine cc rfl ?_|refine ce rfl ?_|refine aI.cond rfl (aa (fun h=>?_) (fun h=>?_))|((conv=>whnf); first|refine cZ ?_|refine cY ?_|refine ed ?_|refine aa (ah rfl) (aa (ah rfl) ?_)|refine aa (fun _=>?_) ?_|refine aa (fun h=>?_) (fun h=>?_)|refine aj ?_)
  all_goals (first | exact Ends.mk (aj rfl) (az rfl) | (dsimp only; exact Ends.mk (aj rfl) (az rfl)) | (show AI.Ends _ _ _ _ _; exact Ends.mk (aj rfl) (az rfl)))
 ·have b:(([]:List (List AV)).length+((x::l).map fun h=>[AV.int .i64 h]).length)*8<=70368744177664:=by simp at hl ⊢; omega
  have a:([]:List (List AV)).length+((x::l).map fun h=>[AV.int .i64 h]).length<=4611686018427387904:=by simp at hl ⊢; omega
  refine aM fS Tryz.func82 ?_;intro F d w0 m0 hG c h1 kp
  repeat' first|refine aI.seq ?_|refine aI.block ?_|refine oJ hG af fS aK ?_|refine nl hG af (M:=fun t=>t=162) gE fS aK ?_|refine aI.skip hG af ?_|refine aI.label hG af ?_|refine aI.ret hG af ?_|refine aI.exit hG af ?_|refine cc rfl ?_|refine ce rfl ?_|refine aI.cond rfl (aa (fun h=>?_) (fun h=>?_))|((conv=>whnf); first|refine cZ ?_|refine cY ?_|refine ed ?_|refine aa (fun h=>absurd h dc) ?_|refine aa b (aa a ?_)|refine aa (fun h=>?_) (fun h=>?_)|refine aj ?_)
  all_goals (first | exact Ends.mk (aj rfl) (az rfl) | (dsimp only; exact Ends.mk (aj rfl) (az rfl)) | (show AI.Ends _ _ _ _ _; exact Ends.mk (aj rfl) (az rfl)))
open Go Go.AI
set_option maxRecDepth 10000
def mP (s:Nat->Int) (ps:List bU) (size t:Int) (x:ea):Bool:=
 cT x.p 0 (cm ((ps.length:Int) - 1))&&((((passAt ps x.p.toNat).sat==s 0)&&decide (x.a>=max t (passAt ps x.p.toNat).sa)&&decide (x.b<=(passAt ps x.p.toNat).sb)&&decide (x.a<x.b)) &&
  !decide (cm (cm (x.b - x.a)*s 20)<size))
def fO (s:Nat->Int) (ps:List bU) (size:Int):Int->List ea->Bool
 | _,[]=>true
 | t,x::r=>mP s ps size t x&&fO s ps size x.b r
def uP (s:Nat->Int) (o:dZ):Bool:=cT o.id 0 63&&cT o.ord 0 63&&cT o.cl 0 11&&(o.sat==s 0)&&cT o.size 1 (s 10)
def ui (s:Nat->Int) (o:dZ):Bool:=eG (iN s) o.a o.b o.look&&cT o.look (cm (0 - s 9)) (s 9)&&decide (o.b<=1000000)
def jI (s:Nat->Int) (o:dZ) (ps:List bU):Bool:=uP s o&&ui s o&&cT (o.sl.length:Int) 1 6&&fO s ps o.size o.b o.sl
theorem ud {s:Nat->Int} {ps:List bU} {z t:Int} {l:List ea} {i:Nat} (h:i<l.length):fO s ps z t (l.drop i)=(mP s ps z t (l.getD i ⟨0,0,0⟩)&&fO s ps z (l.getD i ⟨0,0,0⟩).b (l.drop (i+1))):=by
 rw [dy h,aG,ai h]; rfl
set_option maxHeartbeats 16000000 in
theorem Sl (s:Nat->Int) (o:dZ) (ps:List bU) (hl:o.sl.length<=1000000) (A:ps.length<=1000000):ar Tryz.prog 154 [.agg (bR s),.agg (bL o),dt ps] (.bool (jI s o ps)):=by
 have j:((o.sl.map dA).length:Int)=(o.sl.length:Int):=by rw [ay]
 have d:((ps.map bY).length:Int)=(ps.length:Int):=by rw [ay]
 refine aM kM Tryz.func154 ?_;intro F B w0 m0 hG v h1 kp;refine aI.seq ?_;refine aI.reg hG af kM aK ?_
 conv=>whnf
 refine aI.seq ?_;refine aI.cut (X:=Unit) (fun _=>⟨[(7,.bool (uP s o)),(6,.bool false),(4,.loc 4 0),(3,.loc 3 0),(2,dt ps)],[(4,bL o),(3,bR s)]⟩) (fun _=>True) ?_ (fun _ _=>?_)
 ·refine aI.reg hG af kM aK ?_
  repeat' first|refine aQ ?_|((conv=>whnf); first|refine ae _ (aa (mJ _ _ _) ?_)|refine ⟨fun h=>?_,fun h=>?_⟩|refine aj ?_)
  all_goals refine ae () (aa trivial (St.le.of (aa (ax (fun z=>some (AV.bool z)) ?_) ?_) ?_))
  all_goals first
   |(simp only [uP, *,bG,cH,bE,bN,so,sr,gX,ey,jm,eu]; done)
   |(repeat' (first | exact trivial | refine aa rfl ?_))
 conv=>whnf
 refine aI.seq ?_;refine aI.cut (X:=Unit) (fun _=>⟨[(8,.bool (ui s o)),(7,.bool (uP s o)),(6,.bool false),(4,.loc 4 0),(3,.loc 3 0),(2,dt ps)],[(4,bL o),(3,bR s)]⟩) (fun _=>True) ?_ (fun _ _=>?_)
 ·refine aI.reg hG af kM aK ?_
  repeat' first|refine aQ ?_|((conv=>whnf); first|refine ae _ (aa (mJ _ _ _) ?_)|refine ae _ (aa (r7 (iN s) _ _ _) ?_)|refine ⟨fun h=>?_,fun h=>?_⟩|refine aj ?_)
  all_goals refine ae () (aa trivial (St.le.of (aa (ax (fun z=>some (AV.bool z)) ?_) ?_) ?_))
  all_goals first
   |(simp only [ui,cm, *,bG,cH,bE,bN,so,sr,gX,ey,jm,eu]; done)
   |(repeat' (first | exact trivial | refine aa rfl ?_))
 conv=>whnf
 repeat' first|refine aQ ?_|((conv=>whnf); first|refine ae _ (aa (mJ _ _ _) ?_)|refine ⟨fun h=>?_,fun h=>?_⟩|refine aj ?_)
 ·refine Eb ?_;simp only [jI,DP (by assumption:(!uP s o)=true),bE]
 ·refine Eb ?_;simp only [jI,DP (by assumption:(!ui s o)=true),bE,bN]
 ·refine Eb ?_;have h:=DP (by assumption:(!cT (((o.sl.map dA).length:Nat):Int) 1 6)=true);rw [j] at h;simp only [jI,h,bE,bN]
 ·have y:=zO (by assumption:(!uP s o)=false);have r:=zO (by assumption:(!ui s o)=false);have n:=zO (by assumption:(!cT (((o.sl.map dA).length:Nat):Int) 1 6)=false);rw [j] at n;have c:jI s o ps=fO s ps o.size o.b o.sl:=by simp only [jI,y,r,n,bG]
  rw [c]
  refine aI.loop (X:=Nat×Int) (fun q=>⟨[(83,.int .i64 q.1),(82,.int .i64 (o.sl.map dA).length),(81,.sl .no 3 (o.sl.map dA)),(9,.int .i64 q.2),(6,.bool false),(4,.loc 4 0),(3,.loc 3 0),(2,dt ps)],[(4,bL o),(3,bR s)]⟩)
   (fun q=>q.1<=o.sl.length/\fO s ps o.size q.2 (o.sl.drop q.1)=fO s ps o.size o.b o.sl) (fun q=>o.sl.length - q.1) (0,o.b) ⟨aZ _,rfl⟩ (St.le.of ?_ ?_) (fun q w=>?_)
  ·exact RF
  ·exact RF
  ·obtain ⟨i,t⟩:=q;obtain ⟨hi,hf⟩:=w;have hi:i<=o.sl.length:=hi;have hf:fO s ps o.size t (o.sl.drop i)=fO s ps o.size o.b o.sl:=hf;by_cases a:i<o.sl.length
   ·have e:=dF (show (i:Int)<((o.sl.map dA).length:Int) by omega);have hx:=yS a;rw [ud a] at hf;generalize o.sl.getD i ⟨0,0,0⟩=x at hx hf;have l:mP s ps o.size t x=false->false=fO s ps o.size o.b o.sl:=fun h=>by rw [<- hf,h,bE]
    have f:(!cT x.p 0 (IntKind.i64.wrap (((ps.map bY).length:Int) - 1)))=false->0<=x.p/\(ps.map bY)[x.p.toNat]?=some (bY (passAt ps x.p.toNat)):=fun h=>by
     have h:=zO h;rw [d,show IntKind.i64.wrap ((ps.length:Int) - 1)=(ps.length:Int) - 1 from a6 am am] at h;simp only [cT,al,aO] at h;exact ⟨h.1,mU am⟩
    have hpm':cm ((ps.length:Int) - 1)=IntKind.i64.wrap (((ps.map bY).length:Int) - 1):=by rw [d]; rfl
    repeat' first|exact (e a8).elim|refine aQ ?_|((conv=>whnf); first|refine aa (au i) (ae _ (aa hx ?_))|refine ae _ (aa (mJ _ _ _) ?_)|refine aa (f a8).1 (ae _ (aa (f a8).2 ?_))|refine ⟨fun h=>?_,fun h=>?_⟩|refine aj ?_)
    rotate_left 3
    ·have m:mP s ps o.size t x=true:=by
      simp only [c8,iv,aP] at *;unfold mP cm;unfold cm at hpm';rw [hpm'];simp only [*,bG,cH,bE,bN,so,sr,gX,ey,jm,eu]
     refine ae (i+1,x.b) (aa ⟨a,?_⟩ (aa (by show o.sl.length - (i+1)<o.sl.length - i; omega) (LE)))
     ·show fO s ps o.size x.b (o.sl.drop (i+1))=_;rw [<- hf,m,bG]
    all_goals refine Ends.mk (aj rfl) (az (ax AV.bool (l ?_)))
    all_goals simp only [c8,iv,aP] at *
    all_goals (unfold mP cm; unfold cm at hpm'; rw [hpm']; simp only [*,bG,cH,bE,bN,so,sr,gX,ey,jm,eu])
   ·have u:i=o.sl.length:=by omega
    have e:=dT (show ¬((i:Int)<((o.sl.map dA).length:Int)) by omega);rw [c7 am] at hf;refine bv ?_;exact Ends.mk (aj rfl) (az (ax AV.bool hf))
theorem Zl {l:List dZ} {i:Nat} (h:i<l.length):(l.map bL)[(i:Int).toNat]?=some (bL (xM l i)):=by simp [xM,ai h]
theorem Jb {s:Nat->Int} {o:dZ} {ps:List bU} (h:jI s o ps=true):1<=o.sl.length/\o.sl.length<=6:=by
 simp only [jI,cT,al,aO] at h;omega
open Go Go.AI
set_option maxRecDepth 10000
theorem Rg {l:List dZ} {i:Nat} (h:i<l.length):gc (l.take (i+1))=gc (l.take i)++[⟨(xM l i).a,(xM l i).b,(xM l i).look⟩]:=by
 rw [eN,ai h,TE h]; exact dw
open Go Go.AI
set_option maxRecDepth 10000
def Yy (x:Int×Int):List AV:=[.agg (cA x.1 x.2)]
open Go Go.AI
set_option maxRecDepth 10000
instance:Inhabited d6:=⟨⟨0,0,0⟩⟩
open Go Go.Shelf
def BR:Go.Shelf.Ren:=⟨fun | 189=>69 | 125=>144 | 257=>148 | 128=>219 | 129=>220 | 294=>221 | 295=>222 | 296=>223 | 297=>224 | 298=>225 | 299=>226 | 216=>227 | 300=>228 | 301=>229 | 328=>276 | 329=>272 | 330=>273 | 331=>277 | 332=>278 | 215=>145 | 343=>314 | n=>n,fun | 28=>27 | 3=>3 | 46=>228 | 0=>0 | 51=>280 | 53=>282 | 4=>4 | 183=>274 | 182=>273 | 131=>185 | 5=>5 | 9=>9 | 218=>326 | 222=>330 | 228=>363 | 229=>364 | n=>n,fun | n=>n⟩
theorem Dg:Lays.n189 Tryz.prog BR where
 mixed:=by kernel_rfl
 f125:=Tryz.func144.trans (ax some aK)
 f128:=Tryz.func219.trans (ax some aK)
 f129:=Tryz.func220.trans (ax some aK)
 f189:=Tryz.func69.trans (ax some aK)
 f215:=Tryz.func145.trans (ax some aK)
 f216:=Tryz.func227.trans (ax some aK)
 f257:=Tryz.func148.trans (ax some aK)
 f294:=Tryz.func221.trans (ax some aK)
 f295:=Tryz.func222.trans (ax some aK)
 f296:=Tryz.func223.trans (ax some aK)
 f297:=Tryz.func224.trans (ax some aK)
 f298:=Tryz.func225.trans (ax some aK)
 f299:=Tryz.func226.trans (ax some aK)
 f300:=Tryz.func228.trans (ax some aK)
 f301:=Tryz.func229.trans (ax some aK)
 f328:=Tryz.func276.trans (ax some aK)
 f329:=Tryz.func272.trans (ax some aK)
 f330:=Tryz.func273.trans (ax some aK)
 f331:=Tryz.func277.trans (ax some aK)
 f332:=Tryz.func278.trans (ax some aK)
 f343:=Tryz.func314.trans (ax some aK)
 t0:=Tryz.underlying0
 a0:=Tryz.isAgg0
 z0:=Tryz.sizeOf0
 v0:=Tryz.zeroValue0
 t3:=Tryz.underlying3
 a3:=Tryz.isAgg3
 z3:=Tryz.sizeOf3
 v3:=Tryz.zeroValue3
 t4:=Tryz.underlying4
 a4:=Tryz.isAgg4
 z4:=Tryz.sizeOf4
 v4:=Tryz.zeroValue4
 t5:=Tryz.underlying5
 a5:=Tryz.isAgg5
 z5:=Tryz.sizeOf5
 v5:=Tryz.zeroValue5
 t9:=Tryz.underlying9
 a9:=Tryz.isAgg9
 z9:=Tryz.sizeOf9
 v9:=Tryz.zeroValue9
 t28:=Tryz.underlying27
 a28:=Tryz.isAgg27
 z28:=Tryz.sizeOf27
 v28:=Tryz.zeroValue27
 t46:=Tryz.underlying228
 a46:=Tryz.isAgg228
 z46:=Tryz.sizeOf228
 v46:=Tryz.zeroValue228
 t51:=Tryz.underlying280
 a51:=Tryz.isAgg280
 z51:=Tryz.sizeOf280
 v51:=Tryz.zeroValue280
 t53:=Tryz.underlying282
 a53:=Tryz.isAgg282
 z53:=Tryz.sizeOf282
 v53:=Tryz.zeroValue282
 t131:=Tryz.underlying185
 a131:=Tryz.isAgg185
 z131:=Tryz.sizeOf185
 v131:=Tryz.zeroValue185
 t182:=Tryz.underlying273
 a182:=Tryz.isAgg273
 z182:=Tryz.sizeOf273
 v182:=Tryz.zeroValue273
 t183:=Tryz.underlying274
 a183:=Tryz.isAgg274
 z183:=Tryz.sizeOf274
 v183:=Tryz.zeroValue274
 t218:=Tryz.underlying326
 a218:=Tryz.isAgg326
 z218:=Tryz.sizeOf326
 v218:=Tryz.zeroValue326
 t222:=Tryz.underlying330
 a222:=Tryz.isAgg330
 z222:=Tryz.sizeOf330
 v222:=Tryz.zeroValue330
 t228:=Tryz.underlying363
 a228:=Tryz.isAgg363
 z228:=Tryz.sizeOf363
 v228:=Tryz.zeroValue363
 t229:=Tryz.underlying364
 a229:=Tryz.isAgg364
 z229:=Tryz.sizeOf364
 v229:=Tryz.zeroValue364
open Go Go.Shelf
def BZ:Go.Shelf.Ren:=⟨fun | 20=>70 | n=>n,fun | 22=>27 | 3=>3 | 4=>4 | 0=>0 | n=>n,fun | n=>n⟩
theorem Sn:Lays2.n20 Tryz.prog BZ where
 mixed:=by kernel_rfl
 f20:=Tryz.func70.trans (ax some aK)
 t0:=Tryz.underlying0
 a0:=Tryz.isAgg0
 z0:=Tryz.sizeOf0
 v0:=Tryz.zeroValue0
 t3:=Tryz.underlying3
 a3:=Tryz.isAgg3
 z3:=Tryz.sizeOf3
 v3:=Tryz.zeroValue3
 t4:=Tryz.underlying4
 a4:=Tryz.isAgg4
 z4:=Tryz.sizeOf4
 v4:=Tryz.zeroValue4
 t22:=Tryz.underlying27
 a22:=Tryz.isAgg27
 z22:=Tryz.sizeOf27
 v22:=Tryz.zeroValue27
 i3:=by kernel_rfl
open Go Go.AI
set_option maxRecDepth 10000
theorem oy (l:List Int):i7 (mq l)=l.map fun h=>[AV.int .i64 h]:=by simp [i7,mq]
theorem Ab (l:List Int):∀ x∈mq l,x.length=1:=fun x hx=>by
 obtain ⟨y,_,rfl⟩:=bp.1 hx; rfl
theorem ro (l:List Int) (hl:l.length<=1000000):xd Tryz.prog 69 l (sortI l):=EG Dg (YV Tryz.func69 aK rfl) l am
theorem oa (l:List Int) (hl:l.length<=1000000):xt Tryz.prog 70 1 (mq l) [] (fun r _=>r = .sl .no 1 (i7 (mq (Lib.compact l)))):=yK Sn (YV Tryz.func70 aK rfl) l am
open Go Go.AI
set_option maxRecDepth 10000
open Go.Shelf
def JJ:Go.Shelf.Ren:=⟨fun | 27=>356 | 28=>374 | 29=>375 | n=>n,fun | 25=>228 | 3=>3 | 27=>280 | 22=>282 | 4=>4 | 53=>422 | 0=>0 | 5=>5 | 54=>423 | n=>n,fun n=>n⟩
theorem UZ:Lays7.n27 Tryz.prog JJ where
 mixed:=bj
 f27:=Tryz.func356.trans (ax some aK)
 f28:=Tryz.func374.trans (ax some aK)
 f29:=Tryz.func375.trans (ax some aK)
 t0:=Tryz.underlying0
 a0:=Tryz.isAgg0
 z0:=Tryz.sizeOf0
 v0:=Tryz.zeroValue0
 i0:=by kernel_rfl
 t3:=Tryz.underlying3
 a3:=Tryz.isAgg3
 z3:=Tryz.sizeOf3
 v3:=Tryz.zeroValue3
 i3:=by kernel_rfl
 t4:=Tryz.underlying4
 a4:=Tryz.isAgg4
 z4:=Tryz.sizeOf4
 v4:=Tryz.zeroValue4
 i4:=by kernel_rfl
 t5:=Tryz.underlying5
 a5:=Tryz.isAgg5
 z5:=Tryz.sizeOf5
 v5:=Tryz.zeroValue5
 i5:=by kernel_rfl
 t22:=Tryz.underlying282
 a22:=Tryz.isAgg282
 z22:=Tryz.sizeOf282
 v22:=Tryz.zeroValue282
 i22:=by kernel_rfl
 t25:=Tryz.underlying228
 a25:=Tryz.isAgg228
 z25:=Tryz.sizeOf228
 v25:=Tryz.zeroValue228
 i25:=by kernel_rfl
 t27:=Tryz.underlying280
 a27:=Tryz.isAgg280
 z27:=Tryz.sizeOf280
 v27:=Tryz.zeroValue280
 i27:=by kernel_rfl
 t53:=Tryz.underlying422
 a53:=Tryz.isAgg422
 z53:=Tryz.sizeOf422
 v53:=Tryz.zeroValue422
 i53:=by kernel_rfl
 t54:=Tryz.underlying423
 a54:=Tryz.isAgg423
 z54:=Tryz.sizeOf423
 g0:=by kernel_rfl
 g1:=by kernel_rfl
theorem Sj (j:Nat) (hj:j<64):gu Tryz.prog 1 j=some (.int .u8 (Lib.deBruijn64tab.getD j 0)):=by
 have h:∀ o,gu Tryz.prog 1 o=(Lib.deBruijn64tab[o]?).map fun n => .int .u8 n:=fun o=>by
  have h1:(Tryz.prog.globals[1]?).map (fun g=>g.name == "math/bits.deBruijn64tab")=some true:=by kernel_rfl
  unfold gu;grind
 have hl:Lib.deBruijn64tab.length=64:=rfl;grind
theorem Ye (n:Nat) (h:n<18446744073709551616):ar Tryz.prog 356 [.int .u64 n] (.int .i64 (Lib.ctz 64 n)):=by
 refine ⟨YV Tryz.func356 aK rfl,fun m w vs a c hl b=>?_⟩
 obtain ⟨v,rfl⟩:∃ v,vs=[v]:=by
  match vs,hl with
  | [v],_=>exact ⟨v,rfl⟩
 have hv:v = .int .u64 n:=by
  have:=b 0 _ v rfl rfl;cases this; rfl
 subst hv;refine (Any7.bits_TrailingZeros UZ n h w fun _ j hj=>(c.sub a).cell _ _ _ (Sj j hj)).mono ?_;rintro e w' ⟨rfl,rfl⟩;exact ⟨_,m,rfl,.int _ _,.refl m,a,.refl _ _,⟨fun _ _ _ h => .inl h,fun _ _ h => .inl h⟩,.refl _⟩
open Go Go.AI
set_option maxRecDepth 10000
def Ow:List (List AV):=List.replicate 24 [.int .i64 0]
theorem LY {q:Prop} (h:q:=by
 refine lR.ofB af V0 rfl aK bj (ah rfl) ?_;intro F n' w0 m0 hG hro h1;refine aI.seq ?_;refine aI.reg hG af V1 aK ?_
 conv=>whnf
 refine aI.seq ?_;refine Wb hG af V1 [5000000001,7000000001] aK ?_
 conv=>whnf
 refine aa (aF (Eq.refl true)) (aa (aF (Eq.refl true)) (aa (ah rfl) (aa (aF (Eq.refl true)) ?_)));intro b cap
 conv=>whnf
 refine gf (g := .row b cap) 1 5000000 rfl rfl ?_;refine aI.ret hG af ?_
 conv=>whnf
 exact gj.mk (aj rfl) (ae _ (ae _ (aa (ae b (ae cap (aa rfl rfl))) (aa (aj (az rfl)) (aa aK aK)))))):q:=h
theorem yi:lR Tryz.prog 202 [5000000] [] [] [] (fun r L'=>∃ b cap,r = .agg [.lit (.slice (some ⟨b,0,none⟩) 24 cap)]/\L'=[(5000000,.me (.row b cap) 5000000 1 Ow)]):=by
 have V0:=Tryz.func202; let V1:=Ge; exact LY
theorem nS:lR Tryz.prog 26 [5000000] [] [] [] (fun r L'=>∃ b cap,r = .agg [.lit (.slice (some ⟨b,0,none⟩) 24 cap)]/\L'=[(5000000,.me (.row b cap) 5000000 1 Ow)]):=by
 have V0:=Tryz.func26; let V1:=K0; exact LY
theorem Li (l:List Int) (p:Int->Bool) (g:FuncId) (fv:AV) (cap:List AV) (hf:fv = .clo g cap\/(fv = .fn g/\cap=[])) (hl:l.length<=1000000)
  (hp:∀ x∈l,ar Tryz.prog g (.int .i64 x::cap) (.bool (p x))):ar Tryz.prog 188 [bB l,fv] (.int .i64 (lV p l 0)):=by
 let E:=fun (h:Int)=>[AV.int .i64 h]; let D:=(0:Int); let K:=vI; let N:=1; have f:=Tryz.func188; exact Wk
theorem rB (l:List Int) (p:Int->Bool) (g:FuncId) (fv:AV) (cap:List AV) (hf:fv = .clo g cap\/(fv = .fn g/\cap=[])) (hl:l.length<=1000000)
  (hp:∀ x∈l,ar Tryz.prog g (.int .i64 x::cap) (.bool (p x))):ar Tryz.prog 114 [bB l,fv] (.bool (l.any p)):=by
 have I:=Li l p g fv cap hf hl hp; let K:=Hn; have f:=Tryz.func114; exact Y2
def zA (r:Int):Bool:=cT r 0 281474976710655
def mi (rows:List Int):Bool:=decide (rows.length=24) && !(rows.any fun r => !zA r)
theorem Kd (r:Int):ar Tryz.prog 146 [.int .i64 r] (.bool (!zA r)):=by
 refine aM G0 Tryz.func146 ?_;intro F b w0 m0 hG a h1 kp
 repeat' first|refine aQ ?_|((conv=>whnf); first|refine ae _ (aa (Lo _ _ _) ?_)|constructor <;> intro h|refine aj ?_)
 all_goals exact Ez
theorem nW (rows:List Int) (hl:rows.length<=1000000):ar Tryz.prog 68 [.agg [bB rows]] (.bool (mi rows)):=by
 have a:(((rows.map fun h=>[AV.int .i64 h]).length:Int)==24)=decide (rows.length=24):=by rw [ay,e7]; simp; omega
 refine aM KB Tryz.func68 ?_;intro F c w0 m0 hG b h1 kp
 repeat' first|refine aQ ?_|((conv=>whnf); first|refine ae _ (aa (rB rows (fun r => !zA r) 146 _ [] (bw ⟨rfl,rfl⟩) hl (fun r _=>Kd r)) ?_)|constructor <;> intro h|refine aj ?_)
 all_goals refine Eb ?_
 all_goals (unfold mi; rw [<- a]; clear a; simp only [*,bG,bE])
open Go Go.AI
set_option maxRecDepth 10000
def p2 (x:Int×Int):List Int:=[x.1,x.2]
def pA (x:Int×Int):List AV:=[.int .i64 x.1,.int .i64 x.2]
open Go Go.AI
set_option maxRecDepth 10000
def XH (s:Nat->Int) (t:Int):AV := .tup [.agg (lZ ⟨0,s 0,0,t⟩),.bool (t != -1)]
open Go Go.AI
set_option maxRecDepth 10000
theorem JZ (n a b:Int):ar Tryz.prog 120 [.int .i64 n,.int .i64 a,.int .i64 b] (.bool (cT n a b)):=by
 refine aM Hh Tryz.func120 ?_;intro F d w0 m0 hG c h1 kp
 repeat' first|refine aQ ?_|((conv=>whnf); first|refine ⟨fun h=>?_,fun h=>?_⟩|refine aj ?_)
 all_goals refine Eb ?_
 all_goals (clear hG; grind [cT])
theorem nQ (o:Nat->Int) (a b k:Int):ar Tryz.prog 121 [.agg (d7 o),.agg (cA a b),.int .i64 k] (.bool (eG o a b k)):=by
 refine aM Hg Tryz.func121 ?_;intro F d w0 m0 hG c h1 kp
 repeat' first|refine aQ ?_|((conv=>whnf); first|refine ae _ (aa (AZ o) ?_)|refine ⟨fun h=>?_,fun h=>?_⟩|refine aj ?_)
 all_goals refine Eb ?_
 all_goals (clear hG; grind [eG,CV,wM,cT,cm])
theorem ib (c n:Int) (a:n≠0):ar Tryz.prog 53 [.int .i64 c,.int .i64 n] (.int .i64 (aH c n)):=by
 refine aM KL Tryz.func53 ?_;intro F d w0 m0 hG b h1 kp
 repeat' first|refine aQ ?_|((conv=>whnf); first|refine aa a ?_|refine ⟨fun h=>?_,fun h=>?_⟩|refine aj ?_)
 all_goals refine Ei ?_
 all_goals (simp_all [aH,cm] <;> omega)
open Go Go.AI
set_option maxRecDepth 10000
theorem uY {a b:Int}:gT a b<0↔a<b:=by unfold gT; split <;> (try split) <;> omega
theorem Ew {a b:Int}:gT a b=0↔a=b:=by unfold gT; split <;> (try split) <;> omega
theorem Ev (p q:bU):decide (wZ p q<0)=if p.ca≠q.ca then decide (p.ca<q.ca) else if p.sat≠q.sat then decide (p.sat<q.sat) else if p.st≠q.st then decide (p.st<q.st) else if p.sa≠q.sa then decide (p.sa<q.sa) else decide (p.cb<q.cb):=by
 have d:=uY (a:=p.ca) (b:=q.ca); have f:=Ew (a:=p.ca) (b:=q.ca)
 have m:=uY (a:=p.sat) (b:=q.sat); have z2:=Ew (a:=p.sat) (b:=q.sat)
 have e:=uY (a:=p.st) (b:=q.st); have z3:=Ew (a:=p.st) (b:=q.st)
 have h:=uY (a:=p.sa) (b:=q.sa); have z4:=Ew (a:=p.sa) (b:=q.sa)
 have c:=uY (a:=p.cb) (b:=q.cb);unfold wZ;generalize gT p.ca q.ca=c1 at *;generalize gT p.sat q.sat=c2 at *;generalize gT p.st q.st=i at *;generalize gT p.sa q.sa=l at *;generalize gT p.cb q.cb=j at *;simp only [O2];grind
theorem EK (p q:bU):ar Tryz.prog 192 [.agg (bY p),.agg (bY q)] (.bool (decide (wZ p q<0))):=by
 rw [Ev];refine aM Gm Tryz.func192 ?_;intro F b w0 m0 hG a h1 kp
 repeat' first|refine aQ ?_|((conv=>whnf); first|refine ⟨fun h=>?_,fun h=>?_⟩|refine aj ?_)
 all_goals refine Eb ?_
 all_goals (clear hG; grind [])
theorem ux {l:List bU} {i:Nat} (h:i<l.length):(l.map bY)[(i:Int).toNat]?=some (bY (passAt l i)):=by rw [du]; exact mU h
theorem gD {l:List bU} {i:Nat} (h:i<l.length):passAt l i=l[i]:=by simp [passAt,ai h]
theorem ov (l:List bU):j9 l=true↔l.length<=64/\(∀ j,j<l.length->gN (passAt l j)=true)/\∀ j,j+1<l.length->decide (wZ (passAt l (j+1)) (passAt l j)<0)=false:=by
 simp only [j9,Ig,al,c8,fF,aN,bz,aO,c8,iv,yP,Bool.not_eq_false,and_assoc];refine and_congr Iff.rfl (and_congr ⟨fun h j hj=>?_,fun h x hx=>?_⟩ ⟨fun h j hj=>h j am,fun h j hj=>h j am⟩)
 ·rw [gD hj]; exact h _ (bX hj)
 ·obtain ⟨j,hj,rfl⟩:=cI hx;rw [<- gD hj]; exact h j hj
set_option maxHeartbeats 8000000 in
theorem EJ (l:List bU) (hl:l.length<=1000000):ar Tryz.prog 119 [dt l] (.bool (j9 l)):=by
 have n:((l.map bY).length:Int)=(l.length:Int):=by rw [ay]
 refine aM Hi Tryz.func119 ?_;intro F t w0 m0 hG o h1 kp
 repeat' first|refine aQ ?_|((conv=>whnf); first|refine ⟨fun h=>?_,fun h=>?_⟩|refine aj ?_)
 all_goals first
  |(refine Eb ?_
    clear hG; rw [n] at *; rw [e7,ov]; grind)
  | skip
 have r:l.length<=64:=by clear hG; rw [n] at *; grind
 refine aI.loop (X:=Nat) (fun x=>⟨[(3,.int .i64 x),(0,dt l)],[]⟩) (fun x=>x<=l.length/\(∀ j,j<x->gN (passAt l j)=true)/\∀ j,j+1<x->decide (wZ (passAt l (j+1)) (passAt l j)<0)=false) (fun x=>l.length - x) 0 ⟨aZ _,fun j h=>absurd h am,fun j h=>absurd h am⟩ (LE) (fun x hx=>?_)
 ·rename Nat=>i
  obtain ⟨hi,h1,h2⟩:=hx;by_cases b:i<l.length
  ·have m:=dF (show (i:Int)<((l.map bY).length:Int) by omega);have hx:=ux b
   have d:decide ((i:Int)>0)=true->0<=IntKind.i64.wrap ((i:Int) - 1)/\(l.map bY)[(IntKind.i64.wrap ((i:Int) - 1)).toNat]?=some (bY (passAt l (i - 1))):=fun h=>by
    have h:=aF h;have e:IntKind.i64.wrap ((i:Int) - 1)=((i - 1:Nat):Int):=(a6 am am).trans am;rw [e];exact ⟨au _,ux am⟩
   have c:gN (passAt l i)=false->false=j9 l:=fun h=>by rw [e7,ov]; simp only [br,aby]; exact fun ⟨_,g,_⟩=>tf (g i b) h
   have a:decide ((i:Int)>0)=true->decide (wZ (passAt l i) (passAt l (i - 1))<0)=true->false=j9 l:=fun g0 h=>by
    rw [e7,ov]; simp only [br,aby];have g0:=aF g0;exact fun ⟨_,_,g⟩=>tf h (by have:=g (i - 1) am; rwa [show i - 1+1=i by omega] at this)
   have f:gN (passAt l i)=true->(decide ((i:Int)>0)=true->decide (wZ (passAt l i) (passAt l (i - 1))<0)=false)->i+1<=l.length/\(∀ j,j<i+1->gN (passAt l j)=true)/\∀ j,j+1<i+1->decide (wZ (passAt l (j+1)) (passAt l j)<0)=false:=fun g1 g2=>by
    refine ⟨b,fun j hj=>?_,fun j hj=>?_⟩
    ·rcases SC j i with h | h
     ·exact h1 j h
     ·rw [show j=i by omega]; exact g1
    ·rcases SC (j+1) i with h | h
     ·exact h2 j h
     ·have e:i - 1=j:=by omega
      have:=g2 (bP am);rw [e] at this;rwa [show j+1=i by omega]
   generalize passAt l i=p at hx c a f;generalize passAt l (i - 1)=q at d a f
   repeat' first|exact (m a8).elim|refine aQ ?_|((conv=>whnf); first|refine aa (au i) (ae _ (aa hx ?_))|refine ae _ (aa (De _ _ _) ?_)|refine ae _ (aa (EK _ _) ?_)|refine aa (d a8).1 (ae _ (aa (d a8).2 ?_))|refine ⟨fun h=>?_,fun h=>?_⟩|refine aj ?_)
   all_goals first
    |(refine Eb ?_
      clear hG d hx h1 h2 f; first | exact a a8 a8 | (refine c ?_; clear c a; grind [gN,cT]))
    | skip
   all_goals (refine ae (i+1) (aa (f ?_ ?_) (aa am (St.le.of ?_ ?_))))
   all_goals first
    |(clear hG d hx h1 h2 f c a; grind [gN,cT])
    |(refine aa (ax some (bK am)) ?_; repeat' (first | exact trivial | refine aa rfl ?_))
    |(repeat' (first | exact trivial | refine aa rfl ?_))
  ·have m:=dT (show ¬((i:Int)<((l.map bY).length:Int)) by omega);have he:i=l.length:=by omega
   refine bv ?_;exact Ends.mk (aj rfl) (az (ax AV.bool (by symm; rw [ov,<- he]; exact ⟨by omega,h1,h2⟩)))
theorem IT {a b c:Int}:decide (c>=max a b)=(decide (a<=c)&&decide (b<=c)):=by rw [e7]; simp; omega
set_option maxHeartbeats 16000000 in
theorem EI (s:Nat->Int) (o:dZ) (ps:List bU) (hl:o.sl.length<=1000000) (l:ps.length<=1000000):ar Tryz.prog 54 [.agg (bR s),.agg (bL o),dt ps] (.bool (ny s&&j9 ps&&jI s o ps)):=by
 have j:((o.sl.map dA).length:Int)=(o.sl.length:Int):=by rw [ay]
 have f:((ps.map bY).length:Int)=(ps.length:Int):=by rw [ay]
 refine aM KK Tryz.func54 ?_;intro F n w0 m0 hG m h1 kp
 repeat' first|refine aQ ?_|((conv=>whnf); first|refine ae _ (aa (UX s) ?_)|refine ae _ (aa (EJ ps l) ?_)|refine ae _ (aa (JZ _ _ _) ?_)|refine ae _ (aa (nQ (iN s) _ _ _) ?_)|refine ⟨fun h=>?_,fun h=>?_⟩|refine aj ?_)
 all_goals first
  |(refine Eb ?_
    clear hG; rw [j] at *; rw [e7]; simp only [jI,uP,ui,cm]; grind)
  | skip
 have c:(ny s&&j9 ps&&jI s o ps)=fO s ps o.size o.b o.sl:=by clear hG; rw [j] at *; simp only [jI,uP,ui,cm]; grind
 rw [c];refine aI.loop (X:=Nat×Int) (fun x=>⟨[(8,.int .i64 x.1),(7,.int .i64 x.2),(4,.loc 4 0),(3,.loc 3 0),(2,dt ps)],[(4,bL o),(3,bR s)]⟩) (fun x=>x.1<=o.sl.length/\fO s ps o.size x.2 (o.sl.drop x.1)=fO s ps o.size o.b o.sl) (fun x=>o.sl.length - x.1) (0,o.b) ⟨aZ _,rfl⟩ (LE) (fun x hx=>?_)
 ·obtain ⟨i,t⟩:=x;obtain ⟨hi,hf⟩:=hx;simp only at hi hf ⊢;by_cases a:i<o.sl.length
  ·have e:=dF (show (i:Int)<((o.sl.map dA).length:Int) by omega);have hx:=yS a;rw [ud a] at hf;generalize o.sl.getD i ⟨0,0,0⟩=x at hx hf
   have d:(!cT x.p 0 (IntKind.i64.wrap (((ps.map bY).length:Int) - 1)))=false->0<=x.p/\(ps.map bY)[x.p.toNat]?=some (bY (passAt ps x.p.toNat)):=fun h=>by
    have h:=zO h;rw [f,show IntKind.i64.wrap ((ps.length:Int) - 1)=(ps.length:Int) - 1 from a6 am am] at h;simp only [cT,al,aO] at h;exact ⟨h.1,mU am⟩
   have hpm':cm ((ps.length:Int) - 1)=IntKind.i64.wrap (((ps.map bY).length:Int) - 1):=by rw [f]; rfl
   repeat' first|exact (e a8).elim|refine aQ ?_|((conv=>whnf); first|refine aa (au i) (ae _ (aa hx ?_))|refine ae _ (aa (JZ _ _ _) ?_)|refine aa (d a8).1 (ae _ (aa (d a8).2 ?_))|refine ⟨fun h=>?_,fun h=>?_⟩|refine aj ?_)
   all_goals first
    |(refine Eb ?_
      clear hG hx d; rw [<- hf,mP,hpm',IT]; clear hpm' hf c; unfold cm; grind)
    | skip
   refine ae (i+1,x.b) (aa ⟨a,?_⟩ (aa (by show o.sl.length - (i+1)<o.sl.length - i; omega) (LE)))
   ·clear hG hx d;rw [<- hf];have hk:mP s ps o.size t x=true:=by rw [mP,hpm',IT]; clear hpm' hf c; unfold cm; grind
    rw [hk,bG]
  ·have e:=dT (show ¬((i:Int)<((o.sl.map dA).length:Int)) by omega);rw [c7 am] at hf;refine bv ?_;exact Ends.mk (aj rfl) (az (ax AV.bool hf))
open Go Go.AI
set_option maxRecDepth 10000
theorem wt {α:Type} {l:List α} {i:Nat} (d:α) (h:i<l.length):l.take (i+1)=l.take i++[l.getD i d]:=by rw [eN,aG,ai h]; rfl
theorem DF {α:Type} {l:List α} {i:Nat} {f:α->List AV} (d:α) (h:i<l.length):(l.map f)[(i:Int).toNat]?=some (f (l.getD i d)):=by grind
def I9:Wl:=⟨0,0,0,0⟩
open Go Go.AI
set_option maxRecDepth 10000
def iw (sat:Int) (r:Int×List bU) (x:Int×Int×Int):Int×List bU:=
 let a:=r.1+4+aH x.1 12
 let b:=a+aH (cm (x.2.2.tdiv 3)) 2
 let st:=b+3+aH x.2.1 12
 let c:=st+aH (cm (x.2.2.tdiv 3)) 2
 (c,r.2++[⟨sat,aH x.2.2 3,b,st,a,c⟩])
def lu (sat from_:Int) (z:List (Int×Int×Int)):Int×List bU:=z.foldl (iw sat) (from_,[])
def mm (sat from_:Int) (z:List (Int×Int×Int)):List bU:=(lu sat from_ (z.take 6)).2
structure vS (sat from_:Int) (n:Nat) (r:Int×List bU):Prop where
 at_:from_<=r.1/\r.1<=from_+31*(n:Int)
 len:r.2.length=n
 all:∀ p∈r.2,gN p=true/\from_<=p.sa/\p.sa<p.sb/\p.sb<=r.1/\p.ca<r.1
 srt:r.2.Pairwise fun p q=>p.ca<q.ca
theorem vS.step {sat from_:Int} {n:Nat} {r:Int×List bU} {x:Int×Int×Int} (h:vS sat from_ n r) (j:0<=sat/\sat<=23) (hf:0<=from_/\from_<=900000) (l:n<=100) (hx:uL x):vS sat from_ (n+1) (iw sat r x):=by
 obtain ⟨h1,h2,b,d⟩:=h;have p1:=bO hx.1 (n:=12) am;have p2:=bO (nC (x.2.2.tdiv 3)) (n:=2) am;have e:=bO hx.2.1 (n:=12) am;have f:=bO hx.2.2 (n:=3) am;unfold iw;simp only;generalize aH x.1 12=m at *;generalize aH (cm (x.2.2.tdiv 3)) 2=t at *;generalize aH x.2.1 12=o at *;generalize aH x.2.2 3=i at *;refine ⟨by simp only; omega,by simp [h2],fun p a=>?_,iR.2 ⟨d,by simp,fun p a q c=>?_⟩⟩
 ·rcases eY.1 a with a | a
  ·have:=b p a;refine ⟨this.1,this.2.1,this.2.2.1,?_,?_⟩ <;> (simp only; omega)
  ·rw [cg.1 a];simp only [gN,cT,al,cu,aO];refine ⟨⟨⟨by omega,⟨by omega,by omega⟩,trivial⟩,⟨⟨by omega,by omega⟩,by omega⟩,.inr ⟨⟨by omega,by omega⟩,by omega⟩⟩,by omega,by omega,by omega,by omega⟩
 ·rw [cg.1 c];have:=b p a;simp only;omega
theorem vS.run {sat from_:Int} (a:0<=sat/\sat<=23) (hf:0<=from_/\from_<=900000):∀ (z:List (Int×Int×Int)) (n:Nat) (r:Int×List bU),n+z.length<=100->(∀ x∈z,uL x)->vS sat from_ n r->vS sat from_ (n+z.length) (z.foldl (iw sat) r)
 | [],n,r,_,_,h=>h
 | x::z,n,r,b,hz,h=>by
  rw [bu] at b ⊢;have:=vS.run a hf z (n+1) (iw sat r x) am (fun y hy=>hz y (.tail _ hy)) (h.step a hf am (hz x (.head _)));rwa [show n+(z.length+1)=n+1+z.length by omega]
theorem vS.of {sat from_:Int} (a:0<=sat/\sat<=23) (hf:0<=from_/\from_<=900000) {z:List (Int×Int×Int)} (hz:∀ x∈z,uL x) (hl:z.length<=100):vS sat from_ z.length (lu sat from_ z):=by
 have:=vS.run a hf z 0 (from_,[]) am hz ⟨by simp,rfl,by simp,by simp⟩;simpa [lu] using this
theorem DJ (sat from_:Int) (z:List (Int×Int×Int)) (x:Int×Int×Int):lu sat from_ (z++[x])=iw sat (lu sat from_ z) x:=by simp [lu,cJ]
theorem vS.proper {sat from_:Int} {n:Nat} {r:Int×List bU} (h:vS sat from_ n r) (a:n<=64):j9 r.2=true:=by
 rw [ov];have hl:=h.len;refine ⟨by omega,fun j hj=>?_,fun j hj=>?_⟩
 ·rw [gD hj]; exact (h.all _ (bX hj)).1
 ·rw [Ev,gD hj,gD (show j<r.2.length by omega)];have:=(eF.1 h.srt) j (j+1) am hj am;rw [aV am];exact dR am
theorem Qb {sat from_:Int} (b:0<=sat/\sat<=23) (hf:0<=from_/\from_<=900000) {z:List (Int×Int×Int)} (hz:∀ x∈z,uL x):j9 (mm sat from_ z)=true/\(mm sat from_ z).length<=6/\∀ p∈mm sat from_ z,from_<=p.sa/\p.sa<p.sb/\p.sb<=from_+186:=by
 have hl:(z.take 6).length<=6:=LV _ _;have h:=vS.of b hf (z:=z.take 6) (fun x hx=>hz x (dN hx)) am;refine ⟨h.proper am,by rw [mm,h.len]; exact hl,fun p a=>?_⟩;have h1:=h.all p a;have h2:=h.at_;omega
set_option maxHeartbeats 8000000 in
theorem J7 (sat from_:Int) (z:List (Int×Int×Int)) (E:0<=sat/\sat<=23) (hf:0<=from_/\from_<=900000) (hz:∀ x∈z,uL x):ar Tryz.prog 18 [.int .i64 sat,.int .i64 from_,.sl .no 3 (z.map g8)] (dt (mm sat from_ z)):=by
 have D:((z.map g8).length:Int)=(z.length:Int):=by rw [ay]
 refine aM K8 Tryz.func18 ?_;intro F J w0 m0 hG A h1 kp;refine bv ?_;refine aI.loop (X:=Nat×Int×List bU) (fun x=>⟨[(9,.int .i64 x.1),(8,.int .i64 x.2.1),(7,.sl (.id 7) 6 (x.2.2.map bY)),(2,.sl .no 3 (z.map g8)),(0,.int .i64 sat)],[]⟩) (fun x=>x.1<=z.length/\x.1<=6/\x.2=lu sat from_ (z.take x.1)) (fun x=>z.length - x.1) (0,from_,[]) ⟨aZ _,aZ _,rfl⟩ (LE) (fun x hx=>?_)
 ·obtain ⟨i,at_,out⟩:=x;obtain ⟨hi,G,e⟩:=hx;simp only at hi G e ⊢;have o:=vS.of E hf (z:=z.take i) (fun x hx=>hz x (dN hx)) (by rw [di]; omega);rw [<- e,di,rF hi] at o;have l:=o.at_;have j:=o.len;simp only at l j;by_cases a:i<z.length
  ·by_cases B:i<6
   ·have b1:decide ((i:Int)<((z.map g8).length:Int))=false->False:=fun h=>by have:=aR h; omega
    have m:decide ((i:Int)<6)=false->False:=fun h=>by have:=aR h; omega
    have hx:=DF (f:=g8) ((0:Int),(0:Int),(0:Int)) a;have b:=DJ sat from_ (z.take i) (z.getD i ((0:Int),(0:Int),(0:Int)));rw [<- wt ((0:Int),(0:Int),(0:Int)) a,<- e] at b;have d:uL (z.getD i ((0:Int),(0:Int),(0:Int))):=hz _ (by rw [aG,ai a]; exact bX a);generalize z.getD i ((0:Int),(0:Int),(0:Int))=x at hx b d;have p1:=bO d.1 (n:=12) am;have p2:=bO (nC (x.2.2.tdiv 3)) (n:=2) am;have H:=bO d.2.1 (n:=12) am;have c2:=ib (cm (x.2.2.tdiv 3)) 2 bt;have t:(out.map bY).length<=6:=by rw [ay]; omega
    simp only [iw] at b;obtain ⟨c,p⟩:∃ q,q=aH (cm (x.2.2.tdiv 3)) 2:=⟨_,rfl⟩;rw [<- p] at c2 p2 b;have w1:IntKind.i64.wrap (at_+4)=at_+4:=a6 am am;have w:IntKind.i64.wrap (at_+4+aH x.1 12)=at_+4+aH x.1 12:=a6 am am;have u:IntKind.i64.wrap (at_+4+aH x.1 12+c)=at_+4+aH x.1 12+c:=a6 am am;have r:IntKind.i64.wrap (at_+4+aH x.1 12+c+3)=at_+4+aH x.1 12+c+3:=a6 am am;have y:IntKind.i64.wrap (at_+4+aH x.1 12+c+3+aH x.2.1 12)=at_+4+aH x.1 12+c+3+aH x.2.1 12:=a6 am am;have v:IntKind.i64.wrap (at_+4+aH x.1 12+c+3+aH x.2.1 12+c)=at_+4+aH x.1 12+c+3+aH x.2.1 12+c:=a6 am am
    repeat' first|exact (b1 a8).elim|exact (m a8).elim|refine aQ ?_|((conv=>whnf); first|refine aa (au i) (ae _ (aa hx ?_))|refine ae _ (aa (c2) ?_)|refine ae _ (aa (ib _ _ bt) ?_)|refine aa bt ?_|refine aa (show ((out.map bY).length+1)*48<=70368744177664 by omega) (aa (show (out.map bY).length+1<=4611686018427387904 by omega) ?_)|refine ⟨fun h=>?_,fun h=>?_⟩|refine aj ?_)
    refine ae (i+1,lu sat from_ (z.take (i+1))) (aa ⟨a,B,rfl⟩ (aa (by show z.length - (i+1)<z.length - i; omega) ?_));rw [b];refine St.le.of (aa (ax some (bK am)) (aa (ax (fun z=>some (AV.int .i64 z)) ?_) (aa (ax (fun z=>some (AV.sl (.id 7) 6 z)) ?_) ?_))) ?_
    ·rw [w1,w,u,r,y,v]
    ·rw [dw];refine ax (out.map bY++·) ?_;rw [w1,w,u,r,y,v]; rfl
    ·exact RF
    ·exact RF
   ·have m:decide ((i:Int)<6)=true->False:=fun h=>by have:=aF h; omega
    have b1:decide ((i:Int)<((z.map g8).length:Int))=false->False:=fun h=>by have:=aR h; omega
    have he:i=6:=by omega
    subst he
    repeat' first|exact (b1 a8).elim|exact (m a8).elim|refine aQ ?_|((conv=>whnf); first|refine ⟨fun h=>?_,fun h=>?_⟩|refine aj ?_)
    exact Ends.mk (aj rfl) (az (by rw [mm,<- e]; rfl))
  ·have b1:decide ((i:Int)<((z.map g8).length:Int))=true->False:=fun h=>by have:=aF h; omega
   rw [bA am] at e
   repeat' first|exact (b1 a8).elim|refine aQ ?_|((conv=>whnf); first|refine ⟨fun h=>?_,fun h=>?_⟩|refine aj ?_)
   exact Ends.mk (aj rfl) (az (by rw [mm,bA am,<- e]; rfl))
open Go Go.AI
set_option maxRecDepth 10000
structure R5 where
 a:Int
 b:Int
 c:Int
 d:Int
 e:Int
def gZ (x:R5):List AV:=[.int .i64 x.a,.int .i64 x.b,.int .i64 x.c,.int .i64 x.d,.int .i64 x.e]
def Ws:R5:=⟨0,0,0,0,0⟩
def wO (x:R5):Prop:=n3 x.a/\n3 x.b/\n3 x.c/\n3 x.d/\n3 x.e
def ue (s0 m d n:Int) (ps:List bU) (r:Int×List ea) (k:Nat):Int×List ea:=
 if (r.2.length:Int)<n/\(passAt ps k).sat=s0/\max r.1 ((passAt ps k).sa+d)+m<=(passAt ps k).sb then
  (max r.1 ((passAt ps k).sa+d)+m,r.2++[⟨(k:Int),max r.1 ((passAt ps k).sa+d),max r.1 ((passAt ps k).sa+d)+m⟩]) else r
def jM (s0 m d n:Int) (ps:List bU) (t0:Int) (k:Nat):Int×List ea:=(List.range k).foldl (ue s0 m d n ps) (t0,[])
theorem o0 (s0 m d n:Int) (ps:List bU) (t0:Int) (k:Nat):jM s0 m d n ps t0 (k+1)=ue s0 m d n ps (jM s0 m d n ps t0 k) k:=by simp [jM,dV,cJ]
theorem ug {s0 m d n:Int} {ps:List bU} {t0:Int} {k:Nat} (h:¬ ((jM s0 m d n ps t0 k).2.length:Int)<n):∀ j,jM s0 m d n ps t0 (k+j)=jM s0 m d n ps t0 k
 | 0=>rfl
 | j+1=>by
  rw [show k+(j+1)=(k+j)+1 from rfl,o0,ug h j];exact aY fun g=>h g.1
theorem uf {s0 m d n:Int} {ps:List bU} {t0:Int} {k:Nat} (hk:k<=ps.length) (h:¬ ((jM s0 m d n ps t0 k).2.length:Int)<n):jM s0 m d n ps t0 ps.length=jM s0 m d n ps t0 k:=by
 have:=ug h (ps.length - k);rwa [show k+(ps.length - k)=ps.length by omega] at this
def sE (s:Nat->Int) (ps:List bU) (from_ id:Int) (x:R5):dZ:=
 ⟨id,aH x.e 4,0,s 0,from_+aH x.a 40,from_+aH x.a 40+1+aH x.b 5,aH x.c (2*s 9+1) - s 9,min (s 10) ((1+aH x.d 4)*s 20),
  (jM (s 0) (1+aH x.d 4) (aH (cm (x.d.tdiv 4)) 3) (1+aH (cm (x.e.tdiv 4)) 3) ps (from_+aH x.a 40+1+aH x.b 5) ps.length).2⟩
def jv (s:Nat->Int) (ps:List bU) (o:dZ):Bool:=ny s&&j9 ps&&jI s o ps
def gl (s:Nat->Int) (ps:List bU) (from_ id:Int) (z:List R5):Nat->List dZ
 | 0=>[]
 | i+1=>gl s ps from_ id z i++if jv s ps (sE s ps from_ (id+i) (z.getD i Ws)) then [sE s ps from_ (id+i) (z.getD i Ws)] else []
def IJ (s:Nat->Int) (ps:List bU) (from_ id:Int) (z:List R5):List dZ:=gl s ps from_ id z (min z.length 5)
theorem tj (s:Nat->Int) (ps:List bU) (from_ id:Int) (z:List R5):∀ i,(gl s ps from_ id z i).length<=i
 | 0=>ba _
 | i+1=>by
  have:=tj s ps from_ id z i;simp only [gl,cj];split <;> simp <;> omega
theorem AV.weak.agg {cs ds:List AV} (h:bF cs ds) (a:∀ x∈ds,x.isCell=true):(AV.agg cs).weak (.agg ds):=by
 intro m v hv
 cases hv with
 | agg _ vs hl c b=>
  obtain ⟨h1,h2⟩:=h.spec;refine .agg ds vs am a fun i x u g1 g2=>?_;have hi:i<cs.length:=by rw [h1]; exact (aq.1 g1).1
  exact h2 i _ x (ai hi) g1 m u (b i _ u (ai hi) g2)
structure aag (s:Nat->Int) (ps:List bU) (from_ id:Int):Prop where
 w:0<=s 9/\s 9<=4
 st:1<=s 10/\s 10<=1000000
 rt:1<=s 20/\s 20<=1000
 f:0<=from_/\from_<=900000
 id:0<=id/\id<=50
 pl:ps.length<=64
 p:∀ p∈ps,0<=p.sa/\p.sa<=1000001/\0<=p.sb/\p.sb<=1000001
theorem IA {s:Nat->Int} {ps:List bU} {p:Int} {a b c d e f g:Int}:jv s ps ⟨p,a,b,c,d,e,f,g,[]⟩=false:=by
 have:cT (([]:List ea).length:Int) 1 6=false:=by decide
 simp only [jv,jI,this,bN,bE]
set_option maxHeartbeats 16000000 in
theorem EM (s:Nat->Int) (ps:List bU) (from_ id:Int) (z:List R5) (hH:aag s ps from_ id) (hz:∀ x∈z,wO x):ar Tryz.prog 20 [.agg (bR s),dt ps,.int .i64 from_,.int .i64 id,.sl .no 5 (z.map gZ)] (dl (IJ s ps from_ id z)):=by
 have U:((z.map gZ).length:Int)=(z.length:Int):=by rw [ay]
 have hw:=hH.w; have hst:=hH.st; have hrt:=hH.rt; have hf:=hH.f; have hid:=hH.id; have hpl:=hH.pl
 refine aM K6 Tryz.func20 ?_;intro F n' w0 m0 hG hro h1 kp;refine bv ?_;refine aI.loop (X:=Nat) (fun i=>⟨[(12,.int .i64 i),(11,(.sl (.id 11) 9 ((gl s ps from_ id z i).map bL))),(5,.loc 5 0),(4,.sl .no 5 (z.map gZ)),(3,.int .i64 id),(2,.int .i64 from_),(1,dt ps)],[(5,bR s)]⟩) (fun i=>i<=z.length/\i<=5) (fun i=>z.length - i) 0 ⟨aZ _,aZ _⟩ (LE) (fun i hx=>?_)
 ·obtain ⟨hi,h6⟩:=hx;have hol:=tj s ps from_ id z i;by_cases u:i<z.length
  ·by_cases h5:i<5
   ·have b1:decide ((i:Int)<((z.map gZ).length:Int))=false->False:=fun h=>by have:=aR h; omega
    have b2:decide ((i:Int)<5)=false->False:=fun h=>by have:=aR h; omega
    have hx:=DF (f:=gZ) Ws u;have G:wO (z.getD i Ws):=hz _ (by rw [aG,ai u]; exact bX u);have B:gl s ps from_ id z (i+1)=gl s ps from_ id z i++if jv s ps (sE s ps from_ (id+i) (z.getD i Ws)) then [sE s ps from_ (id+i) (z.getD i Ws)] else []:=rfl
    generalize z.getD i Ws=x at hx G B;have p1:=bO G.1 (n:=40) am;have p2:=bO G.2.1 (n:=5) am;have p3:=bO G.2.2.1 (n:=2*s 9+1) am;have p4:=bO G.2.2.2.1 (n:=4) am;have p5:=bO (nC (x.d.tdiv 4)) (n:=3) am;have p6:=bO (nC (x.e.tdiv 4)) (n:=3) am;have cE:=ib (cm (x.e.tdiv 4)) 3 bt;have cD:=ib (cm (x.d.tdiv 4)) 3 bt;have wc:IntKind.i64.wrap (IntKind.i64.wrap (2*s 9)+1)=2*s 9+1:=by rw [show IntKind.i64.wrap (2*s 9)=2*s 9 from a6 am am]; exact a6 am am
    have cC:ar Tryz.prog 53 [.int .i64 x.c,.int .i64 (IntKind.i64.wrap (IntKind.i64.wrap (2*s 9)+1))] (.int .i64 (aH x.c (2*s 9+1))):=by
     have h:=ib x.c (IntKind.i64.wrap (IntKind.i64.wrap (2*s 9)+1)) (by rw [wc]; omega);rw [wc] at h ⊢;exact h
    have c1:=ib x.a 40 bt;have c2:=ib x.b 5 bt;have c4:=ib x.d 4 bt;have v:sE s ps from_ (id+i) x=⟨id+i,aH x.e 4,0,s 0,from_+aH x.a 40,from_+aH x.a 40+1+aH x.b 5,aH x.c (2*s 9+1) - s 9,min (s 10) ((1+aH x.d 4)*s 20),
  (jM (s 0) (1+aH x.d 4) (aH (cm (x.d.tdiv 4)) 3) (1+aH (cm (x.e.tdiv 4)) 3) ps (from_+aH x.a 40+1+aH x.b 5) ps.length).2⟩:=rfl
    generalize aH x.a 40=j at *;generalize aH x.b 5=D at *;generalize aH x.c (2*s 9+1)=N at *;generalize aH x.d 4=l at *;generalize aH (cm (x.d.tdiv 4)) 3=A at *;generalize aH (cm (x.e.tdiv 4)) 3=nn at *;have Q:0<=(1+l)*s 20:=Int.mul_nonneg am am;have Z:(1+l)*s 20<=4*1000:=Int.mul_le_mul am am am am;have w1:IntKind.i64.wrap (id+(i:Int))=id+i:=a6 am am;have w2:IntKind.i64.wrap (from_+j)=from_+j:=a6 am am;have w3:IntKind.i64.wrap (from_+j+1)=from_+j+1:=a6 am am;have w4:IntKind.i64.wrap (from_+j+1+D)=from_+j+1+D:=a6 am am;have w5:IntKind.i64.wrap (N - s 9)=N - s 9:=a6 am am;have w6:IntKind.i64.wrap (1+l)=1+l:=a6 am am;have w7:IntKind.i64.wrap ((1+l)*s 20)=(1+l)*s 20:=a6 am am;have w8:IntKind.i64.wrap (1+nn)=1+nn:=a6 am am;have t:([.int .i64 (IntKind.i64.wrap (id+(i:Int))),.int .i64 (aH x.e 4),.int .i64 0,.int .i64 (s 0),.int .i64 (IntKind.i64.wrap (from_+j)),.int .i64 (IntKind.i64.wrap (IntKind.i64.wrap (IntKind.i64.wrap (from_+j)+1)+D)),.int .i64 (IntKind.i64.wrap (N - s 9)),.int .i64 (min (s 10) (IntKind.i64.wrap (IntKind.i64.wrap (1+l)*s 20))),.sl .full 0 []]:List AV)=[.int .i64 (id+(i:Int)),.int .i64 (aH x.e 4),.int .i64 0,.int .i64 (s 0),.int .i64 (from_+j),.int .i64 (from_+j+1+D),.int .i64 (N - s 9),.int .i64 (min (s 10) ((1+l)*s 20)),.sl .full 0 []]:=by rw [w1,w2,w3,w4,w5,w6,w7]
    have h15:0<=from_+j+1+D/\from_+j+1+D<=1900000:=by omega
    have E:IntKind.i64.wrap (IntKind.i64.wrap (IntKind.i64.wrap (from_+j)+1)+D)=from_+j+1+D:=by rw [w2,w3,w4]
    repeat' first|exact (b1 a8).elim|exact (b2 a8).elim|refine aQ ?_|((conv=>whnf); first|refine aa (au i) (ae _ (aa hx ?_))|refine ae _ (aa (cC) ?_)|refine ae _ (aa (c1) ?_)|refine ae _ (aa (c2) ?_)|refine ae _ (aa (c4) ?_)|refine ae _ (aa (ib _ _ bt) ?_)|refine aa bt ?_|refine ⟨fun h=>?_,fun h=>?_⟩|refine aj ?_)
    have M:∀ sl:List ea,sl.length<=64->ar Tryz.prog 54 [.agg (bR s),.agg [.int .i64 (id+(i:Int)),.int .i64 (aH x.e 4),.int .i64 0,.int .i64 (s 0),.int .i64 (from_+j),.int .i64 (from_+j+1+D),.int .i64 (N - s 9),.int .i64 (min (s 10) ((1+l)*s 20)),wv sl],dt ps] (.bool (jv s ps ⟨id+i,aH x.e 4,0,s 0,from_+j,from_+j+1+D,N - s 9,min (s 10) ((1+l)*s 20),sl⟩)):=fun sl h=>EI s ⟨id+(i:Int),aH x.e 4,0,s 0,from_+j,from_+j+1+D,N - s 9,min (s 10) ((1+l)*s 20),sl⟩ ps (bH h bt) am;refine aI.loop (X:=Nat×Int×List ea×AV) (fun y=>⟨[(16,.int .i64 y.1),(15,.int .i64 y.2.1),(14,.int .i64 (1+l)),(13,.loc 13 0),(12,.int .i64 i),(11,(.sl (.id 11) 9 ((gl s ps from_ id z i).map bL))),(5,.loc 5 0),(4,.sl .no 5 (z.map gZ)),(3,.int .i64 id),(2,.int .i64 from_),(1,dt ps)],[(13,[.int .i64 (id+(i:Int)),.int .i64 (aH x.e 4),.int .i64 0,.int .i64 (s 0),.int .i64 (from_+j),.int .i64 (from_+j+1+D),.int .i64 (N - s 9),.int .i64 (min (s 10) ((1+l)*s 20)),y.2.2.2]),(5,bR s)]⟩) (fun y=>y.1<=ps.length/\(y.2.1,y.2.2.1)=jM (s 0) (1+l) A (1+nn) ps (from_+j+1+D) y.1/\(0<=y.2.1/\y.2.1<=1900000)/\y.2.2.1.length<=y.1/\((y.2.2.1=[]/\y.2.2.2 = .sl .full 0 [])\/y.2.2.2 = .sl (.id 160) 3 (y.2.2.1.map dA))) (fun y=>ps.length - y.1) (0,from_+j+1+D,[],.sl .full 0 []) ⟨aZ _,rfl,h15,ba _,.inl ⟨rfl,rfl⟩⟩ (St.le.of ?_ ?_) (fun y hy=>?_)
    ·refine aa rfl (aa (ax (fun z=>some (AV.int .i64 z)) E) (aa (ax (fun z=>some (AV.int .i64 z)) w6) ?_));exact RF
    ·refine aa (ax some t) ?_;exact RF
    ·obtain ⟨k,en,sl,cell⟩:=y;obtain ⟨hk,hr,hen,hsl,hc⟩:=hy;simp only at hk hr hen hsl hc ⊢;rcases hc with ⟨rfl,rfl⟩ | rfl
     ·have cP:ar Tryz.prog 54 [.agg (bR s),.agg [.int .i64 (id+(i:Int)),.int .i64 (aH x.e 4),.int .i64 0,.int .i64 (s 0),.int .i64 (from_+j),.int .i64 (from_+j+1+D),.int .i64 (N - s 9),.int .i64 (min (s 10) ((1+l)*s 20)),.sl .full 0 []],dt ps] (.bool (jv s ps ⟨id+(i:Int),aH x.e 4,0,s 0,from_+j,from_+j+1+D,N - s 9,min (s 10) ((1+l)*s 20),([]:List ea)⟩)):=(M [] dc).weak (.cons (.refl _) (.cons (AV.weak.agg (.cons (.refl _) (.cons (.refl _) (.cons (.refl _) (.cons (.refl _) (.cons (.refl _) (.cons (.refl _) (.cons (.refl _) (.cons (.refl _) (.cons bI .nil))))))))) (by intro y hy; simp at hy; rcases hy with rfl | rfl | rfl | rfl | rfl | rfl | rfl | rfl | rfl <;> rfl)) (.refl _)));by_cases o:k<ps.length
      ·have bbk:=dF (show (k:Int)<((ps.map bY).length:Int) by simp; omega);have hy:=ux o;have hqb:=hH.p (passAt ps k) (by rw [gD o]; exact bX o);have H:=o0 (s 0) (1+l) A (1+nn) ps (from_+j+1+D) k;rw [<- hr,ue] at H;simp only at H
       have r:¬ ((([]:List ea):List ea).length:Int)<1+nn->sE s ps from_ (id+i) x=⟨id+(i:Int),aH x.e 4,0,s 0,from_+j,from_+j+1+D,N - s 9,min (s 10) ((1+l)*s 20),([]:List ea)⟩:=fun h=>by
        have h2:=uf hk (s0:=s 0) (m:=1+l) (d:=A) (n:=1+nn) (t0:=from_+j+1+D) (by rw [<- hr]; exact h);rw [v,h2,<- hr]
       generalize passAt ps k=q at hy hqb H;have v1:IntKind.i64.wrap (q.sa+A)=q.sa+A:=a6 am am;have v2:IntKind.i64.wrap (max en (q.sa+A)+(1+l))=max en (q.sa+A)+(1+l):=a6 am am;have e15:IntKind.i64.wrap (max en (IntKind.i64.wrap (q.sa+A))+(1+l))=max en (q.sa+A)+(1+l):=by rw [v1,v2]
       have J:([]:List (List AV))++[[.int .i64 (k:Int),.int .i64 (max en (IntKind.i64.wrap (q.sa+A))),.int .i64 (IntKind.i64.wrap (max en (IntKind.i64.wrap (q.sa+A))+(1+l)))]]=(([]:List ea)++[(⟨(k:Int),max en (q.sa+A),max en (q.sa+A)+(1+l)⟩:ea)]).map dA:=by rw [v1,v2]; simp [dA]
       repeat' first|exact (bbk a8).elim|refine aQ ?_|((conv=>whnf); first|refine aa (au k) (ae _ (aa hy ?_))|refine aa (au i) (ae _ (aa hx ?_))|refine ae _ (aa (cE) ?_)|refine ae _ (aa (cD) ?_)|refine aa bt ?_|refine aa (ah rfl) (aa (ah rfl) ?_)|refine ae _ (aa (cP) ?_)|refine aa (show (((gl s ps from_ id z i).map bL).length+1)*88<=70368744177664 by rw [ay]; omega) (aa (show ((gl s ps from_ id z i).map bL).length+1<=4611686018427387904 by rw [ay]; omega) ?_)|refine ⟨fun h=>?_,fun h=>?_⟩|refine aj ?_)
       all_goals first
        |(conv=>whnf
          refine ae (k+1,max en (q.sa+A)+(1+l),([]:List ea)++[(⟨(k:Int),max en (q.sa+A),max en (q.sa+A)+(1+l)⟩:ea)],AV.sl (.id 160) 3 ((([]:List ea)++[(⟨(k:Int),max en (q.sa+A),max en (q.sa+A)+(1+l)⟩:ea)]).map dA)) (aa ⟨o,?_,?_,?_,.inr rfl⟩ (aa (by show ps.length - (k+1)<ps.length - k; omega) (St.le.of ?_ ?_)))
          ·rw [H]; symm; apply aV; clear hG t v B hx hy cP M r J cE cD cC c1 c2 c4 w1 w2 w3 w4 w5 w6 w7 wc E Q Z hH hz G U; (try simp only [aP,bq] at *); grind
          ·clear hG t v B hx hy cP M r J cE cD cC c1 c2 c4 w1 w2 w3 w4 w5 w6 w7 wc E Q Z hH hz G U; (try simp only [aP,bq] at *); grind
          ·simp <;> omega
          ·refine aa (ax some (bK am)) (aa (ax (fun z=>some (AV.int .i64 z)) e15) ?_);exact RF
          ·refine aa (ax (fun z=>some ([.int .i64 (id+(i:Int)),.int .i64 (aH x.e 4),.int .i64 0,.int .i64 (s 0),.int .i64 (from_+j),.int .i64 (from_+j+1+D),.int .i64 (N - s 9),.int .i64 (min (s 10) ((1+l)*s 20)),AV.sl (.id 160) 3 z]:List AV)) J) ?_
           repeat' (first | exact trivial | refine aa rfl ?_))
        |(conv=>whnf
          refine ae (k+1,en,([]:List ea),.sl .full 0 []) (aa ⟨o,?_,hen,?_,.inl ⟨rfl,rfl⟩⟩ (aa (by show ps.length - (k+1)<ps.length - k; omega) (St.le.of ?_ ?_)))
          ·rw [H]; symm; apply aY; clear hG t v B hx hy cP M r J cE cD cC c1 c2 c4 w1 w2 w3 w4 w5 w6 w7 wc E Q Z hH hz G U; (try simp only [aP,bq] at *); grind
          ·exact Nat.le_succ_of_le hsl
          ·refine aa (ax some (bK am)) ?_;exact RF
          ·repeat' (first | exact trivial | refine aa rfl ?_))
        | skip
       all_goals have P:=r (by clear hG t v B hx hy cP M r J cE cD cC c1 c2 c4 w1 w2 w3 w4 w5 w6 w7 wc E Q Z hH hz G U; (try simp only [aP,bq] at *); grind)
       all_goals first
        |(exact absurd (by assumption:jv s ps _=true) (by rw [IA]; simp))
        |(have L:=(by assumption:jv s ps _=false)
          conv=>whnf
          refine ae (i+1) (aa ⟨u,h5⟩ (aa am (St.le.of ?_ ?_)))
          ·refine aa (ax some (bK am)) (aa (ax (fun z=>some (AV.sl (.id 11) 9 z)) ?_) ?_)
           ·rw [B,P,aY (by rw [L]; simp),bV]
           ·exact RF
          ·repeat' (first | exact trivial | refine aa rfl ?_))
      ·have bbk:=dT (show ¬((k:Int)<((ps.map bY).length:Int)) by simp; omega);have he:k=ps.length:=by omega
       have P:sE s ps from_ (id+i) x=⟨id+(i:Int),aH x.e 4,0,s 0,from_+j,from_+j+1+D,N - s 9,min (s 10) ((1+l)*s 20),([]:List ea)⟩:=by rw [v,<- he,<- hr]
       repeat' first|exact (bbk a8).elim|refine aQ ?_|((conv=>whnf); first|refine ae _ (aa (cP) ?_)|refine aa (show (((gl s ps from_ id z i).map bL).length+1)*88<=70368744177664 by rw [ay]; omega) (aa (show ((gl s ps from_ id z i).map bL).length+1<=4611686018427387904 by rw [ay]; omega) ?_)|refine ⟨fun h=>?_,fun h=>?_⟩|refine aj ?_)
       all_goals first
        |(exact absurd (by assumption:jv s ps _=true) (by rw [IA]; simp))
        |(have L:=(by assumption:jv s ps _=false)
          conv=>whnf
          refine ae (i+1) (aa ⟨u,h5⟩ (aa am (St.le.of ?_ ?_)))
          ·refine aa (ax some (bK am)) (aa (ax (fun z=>some (AV.sl (.id 11) 9 z)) ?_) ?_)
           ·rw [B,P,aY (by rw [L]; simp),bV]
           ·exact RF
          ·repeat' (first | exact trivial | refine aa rfl ?_))
     ·have cP:ar Tryz.prog 54 [.agg (bR s),.agg [.int .i64 (id+(i:Int)),.int .i64 (aH x.e 4),.int .i64 0,.int .i64 (s 0),.int .i64 (from_+j),.int .i64 (from_+j+1+D),.int .i64 (N - s 9),.int .i64 (min (s 10) ((1+l)*s 20)),.sl .no 3 (sl.map dA)],dt ps] (.bool (jv s ps ⟨id+(i:Int),aH x.e 4,0,s 0,from_+j,from_+j+1+D,N - s 9,min (s 10) ((1+l)*s 20),sl⟩)):=M sl am;by_cases o:k<ps.length
      ·have bbk:=dF (show (k:Int)<((ps.map bY).length:Int) by simp; omega);have hy:=ux o;have hqb:=hH.p (passAt ps k) (by rw [gD o]; exact bX o);have H:=o0 (s 0) (1+l) A (1+nn) ps (from_+j+1+D) k;rw [<- hr,ue] at H;simp only at H
       have r:¬ ((sl:List ea).length:Int)<1+nn->sE s ps from_ (id+i) x=⟨id+(i:Int),aH x.e 4,0,s 0,from_+j,from_+j+1+D,N - s 9,min (s 10) ((1+l)*s 20),sl⟩:=fun h=>by
        have h2:=uf hk (s0:=s 0) (m:=1+l) (d:=A) (n:=1+nn) (t0:=from_+j+1+D) (by rw [<- hr]; exact h);rw [v,h2,<- hr]
       generalize passAt ps k=q at hy hqb H;have v1:IntKind.i64.wrap (q.sa+A)=q.sa+A:=a6 am am;have v2:IntKind.i64.wrap (max en (q.sa+A)+(1+l))=max en (q.sa+A)+(1+l):=a6 am am;have e15:IntKind.i64.wrap (max en (IntKind.i64.wrap (q.sa+A))+(1+l))=max en (q.sa+A)+(1+l):=by rw [v1,v2]
       have J:sl.map dA++[[.int .i64 (k:Int),.int .i64 (max en (IntKind.i64.wrap (q.sa+A))),.int .i64 (IntKind.i64.wrap (max en (IntKind.i64.wrap (q.sa+A))+(1+l)))]]=(sl++[(⟨(k:Int),max en (q.sa+A),max en (q.sa+A)+(1+l)⟩:ea)]).map dA:=by rw [v1,v2]; simp [dA]
       repeat' first|exact (bbk a8).elim|refine aQ ?_|((conv=>whnf); first|refine aa (au k) (ae _ (aa hy ?_))|refine aa (au i) (ae _ (aa hx ?_))|refine ae _ (aa (cE) ?_)|refine ae _ (aa (cD) ?_)|refine aa bt ?_|refine aa (show ((sl.map dA).length+1)*24<=70368744177664 by rw [ay]; omega) (aa (show (sl.map dA).length+1<=4611686018427387904 by rw [ay]; omega) ?_)|refine ae _ (aa (cP) ?_)|refine aa (show (((gl s ps from_ id z i).map bL).length+1)*88<=70368744177664 by rw [ay]; omega) (aa (show ((gl s ps from_ id z i).map bL).length+1<=4611686018427387904 by rw [ay]; omega) ?_)|refine ⟨fun h=>?_,fun h=>?_⟩|refine aj ?_)
       all_goals first
        |(conv=>whnf
          refine ae (k+1,max en (q.sa+A)+(1+l),sl++[(⟨(k:Int),max en (q.sa+A),max en (q.sa+A)+(1+l)⟩:ea)],AV.sl (.id 160) 3 ((sl++[(⟨(k:Int),max en (q.sa+A),max en (q.sa+A)+(1+l)⟩:ea)]).map dA)) (aa ⟨o,?_,?_,?_,.inr rfl⟩ (aa (by show ps.length - (k+1)<ps.length - k; omega) (St.le.of ?_ ?_)))
          ·rw [H]; symm; apply aV; clear hG t v B hx hy cP M r J cE cD cC c1 c2 c4 w1 w2 w3 w4 w5 w6 w7 wc E Q Z hH hz G U; (try simp only [aP,bq] at *); grind
          ·clear hG t v B hx hy cP M r J cE cD cC c1 c2 c4 w1 w2 w3 w4 w5 w6 w7 wc E Q Z hH hz G U; (try simp only [aP,bq] at *); grind
          ·simp <;> omega
          ·refine aa (ax some (bK am)) (aa (ax (fun z=>some (AV.int .i64 z)) e15) ?_);exact RF
          ·refine aa (ax (fun z=>some ([.int .i64 (id+(i:Int)),.int .i64 (aH x.e 4),.int .i64 0,.int .i64 (s 0),.int .i64 (from_+j),.int .i64 (from_+j+1+D),.int .i64 (N - s 9),.int .i64 (min (s 10) ((1+l)*s 20)),AV.sl (.id 160) 3 z]:List AV)) J) ?_
           repeat' (first | exact trivial | refine aa rfl ?_))
        |(conv=>whnf
          refine ae (k+1,en,sl,.sl (.id 160) 3 (sl.map dA)) (aa ⟨o,?_,hen,?_,.inr rfl⟩ (aa (by show ps.length - (k+1)<ps.length - k; omega) (St.le.of ?_ ?_)))
          ·rw [H]; symm; apply aY; clear hG t v B hx hy cP M r J cE cD cC c1 c2 c4 w1 w2 w3 w4 w5 w6 w7 wc E Q Z hH hz G U; (try simp only [aP,bq] at *); grind
          ·exact Nat.le_succ_of_le hsl
          ·refine aa (ax some (bK am)) ?_;exact RF
          ·repeat' (first | exact trivial | refine aa rfl ?_))
        | skip
       all_goals have P:=r (by clear hG t v B hx hy cP M r J cE cD cC c1 c2 c4 w1 w2 w3 w4 w5 w6 w7 wc E Q Z hH hz G U; (try simp only [aP,bq] at *); grind)
       all_goals first
        |(have L:=(by assumption:jv s ps ⟨id+(i:Int),aH x.e 4,0,s 0,from_+j,from_+j+1+D,N - s 9,min (s 10) ((1+l)*s 20),sl⟩=true)
          conv=>whnf
          refine ae (i+1) (aa ⟨u,h5⟩ (aa am (St.le.of ?_ ?_)))
          ·refine aa (ax some (bK am)) (aa (ax (fun z=>some (AV.sl (.id 11) 9 z)) ?_) ?_)
           ·rw [B,P,aV L,dw]; rfl
           ·exact RF
          ·repeat' (first | exact trivial | refine aa rfl ?_))
        |(have L:=(by assumption:jv s ps _=false)
          conv=>whnf
          refine ae (i+1) (aa ⟨u,h5⟩ (aa am (St.le.of ?_ ?_)))
          ·refine aa (ax some (bK am)) (aa (ax (fun z=>some (AV.sl (.id 11) 9 z)) ?_) ?_)
           ·rw [B,P,aY (by rw [L]; simp),bV]
           ·exact RF
          ·repeat' (first | exact trivial | refine aa rfl ?_))
      ·have bbk:=dT (show ¬((k:Int)<((ps.map bY).length:Int)) by simp; omega);have he:k=ps.length:=by omega
       have P:sE s ps from_ (id+i) x=⟨id+(i:Int),aH x.e 4,0,s 0,from_+j,from_+j+1+D,N - s 9,min (s 10) ((1+l)*s 20),sl⟩:=by rw [v,<- he,<- hr]
       repeat' first|exact (bbk a8).elim|refine aQ ?_|((conv=>whnf); first|refine ae _ (aa (cP) ?_)|refine aa (show (((gl s ps from_ id z i).map bL).length+1)*88<=70368744177664 by rw [ay]; omega) (aa (show ((gl s ps from_ id z i).map bL).length+1<=4611686018427387904 by rw [ay]; omega) ?_)|refine ⟨fun h=>?_,fun h=>?_⟩|refine aj ?_)
       all_goals first
        |(have L:=(by assumption:jv s ps ⟨id+(i:Int),aH x.e 4,0,s 0,from_+j,from_+j+1+D,N - s 9,min (s 10) ((1+l)*s 20),sl⟩=true)
          conv=>whnf
          refine ae (i+1) (aa ⟨u,h5⟩ (aa am (St.le.of ?_ ?_)))
          ·refine aa (ax some (bK am)) (aa (ax (fun z=>some (AV.sl (.id 11) 9 z)) ?_) ?_)
           ·rw [B,P,aV L,dw]; rfl
           ·exact RF
          ·repeat' (first | exact trivial | refine aa rfl ?_))
        |(have L:=(by assumption:jv s ps _=false)
          conv=>whnf
          refine ae (i+1) (aa ⟨u,h5⟩ (aa am (St.le.of ?_ ?_)))
          ·refine aa (ax some (bK am)) (aa (ax (fun z=>some (AV.sl (.id 11) 9 z)) ?_) ?_)
           ·rw [B,P,aY (by rw [L]; simp),bV]
           ·exact RF
          ·repeat' (first | exact trivial | refine aa rfl ?_))
   ·have b2:decide ((i:Int)<5)=true->False:=fun h=>by have:=aF h; omega
    have b1:decide ((i:Int)<((z.map gZ).length:Int))=false->False:=fun h=>by have:=aR h; omega
    have he:i=5:=by omega
    subst he
    repeat' first|exact (b1 a8).elim|exact (b2 a8).elim|refine aQ ?_|((conv=>whnf); first|refine ⟨fun h=>?_,fun h=>?_⟩|refine aj ?_)
    exact Ends.mk (aj rfl) (az (by rw [IJ,Nat.min_eq_right am]; rfl))
  ·have b1:decide ((i:Int)<((z.map gZ).length:Int))=true->False:=fun h=>by have:=aF h; omega
   have he:i=z.length:=by omega
   repeat' first|exact (b1 a8).elim|refine aQ ?_|((conv=>whnf); first|refine ⟨fun h=>?_,fun h=>?_⟩|refine aj ?_)
   exact Ends.mk (aj rfl) (az (by rw [IJ,rF am,<- he]; rfl))
open Go Go.AI
namespace TCase
end TCase
theorem aaD {s:Nat->Int} (h:ny s=true):(0<=s 9/\s 9<=4)/\(1<=s 10/\s 10<=1000000)/\(1<=s 20/\s 20<=1000)/\(0<=s 19/\s 19<=60)/\(1<=s 11/\s 11<=1000000)/\(1<=s 18/\s 18<=1000000)/\(0<=s 17/\s 17<=10000)/\(0<=s 16/\s 16<=10000):=by
 simp only [ny,cT,al,aO] at h;omega
theorem zr {s:Nat->Int} {ps:List bU} {z m:Int} (a:∀ p∈ps,p.sb<=m) (hl:ps.length<=64):∀ (l:List ea) (t:Int),fO s ps z t l=true->∀ x∈l,x.b<=m
 | [],_,_,x,hx=>nomatch hx
 | y::r,t,h,x,hx=>by
  simp only [fO,mP,al,cT,aO] at h;rcases bC.1 hx with rfl | hx
  ·grind [a6,gD,List.getElem_mem]
  ·exact zr a hl r _ h.2 x hx
theorem QP {s:Nat->Int} {o:dZ} {ps:List bU} {m:Int} (a:∀ p∈ps,p.sb<=m) (hl:ps.length<=64) (h:jI s o ps=true):uG o<=m:=by
 have d:=Jb h;have c:fO s ps o.size o.b o.sl=true:=by simp only [jI,al] at h; exact h.2
 refine zr a hl o.sl _ c _ ?_;grind [Mm,List.getElem?_eq_getElem,List.getElem_mem]
theorem o7 {s:Nat->Int} {ps:List bU} {from_ id:Int} {z:List R5} (hz:∀ x∈z,wO x):∀ i,i<=z.length->∀ o∈gl s ps from_ id z i,jv s ps o=true/\from_<=o.a/\id<=o.id/\o.id<id+i
 | 0,_,o,b=>nomatch b
 | i+1,hi,o,b=>by
  rw [gl,eY] at b;rcases b with b | b
  ·have:=o7 hz i am o b;grind
  ·split at b
   ·rename_i c;rw [cg.1 b];have hx:wO (z.getD i Ws):=hz _ (by grind);have p1:=bO hx.1 (n:=40) am;exact ⟨c,by show from_<=from_+_; omega,by show id<=id+(i:Int); omega,by show id+(i:Int)<_; omega⟩
   ·cases b
open Go Go.AI
set_option maxRecDepth 10000
theorem AV.weak.tup {cs ds:List AV} (h:bF cs ds):(AV.tup cs).weak (.tup ds):=by
 intro m v hv
 cases hv with
 | tup _ vs hl a=>
  obtain ⟨h1,h2⟩:=h.spec;refine .tup ds vs am fun i x u g1 g2=>?_;have hi:i<cs.length:=by rw [h1]; exact (aq.1 g1).1
  exact h2 i _ x (ai hi) g1 m u (a i _ u (ai hi) g2)
open Go Go.AI
set_option maxRecDepth 10000
structure ob where
 id:Int
 x:Int
 y:Int
 reach:Int
 ant:Int
 skew:Int
deriving DecidableEq
def fa (s:ob):List AV:=[.int .i64 s.id,.int .i64 s.x,.int .i64 s.y,.int .i64 s.reach,.int .i64 s.ant,.int .i64 s.skew]
def Tk:ob:=⟨0,0,0,0,0,0⟩
def Cx (l:List ob):AV := .sl .no 6 (l.map fa)
def jp:Nat->Int:=fun _=>0
def sx (l:List (Nat->Int)):AV := .sl .no 21 (l.map bR)
structure fi where
 rows:List Int
 a:Int
 b:Int
 lo:Int
 hi:Int
 clear:Bool
deriving DecidableEq
def gQ (s:fi):List AV:=[.int .i64 1,bB s.rows,.int .i64 s.a,.int .i64 s.b,.int .i64 s.lo,.int .i64 s.hi,.bool s.clear,.int .i64 0,.int .i64 0,.int .i64 0,.sl .no 1 [],.sl .no 12 []]
structure oK where
 kind:Int
 see:fi
 within:Int
 kids:List fi
deriving DecidableEq
def dp (g:oK):List AV:=[.int .i64 g.kind,bB g.see.rows,.int .i64 g.see.a,.int .i64 g.see.b,.int .i64 g.see.lo,.int .i64 g.see.hi,.bool g.see.clear,.int .i64 0,.int .i64 0,.int .i64 g.within,.sl .no 1 [],.sl .no 12 (g.kids.map gQ)]
structure kQ where
 id:Int
 own:Int
 goal:oK
 price:Int
 group:Int
 urgent:Bool
 known:Int
 due:Int
deriving DecidableEq
def fL (o:kQ):List AV:=[.int .i64 o.id,.int .i64 o.own,.int .i64 o.goal.kind,bB o.goal.see.rows,.int .i64 o.goal.see.a,.int .i64 o.goal.see.b,.int .i64 o.goal.see.lo,.int .i64 o.goal.see.hi,.bool o.goal.see.clear,.int .i64 0,.int .i64 0,.int .i64 o.goal.within,.sl .no 1 [],.sl .no 12 (o.goal.kids.map gQ),.int .i64 o.price,.int .i64 o.group,.bool o.urgent,.int .i64 o.known,.int .i64 o.due]
def lA:fi:=⟨[],0,0,0,0,false⟩
def Ub:oK:=⟨0,lA,0,[]⟩
def jB:kQ:=⟨0,0,Ub,0,0,false,0,0⟩
def CK (l:List kQ):AV := .sl .no 19 (l.map fL)
structure iu where
 ord:Int
 opts:List Int
deriving DecidableEq
def eO (b:iu):List AV:=[.int .i64 b.ord,bB b.opts]
def fA:iu:=⟨0,[]⟩
def vf (l:List iu):AV := .sl .no 2 (l.map eO)
structure dY where
 sats:List (Nat->Int)
 stas:List ob
 passes:List bU
 ords:List kQ
 opts:List dZ
 buns:List iu
 prom:List Int
 quo:List Int
 loss:Int
 a:Int
 b:Int
def gC (s:dY):List AV:=[sx s.sats,Cx s.stas,dt s.passes,CK s.ords,dl s.opts,vf s.buns,bB s.prom,bB s.quo,.int .i64 s.loss,.int .i64 s.a,.int .i64 s.b]
structure dY.Small (s:dY):Prop where
 sats:s.sats.length<=1000000
 stas:s.stas.length<=1000000
 passes:s.passes.length<=1000000
 ords:s.ords.length<=1000000
 opts:s.opts.length<=1000000
 buns:s.buns.length<=1000000
 prom:s.prom.length<=1000000
 quo:s.quo.length<=1000000
 slots:∀ o∈s.opts,o.sl.length<=1000000
 bopts:∀ b∈s.buns,b.opts.length<=1000000
abbrev cK (b:Nat) (s:dY):AV := .pin 5000011 b 0 (gC s)
theorem wQ {α:Type} (p:α->Bool):∀ (l:List α) (k:Nat),(∃ (n:Nat) (x:α),lV p l k=((k+n:Nat):Int)/\l[n]?=some x/\l.find? p=some x)\/(lV p l k = -1/\l.find? p=none)
 | [],k => .inr ⟨rfl,rfl⟩
 | x::r,k=>by
  by_cases h:p x=true
  ·exact .inl ⟨0,x,by simp [lV,h],rfl,by simp [h]⟩
  ·rcases wQ p r (k+1) with ⟨n,y,h1,h2,a⟩ | ⟨h1,h2⟩
   ·exact .inl ⟨n+1,y,by simp only [lV,h,cv,h1]; simp only [br,cv]; omega,by simpa using h2,by simp only [List.find?_cons,h]; exact a⟩
   ·exact .inr ⟨by simp [lV,h,h1],by simp only [List.find?_cons,h]; exact h2⟩
theorem ni (n a b:Int):ar Tryz.prog 22 [.int .i64 n,.int .i64 a,.int .i64 b] (.bool (cT n a b)):=by
 refine aM K4 Tryz.func22 ?_;intro F d w0 m0 hG c h1 kp
 repeat' first|refine aQ ?_|((conv=>whnf); first|constructor <;> intro h|refine aj ?_)
 all_goals refine Eb ?_
 all_goals (simp_all [cT] <;> omega)
theorem BT (l:List ob) (p:ob->Bool) (g:FuncId) (fv:AV) (cap:List AV) (hf:fv = .clo g cap\/(fv = .fn g/\cap=[])) (hl:l.length<=1000000)
  (hp:∀ x∈l,ar Tryz.prog g ((.agg (fa x))::cap) (.bool (p x))):ar Tryz.prog 176 [.sl .no 6 (l.map fa),fv] (.int .i64 (lV p l 0)):=by
 let E:=fa; let D:=Tk; let K:=GD; let N:=6; have f:=Tryz.func176; exact Wk
theorem xg (l:List ob) (p:ob->Bool) (g:FuncId) (fv:AV) (cap:List AV) (hf:fv = .clo g cap\/(fv = .fn g/\cap=[])) (hl:l.length<=1000000)
  (hp:∀ x∈l,ar Tryz.prog g ((.agg (fa x))::cap) (.bool (p x))):ar Tryz.prog 106 [.sl .no 6 (l.map fa),fv] (.bool (l.any p)):=by
 have I:=BT l p g fv cap hf hl hp; let K:=Hv; have f:=Tryz.func106; exact Y2
theorem BU (l:List (Nat->Int)) (p:(Nat->Int)->Bool) (g:FuncId) (fv:AV) (cap:List AV) (hf:fv = .clo g cap\/(fv = .fn g/\cap=[])) (hl:l.length<=1000000)
  (hp:∀ x∈l,ar Tryz.prog g ((.agg (bR x))::cap) (.bool (p x))):ar Tryz.prog 129 [.sl .no 21 (l.map bR),fv] (.int .i64 (lV p l 0)):=by
 let E:=bR; let D:=jp; let K:=Hb; let N:=21; have f:=Tryz.func129; exact Wk
theorem BV (l:List kQ) (p:kQ->Bool) (g:FuncId) (fv:AV) (cap:List AV) (hf:fv = .clo g cap\/(fv = .fn g/\cap=[])) (hl:l.length<=1000000)
  (hp:∀ x∈l,ar Tryz.prog g ((.agg (fL x))::cap) (.bool (p x))):ar Tryz.prog 125 [.sl .no 19 (l.map fL),fv] (.int .i64 (lV p l 0)):=by
 let E:=fL; let D:=jB; let K:=Hd; let N:=19; have f:=Tryz.func125; exact Wk
open Go Go.AI
set_option maxRecDepth 10000
theorem CB {α:Type} (v:α):∀ (p r:List α),dB (p++r) p.length v=p++dB r 0 v
 | [],_=>rfl
 | x::p,r=>by rw [jE,bu,dB,CB v p r]; rfl
theorem ww {α β:Type} (g:α->β) (v:α):∀ (l:List α) (i:Nat),dB (l.map g) i (g v)=(dB l i v).map g
 | [],_=>rfl
 | _::_,0=>rfl
 | x::l,i+1=>by simp only [cp,dB]; rw [ww g v l i]
theorem LJ (x y:Int):ar Tryz.prog 400 [.int .i64 x,.int .i64 y] (.int .i64 (nf .andNot .i64 x y)):=dP EU Tryz.func400
open Go Go.AI
set_option maxRecDepth 10000
def rk:Nat->Nat->List Nat
 | 0,_=>[]
 | f+1,n=>if n=0 then [] else Lib.ctz 64 n::rk f (n &&& (n - 1))
theorem rm {n:Nat} (h:n≠0):n &&& (n - 1)<n:=Nat.lt_of_le_of_lt Nat.and_le_right am
theorem AA:∀ (f n g:Nat),n<=f->n<=g->rk f n=rk g n
 | 0,n,g,h,_=>by
  have:n=0:=by omega
  subst this;cases g <;> simp [rk]
 | f+1,n,0,_,h=>by
  have:n=0:=by omega
  subst this;simp [rk]
 | f+1,n,g+1,h1,h2=>by
  simp only [rk];by_cases h:n=0
  ·rw [aV h,aV h]
  ·rw [aY h,aY h];have:=rm h;rw [AA f _ g am am]
def nN (n:Nat):List Nat:=rk n n
theorem Ju {n:Nat} (h:n≠0):nN n=Lib.ctz 64 n::nN (n &&& (n - 1)):=by
 obtain ⟨m,rfl⟩:∃ m,n=m+1:=⟨n - 1,by omega⟩;have:=rm h;show rk (m+1) (m+1)=_;rw [rk,aY h,AA m _ ((m+1) &&& (m+1 - 1)) am (ba _)];rfl
theorem X3:nN 0=[]:=rfl
def Bv (i:Nat) (r:Int):List (Int×Int):=(nN r.toNat).map fun (x:Nat)=>((x:Int),(i:Int))
def QG:Nat->List Int->List (Int×Int)
 | _,[]=>[]
 | k,r::l=>Bv k r++QG (k+1) l
def iF (rows:List Int):List (Int×Int):=QG 0 rows
theorem D8:∀ (l m:List Int) (k:Nat),QG k (l++m)=QG k l++QG (k+l.length) m
 | [],m,k=>rfl
 | r::l,m,k=>by rw [jE,QG,QG,D8 l m,wm,bu]; congr 3; omega
theorem xX {l:List Int} {i:Nat} (hi:i<l.length):iF (l.take (i+1))=iF (l.take i)++Bv i (l.getD i 0):=by
 rw [eN,ai hi,iF,D8,di,rF am,bS,aG,ai hi];simp [iF,QG]
theorem Nd {l:List Int} {i j:Nat} {c:Int×Int} (hi:i<l.length) (hj:(Bv i (l.getD i 0))[j]?=some c):(iF l)[(iF (l.take i)).length+j]?=some c:=by
 have h:=xX hi
 have e:iF l=iF (l.take (i+1))++QG (i+1) (l.drop (i+1)):=by
  have:=D8 (l.take (i+1)) (l.drop (i+1)) 0;rw [Ce,di,rF am,bS] at this;exact this
 have a:=(aq.1 hj).1;rw [e,h,wm,bM am,Nat.add_sub_cancel_left,cL a];exact hj
theorem Az {a b:Nat} (d:a<9223372036854775808) (c:b<9223372036854775808):nf .and .i64 (a:Int) (b:Int)=((a &&& b:Nat):Int):=by
 have h:a &&& b<9223372036854775808:=Nat.lt_of_le_of_lt Nat.and_le_right c;have h1:(BitVec.ofInt 64 (a:Int)).toNat=a:=by rw [qt,tS]; exact lO am
 have h2:(BitVec.ofInt 64 (b:Int)).toNat=b:=by rw [qt,tS]; exact lO am
 show IntKind.i64.wrap (((BitVec.ofInt 64 (a:Int)) &&& (BitVec.ofInt 64 (b:Int))).toNat:Int)=_;rw [BitVec.toNat_and,h1,h2];exact a6 am am
set_option maxHeartbeats 4000000 in
theorem Cb (l:List Int) (hl:l.length<=1000000) (L:∀ r∈l,0<=r/\r<=281474976710655):jA Tryz.prog (fun c=>[.agg (fg c)]) 355 [.ref [bB l]] (iF l):=by
 refine jA.of Tryz.func355 rfl aK bj (ah rfl) rfl ?_;intro F n m y J Jx hY
 repeat' first|refine QM rfl hY af (.mk:KP ic) ?_|((conv=>whnf); first|refine cZ ?_|refine cY ?_|refine ed ?_|refine aa (fun h=>?_) (fun h=>?_)|refine aj ?_)
 refine ir.loop (X:=Nat) (fun i=>((false,(iF (l.take i)).length),⟨[(9,.int .i64 i),(8,.int .i64 (l.map fun h=>[AV.int .i64 h]).length),(7,bB l),(0,.lit (.func (.yield y) #[] #[]))],[]⟩)) (fun i=>i<=l.length) (fun i=>l.length - i) 0 (aZ _) rfl (LE) (fun i hi=>?_)
 ·by_cases a:i<l.length
  ·have d:=dF (show (i:Int)<((l.map fun h=>[AV.int .i64 h]).length:Int) by simp; omega);have hx:(l.map fun h=>[AV.int .i64 h])[(i:Int).toNat]?=some [AV.int .i64 (l.getD i 0)]:=by simp [ai a]
   have b:=fun (j:Nat) (c:Int×Int) (hj:(Bv i (l.getD i 0))[j]?=some c)=>Nd a hj;have f:(iF (l.take (i+1))).length=(iF (l.take i)).length+(Bv i (l.getD i 0)).length:=by rw [xX a]; simp
   obtain ⟨r,w,A⟩:∃ r:Nat,l.getD i 0=(r:Int)/\r<=281474976710655:=by
    have:=L (l.getD i 0) (by rw [aG,ai a]; exact bX a);exact ⟨(l.getD i 0).toNat,by omega,by omega⟩
   rw [w] at hx b f
   repeat' first|exact (d a8).elim|refine QM rfl hY af (.mk:KP ic) ?_|((conv=>whnf); first|refine cZ ?_|refine cY ?_|refine ed ?_|refine aa (au i) (ae _ (aa hx ?_))|refine aa (fun h=>?_) (fun h=>?_)|refine aj ?_)
   refine ir.loop (X:=Nat×Nat) (fun x=>((false,(iF (l.take i)).length+x.1),⟨[(4,.int .i64 x.2),(3,.int .i64 i),(9,.int .i64 i),(8,.int .i64 (l.map fun h=>[AV.int .i64 h]).length),(7,bB l),(0,.lit (.func (.yield y) #[] #[]))],[]⟩))
    (fun x=>x.2<=281474976710655/\(nN r).drop x.1=nN x.2/\x.1+(nN x.2).length=(nN r).length) (fun x=>x.2) (0,r) ⟨A,rfl,by simp⟩ rfl (St.le.of ?_ ?_) (fun x v=>?_)
   ·exact RF
   ·exact RF
   ·obtain ⟨j,q⟩:=x;obtain ⟨H,u,p⟩:=v;simp only at H u p;by_cases o:q=0
    ·have e:((q:Int)!=0)=true->False:=fun h=>by subst o; simp at h
     subst o;rw [X3] at p
     repeat' first|exact (e a8).elim|refine QM rfl hY af (.mk:KP ic) ?_|((conv=>whnf); first|refine cZ ?_|refine cY ?_|refine ed ?_|refine aa (fun h=>?_) (fun h=>?_)|refine aj ?_)
     refine ae (i+1) (aa a (aa am (aa (ax (Prod.mk false) (by rw [f]; simp [Bv]; simpa using p.symm)) (LE))))
    ·have e:((q:Int)!=0)=false->False:=fun h=>by simp at h; omega
     have B:=Ye q am;have hz:IntKind.u64.wrap (q:Int)=(q:Int):=by rw [IntKind.wrap_u64]; omega
     rw [<- hz] at B;rw [Ju o] at u p
     have G:=b j ((Lib.ctz 64 q:Int),(i:Int)) (by
      have E:(nN r)[j]?=some (Lib.ctz 64 q):=by rw [<- Bi,u]; rfl
      rw [Bv,aT,du,E]; rfl)
     repeat' first|exact (e a8).elim|refine QM rfl hY af (.mk:KP ic) ?_|((conv=>whnf); first|refine cZ ?_|refine cY ?_|refine ed ?_|refine ae _ (aa (B) ?_)|refine aa (fun h=>?_) (fun h=>?_)|refine aj ?_)
     refine ae ((Lib.ctz 64 q:Int),(i:Int)) (aa G (aa rfl (fun t D=>?_)));subst D;refine aa ?_ ?_
     ·repeat' first|refine QM rfl hY af (.mk:KP ic) ?_|((conv=>whnf); first|refine cZ ?_|refine cY ?_|refine ed ?_|refine aa (fun h=>?_) (fun h=>?_)|refine aj ?_)
      refine ae (j+1,q &&& (q - 1)) (aa ⟨?_,?_,?_⟩ (aa (rm o) (aa rfl (St.le.of ?_ ?_))))
      ·have:=rm o; show q &&& (q - 1)<=_; omega
      ·show (nN r).drop (j+1)=_;rw [<- aah,u]; rfl
      ·simp only [bu] at p; show (j+1)+(nN (q &&& (q - 1))).length=(nN r).length; omega
      ·refine aa (ax (fun z=>some (AV.int .i64 z)) ?_) ?_
       ·show nf .and .i64 (q:Int) (IntKind.i64.wrap ((q:Int) - 1))=((q &&& (q - 1):Nat):Int);rw [show IntKind.i64.wrap ((q:Int) - 1)=((q - 1:Nat):Int) from (a6 am am).trans am];exact Az am am
       ·exact RF
      ·exact RF
     ·repeat' first|refine QM rfl hY af (.mk:KP ic) ?_|((conv=>whnf); first|refine cZ ?_|refine cY ?_|refine ed ?_|refine aa (fun h=>?_) (fun h=>?_)|refine aj ?_)
      exact iL.mk (aj rfl) (bw rfl)
  ·have d:=dT (show ¬((i:Int)<((l.map fun h=>[AV.int .i64 h]).length:Int)) by simp; omega);have he:l.take i=l:=bA am
   repeat' first|exact (d a8).elim|refine QM rfl hY af (.mk:KP ic) ?_|((conv=>whnf); first|refine cZ ?_|refine cY ?_|refine ed ?_|refine aa (fun h=>?_) (fun h=>?_)|refine aj ?_)
   exact iL.mk (bw rfl) (aj (ax (Prod.mk false) (by rw [he])))
open Go Go.AI
set_option maxRecDepth 10000
theorem Og (l:List Int):ar Tryz.prog 326 [.agg [bB l]] (.clo 355 [.ref [bB l]]):=dP E5 Tryz.func326
theorem Tv {r:Int} (h:zA r=true):0<=r/\r<=281474976710655:=by simpa [zA,cT] using h
theorem JD {l:List Int} (h:mi l=true):∀ r∈l,0<=r/\r<=281474976710655:=fun r a=>by
 simp only [mi,al,c8,fF] at h;have:=h.2 r a;exact Tv (by simpa using this)
theorem Jv:∀ (f n:Nat),(rk f n).length<=n
 | 0,n=>aZ _
 | f+1,n=>by
  rw [rk]; split
  ·exact aZ _
  ·have:=Jv f (n &&& (n - 1)); have:=rm ‹_›; simp only [bu]; omega
theorem Pi:∀ (l:List Int) (k:Nat),(∀ r∈l,0<=r/\r<=281474976710655)->(QG k l).length<=l.length*281474976710655
 | [],k,_=>ba _
 | r::l,k,h=>by
  have h1:=Pi l (k+1) fun r a=>h r (aS _ a);have h2:=h r (aW ..);have b:=Jv r.toNat r.toNat;simp only [QG,Bv,nN,cj,ay,bu];omega
theorem Ra {l:List Int} (h:mi l=true):(iF l).length<=6755399441055720:=by
 have h1:=Pi l 0 (JD h);have h2:l.length=24:=by simp only [mi,al,aO] at h; exact h.1
 rw [h2] at h1; exact h1
def Aw (l:List Int):Int:=if mi l=true then (iF l).length else 0
set_option maxHeartbeats 4000000 in
theorem Of (l:List Int) (hl:l.length<=1000000):ar Tryz.prog 303 [.agg [bB l]] (.int .i64 (Aw l)):=by
 refine aM vu Tryz.func303 ?_;intro F j w0 m0 hG e h1 kp
 repeat' first|refine aQ ?_|((conv=>whnf); first|refine ae _ (aa (nW l hl) ?_)|refine ae _ (aa (Og l) ?_)|refine ⟨fun h=>?_,fun h=>?_⟩|refine aj ?_)
 ·have i:=Ra ‹_›
  refine ⟨kk hG (bH bt h1) (α:=Int×Int) (fun c=>[.agg (fg c)]) (f:=355) (cap:=[.ref [bB l]]) (items:=iF l) rfl (Cb l hl (JD ‹_›)) (fun _=>rfl)
   (fun _=>[(3,.loc 3 0)]) [3] (fun _=>rfl) (fun pre=>[(3,[.int .i64 pre.length])]) (St.le.of ?_ ?_) aK bt ?_ ?_⟩
  ·exact RF
  ·exact RF
  ·intro m b m' a _ _ pre x rest hx;clear hG;have hG:=a;have d:pre.length<(iF l).length:=by rw [hx]; simp
   refine aI.out (aI.skip hG af ?_)
   conv=>whnf
   refine aa rfl (aa (St.le.of ?_ ?_) ?_)
   ·exact RF
   ·exact RF
   refine aI.out ?_
   repeat' first|refine QE [] rfl hG af (.mk:KP vu) ?_|((conv=>whnf); first|refine cZ ?_|refine cY ?_|refine ed ?_|refine aa (fun h=>?_) (fun h=>?_)|refine aj ?_)
   all_goals (refine St.le.of ?_ ?_)
   ·exact RF
   ·refine aa (ax (fun z=>some [AV.int .i64 z]) ((a6 am am).trans dc)) ?_;exact RF
  ·conv=>whnf
   repeat' first|refine aQ ?_|((conv=>whnf); first|refine ⟨fun h=>?_,fun h=>?_⟩|refine aj ?_)
   exact Ends.mk (aj rfl) (az (ax (AV.int .i64) (aV ‹_›).symm))
 ·exact Ends.mk (aj rfl) (az (ax (AV.int .i64) (aY (Bool.eq_false_iff.1 ‹_›)).symm))
open Go Go.AI
set_option maxRecDepth 10000
def kH {α:Type} (l:List α) (p:Nat->Bool):Bool:=(List.range l.length).all p
theorem lJ {α:Type} {l:List α} {p:Nat->Bool} {i:Nat} (hi:i<l.length) (h:p i=false):kH l p=false:=by
 rw [kH,SH]; exact ⟨i,bz.2 hi,by rw [h]; exact Bool.false_ne_true⟩
theorem nh {α:Type} {l:List α} {p:Nat->Bool} {i:Nat} (hi:i<=l.length) (h:¬ i<l.length) (a:(List.range i).all p=true):kH l p=true:=by
 rw [kH,show l.length=i by omega]; exact a
def Bw (n:Nat) (l:List Int):Bool:=kH l (zV n l)
def wG {α:Type} (d:α) (ok:α->Bool) (key:α->Int) (l:List α) (i:Nat):Bool:=ok (l.getD i d)&&(decide (i=0)||decide (key (l.getD (i - 1) d)<key (l.getD i d)))
def uE {α:Type} (d:α) (most:Nat) (ok:α->Bool) (key:α->Int) (l:List α):Bool:=decide (l.length<=most)&&kH l (wG d ok key l)
def Cy (s:ob):Bool:=cT s.id 0 11&&(cT s.reach 0 6&&(cT s.ant 1 8&&cT s.skew 0 30))&&kE (s.x,s.y)
set_option maxHeartbeats 4000000 in
theorem nR (l:List Int) (n:Nat) (hl:l.length<=1000000) (q:n<=1000000):ar Tryz.prog 27 [bB l,.int .i64 n] (.bool (Bw n l)):=by
 refine aM KZ Tryz.func27 ?_;intro F p w0 m0 hG o h1 kp;have e:IntKind.i64.wrap ((n:Int) - 1)=(n:Int) - 1:=a6 am am;refine bv ?_;refine aI.loop (X:=Nat) (fun x=>⟨[(9,.int .i64 x),(8,.int .i64 (l.map fun h=>[AV.int .i64 h]).length),(7,bB l),(1,.int .i64 n),(0,bB l)],[]⟩) (fun x=>x<=l.length/\(List.range x).all (zV n l)=true) (fun x=>l.length - x) 0 ⟨aZ _,rfl⟩ (LE) (fun x hx=>?_)
 ·rename Nat=>i
  obtain ⟨hi,m⟩:=hx;by_cases a:i<l.length
  ·have c:=dF (show (i:Int)<((l.map fun h=>[AV.int .i64 h]).length:Int) by simp; omega);have hx:=rN a;have j:(i:Int)>0->IntKind.i64.wrap ((i:Int) - 1)=((i - 1:Nat):Int):=fun h=>(a6 am am).trans am;have d:decide ((i:Int)>0)=true->0<=IntKind.i64.wrap ((i:Int) - 1):=fun h=>by rw [j (aF h)]; omega
   have f:decide ((i:Int)>0)=true->(l.map fun h=>[AV.int .i64 h])[(IntKind.i64.wrap ((i:Int) - 1)).toNat]?=some [.int .i64 (d4 l (i - 1))]:=fun h=>by rw [j (aF h)]; exact rN am
   have b:zV n l i=(decide (0<=d4 l i)&&decide (d4 l i<n)&&(decide (i=0)||decide (d4 l (i - 1)<d4 l i))):=rfl;generalize d4 l (i - 1)=v at f b;generalize d4 l i=u at hx b
   repeat' first|exact (c a8).elim|refine aQ ?_|((conv=>whnf); first|refine aa (au i) (ae _ (aa hx ?_))|refine aa (d a8) (ae _ (aa (f a8) ?_))|refine ae _ (aa (ni _ _ _) ?_)|refine ⟨fun h=>?_,fun h=>?_⟩|refine aj ?_)
   all_goals first
    |(refine Eb ?_
      exact (lJ a (by rw [b]; simp only [cT,e] at *; clear hG hx f d j c m b; grind)).symm)
    | skip
   all_goals (refine ae (i+1) (aa ?_ (aa am (St.le.of ?_ ?_))))
   all_goals first
    |(refine aa (ax some (bK am)) ?_
      repeat' (first | exact trivial | refine aa rfl ?_))
    |((repeat' (first | exact trivial | refine aa rfl ?_)); done)
    |(exact ⟨a,by rw [lI,m,b]; simp only [cT,e] at *; clear hG hx f d j c m b; grind⟩)
  ·have c:=dT (show ¬((i:Int)<((l.map fun h=>[AV.int .i64 h]).length:Int)) by simp; omega);refine bv ?_;exact Ends.mk (aj rfl) (az (ax AV.bool (nh hi a m).symm))
theorem LX {q:Prop} (h:q:=by
 refine aM V2 V1 ?_;intro F n' w0 m0 hG hro h1 kp
 repeat' first|refine aQ ?_|((conv=>whnf); first|refine ⟨fun h=>?_,fun h=>?_⟩|refine aj ?_)
 ·refine Eb ?_;have:=aF ‹_›;rw [uE,dR (by simp at this; omega)]; rfl
 refine aI.loop (X:=Nat) (fun x=>⟨[(17,.int .i64 x),(16,.int .i64 (l.map V4).length),(15,.sl .no V0 (l.map V4)),(0,.sl .no V0 (l.map V4)),(1,.int .i64 most),(2,.fn g),(3,.fn g2)],[]⟩) (fun x=>x<=l.length/\(List.range x).all (wG V3 ok key l)=true) (fun x=>l.length - x) 0 ⟨aZ _,rfl⟩ (LE) (fun x hx=>?_)
 ·rename Nat=>i
  obtain ⟨hi,ht⟩:=hx;by_cases hlt_i:i<l.length
  ·have bbk:=dF (show (i:Int)<((l.map V4).length:Int) by simp; omega);have hx:(l.map V4)[(i:Int).toNat]?=some (V4 (l.getD i V3)):=by simp [ai hlt_i]
   have hw:(i:Int)>0->IntKind.i64.wrap ((i:Int) - 1)=((i - 1:Nat):Int):=fun h=>(a6 am am).trans am;have hp0:decide ((i:Int)>0)=true->0<=IntKind.i64.wrap ((i:Int) - 1):=fun h=>by rw [hw (aF h)]; omega
   have hp:decide ((i:Int)>0)=true->(l.map V4)[(IntKind.i64.wrap ((i:Int) - 1)).toNat]?=some (V4 (l.getD (i - 1) V3)):=fun h=>by rw [hw (aF h)]; simp [ai (show i - 1<l.length by omega)]
   have hok:wG V3 ok key l i=(ok (l.getD i V3)&&(decide (i=0)||decide (key (l.getD (i - 1) V3)<key (l.getD i V3)))):=rfl;generalize l.getD (i - 1) V3=v at hp hok;generalize l.getD i V3=u at hx hok
   repeat' first|exact (bbk a8).elim|refine aQ ?_|((conv=>whnf); first|refine aa (au i) (ae _ (aa hx ?_))|refine aa (hp0 a8) (ae _ (aa (hp a8) ?_))|refine ae _ (aa (hv _) ?_)|refine ae _ (aa (hk _) ?_)|refine ⟨fun h=>?_,fun h=>?_⟩|refine aj ?_)
   all_goals first
    |(refine Eb ?_
      rw [uE,lJ hlt_i (by rw [hok]; clear hG hv hk; grind)]; simp)
    | skip
   all_goals (refine ae (i+1) (aa ?_ (aa am (St.le.of ?_ ?_))))
   all_goals first
    |(refine aa (ax some (bK am)) ?_
      repeat' (first | exact trivial | refine aa rfl ?_))
    |((repeat' (first | exact trivial | refine aa rfl ?_)); done)
    |(exact ⟨hlt_i,by rw [lI,ht,hok]; clear hG hv hk; grind⟩)
  ·have bbk:=dT (show ¬((i:Int)<((l.map V4).length:Int)) by simp; omega);refine bv ?_
   exact Ends.mk (aj rfl) (az (ax AV.bool (by
    have:=aR ‹decide (((l.map V4).length:Int)>(most:Int))=false›;rw [uE,nh hi hlt_i ht,bP (by simp at this; omega)]; rfl)))):q:=h
set_option maxHeartbeats 4000000 in
theorem Lg (l:List (Nat->Int)) (most:Nat) (ok:(Nat->Int)->Bool) (key:(Nat->Int)->Int) (g g2:FuncId) (hl:l.length<=1000000)
  (hv:∀ x,ar Tryz.prog g [.agg (bR x)] (.bool (ok x))) (hk:∀ x,ar Tryz.prog g2 [.agg (bR x)] (.int .i64 (key x))):ar Tryz.prog 177 [.sl .no 21 (l.map bR),.int .i64 most,.fn g,.fn g2] (.bool (uE jp most ok key l)):=by
 let V0:=21; have V1:=Tryz.func177; let V2:=GC; let V3:=@jp; let V4:=@bR; exact LX
set_option maxHeartbeats 4000000 in
theorem Lf (l:List ob) (most:Nat) (ok:ob->Bool) (key:ob->Int) (g g2:FuncId) (hl:l.length<=1000000)
  (hv:∀ x,ar Tryz.prog g [.agg (fa x)] (.bool (ok x))) (hk:∀ x,ar Tryz.prog g2 [.agg (fa x)] (.int .i64 (key x))):ar Tryz.prog 179 [.sl .no 6 (l.map fa),.int .i64 most,.fn g,.fn g2] (.bool (uE Tk most ok key l)):=by
 let V0:=6; have V1:=Tryz.func179; let V2:=GA; let V3:=@Tk; let V4:=@fa; exact LX
theorem NH (s:Nat->Int):ar Tryz.prog 178 [.agg (bR s)] (.int .i64 (s 0)):=dP GB Tryz.func178
theorem Ny (s:ob):ar Tryz.prog 181 [.agg (fa s)] (.int .i64 s.id):=dP Gy Tryz.func181
theorem BH (s:ob):ar Tryz.prog 180 [.agg (fa s)] (.bool (Cy s)):=by
 refine aM Gz Tryz.func180 ?_;intro F b w0 m0 hG a h1 kp
 repeat' first|refine aQ ?_|((conv=>whnf); first|refine ae _ (aa ((ry [⟨s.id,0,11⟩,⟨s.reach,0,6⟩,⟨s.ant,1,8⟩,⟨s.skew,0,30⟩] (ah rfl)).sl0) ?_)|refine ae _ (aa (Lr (s.x,s.y)) ?_)|refine ⟨fun h=>?_,fun h=>?_⟩|refine aj ?_)
 all_goals refine Eb ?_
 all_goals (simp only [Cy,qj,SG,cH] at *; simp_all)
def DE (l:List (Nat->Int)):Bool:=uE jp 24 ny (fun s=>s 0) l
def Dw (l:List ob):Bool:=uE Tk 12 Cy ob.id l
theorem AH (l:List (Nat->Int)) (hl:l.length<=1000000):ar Tryz.prog 108 [sx l] (.bool (DE l)):=by
 refine aM Ht Tryz.func108 ?_;intro F b w0 m0 hG a h1 kp
 repeat' first|refine aQ ?_|((conv=>whnf); first|refine ae _ (aa (Lg l 24 ny (fun s=>s 0) _ _ hl rz NH) ?_)|refine ⟨fun h=>?_,fun h=>?_⟩|refine aj ?_)
 all_goals exact Ez
theorem AG (l:List ob) (hl:l.length<=1000000):ar Tryz.prog 109 [Cx l] (.bool (Dw l)):=by
 refine aM Hs Tryz.func109 ?_;intro F b w0 m0 hG a h1 kp
 repeat' first|refine aQ ?_|((conv=>whnf); first|refine ae _ (aa (Lf l 12 Cy ob.id _ _ hl BH Ny) ?_)|refine ⟨fun h=>?_,fun h=>?_⟩|refine aj ?_)
 all_goals exact Ez
open Go Go.AI
set_option maxRecDepth 10000
theorem NG (s:Nat->Int) (id:Int):ar Tryz.prog 130 [.agg (bR s),.ref [.int .i64 id]] (.bool (decide (s 0=id))):=dP Ha Tryz.func130
def iJ (l:List (Nat->Int)) (id:Int):Option (Nat->Int):=l.find? fun x=>decide (x 0=id)
theorem n9 (b:Nat) (s:dY) (i:s.Small) (id:Int):ar Tryz.prog 60 [cK b s,.int .i64 id] (.tup [.agg (bR ((iJ s.sats id).getD jp)),.bool (iJ s.sats id).isSome]):=by
 have c:=BU s.sats (fun x=>decide (x 0=id)) 130 _ [.ref [.int .i64 id]] (aj rfl) i.sats fun x _=>NG x id;rcases wQ (fun x=>decide (x 0=id)) s.sats 0 with ⟨n,x,e,hx,hf⟩ | ⟨e,hf⟩
 ·rw [e,bS] at c;have hx:(s.sats.map bR)[(n:Int).toNat]?=some (bR x):=by simp [hx]
  have f:=dT (show ¬((n:Int)<0) by omega);rw [show iJ s.sats id=some x from hf];refine aM x9 Tryz.func60 ?_;intro F d w0 m0 hG a h1 kp
  repeat' first|exact (f a8).elim|refine aQ ?_|((conv=>whnf); first|refine ae _ (aa (c) ?_)|refine aa (au n) (ae _ (aa hx ?_))|refine ⟨fun h=>?_,fun h=>?_⟩|refine aj ?_)
  all_goals exact Ez
 ·rw [e] at c;rw [show iJ s.sats id=none from hf];refine aM x9 Tryz.func60 ?_;intro F d w0 m0 hG a h1 kp;refine bv ?_
  all_goals refine Ends.mk (aj rfl) (AV.weak.tup (.cons (AV.weak.agg ?_ (by simp [fL,bR,jB,Ub,lA,bB,AV.isCell])) (.cons (.refl _) .nil)))
  all_goals (repeat (first | exact bF.nil | exact bF.cons (.refl _) ?_ | refine bF.cons ?_ ?_ | exact bI | exact az rfl))
theorem NO (s:kQ) (id:Int):ar Tryz.prog 126 [.agg (fL s),.ref [.int .i64 id]] (.bool (decide (s.id=id))):=dP Hc Tryz.func126
def fK (l:List kQ) (id:Int):Option kQ:=l.find? fun x=>decide (x.id=id)
theorem iC (b:Nat) (s:dY) (i:s.Small) (id:Int):ar Tryz.prog 58 [cK b s,.int .i64 id] (.tup [.agg (fL ((fK s.ords id).getD jB)),.bool (fK s.ords id).isSome]):=by
 have c:=BV s.ords (fun x=>decide (x.id=id)) 126 _ [.ref [.int .i64 id]] (aj rfl) i.ords fun x _=>NO x id;rcases wQ (fun x=>decide (x.id=id)) s.ords 0 with ⟨n,x,e,hx,hf⟩ | ⟨e,hf⟩
 ·rw [e,bS] at c;have hx:(s.ords.map fL)[(n:Int).toNat]?=some (fL x):=by simp [hx]
  have f:=dT (show ¬((n:Int)<0) by omega);rw [show fK s.ords id=some x from hf];refine aM ya Tryz.func58 ?_;intro F d w0 m0 hG a h1 kp
  repeat' first|exact (f a8).elim|refine aQ ?_|((conv=>whnf); first|refine ae _ (aa (c) ?_)|refine aa (au n) (ae _ (aa hx ?_))|refine ⟨fun h=>?_,fun h=>?_⟩|refine aj ?_)
  all_goals exact Ez
 ·rw [e] at c;rw [show fK s.ords id=none from hf];refine aM ya Tryz.func58 ?_;intro F d w0 m0 hG a h1 kp;refine bv ?_
  all_goals refine Ends.mk (aj rfl) (AV.weak.tup (.cons (AV.weak.agg ?_ (by simp [fL,bR,jB,Ub,lA,bB,AV.isCell])) (.cons (.refl _) .nil)))
  all_goals (repeat (first | exact bF.nil | exact bF.cons (.refl _) ?_ | refine bF.cons ?_ ?_ | exact bI | exact az rfl))
open Go Go.AI
set_option maxRecDepth 10000
theorem ND (t:ob) (x:bU):ar Tryz.prog 107 [.agg (fa t),.ref (bY x)] (.bool (decide (t.id=x.st))):=dP Hu Tryz.func107
def PX (s:dY) (x:bU):Bool := !(iJ s.sats x.sat).isSome || !(s.stas.any fun t=>decide (t.id=x.st))
theorem JQ (b:Nat) (s:dY) (a:s.Small) (x:bU):ar Tryz.prog 105 [.agg (bY x),.ref [cK b s]] (.bool (PX s x)):=by
 refine aM Hw Tryz.func105 ?_;intro F d w0 m0 hG c h1 kp
 repeat' first|refine aQ ?_|((conv=>whnf); first|refine ae _ (aa (n9 b s a x.sat) ?_)|refine ae _ (aa (xg s.stas (fun t=>decide (t.id=x.st)) _ _ _ (aj rfl) a.stas fun t _=>ND t x) ?_)|refine ⟨fun h=>?_,fun h=>?_⟩|refine aj ?_)
 all_goals refine Eb ?_
 all_goals (simp only [PX, *] <;> simp_all)
def WP (s:dY):Bool:=DE s.sats&&Dw s.stas&&j9 s.passes && !(s.passes.any (PX s))
def To (s:dY):Bool:=WP s&&cT s.b 1 1000000&&cT s.a 0 (s.b - 1)&&decide (s.b - s.a<=3000)
set_option maxHeartbeats 4000000 in
theorem Va (b:Nat) (s:dY) (c:s.Small):ar Tryz.prog 48 [cK b s] (.bool (To s)):=by
 have d:cT s.b 1 1000000=true->IntKind.i64.wrap (s.b - 1)=s.b - 1:=fun h=>by simp only [cT,al,aO] at h; exact a6 am am
 have e:cT s.b 1 1000000=true->cT s.a 0 (s.b - 1)=true->IntKind.i64.wrap (s.b - s.a)=s.b - s.a:=fun h h2=>by simp only [cT,al,aO] at h h2; exact a6 am am
 refine aM nV Tryz.func48 ?_;intro F i w0 m0 hG f h1 kp;refine aI.seq ?_;refine aI.reg hG af nV aK ?_
 conv=>whnf
 refine aI.seq ?_;refine aI.reg hG af nV aK ?_
 conv=>whnf
 refine aI.seq ?_;refine aI.cut (X:=Unit) (fun _=>⟨[(4,.bool (WP s)),(2,.bool false),(1,.ref [cK b s])],[]⟩) (fun _=>True) ?_ (fun _ _=>?_)
 ·refine aI.reg hG af nV aK ?_
  repeat' first|refine aQ ?_|((conv=>whnf); first|refine ae _ (aa (AH _ c.sats) ?_)|refine ae _ (aa (AG _ c.stas) ?_)|refine ae _ (aa (jS _ c.passes) ?_)|refine ae _ (aa (nX s.passes (PX s) _ _ _ (aj rfl) c.passes fun x _=>JQ b s c x) ?_)|refine ⟨fun h=>?_,fun h=>?_⟩|refine aj ?_)
  all_goals refine ae () (aa trivial (St.le.of (aa (ax (fun z=>some (AV.bool z)) ?_) ?_) ?_))
  all_goals first
   |(simp only [WP, *,bG,cH,bE,bN,so,sr,gX,ey,jm,eu]; done)
   |(repeat' (first | exact trivial | refine aa rfl ?_))
 conv=>whnf
 repeat' first|refine aQ ?_|((conv=>whnf); first|refine ae _ (aa (ni _ _ _) ?_)|refine ⟨fun h=>?_,fun h=>?_⟩|refine aj ?_)
 all_goals refine Eb ?_
 all_goals (clear hG c; simp only [To]; grind)
end Go.Proofs
