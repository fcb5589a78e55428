/- Part 16 of the proof: an abstract interpreter for the code, contracts of the functions, and plain facts; the conditions are those typed. -/
import Derived.Test.YthjhnnmcdhokcaaGreatDoorNH
set_option linter.unusedSectionVars false
set_option linter.unusedVariables false
set_option linter.unusedSimpArgs false
namespace Go.Proofs
open Go Go.AI
set_option maxRecDepth 100000
set_option maxHeartbeats 16000000
def exW (W:AV) (k:Int):Prop:=(W = .clo 86 [.ref (bR gh)]/\k=2)\/(W = .fn 96/\k=6)
theorem XP {W:AV} {k:Int} (c:exW W k) {p q:dZ} (b:p=qn\/p=qm) (a:q=qn\/q=qm):ar Tryz.prog 155 [dl [q],.clo 167 [.ref (bL p),.ref [W]]] (.bool false):=by
 have c0:ar Tryz.prog 167 [.agg (bL q),.ref (bL p),.ref [W]] (.bool false):=by
  have k1:=BI gh p q;have k2:=BJ p q (by rcases b with rfl | rfl <;> decide) (by rcases a with rfl | rfl <;> decide);rcases c with ⟨rfl,_⟩ | ⟨rfl,_⟩
  all_goals
   rcases b with rfl | rfl
   all_goals
    rcases a with rfl | rfl
    all_goals exact dK GK Tryz.func167
 have c1:ar Tryz.prog 72 [dl [q],.clo 167 [.ref (bL p),.ref [W]]] (.int .i64 (-1)):=by
  rcases a with rfl | rfl
  all_goals exact dK lL Tryz.func72
 exact dK vK Tryz.func155
theorem Po (b:Nat) {W:AV} {k:Int} (a:exW W k):bW Tryz.prog 85 [5000011] [5005000] [cK b dD,.agg (bR gh),.int .i64 k,W] (LR b []) (.tup []) (LR b []):=by
 have c1:=Kb (gh 0);have c2:=je b dD ⟨7,[0]⟩ (gh 0) bt bt;have d:=je b dD ⟨7,[1]⟩ (gh 0) bt bt;have d1:=XP a (aj rfl) (aj rfl);have d2:=XP a (aj rfl) (bw rfl);have f:=XP a (bw rfl) (aj rfl);have h:=XP a (bw rfl) (bw rfl);rw [show qL dD (gh 0) [0]=[qn] from rfl] at c2;rw [show qL dD (gh 0) [1]=[qm] from rfl] at d;refine lR.ofB af Tryz.func85 rfl aK bj (ah rfl) ?_;intro F e w0 m0 hG c h1;have kp:KP Kr := .mk;rcases a with ⟨rfl,rfl⟩ | ⟨rfl,rfl⟩
 all_goals
  refine aI.seq ?_
  repeat' first | refine QF [] rfl hG af kp ?_ | ((conv=>whnf); first | refine aa aK ?_)
  refine jj [.tmp 7] ?_
  conv=>whnf
  repeat' first
   | refine aI.unroll 4 ?_
   | refine rE 13 rfl ?_
   | refine QE [] rfl hG af kp ?_
   |((conv=>whnf); first
     | refine cZ ?_
     | refine cY ?_
     | refine aa aK ?_
     | refine aa bt (ae _ (aa rfl ?_))
     | refine aa bt ?_
     | refine aa (ah rfl) ?_
     | refine ae _ (aa a8 ?_)
     | refine ae _ (aa rfl ?_)
     | refine aj ?_)
 all_goals (try (conv=>whnf))
 all_goals exact gj.mk (bw rfl) (ae _ (ae _ (aa (aa rfl rfl) (aa (aj (az rfl)) (aa aK aK)))))
open Go Go.AI
set_option maxRecDepth 100000
theorem Kc (l:List Int) (n:Nat) (hn:n=l.length) (hl:l.length<=1000000):lR Tryz.prog 29 [5001000] [] [.me .sl 5001000 n []] [(5001000,.me .arr 5001000 1 (l.map fun h=>[AV.int .i64 h]))] (fun r L=>r=bB (nG l)/\L=[]):=by
 exact PP
def T7 (s:dY) (x:Nat->Int) (w:Int×Int):HH:=(⟨3,x 0,w.1,w.2,[],cm (x 18+cm (x 17*cm (w.2 - w.1)))⟩,Bn (fun j=>pc x w (qL s (x 0) (s.buns.getD j fA).opts)) s.buns.length)
def Ti (s:dY) (x:Nat->Int) (t:Int):HH:=(⟨4,x 0,0,t,[],x 10⟩,Bn (fun j=>lq t (qL s (x 0) (s.buns.getD j fA).opts)) s.buns.length)
theorem aaU:((List.range 100).all fun n=>mN gh [] (n:Int) ((n:Int)+1))=true:=by decide +kernel
theorem ZN:((List.range 100).all fun n=>qA (jG gh [] (n:Int) ((n:Int)+1)) == -6)=true:=by decide +kernel
theorem Uj (t:Int) (h:0<=t/\t<100):ar Tryz.prog 94 [.agg (bR gh),.sl .full 0 [],.agg (cA t (cm (t+1)))] (.tup [.int .i64 (-6),.int .i64 0]):=by
 obtain ⟨n,rfl⟩:∃ n:Nat,t=n:=⟨t.toNat,by omega⟩;have e:cm ((n:Int)+1)=(n:Int)+1:=a6 am am;have h1:=aN.1 ZN n (by simp; omega);have h2:=aN.1 aaU n (by simp; omega);have c:=Ke gh n ((n:Int)+1) h2;rw [show qA (jG gh [] (n:Int) ((n:Int)+1)) = -6 from eq_of_beq h1] at c;rw [e];exact c
theorem XT:nG [5,9]=[5,9]:=by delta nG; rw [oq]; decide +kernel
theorem XS:nG [8,11]=[8,11]:=by delta nG; rw [oq]; decide +kernel
def M6:List Int:=[5,8,20,23,50,53,9,11,23,26,53,56]
def i1 (h:Int):List AV:=[.int .i64 h]
def QR (b:Nat) (R:List j1) (t:List (Nat×AV)) (x:List (Nat×List AV)):St:=⟨(2,.ref [cK b dD])::(3,.ref (bR gh))::(4,.ref [.clo 166 [.ref [.int .i64 (gh 0)]]])::(xk 5000011,.me .box 5000011 b [[.sl .full 0 [],.sl (.id 5005000) 6 (R.map qu)]])::t,x⟩
def rf:List Int:=[0,5,8,9,11,20,23,26,50,53,56,100]
theorem XR:nG (M6++[0,100])=rf:=by delta nG; rw [oq]; decide +kernel
theorem Dz {f:Nat->Int} {n:Nat} (h:∀ j,j<n->f j<=1000000000000):xj (Bn f n):=fun j=>by
 unfold Bn;split
 ·exact h j ‹_›
 ·decide
theorem ex2 {p:Nat->Prop} (a:p 0) (h1:p 1):∀ j,j<2->p j:=fun j hj=>by
 obtain rfl | rfl:j=0\/j=1:=by omega
 ·exact a
 ·exact h1
theorem M8 {f:Int×Int->Nat->Int} {W:List (Int×Int)} (h:(W.all fun w=>decide (f w 0<=1000000000000)&&decide (f w 1<=1000000000000))=true):∀ w∈W,xj (Bn (f w) 2):=fun w a=>by
 have:=aN.1 h w a;simp only [al,aO] at this;exact Dz (ex2 this.1 this.2)
theorem Jg:∀ u∈dD.buns,u.opts.length<=1000000/\∀ j∈u.opts,0<=j/\j<(dD.opts.length:Int):=by decide
def QQ:List (Int×Int):=rf.flatMap fun a=>(rf.filter fun b=>decide (a<b)).map fun b=>(a,b)
def ab7:Nat->Int
 | 0=>0
 | _+1 => -6
def fb (n:Nat):List Int:=(List.range (n+1)).map fun (k:Nat) => -6*(k:Int)
def ab4:Nat->AV
 | 0 => .sl .full 1 [[.int .i64 0]]
 | n+1 => .sl (.id 213) 1 ((fb (n+1)).map i1)
def Eg (w:Int×Int):HH:=(⟨5,gh 0,w.1,w.2,[],cm (cm (gh 11 - (fb 100).getD w.2.toNat 0)+(fb 100).getD w.1.toNat 0)⟩,Bn (fun j=>lv gh w (qL dD (gh 0) (dD.buns.getD j fA).opts)) 2)
set_option maxHeartbeats 64000000 in
theorem JK (b:Nat):bW Tryz.prog 43 [5000011] [5005000] [cK b dD,.agg (bR gh)] (LR b []) (.tup []) (LR b []):=by
 have cO:=fun y=>AO y (gh 0);have N:=tM [5,9] 2 rfl bt;have Q:=Kc [8,11] 2 rfl bt;rw [XT] at N;rw [XS] at Q;have D:=Po b (W := .clo 86 [.ref (bR gh)]) (k:=2) (aj ⟨rfl,rfl⟩);refine lR.ofB af Tryz.func43 rfl aK bj (ah rfl) ?_;intro F n' w0 m0 hG hro h1;have kp:KP ki := .mk;refine aI.seq ?_
 repeat' first | refine QN rfl hG af kp ?_ | ((conv=>whnf); first | refine cZ ?_ | refine cY ?_ | refine aa aK ?_)
 refine aI.seq ?_
 repeat' first | refine QN rfl hG af kp ?_ | ((conv=>whnf); first | refine cZ ?_ | refine cY ?_ | refine aa aK ?_ | refine ae _ (aa (Kb (gh 0)) ?_))
 conv=>whnf
 refine jj [.tmp 2,.tmp 3,.tmp 4] ?_
 conv=>whnf
 refine aI.seq ?_;refine nk hG af ki [5,6,7] aK ?_
 conv=>whnf
 refine jL fun Z m=>?_
 repeat' first
  | refine aI.unroll 3 ?_
  | refine QS rfl hG af kp ?_
  |((conv=>whnf); first
    | refine cZ ?_
    | refine cY ?_
    | refine aa aK ?_
    | refine aa bt (ae _ (aa rfl ?_))
    | refine ae _ (aa (cO qn) ?_)
    | refine ae _ (aa (cO qm) ?_)
    | refine bw (aa (ah rfl) (aa (ah rfl) (aa (ah rfl) ?_)))
    | refine bw (aa rfl (aa (ah rfl) (aa (ah rfl) (aa (ah rfl) ?_))))
    | refine aa (ah rfl) (aa (ah rfl) (aa (ah rfl) ?_))
    | refine aj ?_)
 conv=>whnf
 refine m _ ?_;refine aI.le (s':=QR b [] [(5,.me .sl 48 2 []),(6,.me .sl 54 2 []),(7,.me .sl 63 12 []),(xk 48,.me .arr 48 1 ([5,9].map i1)),(xk 54,.me .arr 54 1 ([8,11].map i1)),(xk 63,.me .arr 63 1 (M6.map i1))] []) (St.le.of RF RF) ?_;clear m Z;refine jL fun Z m=>?_
 conv=>whnf
 refine gf 48 5000000 aK rfl ?_
 conv=>whnf
 refine gf 54 5001000 aK rfl ?_
 conv=>whnf
 refine gf 63 5002000 aK rfl ?_
 conv=>whnf
 repeat' first | refine QE [83,85] rfl hG af kp ?_ | ((conv=>whnf); first | refine cZ ?_ | refine cY ?_ | refine aa aK ?_ | refine xE N ?_ | refine xE Q ?_)
 conv=>whnf
 refine m _ ?_;clear m Z;refine jL fun Z m=>?_
 repeat' first | refine QE [89] rfl hG af kp ?_ | ((conv=>whnf); first | refine cZ ?_ | refine cY ?_ | refine aa aK ?_ | refine xE D ?_)
 conv=>whnf
 refine m _ ?_;clear m Z;have B:=vj [5,9] [8,11];have c:=qg [5,9] [8,11] bt bt;rw [show s7 [5,9] [8,11]=[(5,8),(5,11),(9,11)] by decide +kernel] at c;have E:=fun (wa wb:Int)=>kf b dD bt .full 0 3 (gh 0) wa wb (cm (gh 18+cm (gh 17*cm (wb - wa)))) 90 [.ref [cK b dD],.ref [.clo 166 [.ref [.int .i64 (gh 0)]]],.ref (bR gh),.ref (cA wa wb)] (fun j=>pc gh (wa,wb) (qL dD (gh 0) (dD.buns.getD j fA).opts)) (fun j hj=>Oc b dD gh (wa,wb) j _ (Jg _ (cF fA hj)).1 (Jg _ (cF fA hj)).2);refine aI.seq ?_
 repeat' first | refine QN rfl hG af kp ?_ | ((conv=>whnf); first | refine cZ ?_ | refine cY ?_ | refine aa aK ?_)
 repeat' first | refine QS rfl hG af kp ?_ | ((conv=>whnf); first | refine cZ ?_ | refine cY ?_ | refine aa aK ?_ | refine ae _ (aa B ?_))
 refine A2 12 0 1012000 18 rfl rfl ?_
 conv=>whnf
 refine aI.pin 12 5008000 rfl rfl rfl (fun A=>?_)
 conv=>whnf
 refine il hG (bH bt h1) (α:=Int×Int) Yy (f:=171) (cap:=[.ref [bB [5,9]],.ref [bB [8,11]]]) [14,13,12,xk 5008000,xk 5000011,5,2,3,4,7,xk 5002000] rfl c (fun _=>rfl) aK bt rfl ?_
 iterate 3
  conv=>whnf
  intro F2 n2 m2 r hn2;refine aI.reg r af ki aK ?_
  conv=>whnf
  refine aa rfl (aa LE ?_);refine aI.block ?_;refine aI.seq ?_;refine aI.reg r af ki aK ?_
  conv=>whnf
  refine jj [.tmp 15] ?_
  conv=>whnf
  repeat' first | refine QS rfl r af kp ?_ | ((conv=>whnf); first | refine cZ ?_ | refine cY ?_ | refine aa aK ?_ | refine ae _ (aa (E _ _) ?_) | refine aa (ah rfl) ?_ | refine aj ?_)
 conv=>whnf
 refine aI.le (s':=QR b [] [(13,.sl (.id 13) 18 []),(12,.pin 5008000 A 0 []),(xk 5008000,.me .box 5008000 A [[.sl (.id 1012000) 18 (([(5,8),(5,11),(9,11)].map (T7 dD gh)).map uq)]]),(14,.loc 14 0),(7,.me .sl 5002000 12 []),(xk 5002000,.me .arr 5002000 1 (M6.map i1)),(5,bB [5,9])] [(14,[.sl (.id 1014000) 0 []])]) (St.le.of RF RF) ?_
 have o:=pE b dD bt bt [] ([(5,8),(5,11),(9,11)].map (T7 dD gh)) bt (fun p x=>by
  obtain ⟨w,q,rfl⟩:=bp.1 x;exact M8 (f:=fun w j=>pc gh w (qL dD (gh 0) (dD.buns.getD j fA).opts)) (by decide +kernel) w q)
 rw [show wI dD.buns.length ([(5,8),(5,11),(9,11)].map (T7 dD gh))=[] by kernel_rfl,bV] at o;clear B c E N Q D;refine jL fun Z m=>?_
 repeat' first | refine QE [121] rfl hG af kp ?_ | ((conv=>whnf); first | refine cZ ?_ | refine cY ?_ | refine aa aK ?_ | refine xE o ?_)
 conv=>whnf
 refine m _ ?_;clear m Z o;have cs:=fun (t:Int)=>kf b dD bt .full 0 4 (gh 0) 0 t (gh 10) 92 [.ref [cK b dD],.ref [.clo 166 [.ref [.int .i64 (gh 0)]]],.ref [.int .i64 t]] (fun j=>lq t (qL dD (gh 0) (dD.buns.getD j fA).opts)) (fun j hj=>JP b dD gh t bt j _ (Jg _ (cF fA hj)).1 (Jg _ (cF fA hj)).2)
 have o:=pE b dD bt bt [] ([5,9].map (Ti dD gh)) bt (fun p x=>by
  obtain ⟨w,q,rfl⟩:=bp.1 x;exact M8 (W:=[(5,0),(9,0)]) (f:=fun w j=>lq w.1 (qL dD (gh 0) (dD.buns.getD j fA).opts)) (by decide +kernel) (w,0) (by simpa using q))
 rw [show wI dD.buns.length ([5,9].map (Ti dD gh))=[] by kernel_rfl,bV] at o;have hc:∀ (t:Int),dD.a<=t/\t<100->ar Tryz.prog 94 [.agg (bR gh),.sl .full 0 [],.agg (cA t (cm (t+1)))] (.tup [.int .i64 (-6),.int .i64 0]):=fun t h=>Uj t h
 repeat' first | refine QE [143] rfl hG af kp ?_ | ((conv=>whnf); first | refine cZ ?_ | refine cY ?_ | refine aa aK ?_)
 refine aI.unroll 3 ?_
 repeat' first
  | refine QE [143] rfl hG af kp ?_
  |((conv=>whnf); first
    | refine cZ ?_
    | refine cY ?_
    | refine aa aK ?_
    | refine aa bt (ae _ (aa rfl ?_))
    | refine ae _ (aa (cs _) ?_)
    | refine xE o ?_
    | refine aa (ah rfl) ?_
    | refine aj ?_)
 refine aI.pin 19 5010000 rfl rfl rfl (fun d=>?_)
 conv=>whnf
 refine aI.le (s':=QR b [] [(21,.int .i64 0),(20,.int .i64 0),(19,.pin 5010000 d 0 []),(xk 5010000,.me .box 5010000 d [[.sl .full 1 [[.int .i64 0]]]]),(14,.loc 14 0),(7,.me .sl 5002000 14 []),(xk 5002000,.me .arr 5002000 1 ((M6++[0,100]).map i1))] [(14,[.sl (.id 1014000) 0 []])]) (St.le.of RF RF) ?_;clear cs o;refine aad (.exit 8) (QR b [] [(19,.pin 5010000 d 0 []),(xk 5010000,.me .box 5010000 d [[.sl (.id 213) 1 ((fb 100).map i1)]]),(14,.loc 14 0),(7,.me .sl 5002000 14 []),(xk 5002000,.me .arr 5002000 1 ((M6++[0,100]).map i1))] [(14,[.sl (.id 1014000) 0 []])]) ?_ ?_
 ·refine aI.loop (X:=Nat) (fun i=>QR b [] [(21,.int .i64 (ab7 i)),(20,.int .i64 i),(19,.pin 5010000 d 0 []),(xk 5010000,.me .box 5010000 d [[ab4 i]]),(14,.loc 14 0),(7,.me .sl 5002000 14 []),(xk 5002000,.me .arr 5002000 1 ((M6++[0,100]).map i1))] [(14,[.sl (.id 1014000) 0 []])]) (fun i=>i<=100) (fun i=>100 - i) 0 (aZ _) (.refl _) (fun i hi=>?_);by_cases H:i<100
  ·have cN:=Uj i am;have v:decide ((i:Int)<dD.b)=false->False:=fun h=>aR h (show (i:Int)<100 by omega);have hti:IntKind.i64.wrap ((i:Int)+1)=((i+1:Nat):Int):=a6 am am
   cases i with
   | zero=>
    repeat' first
     | exact (v a8).elim
     | refine QS rfl hG af kp ?_
     |((conv=>whnf); first
       | refine cZ ?_
       | refine cY ?_
       | refine aa aK ?_
       | refine aa bt (ae _ (aa rfl ?_))
       | refine ae _ (aa cN ?_)
       | refine aa (ah rfl) ?_
       | refine aa (fun h=>?_) (fun h=>?_)
       | refine aj ?_)
    exact ae 1 (aa bt (aa bt LE))
   | succ n=>
    have hl:((fb (n+1)).map i1).length=n+2:=by simp [fb]
    have q:IntKind.i64.wrap ((((fb (n+1)).map i1).length:Int) - 1)=((n+1:Nat):Int):=by rw [hl]; exact (a6 am am).trans am
    have J:(0:Int)<=IntKind.i64.wrap ((((fb (n+1)).map i1).length:Int) - 1):=by rw [q]; omega
    have hsx:((fb (n+1)).map i1)[(IntKind.i64.wrap ((((fb (n+1)).map i1).length:Int) - 1)).toNat]?=some [.int .i64 (-6*((n+1:Nat):Int))]:=by rw [q]; simp [fb,i1]
    have hse:(fb (n+1)).map i1++[[.int .i64 (IntKind.i64.wrap (-6*((n+1:Nat):Int) + -6))]]=(fb (n+2)).map i1:=by
     rw [show IntKind.i64.wrap (-6*((n+1:Nat):Int) + -6) = -6*((n+2:Nat):Int) from (a6 am am).trans am];simp [fb,dV,i1]
    have g1:(((fb (n+1)).map i1).length+1)*8<=70368744177664:=by omega
    have g2:((fb (n+1)).map i1).length+1<=4611686018427387904:=by omega
    have bbt:decide (((n+1:Nat):Int)>dD.a)=false->False:=fun h=>aR h (show ((n+1:Nat):Int)>0 by omega)
    repeat' first
     | exact (v a8).elim
     | exact (bbt a8).elim
     | refine QS rfl hG af kp ?_
     |((conv=>whnf); first
       | refine cZ ?_
       | refine cY ?_
       | refine aa aK ?_
       | refine ae _ (aa cN ?_)
       | refine aa J (ae _ (aa hsx ?_))
       | refine aa g1 (aa g2 ?_)
       | refine aa (fun h=>?_) (fun h=>?_)
       | refine aj ?_)
    conv=>whnf
    refine ae (n+2) (aa H (aa am (St.le.of ?_ RF)))
    repeat' (first | exact trivial | refine aa rfl ?_ | refine aa (ax (fun z=>some (AV.int .i64 z)) hti) ?_ | refine aa (ax (fun (z:List (List AV))=>some (AV.me .box 5010000 d [[AV.sl (.id 213) 1 z]])) hse) ?_)
  ·obtain rfl:i=100:=by omega
   repeat' first
     | refine QS rfl hG af kp ?_
     |((conv=>whnf); first
       | refine cZ ?_
       | refine cY ?_
       | refine aa aK ?_)
   exact LE
 have cM:=tM (M6++[0,100]) 14 rfl bt;rw [XR] at cM;have B:=vj rf rf;have c:=qg rf rf bt bt;have E:=fun (wa wb:Int)=>kf b dD bt .full 0 5 (gh 0) wa wb (cm (cm (gh 11 - (fb 100).getD wb.toNat 0)+(fb 100).getD wa.toNat 0)) 95 [.ref [cK b dD],.ref [.clo 166 [.ref [.int .i64 (gh 0)]]],.ref (bR gh),.ref (cA wa wb)] (fun j=>lv gh (wa,wb) (qL dD (gh 0) (dD.buns.getD j fA).opts)) (fun j hj=>Kg b dD gh (wa,wb) bt j _ (Jg _ (cF fA hj)).1 (Jg _ (cF fA hj)).2)
 conv=>whnf
 refine gf 5002000 5000000 aK rfl ?_
 conv=>whnf
 refine aI.seq ?_
 repeat' first | refine QF [215] rfl hG af kp ?_ | ((conv=>whnf); first | refine cZ ?_ | refine cY ?_ | refine aa aK ?_ | refine xE cM ?_)
 repeat' first | refine QS rfl hG af kp ?_ | ((conv=>whnf); first | refine cZ ?_ | refine cY ?_ | refine aa aK ?_ | refine ae _ (aa B ?_))
 refine A2 14 0 1014000 18 rfl rfl ?_
 conv=>whnf
 refine aI.pin 14 5009000 rfl rfl rfl (fun u=>?_)
 conv=>whnf
 rw [show s7 rf rf=QQ by decide +kernel] at c
 have o:=pE b dD bt bt [] (QQ.map Eg) (by decide +kernel) (fun p x=>by
  obtain ⟨w,q,rfl⟩:=bp.1 x;exact M8 (f:=fun w j=>lv gh w (qL dD (gh 0) (dD.buns.getD j fA).opts)) (by decide +kernel) w q)
 rw [show wI dD.buns.length (QQ.map Eg)=[] by kernel_rfl,bV] at o;have D:=Po b (W := .fn 96) (k:=6) (bw ⟨rfl,rfl⟩);have P:∀ w∈QQ,0<=w.1/\w.1<=100/\0<=w.2/\w.2<=100:=by decide +kernel
 have hwl:QQ.length=66:=by decide +kernel
 generalize QQ=ws at *
 refine ⟨kk hG (bH bt h1) (α:=Int×Int) Yy (f:=171) (cap:=[.ref [bB rf],.ref [bB rf]]) (items:=ws) rfl c (fun _=>rfl)
  (fun p=>(QR b [] [(14,.pin 5009000 u 0 []),(xk 5009000,.me .box 5009000 u [[.sl (.id 1014000) 18 ((p.map Eg).map uq)]]),(19,.pin 5010000 d 0 []),(xk 5010000,.me .box 5010000 d [[.sl (.id 213) 1 ((fb 100).map i1)]])] []).t) [2,3,4,xk 5000011,14,xk 5009000,19,xk 5010000] (fun _=>rfl)
  (fun _=>[]) (St.le.of RF RF) aK bt ?_ ?_⟩
 ·intro F2 n2 m2 r _ _ pre w rest hx
  have M:pre.length<=66:=by
   have:=ax List.length hx;rw [cj] at this; omega
  obtain ⟨a1,a2,b1,b2⟩:=P w (by rw [hx]; exact bh _ aW);have l:((pre++[w]).map Eg).map uq=(pre.map Eg).map uq++[uq (Eg w)]:=by simp
  have G:((pre.map Eg).map uq).length<=66:=by rw [ay,ay]; exact M
  generalize (pre.map Eg).map uq=row at l G;obtain ⟨wa,wb⟩:=w;dsimp only at a1 a2 b1 b2;have hg:Eg (wa,wb)=((⟨5,gh 0,wa,wb,[],cm (cm (gh 11 - (fb 100).getD wb.toNat 0)+(fb 100).getD wa.toNat 0)⟩:j1),Bn (fun j=>lv gh (wa,wb) (qL dD (gh 0) (dD.buns.getD j fA).opts)) dD.buns.length):=rfl;rw [hg] at l;have U:(row.length+1)*160<=70368744177664:=by omega
  have L:row.length+1<=4611686018427387904:=by omega
  have key:∀ z:Int,0<=z->z<=100->0<=IntKind.i64.wrap (z - dD.a)/\((fb 100).map i1)[(IntKind.i64.wrap (z - dD.a)).toNat]?=some [.int .i64 ((fb 100).getD z.toNat 0)]:=fun z h1 h2=>by
   have e:IntKind.i64.wrap (z - dD.a)=z:=a6 (n:=z - 0) am am |>.trans am;rw [e];exact ⟨h1,cQ i1 0 (show z.toNat<(fb 100).length by rw [show (fb 100).length=101 by simp [fb]]; omega)⟩
  have ka:=key wa a1 a2;have kb:=key wb b1 b2;generalize (fb 100).map i1=sums at *;refine aI.out (aI.reg r af ki aK ?_)
  conv=>whnf
  refine aa rfl (aa LE ?_);refine aI.out ?_;refine aI.block ?_;refine aI.seq ?_;refine oJ r af ki aK ?_
  repeat ((conv=>whnf); first | refine aa aK ?_ | refine aa kb.1 (ae _ (aa kb.2 ?_)) | refine aa ka.1 (ae _ (aa ka.2 ?_)))
  conv=>whnf
  refine jj [.tmp 24] ?_
  conv=>whnf
  repeat' first | refine QS rfl r af kp ?_ | ((conv=>whnf); first | refine cZ ?_ | refine cY ?_ | refine aa aK ?_ | refine ae _ (aa (E wa wb) ?_) | refine aa U (aa L ?_) | refine aj ?_)
  refine St.le.of ?_ RF;dsimp only;rw [l];exact RF
 ·conv=>whnf
  repeat' first | refine QE [264,267] rfl hG af kp ?_ | ((conv=>whnf); first | refine cZ ?_ | refine cY ?_ | refine aa aK ?_ | refine xE o ?_ | refine xE D ?_)
  conv=>whnf
  exact gj.mk (bw rfl) (ae (.tup []) (ae (LR b []) (aa (aa rfl rfl) (aa (aj (az rfl)) (aa aK aK)))))
open Go Go.AI
set_option maxRecDepth 100000
def BF (s:dY) (j:Nat):iu:=s.buns.getD j fA
def By:j1:=⟨8,7,0,0,[1,1],1⟩
def Jd:j1:=⟨8,7,1,1,[0,1],0⟩
def QU:j1:=⟨9,7,0,0,[-1,-1],-1⟩
def XN:j1:=⟨11,1,0,0,[3,2],3⟩
def aaR (n:Nat):List j1:=if n<=1 then [By,Jd,QU] else [By,Jd,QU,XN]
theorem Pn (b:Nat) (R a:List j1) (r:j1) (f:Nat->Int) (c:R.length<=1000) (hf:f 0<=1000000000000/\f 1<=1000000000000) (e:R++mS 2 (r,Bn f 2)=a):bW Tryz.prog 39 [5000011] [5005000] [cK b dD,.agg (uq (r,Bn f 2))] (LR b R) (.tup []) (LR b a):=
 e ▸ J1 b dD bt bt R am r (Bn f 2) (Dz (ex2 hf.1 hf.2))
theorem ZK (b:Nat) (i:Nat) (h:i<16):bW Tryz.prog 39 [5000011] [5005000] [cK b dD,.agg (uq (⟨11,i,0,0,[],exQ.getD i 0⟩,Bn (fun j=>ur dD i (kU dD (BF dD j).opts)) 2))] (LR b (aaR i)) (.tup []) (LR b (aaR (i+1))):=by
 have:i=0\/i=1\/i=2\/i=3\/i=4\/i=5\/i=6\/i=7\/i=8\/i=9\/i=10\/i=11\/i=12\/i=13\/i=14\/i=15:=by omega
 rcases this with rfl | rfl | rfl | rfl | rfl | rfl | rfl | rfl | rfl | rfl | rfl | rfl | rfl | rfl | rfl | rfl <;> exact Pn b _ _ _ _ bt (by decide +kernel) aK
set_option maxHeartbeats 64000000 in
theorem BW (b:Nat) (a:∀ u∈dD.buns,ar Tryz.prog 80 [cK b dD,.agg (eO u)] (.bool (u.opts==[0]))):bW Tryz.prog 46 [5000011] [5005000] [cK b dD] (LR b []) (.tup []) (LR b [By,Jd,QU,XN]):=by
 have v0:ar Tryz.prog 80 [cK b dD,.agg (eO ⟨7,[0]⟩)] (.bool true):=a _ bt;have v1:ar Tryz.prog 80 [cK b dD,.agg (eO ⟨7,[1]⟩)] (.bool false):=a _ bt;have c:dD.buns.length<=12:=by decide
 have c1:=kf b dD c .full 0 8 7 0 0 1 101 [.ref [.int .i64 7],.ref [.int .i64 1]] (fun j=>Qi 7 1 (BF dD j)) (fun j _=>AP _ _ _ _);have p1:=Pn b [] [By] ⟨8,7,0,0,[],1⟩ (fun j=>Qi 7 1 (BF dD j)) bt (by decide +kernel) aK;have c2:=kf b dD c .full 0 8 7 1 1 0 102 [.ref [.int .i64 1]] (fun j=>Zn 1 j) (fun j _=>NQ _ _ _);have p2:=Pn b [By] [By,Jd] ⟨8,7,1,1,[],0⟩ (fun j=>Zn 1 j) bt (by decide +kernel) aK;have l:=kf b dD c .full 0 9 7 0 0 (-1) 101 [.ref [.int .i64 7],.ref [.int .i64 (-1)]] (fun j=>Qi 7 (-1) (BF dD j)) (fun j _=>AP _ _ _ _);have d:=Pn b [By,Jd] [By,Jd,QU] ⟨9,7,0,0,[],-1⟩ (fun j=>Qi 7 (-1) (BF dD j)) bt (by decide +kernel) aK;have h:=fun (i:Nat)=>kf b dD c .full 0 11 i 0 0 (exQ.getD i 0) 104 [.ref [cK b dD],.ref [.int .i64 i]] (fun j=>ur dD i (kU dD (BF dD j).opts)) (fun j hj=>Rt b dD Ee i j _ (Jg _ (cF fA hj)).1 (Jg _ (cF fA hj)).2);have e:=ZK b;refine lR.ofB af Tryz.func46 rfl aK bj (ah rfl) ?_;intro F m w0 m0 hG f h1;refine aI.seq ?_;have kp:KP KR := .mk;refine bv ?_
 conv=>whnf
 refine jj [.tmp 1] ?_
 conv=>whnf
 repeat'
  first
   |(refine rE 5 rfl ?_; conv=>whnf)
   |(refine rE 17 rfl ?_; conv=>whnf)
   | refine aI.unroll 17 ?_
   | refine QE [39,64,84,160] rfl hG af kp ?_
   |((conv=>whnf); first
    | refine cZ ?_
    | refine cY ?_
    | refine aa aK ?_
    | refine aa bt (ae _ (aa rfl ?_))
    | refine ae _ (aa (NP _ _) ?_)
    | refine ae _ (aa v0 ?_)
    | refine ae _ (aa v1 ?_)
    | refine ae _ (aa c1 ?_)
    | refine ae _ (aa c2 ?_)
    | refine ae _ (aa l ?_)
    | refine ae _ (aa (h _) ?_)
    | refine xE p1 ?_
    | refine xE p2 ?_
    | refine xE d ?_
    | refine xE (e _ bt) ?_
    | refine aj ?_)
 conv=>whnf
 exact gj.mk (bw rfl) (ae (.tup []) (ae (LR b [By,Jd,QU,XN]) (aa (aa rfl rfl) (aa (aj (az rfl)) (aa aK aK)))))
end Go.Proofs
