/- Part 16 of the proof: an abstract interpreter for the code, contracts of the functions, and plain facts; the conditions are those typed. -/
import Derived.Test.YtapmehbkgihgaaaGreatDoorNH
set_option linter.unusedSectionVars false
set_option linter.unusedVariables false
set_option linter.unusedSimpArgs false
namespace Go.Proofs
open Go Go.AI
set_option maxRecDepth 100000
set_option maxHeartbeats 16000000
def exW (W:AV) (k:Int):Prop:=(W = .clo 81 [.ref (bM fL)]/\k=2)\/(W = .fn 91/\k=6)
theorem WT {W:AV} {k:Int} (c:exW W k) {p q:d4} (b:p=qc\/p=ql) (a:q=qc\/q=ql):aq Tryz.prog 128 [cH [q],.clo 160 [.ref (bO p),.ref [W]]] (.bool false):=by
 have c0:aq Tryz.prog 160 [.agg (bO q),.ref (bO p),.ref [W]] (.bool false):=by
  have k1:=Bi fL p q;have k2:=Bj p q (by rcases b with rfl | rfl <;> decide) (by rcases a with rfl | rfl <;> decide);rcases c with ⟨rfl,_⟩ | ⟨rfl,_⟩
  all_goals
   rcases b with rfl | rfl
   all_goals
    rcases a with rfl | rfl
    all_goals exact dR Gj Tryz.func160
 have c1:aq Tryz.prog 58 [cH [q],.clo 160 [.ref (bO p),.ref [W]]] (.int .i64 (-1)):=by
  rcases a with rfl | rfl
  all_goals exact dR lH Tryz.func58
 exact dR vp Tryz.func128
theorem OO (b:Nat) {W:AV} {k:Int} (a:exW W k):bX Tryz.prog 80 [5000011] [5005000] [cA b dB,.agg (bM fL),.int .i64 k,W] (LR b []) (.tup []) (LR b []):=by
 have c1:=JD (fL 0);have c2:=jc b dB ⟨7,[0]⟩ (fL 0) bq bq;have d:=jc b dB ⟨7,[1]⟩ (fL 0) bq bq;have i:=WT a (ak rfl) (ak rfl);have f:=WT a (ak rfl) (bA rfl);have h:=WT a (bA rfl) (ak rfl);have j:=WT a (bA rfl) (bA rfl);rw [show qK dB (fL 0) [0]=[qc] from rfl] at c2;rw [show qK dB (fL 0) [1]=[ql] from rfl] at d;refine lP.ofB af Tryz.func80 rfl aI bh (ah rfl) ?_;intro F e w0 m0 hG c h1;have kp:KP JX := .mk;rcases a with ⟨rfl,rfl⟩ | ⟨rfl,rfl⟩
 all_goals
  refine aJ.seq ?_
  repeat' first | refine QF [] rfl hG af kp ?_ | ((conv=>whnf); first | refine aa aI ?_)
  refine ji [.tmp 7] ?_
  conv=>whnf
  repeat' first
   | refine aJ.unroll 4 ?_
   | refine rC 13 rfl ?_
   | refine QE [] rfl hG af kp ?_
   |((conv=>whnf); first
     | refine cX ?_
     | refine cW ?_
     | refine aa aI ?_
     | refine aa bq (ae _ (aa rfl ?_))
     | refine aa bq ?_
     | refine aa (ah rfl) ?_
     | refine ae _ (aa bf ?_)
     | refine ae _ (aa rfl ?_)
     | refine ak ?_)
 all_goals (try (conv=>whnf))
 all_goals exact gc.mk (bA rfl) (ae _ (ae _ (aa (aa rfl rfl) (aa (ak (ay rfl)) (aa aI aI)))))
open Go Go.AI
set_option maxRecDepth 100000
theorem JE (l:List Int) (n:Nat) (hn:n=l.length) (hl:l.length<=1000000):lP Tryz.prog 23 [5001000] [] [.me .sl 5001000 n []] [(5001000,.me .arr 5001000 1 (l.map fun h=>[AV.int .i64 h]))] (fun r L=>r=bu (jC l)/\L=[]):=by
 exact Pd
def Ti (s:eo) (x:Nat->Int) (w:Int×Int):Hb:=(⟨3,x 0,w.1,w.2,[],bW (x 18+bW (x 17*bW (w.2 - w.1)))⟩,AY (fun j=>o8 x w (qK s (x 0) (s.buns.getD j h9).opts)) s.buns.length)
def Sq (s:eo) (x:Nat->Int) (t:Int):Hb:=(⟨4,x 0,0,t,[],x 10⟩,AY (fun j=>ll t (qK s (x 0) (s.buns.getD j h9).opts)) s.buns.length)
theorem Z5:((List.range 100).all fun n=>kY fL [] (n:Int) ((n:Int)+1))=true:=by decide +kernel
theorem YN:((List.range 100).all fun n=>qy (jD fL [] (n:Int) ((n:Int)+1)) == -6)=true:=by decide +kernel
theorem TA (t:Int) (h:0<=t/\t<100):aq Tryz.prog 89 [.agg (bM fL),.sl .full 0 [],.agg (cj t (bW (t+1)))] (.tup [.int .i64 (-6),.int .i64 0]):=by
 obtain ⟨n,rfl⟩:∃ n:Nat,t=n:=⟨t.toNat,by omega⟩;have e:bW ((n:Int)+1)=(n:Int)+1:=aZ ar ar;have h1:=aN.1 YN n (by simp; omega);have h2:=aN.1 Z5 n (by simp; omega);have c:=JG fL n ((n:Int)+1) h2;rw [show qy (jD fL [] (n:Int) ((n:Int)+1)) = -6 from eq_of_beq h1] at c;rw [e];exact c
theorem WW:jC [5,9]=[5,9]:=by delta jC; rw [jA]; decide +kernel
theorem WV:jC [8,11]=[8,11]:=by delta jC; rw [jA]; decide +kernel
def Mw:List Int:=[5,8,20,23,50,53,9,11,23,26,53,56]
def i1 (h:Int):List AV:=[.int .i64 h]
def Qb (b:Nat) (R:List jV) (t:List (Nat×AV)) (x:List (Nat×List AV)):St:=⟨(2,.ref [cA b dB])::(3,.ref (bM fL))::(4,.ref [.clo 159 [.ref [.int .i64 (fL 0)]]])::(xk 5000011,.me .box 5000011 b [[.sl .full 0 [],.sl (.id 5005000) 6 (R.map qr)]])::t,x⟩
def qZ:List Int:=[0,5,8,9,11,20,23,26,50,53,56,100]
theorem WU:jC (Mw++[0,100])=qZ:=by delta jC; rw [jA]; decide +kernel
theorem C2 {f:Nat->Int} {n:Nat} (h:∀ j,j<n->f j<=1000000000000):wS (AY f n):=fun j=>by
 unfold AY;split
 ·exact h j ‹_›
 ·decide
theorem ex2 {p:Nat->Prop} (a:p 0) (h1:p 1):∀ j,j<2->p j:=fun j hj=>by
 obtain rfl | rfl:j=0\/j=1:=by omega
 ·exact a
 ·exact h1
theorem Mx {f:Int×Int->Nat->Int} {W:List (Int×Int)} (h:(W.all fun w=>decide (f w 0<=1000000000000)&&decide (f w 1<=1000000000000))=true):∀ w∈W,wS (AY (f w) 2):=fun w a=>by
 have:=aN.1 h w a;simp only [al,aP] at this;exact C2 (ex2 this.1 this.2)
theorem II:∀ u∈dB.buns,u.opts.length<=1000000/\∀ j∈u.opts,0<=j/\j<(dB.opts.length:Int):=by decide
def Qa:List (Int×Int):=qZ.flatMap fun a=>(qZ.filter fun b=>decide (a<b)).map fun b=>(a,b)
def abg:Nat->Int
 | 0=>0
 | _+1 => -6
def eX (n:Nat):List Int:=(List.range (n+1)).map fun (k:Nat) => -6*(k:Int)
def aa9:Nat->AV
 | 0 => .sl .full 1 [[.int .i64 0]]
 | n+1 => .sl (.id 213) 1 ((eX (n+1)).map i1)
def DD (w:Int×Int):Hb:=(⟨5,fL 0,w.1,w.2,[],bW (bW (fL 11 - (eX 100).getD w.2.toNat 0)+(eX 100).getD w.1.toNat 0)⟩,AY (fun j=>ls fL w (qK dB (fL 0) (dB.buns.getD j h9).opts)) 2)
set_option maxHeartbeats 64000000 in
theorem Jd (b:Nat):bX Tryz.prog 40 [5000011] [5005000] [cA b dB,.agg (bM fL)] (LR b []) (.tup []) (LR b []):=by
 have cO:=fun y=>Al y (fL 0);have N:=tw [5,9] 2 rfl bq;have Q:=JE [8,11] 2 rfl bq;rw [WW] at N;rw [WV] at Q;have D:=OO b (W := .clo 81 [.ref (bM fL)]) (k:=2) (ak ⟨rfl,rfl⟩);refine lP.ofB af Tryz.func40 rfl aI bh (ah rfl) ?_;intro F n' w0 m0 hG hro h1;have kp:KP kg := .mk;refine aJ.seq ?_
 repeat' first | refine QN rfl hG af kp ?_ | ((conv=>whnf); first | refine cX ?_ | refine cW ?_ | refine aa aI ?_)
 refine aJ.seq ?_
 repeat' first | refine QN rfl hG af kp ?_ | ((conv=>whnf); first | refine cX ?_ | refine cW ?_ | refine aa aI ?_ | refine ae _ (aa (JD (fL 0)) ?_))
 conv=>whnf
 refine ji [.tmp 2,.tmp 3,.tmp 4] ?_
 conv=>whnf
 refine aJ.seq ?_;refine mZ hG af kg [5,6,7] aI ?_
 conv=>whnf
 refine kL fun Z m=>?_
 repeat' first
  | refine aJ.unroll 3 ?_
  | refine QS rfl hG af kp ?_
  |((conv=>whnf); first
    | refine cX ?_
    | refine cW ?_
    | refine aa aI ?_
    | refine aa bq (ae _ (aa rfl ?_))
    | refine ae _ (aa (cO qc) ?_)
    | refine ae _ (aa (cO ql) ?_)
    | refine bA (aa (ah rfl) (aa (ah rfl) (aa (ah rfl) ?_)))
    | refine bA (aa rfl (aa (ah rfl) (aa (ah rfl) (aa (ah rfl) ?_))))
    | refine aa (ah rfl) (aa (ah rfl) (aa (ah rfl) ?_))
    | refine ak ?_)
 conv=>whnf
 refine m _ ?_;refine aJ.le (s':=Qb b [] [(5,.me .sl 48 2 []),(6,.me .sl 54 2 []),(7,.me .sl 63 12 []),(xk 48,.me .arr 48 1 ([5,9].map i1)),(xk 54,.me .arr 54 1 ([8,11].map i1)),(xk 63,.me .arr 63 1 (Mw.map i1))] []) (St.le.of RF RF) ?_;clear m Z;refine kL fun Z m=>?_
 conv=>whnf
 refine gq 48 5000000 aI rfl ?_
 conv=>whnf
 refine gq 54 5001000 aI rfl ?_
 conv=>whnf
 refine gq 63 5002000 aI rfl ?_
 conv=>whnf
 repeat' first | refine QE [83,85] rfl hG af kp ?_ | ((conv=>whnf); first | refine cX ?_ | refine cW ?_ | refine aa aI ?_ | refine xE N ?_ | refine xE Q ?_)
 conv=>whnf
 refine m _ ?_;clear m Z;refine kL fun Z m=>?_
 repeat' first | refine QE [89] rfl hG af kp ?_ | ((conv=>whnf); first | refine cX ?_ | refine cW ?_ | refine aa aI ?_ | refine xE D ?_)
 conv=>whnf
 refine m _ ?_;clear m Z;have B:=uS [5,9] [8,11];have c:=qe [5,9] [8,11] bq bq;rw [show sT [5,9] [8,11]=[(5,8),(5,11),(9,11)] by decide +kernel] at c;have E:=fun (wa wb:Int)=>ke b dB bq .full 0 3 (fL 0) wa wb (bW (fL 18+bW (fL 17*bW (wb - wa)))) 85 [.ref [cA b dB],.ref [.clo 159 [.ref [.int .i64 (fL 0)]]],.ref (bM fL),.ref (cj wa wb)] (fun j=>o8 fL (wa,wb) (qK dB (fL 0) (dB.buns.getD j h9).opts)) (fun j hj=>Nt b dB fL (wa,wb) j _ (II _ (c8 h9 hj)).1 (II _ (c8 h9 hj)).2);refine aJ.seq ?_
 repeat' first | refine QN rfl hG af kp ?_ | ((conv=>whnf); first | refine cX ?_ | refine cW ?_ | refine aa aI ?_)
 repeat' first | refine QS rfl hG af kp ?_ | ((conv=>whnf); first | refine cX ?_ | refine cW ?_ | refine aa aI ?_ | refine ae _ (aa B ?_))
 refine AA 12 0 1012000 18 rfl rfl ?_
 conv=>whnf
 refine aJ.pin 12 5008000 rfl rfl rfl (fun A=>?_)
 conv=>whnf
 refine eY hG (bC bq h1) (α:=Int×Int) XC (f:=164) (cap:=[.ref [bu [5,9]],.ref [bu [8,11]]]) [14,13,12,xk 5008000,xk 5000011,5,2,3,4,7,xk 5002000] rfl c (fun _=>rfl) aI bq rfl ?_
 iterate 3
  conv=>whnf
  intro F2 n2 m2 r hn2;refine aJ.reg r af kg aI ?_
  conv=>whnf
  refine aa rfl (aa LE ?_);refine aJ.block ?_;refine aJ.seq ?_;refine aJ.reg r af kg aI ?_
  conv=>whnf
  refine ji [.tmp 15] ?_
  conv=>whnf
  repeat' first | refine QS rfl r af kp ?_ | ((conv=>whnf); first | refine cX ?_ | refine cW ?_ | refine aa aI ?_ | refine ae _ (aa (E _ _) ?_) | refine aa (ah rfl) ?_ | refine ak ?_)
 conv=>whnf
 refine aJ.le (s':=Qb b [] [(13,.sl (.id 13) 18 []),(12,.pin 5008000 A 0 []),(xk 5008000,.me .box 5008000 A [[.sl (.id 1012000) 18 (([(5,8),(5,11),(9,11)].map (Ti dB fL)).map ud)]]),(14,.loc 14 0),(7,.me .sl 5002000 12 []),(xk 5002000,.me .arr 5002000 1 (Mw.map i1)),(5,bu [5,9])] [(14,[.sl (.id 1014000) 0 []])]) (St.le.of RF RF) ?_
 have o:=pC b dB bq bq [] ([(5,8),(5,11),(9,11)].map (Ti dB fL)) bq (fun p x=>by
  obtain ⟨w,q,rfl⟩:=bp.1 x;exact Mx (f:=fun w j=>o8 fL w (qK dB (fL 0) (dB.buns.getD j h9).opts)) (by decide +kernel) w q)
 rw [show wo dB.buns.length ([(5,8),(5,11),(9,11)].map (Ti dB fL))=[] by kernel_rfl,bR] at o;clear B c E N Q D;refine kL fun Z m=>?_
 repeat' first | refine QE [121] rfl hG af kp ?_ | ((conv=>whnf); first | refine cX ?_ | refine cW ?_ | refine aa aI ?_ | refine xE o ?_)
 conv=>whnf
 refine m _ ?_;clear m Z o;have cs:=fun (t:Int)=>ke b dB bq .full 0 4 (fL 0) 0 t (fL 10) 87 [.ref [cA b dB],.ref [.clo 159 [.ref [.int .i64 (fL 0)]]],.ref [.int .i64 t]] (fun j=>ll t (qK dB (fL 0) (dB.buns.getD j h9).opts)) (fun j hj=>Jh b dB fL t bq j _ (II _ (c8 h9 hj)).1 (II _ (c8 h9 hj)).2)
 have o:=pC b dB bq bq [] ([5,9].map (Sq dB fL)) bq (fun p x=>by
  obtain ⟨w,q,rfl⟩:=bp.1 x;exact Mx (W:=[(5,0),(9,0)]) (f:=fun w j=>ll w.1 (qK dB (fL 0) (dB.buns.getD j h9).opts)) (by decide +kernel) (w,0) (by simpa using q))
 rw [show wo dB.buns.length ([5,9].map (Sq dB fL))=[] by kernel_rfl,bR] at o;have hc:∀ (t:Int),dB.a<=t/\t<100->aq Tryz.prog 89 [.agg (bM fL),.sl .full 0 [],.agg (cj t (bW (t+1)))] (.tup [.int .i64 (-6),.int .i64 0]):=fun t h=>TA t h
 repeat' first | refine QE [143] rfl hG af kp ?_ | ((conv=>whnf); first | refine cX ?_ | refine cW ?_ | refine aa aI ?_)
 refine aJ.unroll 3 ?_
 repeat' first
  | refine QE [143] rfl hG af kp ?_
  |((conv=>whnf); first
    | refine cX ?_
    | refine cW ?_
    | refine aa aI ?_
    | refine aa bq (ae _ (aa rfl ?_))
    | refine ae _ (aa (cs _) ?_)
    | refine xE o ?_
    | refine aa (ah rfl) ?_
    | refine ak ?_)
 refine aJ.pin 19 5010000 rfl rfl rfl (fun d=>?_)
 conv=>whnf
 refine aJ.le (s':=Qb b [] [(21,.int .i64 0),(20,.int .i64 0),(19,.pin 5010000 d 0 []),(xk 5010000,.me .box 5010000 d [[.sl .full 1 [[.int .i64 0]]]]),(14,.loc 14 0),(7,.me .sl 5002000 14 []),(xk 5002000,.me .arr 5002000 1 ((Mw++[0,100]).map i1))] [(14,[.sl (.id 1014000) 0 []])]) (St.le.of RF RF) ?_;clear cs o;refine Y7 (.exit 8) (Qb b [] [(19,.pin 5010000 d 0 []),(xk 5010000,.me .box 5010000 d [[.sl (.id 213) 1 ((eX 100).map i1)]]),(14,.loc 14 0),(7,.me .sl 5002000 14 []),(xk 5002000,.me .arr 5002000 1 ((Mw++[0,100]).map i1))] [(14,[.sl (.id 1014000) 0 []])]) ?_ ?_
 ·refine aJ.loop (X:=Nat) (fun i=>Qb b [] [(21,.int .i64 (abg i)),(20,.int .i64 i),(19,.pin 5010000 d 0 []),(xk 5010000,.me .box 5010000 d [[aa9 i]]),(14,.loc 14 0),(7,.me .sl 5002000 14 []),(xk 5002000,.me .arr 5002000 1 ((Mw++[0,100]).map i1))] [(14,[.sl (.id 1014000) 0 []])]) (fun i=>i<=100) (fun i=>100 - i) 0 (aU _) (.refl _) (fun i hi=>?_);by_cases H:i<100
  ·have cN:=TA i ar;have v:decide ((i:Int)<dB.b)=false->False:=fun h=>aW h (show (i:Int)<100 by omega);have hti:IntKind.i64.wrap ((i:Int)+1)=((i+1:Nat):Int):=aZ ar ar
   cases i with
   | zero=>
    repeat' first
     | exact (v bf).elim
     | refine QS rfl hG af kp ?_
     |((conv=>whnf); first
       | refine cX ?_
       | refine cW ?_
       | refine aa aI ?_
       | refine aa bq (ae _ (aa rfl ?_))
       | refine ae _ (aa cN ?_)
       | refine aa (ah rfl) ?_
       | refine aa (fun h=>?_) (fun h=>?_)
       | refine ak ?_)
    exact ae 1 (aa bq (aa bq LE))
   | succ n=>
    have hl:((eX (n+1)).map i1).length=n+2:=by simp [eX]
    have q:IntKind.i64.wrap ((((eX (n+1)).map i1).length:Int) - 1)=((n+1:Nat):Int):=by rw [hl]; exact (aZ ar ar).trans ar
    have J:(0:Int)<=IntKind.i64.wrap ((((eX (n+1)).map i1).length:Int) - 1):=by rw [q]; omega
    have hsx:((eX (n+1)).map i1)[(IntKind.i64.wrap ((((eX (n+1)).map i1).length:Int) - 1)).toNat]?=some [.int .i64 (-6*((n+1:Nat):Int))]:=by rw [q]; simp [eX,i1]
    have hse:(eX (n+1)).map i1++[[.int .i64 (IntKind.i64.wrap (-6*((n+1:Nat):Int) + -6))]]=(eX (n+2)).map i1:=by
     rw [show IntKind.i64.wrap (-6*((n+1:Nat):Int) + -6) = -6*((n+2:Nat):Int) from (aZ ar ar).trans ar];simp [eX,dJ,i1]
    have g1:(((eX (n+1)).map i1).length+1)*8<=70368744177664:=by omega
    have g2:((eX (n+1)).map i1).length+1<=4611686018427387904:=by omega
    have bbt:decide (((n+1:Nat):Int)>dB.a)=false->False:=fun h=>aW h (show ((n+1:Nat):Int)>0 by omega)
    repeat' first
     | exact (v bf).elim
     | exact (bbt bf).elim
     | refine QS rfl hG af kp ?_
     |((conv=>whnf); first
       | refine cX ?_
       | refine cW ?_
       | refine aa aI ?_
       | refine ae _ (aa cN ?_)
       | refine aa J (ae _ (aa hsx ?_))
       | refine aa g1 (aa g2 ?_)
       | refine aa (fun h=>?_) (fun h=>?_)
       | refine ak ?_)
    conv=>whnf
    refine ae (n+2) (aa H (aa ar (St.le.of ?_ RF)))
    repeat' (first | exact trivial | refine aa rfl ?_ | refine aa (ax (fun z=>some (AV.int .i64 z)) hti) ?_ | refine aa (ax (fun (z:List (List AV))=>some (AV.me .box 5010000 d [[AV.sl (.id 213) 1 z]])) hse) ?_)
  ·obtain rfl:i=100:=by omega
   repeat' first
     | refine QS rfl hG af kp ?_
     |((conv=>whnf); first
       | refine cX ?_
       | refine cW ?_
       | refine aa aI ?_)
   exact LE
 have cM:=tw (Mw++[0,100]) 14 rfl bq;rw [WU] at cM;have B:=uS qZ qZ;have c:=qe qZ qZ bq bq;have E:=fun (wa wb:Int)=>ke b dB bq .full 0 5 (fL 0) wa wb (bW (bW (fL 11 - (eX 100).getD wb.toNat 0)+(eX 100).getD wa.toNat 0)) 90 [.ref [cA b dB],.ref [.clo 159 [.ref [.int .i64 (fL 0)]]],.ref (bM fL),.ref (cj wa wb)] (fun j=>ls fL (wa,wb) (qK dB (fL 0) (dB.buns.getD j h9).opts)) (fun j hj=>JI b dB fL (wa,wb) bq j _ (II _ (c8 h9 hj)).1 (II _ (c8 h9 hj)).2)
 conv=>whnf
 refine gq 5002000 5000000 aI rfl ?_
 conv=>whnf
 refine aJ.seq ?_
 repeat' first | refine QF [215] rfl hG af kp ?_ | ((conv=>whnf); first | refine cX ?_ | refine cW ?_ | refine aa aI ?_ | refine xE cM ?_)
 repeat' first | refine QS rfl hG af kp ?_ | ((conv=>whnf); first | refine cX ?_ | refine cW ?_ | refine aa aI ?_ | refine ae _ (aa B ?_))
 refine AA 14 0 1014000 18 rfl rfl ?_
 conv=>whnf
 refine aJ.pin 14 5009000 rfl rfl rfl (fun u=>?_)
 conv=>whnf
 rw [show sT qZ qZ=Qa by decide +kernel] at c
 have o:=pC b dB bq bq [] (Qa.map DD) (by decide +kernel) (fun p x=>by
  obtain ⟨w,q,rfl⟩:=bp.1 x;exact Mx (f:=fun w j=>ls fL w (qK dB (fL 0) (dB.buns.getD j h9).opts)) (by decide +kernel) w q)
 rw [show wo dB.buns.length (Qa.map DD)=[] by kernel_rfl,bR] at o;have D:=OO b (W := .fn 91) (k:=6) (bA ⟨rfl,rfl⟩);have P:∀ w∈Qa,0<=w.1/\w.1<=100/\0<=w.2/\w.2<=100:=by decide +kernel
 have hwl:Qa.length=66:=by decide +kernel
 generalize Qa=ws at *
 refine ⟨oG hG (bC bq h1) (α:=Int×Int) XC (f:=164) (cap:=[.ref [bu qZ],.ref [bu qZ]]) (items:=ws) rfl c (fun _=>rfl)
  (fun p=>(Qb b [] [(14,.pin 5009000 u 0 []),(xk 5009000,.me .box 5009000 u [[.sl (.id 1014000) 18 ((p.map DD).map ud)]]),(19,.pin 5010000 d 0 []),(xk 5010000,.me .box 5010000 d [[.sl (.id 213) 1 ((eX 100).map i1)]])] []).t) [2,3,4,xk 5000011,14,xk 5009000,19,xk 5010000] (fun _=>rfl)
  (fun _=>[]) (St.le.of RF RF) aI bq ?_ ?_⟩
 ·intro F2 n2 m2 r _ _ pre w rest hx
  have M:pre.length<=66:=by
   have:=ax List.length hx;rw [bY] at this; omega
  obtain ⟨a1,a2,b1,b2⟩:=P w (by rw [hx]; exact bj _ a7);have l:((pre++[w]).map DD).map ud=(pre.map DD).map ud++[ud (DD w)]:=by simp
  have G:((pre.map DD).map ud).length<=66:=by rw [az,az]; exact M
  generalize (pre.map DD).map ud=row at l G;obtain ⟨wa,wb⟩:=w;dsimp only at a1 a2 b1 b2;have hg:DD (wa,wb)=((⟨5,fL 0,wa,wb,[],bW (bW (fL 11 - (eX 100).getD wb.toNat 0)+(eX 100).getD wa.toNat 0)⟩:jV),AY (fun j=>ls fL (wa,wb) (qK dB (fL 0) (dB.buns.getD j h9).opts)) dB.buns.length):=rfl;rw [hg] at l;have U:(row.length+1)*160<=70368744177664:=by omega
  have L:row.length+1<=4611686018427387904:=by omega
  have key:∀ z:Int,0<=z->z<=100->0<=IntKind.i64.wrap (z - dB.a)/\((eX 100).map i1)[(IntKind.i64.wrap (z - dB.a)).toNat]?=some [.int .i64 ((eX 100).getD z.toNat 0)]:=fun z h1 h2=>by
   have e:IntKind.i64.wrap (z - dB.a)=z:=aZ (n:=z - 0) ar ar |>.trans ar;rw [e];exact ⟨h1,cG i1 0 (show z.toNat<(eX 100).length by rw [show (eX 100).length=101 by simp [eX]]; omega)⟩
  have ka:=key wa a1 a2;have kb:=key wb b1 b2;generalize (eX 100).map i1=sums at *;refine aJ.out (aJ.reg r af kg aI ?_)
  conv=>whnf
  refine aa rfl (aa LE ?_);refine aJ.out ?_;refine aJ.block ?_;refine aJ.seq ?_;refine oF r af kg aI ?_
  repeat ((conv=>whnf); first | refine aa aI ?_ | refine aa kb.1 (ae _ (aa kb.2 ?_)) | refine aa ka.1 (ae _ (aa ka.2 ?_)))
  conv=>whnf
  refine ji [.tmp 24] ?_
  conv=>whnf
  repeat' first | refine QS rfl r af kp ?_ | ((conv=>whnf); first | refine cX ?_ | refine cW ?_ | refine aa aI ?_ | refine ae _ (aa (E wa wb) ?_) | refine aa U (aa L ?_) | refine ak ?_)
  refine St.le.of ?_ RF;dsimp only;rw [l];exact RF
 ·conv=>whnf
  repeat' first | refine QE [264,267] rfl hG af kp ?_ | ((conv=>whnf); first | refine cX ?_ | refine cW ?_ | refine aa aI ?_ | refine xE o ?_ | refine xE D ?_)
  conv=>whnf
  exact gc.mk (bA rfl) (ae (.tup []) (ae (LR b []) (aa (aa rfl rfl) (aa (ak (ay rfl)) (aa aI aI)))))
open Go Go.AI
set_option maxRecDepth 100000
def Be (s:eo) (j:Nat):jY:=s.buns.getD j h9
def A8:jV:=⟨8,7,0,0,[1,1],1⟩
def IE:jV:=⟨8,7,1,1,[0,1],0⟩
def Qd:jV:=⟨9,7,0,0,[-1,-1],-1⟩
def WR:jV:=⟨11,1,0,0,[3,2],3⟩
def Z0 (n:Nat):List jV:=if n<=1 then [A8,IE,Qd] else [A8,IE,Qd,WR]
theorem ON (b:Nat) (R a:List jV) (r:jV) (f:Nat->Int) (c:R.length<=1000) (hf:f 0<=1000000000000/\f 1<=1000000000000) (e:R++mM 2 (r,AY f 2)=a):bX Tryz.prog 36 [5000011] [5005000] [cA b dB,.agg (ud (r,AY f 2))] (LR b R) (.tup []) (LR b a):=
 e ▸ Jt b dB bq bq R ar r (AY f 2) (C2 (ex2 hf.1 hf.2))
theorem YJ (b:Nat) (i:Nat) (h:i<16):bX Tryz.prog 36 [5000011] [5005000] [cA b dB,.agg (ud (⟨11,i,0,0,[],exQ.getD i 0⟩,AY (fun j=>ue dB i (xp dB (Be dB j).opts)) 2))] (LR b (Z0 i)) (.tup []) (LR b (Z0 (i+1))):=by
 have:i=0\/i=1\/i=2\/i=3\/i=4\/i=5\/i=6\/i=7\/i=8\/i=9\/i=10\/i=11\/i=12\/i=13\/i=14\/i=15:=by omega
 rcases this with rfl | rfl | rfl | rfl | rfl | rfl | rfl | rfl | rfl | rfl | rfl | rfl | rfl | rfl | rfl | rfl <;> exact ON b _ _ _ _ bq (by decide +kernel) aI
set_option maxHeartbeats 64000000 in
theorem Bv (b:Nat) (a:∀ u∈dB.buns,aq Tryz.prog 66 [cA b dB,.agg (fH u)] (.bool (u.opts==[0]))):bX Tryz.prog 43 [5000011] [5005000] [cA b dB] (LR b []) (.tup []) (LR b [A8,IE,Qd,WR]):=by
 have v0:aq Tryz.prog 66 [cA b dB,.agg (fH ⟨7,[0]⟩)] (.bool true):=a _ bq;have v1:aq Tryz.prog 66 [cA b dB,.agg (fH ⟨7,[1]⟩)] (.bool false):=a _ bq;have c:dB.buns.length<=12:=by decide
 have c1:=ke b dB c .full 0 8 7 0 0 1 96 [.ref [.int .i64 7],.ref [.int .i64 1]] (fun j=>PB 7 1 (Be dB j)) (fun j _=>Am _ _ _ _);have p1:=ON b [] [A8] ⟨8,7,0,0,[],1⟩ (fun j=>PB 7 1 (Be dB j)) bq (by decide +kernel) aI;have c2:=ke b dB c .full 0 8 7 1 1 0 97 [.ref [.int .i64 1]] (fun j=>Ym 1 j) (fun j _=>Nh _ _ _);have p2:=ON b [A8] [A8,IE] ⟨8,7,1,1,[],0⟩ (fun j=>Ym 1 j) bq (by decide +kernel) aI;have l:=ke b dB c .full 0 9 7 0 0 (-1) 96 [.ref [.int .i64 7],.ref [.int .i64 (-1)]] (fun j=>PB 7 (-1) (Be dB j)) (fun j _=>Am _ _ _ _);have d:=ON b [A8,IE] [A8,IE,Qd] ⟨9,7,0,0,[],-1⟩ (fun j=>PB 7 (-1) (Be dB j)) bq (by decide +kernel) aI;have h:=fun (i:Nat)=>ke b dB c .full 0 11 i 0 0 (exQ.getD i 0) 99 [.ref [cA b dB],.ref [.int .i64 i]] (fun j=>ue dB i (xp dB (Be dB j).opts)) (fun j hj=>QJ b dB zK i j _ (II _ (c8 h9 hj)).1 (II _ (c8 h9 hj)).2);have e:=YJ b;refine lP.ofB af Tryz.func43 rfl aI bh (ah rfl) ?_;intro F m w0 m0 hG f h1;refine aJ.seq ?_;have kp:KP Kk := .mk;refine bz ?_
 conv=>whnf
 refine ji [.tmp 1] ?_
 conv=>whnf
 repeat'
  first
   |(refine rC 5 rfl ?_; conv=>whnf)
   |(refine rC 17 rfl ?_; conv=>whnf)
   | refine aJ.unroll 17 ?_
   | refine QE [39,64,84,160] rfl hG af kp ?_
   |((conv=>whnf); first
    | refine cX ?_
    | refine cW ?_
    | refine aa aI ?_
    | refine aa bq (ae _ (aa rfl ?_))
    | refine ae _ (aa (Ng _ _) ?_)
    | refine ae _ (aa v0 ?_)
    | refine ae _ (aa v1 ?_)
    | refine ae _ (aa c1 ?_)
    | refine ae _ (aa c2 ?_)
    | refine ae _ (aa l ?_)
    | refine ae _ (aa (h _) ?_)
    | refine xE p1 ?_
    | refine xE p2 ?_
    | refine xE d ?_
    | refine xE (e _ bq) ?_
    | refine ak ?_)
 conv=>whnf
 exact gc.mk (bA rfl) (ae (.tup []) (ae (LR b [A8,IE,Qd,WR]) (aa (aa rfl rfl) (aa (ak (ay rfl)) (aa aI aI)))))
end Go.Proofs
