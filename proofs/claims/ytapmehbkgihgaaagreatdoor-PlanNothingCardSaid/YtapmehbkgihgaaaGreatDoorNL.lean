/- Part 12 of the proof: an abstract interpreter for the code, contracts of the functions, and plain facts; the conditions are those typed. -/
import Derived.Test.YtapmehbkgihgaaaGreatDoorNH
import Derived.Shelf.Small.Bits
set_option linter.unusedSectionVars false
set_option linter.unusedVariables false
set_option linter.unusedSimpArgs false
namespace Go.Proofs
open Go Go.AI
set_option maxRecDepth 100000
def LU (k b cap:Nat) (l:List Int):Nat×AV:=(k,.me (.row b cap) k 1 (l.map fun h=>[AV.int .i64 h]))
def lV:Nat->Int:=mi fL
def aao (a b k:Int):List AV:=[.ref (d8 lV),.ref (cj a b),.ref [.int .i64 k]]
def ZE (a b k:Int):List AV:=[.ref (cj a b),.ref (d8 lV),.ref [.int .i64 0],.ref [.int .i64 k]]
def exI:List (Int×Int×Int):=[(0,11,5),(0,11,6),(0,11,7)]
def exJ:List (Int×Int×Int):=[(47,11,9),(47,11,10)]
def kQ (x:Int):List Int:=[0,0,0,0,0,0,0,0,0,0,0,x,0,0,0,0,0,0,0,0,0,0,0,0]
theorem abh (t:Int) (h:(sj lV t 0&&bW (t - 0)==t&&kS lV t==(47,11))=true:=by decide +kernel):aq Tryz.prog 228 [.agg (d8 lV),.int .i64 t,.int .i64 0] (.tup [.agg (eM (47,11)),.int .i64 0]):=by
 simp only [al,tn] at h;have c:=UZ lV t 0 h.1.1;rwa [h.1.2,h.2] at c
theorem shR {p:Prop} (h:p:=by
  refine iA.of Tryz.func227 rfl aI bh (ah rfl) rfl ?_;intro F n m y J Jx hY
  repeat' first
    | refine io.unroll 5 ?_
    | refine QM rfl hY af (.mk:KP Fx) ?_
    | ((conv=>whnf); first
       | refine cX ?_
       | refine cW ?_
       | refine aa aI ?_
       | refine aa bq ?_
       | refine ae _ (aa (abh _) ?_)
       | (refine ae _ (aa rfl (aa rfl (fun t ht=>?_))); subst ht; refine aa ?_ ?_)
       | refine ak ?_)
  all_goals first | exact iL.mk (ak rfl) (bA rfl) | exact iL.mk (bA rfl) (ak rfl)):p:=h
theorem shI:iA Tryz.prog Zh 227 (ZE 5 8 1) exI:=shR
theorem shJ:iA Tryz.prog Zh 227 (ZE 9 11 0) exJ:=shR
theorem aad:iA Tryz.prog S9 275 [.ref (d8 lV)] [0]:=by
  refine iA.of Tryz.func275 rfl aI bh (ah rfl) rfl ?_;intro F n m y J Jx hY
  repeat' first
    | refine io.unroll 5 ?_
    | refine QM rfl hY af (.mk:KP E9) ?_
    | ((conv=>whnf); first
       | refine cX ?_
       | refine cW ?_
       | refine aa aI ?_
       | (refine ae _ (aa rfl (aa rfl (fun t a=>?_))); subst a; refine aa ?_ ?_)
       | refine ak ?_)
  all_goals first | exact iL.mk (ak rfl) (bA rfl) | exact iL.mk (bA rfl) (ak rfl)
theorem Ai (a b k:Int):aq Tryz.prog 152 [.agg (d8 lV),.agg (cj a b),.int .i64 k,.int .i64 0] (.clo 227 (ZE a b k)):=dK Gs Tryz.func152
theorem xV:aq Tryz.prog 226 [.agg (d8 lV)] (.clo 275 [.ref (d8 lV)]):=dK Fy Tryz.func226
def I8 (a b k x:Int):Prop:=lP Tryz.prog 147 [5000000] [] [.agg (d8 lV),.agg (cj a b),.int .i64 k,.int .i64 0] [] (fun r d=>∃ c cap,r = .agg [nQ c 24 cap]/\d=[LU 5000000 c cap (kQ x)])
theorem arR {p:Prop} (h:p:=by
 refine lP.ofB af Tryz.func147 rfl aI bh (ah rfl) ?_;intro F n' w0 m0 hG hro h1;have kp:KP vn := .mk;refine aJ.seq ?_
 repeat' first | refine QF [] rfl hG af kp ?_ | ((conv=>whnf); first | refine cX ?_ | refine cW ?_ | refine aa aI ?_ | refine ak ?_)
 refine aJ.seq ?_;refine jh hG af vn 0 aI ?_
 conv=>whnf
 refine xF xT ?_;rintro r L2 ⟨bk,cap,rfl,rfl⟩
 conv=>whnf
 repeat' first
  | refine eY hG (bC bq h1) Zh [9,8,xk 5000000] rfl hseq (fun _=>rfl) aI bq rfl ?_
  | refine QE [] rfl hG af kp ?_
  | refine QE [] rfl hX af kp ?_
  |((conv=>whnf); first
    | refine cX ?_
    | refine cW ?_
    | refine aa aI ?_
    | refine aa bq ?_
    | refine ae _ (aa (Ai _ _ _) ?_)
    | intro F2 n2 m2 hX hn2
    | refine aa LE ?_
    | refine ae 5000000 (ae _ (ae _ (ae _ (aa (aa rfl (aa rfl rfl)) ?_))))
    | refine aa (ah rfl) ?_
    | refine ae _ (aa rfl ?_)
    | refine ak ?_)
 conv=>whnf
 exact gc.mk (ak rfl) (ae _ (ae _ (aa (ae bk (ae cap (aa rfl rfl))) (aa (ak (ay rfl)) (aa aI aI)))))):p:=h
theorem arI:I8 5 8 1 1:=by
 have hseq:=shI;exact arR
theorem arJ:I8 9 11 0 140737488355328:=by
 have hseq:=shJ;exact arR
def aaQ (x:Int):AV->List (Nat×AV)->Prop:=fun r b=>∃ b1 c1 a c2,r = .agg [nQ b1 24 c1,nQ a 24 c2]/\b=[LU 5000000 b1 c1 (kQ x),LU 5001000 a c2 (kQ x)]
def Zx (a b k x:Int):Prop:=lP Tryz.prog 146 [5000000,5001000] [] [.int .i64 0,.ref (d8 lV),.ref (cj a b),.ref [.int .i64 k]] [] (aaQ x)
set_option maxHeartbeats 8000000 in
theorem Jg (a b k x:Int) (f:I8 a b k x):Zx a b k x:=by
 refine lP.ofB af Tryz.func146 rfl aI bh (ah rfl) ?_;intro F i w0 m0 hG e h1;refine aJ.seq ?_;have kp:KP pN := .mk
 repeat' first|refine du ?_|((conv=>whnf); first|refine ⟨fun h=>?_,fun h=>?_⟩|refine ak ?_)
 refine aJ.seq ?_;refine jh hG af pN 4 aI ?_
 conv=>whnf
 refine xF f ?_;rintro r j ⟨b1,c1,rfl,rfl⟩
 conv=>whnf
 refine aJ.seq ?_;refine aJ.cut (X:=Nat×Nat) (fun y=>⟨[(xk 5000000,(LU 5000000 b1 c1 (kQ x)).2),(xk 16,(LU 16 y.1 y.2 (kQ x)).2),(5,.loc 5 0)],[(5,[nQ b1 24 c1,nQ y.1 24 y.2])]⟩) (fun _=>True) ?_ (fun y _=>?_)
 ·refine wT hG af pN aI ?_
  repeat' first
   | refine TB.done rfl ?_
   | refine Vh hG af [] ?_
   |(conv=>whnf
     first
      | refine Vz.intro ?_ ?_
      | refine ae 5000000 (aa rfl (aa rfl (aa (ah rfl) (aa (ah rfl) (aa (ah rfl) (fun d c=>?_))))))
      | refine aa aI ?_)
  all_goals exact ae (d,c) (aa trivial LE)
 ·obtain ⟨d,c⟩:=y
  conv=>whnf
  refine gq 16 5001000 (g := .row d c) aI rfl ?_;refine aJ.ret hG af ?_
  conv=>whnf
  exact gc.mk (ak rfl) (ae _ (ae _ (aa (ae b1 (ae c1 (ae d (ae c (aa rfl rfl))))) (aa (ak (ay rfl)) (aa aI aI)))))
theorem Jf (u v:AV) (b1 c1 a c2:Nat):aq Tryz.prog 150 [.agg [nQ b1 24 c1,nQ a 24 c2]] (.agg [nQ b1 24 c1,nQ a 24 c2]):=dK Gu Tryz.func150
set_option maxHeartbeats 8000000 in
theorem KH (a b k x:Int) (hx:x=1\/x=140737488355328) (m:I8 a b k x):lP Tryz.prog 149 [5000000,5001000,5004000,5005000] [] [.agg (d8 lV),.clo 146 (aao a b k),.fn 150,.fn 148] [] (fun r j=>∃ b1 c1 i c2,r = .agg [nQ b1 24 c1,nQ i 24 c2]/\j=[LU 5004000 b1 c1 (kQ x),LU 5005000 i c2 (kQ x)]):=by
 have d:=Jg a b k x m;refine lP.ofB af Tryz.func149 rfl aI bh (ah rfl) ?_;intro F o w0 m0 hG l h1;have kp:KP mw := .mk;rcases hx with rfl | rfl
 all_goals
  repeat' first|refine aS ?_|((conv=>whnf); first|refine ae _ (aa xV ?_)|refine ⟨fun h=>?_,fun h=>?_⟩|refine ak ?_)
  refine Lb 2005004000 rfl ?_;refine Lb 2005005000 rfl ?_;refine eY hG (bC bq h1) S9 [9,8,4,5,6,7,xk 5004000,xk 5005000] rfl aad (fun _=>rfl) aI bq rfl ?_
  conv=>whnf
  intro p n2 m2 c n;refine aJ.reg c af mw aI ?_
  conv=>whnf
  refine aa rfl (aa LE ?_);refine aJ.block ?_;refine aJ.seq ?_;refine lJ c af mw 2 aI ?_
  conv=>whnf
  refine xF d ?_;rintro r q ⟨n1,f,n2,e,rfl,rfl⟩
  conv=>whnf
  refine aJ.seq ?_;refine dH c af mw [] aI ?_
  conv=>whnf
  refine gq 5000000 5004000 (g := .row n1 f) aI rfl ?_
  conv=>whnf
  refine gq 5001000 5005000 (g := .row n2 e) aI rfl ?_
  conv=>whnf
  repeat' first|refine QE [] rfl c af kp ?_|refine QE [] rfl hG af kp ?_|((conv=>whnf); first | refine cX ?_ | refine cW ?_ | refine aa aI ?_ | refine ae _ (aa (Jf .junk .junk _ _ _ _) ?_) | refine ak ?_)
  conv=>whnf
  exact gc.mk (ak rfl) (ae _ (ae _ (aa (ae n1 (ae f (ae n2 (ae e (aa rfl rfl))))) (aa (ak (ay rfl)) (aa aI aI)))))
theorem Af (a b k x:Int) (hx:x=1\/x=140737488355328) (e:I8 a b k x) (h:g9 lV a b k=true):aq Tryz.prog 71 [.agg (d8 lV),.agg (cj a b),.int .i64 k] (.tup [.agg [bu (kQ x),bu (kQ x)],.int .i64 0]):=by
 have f:=KH a b k x hx e;have hv:=rZ lV a b k;rw [h] at hv;refine aM xH Tryz.func71 ?_;intro F i w0 m0 hG d h1 kp
 repeat' first|refine aS ?_|((conv=>whnf); first|refine ⟨fun h=>?_,fun h=>?_⟩|refine ak ?_)
 conv=>whnf
 refine ae _ (aa (hv) ?_)
 repeat' first|refine du ?_|((conv=>whnf); first|refine ⟨fun h=>?_,fun h=>?_⟩|refine ak ?_)
 refine aJ.seq ?_
 repeat' first|refine du ?_|((conv=>whnf); first|refine ⟨fun h=>?_,fun h=>?_⟩|refine ak ?_)
 refine aJ.seq ?_
 repeat' first|refine du ?_|((conv=>whnf); first|refine ⟨fun h=>?_,fun h=>?_⟩|refine ak ?_)
 refine aJ.seq ?_;refine jh hG af xH 3 aI ?_
 conv=>whnf
 refine xF f ?_;rintro r j ⟨b1,c1,c,c2,rfl,rfl⟩
 conv=>whnf
 refine il 5004000 6 [bu (kQ x),nQ c 24 c2] rfl rfl (aa (bA ⟨rfl,rfl⟩) (aa (ak rfl) trivial)) ?_;refine il 5005000 6 [bu (kQ x),bu (kQ x)] rfl rfl (aa (ak rfl) (aa (bA ⟨rfl,rfl⟩) trivial)) ?_;refine bz ?_
 all_goals exact Ez
theorem ZT:aq Tryz.prog 71 [.agg (d8 lV),.agg (cj 5 8),.int .i64 1] (.tup [.agg [bu (kQ 1),bu (kQ 1)],.int .i64 0]):=Af 5 8 1 1 (ak rfl) arI (by decide +kernel)
theorem ZS:aq Tryz.prog 71 [.agg (d8 lV),.agg (cj 9 11),.int .i64 0] (.tup [.agg [bu (kQ 140737488355328),bu (kQ 140737488355328)],.int .i64 0]):=Af 9 11 0 140737488355328 (bA rfl) arJ (by decide +kernel)
open Go Go.AI
set_option maxRecDepth 100000
theorem TE (c:Int×Int) (t v:Int) (h:(cQ t 0 1000000&&kC c&&ky c t==v)=true:=by decide +kernel):aq Tryz.prog 153 [.agg (eM c),.int .i64 t] (.tup [.int .i64 v,.int .i64 0]):=by
 simp only [al,tn] at h;have g:=KT c t h.1.1 h.1.2;rwa [h.2] at g
def Ol (z:Int×Int):List AV:=[.int .i64 z.1,.int .i64 z.2]
theorem MT (z:Int×Int):aq Tryz.prog 156 [.agg (Ol z)] (.agg (Ol z)):=by
 obtain ⟨x,y⟩:=z;refine aM Gn Tryz.func156 ?_;intro F b w0 m0 hG a h1 kp;refine bz ?_
 all_goals exact Ez
theorem MU {a b k:Int} {z:Int×Int} {l:List (Int×Int×Int)} (c:iA Tryz.prog Zh 227 (ZE a b k) l) (h:(z=(81,82)/\l=exI)\/(z=(85,86)/\l=exJ)):aq Tryz.prog 151 [.int .i64 0,.ref (d8 lV),.ref (cj a b),.ref [.int .i64 k]] (.agg (Ol z)):=by
 have c1:=TE (0,11) 5 82;have c2:=TE (0,11) 6 81;have i:=TE (0,11) 7 81;have f:=TE (47,11) 9 85;have j:=TE (47,11) 10 86;refine aq.ofB af Tryz.func151 rfl aI bh (ah rfl) ?_;intro F n w0 m0 hG e h1;have kp:KP Gt := .mk;rcases h with ⟨rfl,rfl⟩ | ⟨rfl,rfl⟩
 all_goals
  repeat' first
   | refine eY hG (bC bq h1) Zh [5,6] rfl c (fun _=>rfl) aI bq rfl ?_
   | refine QE [] rfl hG af kp ?_
   | refine QE [] rfl d af kp ?_
   |((conv=>whnf); first
     | refine cX ?_
     | refine cW ?_
     | refine aa aI ?_
     | refine aa bq ?_
     | refine ae _ (aa (Ai _ _ _) ?_)
     | refine ae _ (aa c1 ?_)
     | refine ae _ (aa c2 ?_)
     | refine ae _ (aa i ?_)
     | refine ae _ (aa f ?_)
     | refine ae _ (aa j ?_)
     | intro o n2 m2 d m
     | refine aa LE ?_
     | refine ak ?_)
  conv=>whnf
  exact Ez
theorem CH {a b k:Int} {z:Int×Int} {l:List (Int×Int×Int)} (d:iA Tryz.prog Zh 227 (ZE a b k) l) (h:(z=(81,82)/\l=exI)\/(z=(85,86)/\l=exJ)) (j:g9 lV a b k=true):aq Tryz.prog 72 [.agg (d8 lV),.agg (cj a b),.int .i64 k] (.tup [.int .i64 z.1,.int .i64 z.2,.int .i64 0]):=by
 have c:=MU d h;have hv:=rZ lV a b k;rw [j] at hv
 have hf:aq Tryz.prog 155 [.agg (d8 lV),.clo 151 (aao a b k),.fn 156,.fn 154] (.agg (Ol z)):=by
  refine aq.ofB af Tryz.func155 rfl aI bh (ah rfl) ?_;intro F f w0 m0 hG e h1;have kp:KP Gp := .mk;rcases h with ⟨rfl,rfl⟩ | ⟨rfl,rfl⟩
  all_goals
   repeat' first
    | refine eY hG (bC bq h1) S9 [9,8,4,5,6,7] rfl aad (fun _=>rfl) aI bq rfl ?_
    | refine QE [] rfl hG af kp ?_
    | refine QE [] rfl i af kp ?_
    |((conv=>whnf); first
      | refine cX ?_
      | refine cW ?_
      | refine aa aI ?_
      | refine ae _ (aa xV ?_)
      | refine ae _ (aa c ?_)
      | refine ae _ (aa (MT _) ?_)
      | intro n n2 m2 i m
      | refine aa LE ?_
      | refine ak ?_)
   conv=>whnf
   exact Ez
 refine aM J4 Tryz.func72 ?_;intro F f w0 m0 hG e h1 kp
 repeat' first|refine aS ?_|((conv=>whnf); first|refine ae _ (aa (hv) ?_)|refine ae _ (aa (hf) ?_)|refine aa (qn 0) (aa bq ?_)|refine aa bq ?_|refine ⟨fun h=>?_,fun h=>?_⟩|refine ak ?_)
 all_goals exact Ez
theorem ZV:aq Tryz.prog 72 [.agg (d8 lV),.agg (cj 5 8),.int .i64 1] (.tup [.int .i64 81,.int .i64 82,.int .i64 0]):=CH shI (ak ⟨rfl,rfl⟩) (by decide +kernel)
theorem ZU:aq Tryz.prog 72 [.agg (d8 lV),.agg (cj 9 11),.int .i64 0] (.tup [.int .i64 85,.int .i64 86,.int .i64 0]):=CH shJ (bA ⟨rfl,rfl⟩) (by decide +kernel)
open Go Go.AI
set_option maxRecDepth 100000
structure vB where
 kind:Int
 at':Int
 img:Int
 rows:List Int
 sun:Int
 look:Int
 clear:Bool
deriving DecidableEq,Inhabited
def OQ (e:vB):List AV:=[.int .i64 e.kind,.int .i64 e.at',.int .i64 e.img,bu e.rows,.int .i64 e.sun,.int .i64 e.look,.bool e.clear]
def wD (l:List vB):AV := .sl .no 7 (l.map OQ)
def pf:List vB:=[⟨1,5,4,kQ 1,81,1,true⟩,⟨2,53,4,[],0,0,false⟩]
def DG:List vB:=[⟨1,9,5,kQ 140737488355328,85,0,true⟩,⟨2,56,5,[],0,0,false⟩]
def aaV (l:List vB):List (List AV):=l.map OQ
def exE (l:List vB):Prop:=l=pf\/l=DG
def IJ:vB:=⟨0,0,0,[],0,0,false⟩
theorem abe (l:List vB) (hl:exE l):aq Tryz.prog 74 [.agg (OQ (l.getD 1 IJ)),.agg (OQ (l.getD 0 IJ))] (.int .i64 1):=by
 have k1:=fZ 53 5;have k2:=fZ 56 9;have k3:=fZ 2 1;have c:=fZ 4 4;have b:=fZ 5 5;have a:=ry [1,1,0] (ah rfl);rcases hl with rfl | rfl
 all_goals
  refine aM J1 Tryz.func74 ?_;intro F e w0 m0 hG d h1 kp
  repeat' first|refine aS ?_|((conv=>whnf); first|refine ae _ (aa k1 ?_)|refine ae _ (aa k2 ?_)|refine ae _ (aa k3 ?_)|refine ae _ (aa c ?_)|refine ae _ (aa b ?_)|refine ae _ (aa a ?_)|refine ak ?_)
  all_goals exact Ez
def XI (l:List vB):List (Nat×AV):=[(7000000,.me .arr 7000000 7 (aaV l))]
set_option maxHeartbeats 8000000 in
theorem MW (l:List vB) (hl:exE l):bX Tryz.prog 73 [7000000] [] [.me .sl 7000000 2 [],.fn 74] (XI l) (.tup []) (XI l):=by
 have d:=abe l hl;have c:=kJ 2 bq bq
 have c0:bX Tryz.prog 234 [7000000] [] [.me .sl 7000000 2 [],.int .i64 0,.int .i64 2,.fn 74] (XI l) (.tup []) (XI l):=by
  refine lP.ofB af Tryz.func234 rfl aI bh (ah rfl) ?_;intro F b w0 m0 hG a h1;have kp:KP Fq := .mk;rcases hl with rfl | rfl
  all_goals
   repeat' first
    | refine aJ.unroll 4 ?_
    | refine QE [] rfl hG af kp ?_
    |((conv=>whnf); first
      | refine cX ?_
      | refine cW ?_
      | refine aa aI ?_
      | refine aa bq ?_
      | refine ae _ (aa d ?_)
      | refine ae _ (aa rfl ?_)
      | refine ak ?_)
   exact gc.mk (bA rfl) (ae _ (ae _ (aa (aa rfl rfl) (aa (ak (ay rfl)) (aa aI aI)))))
 have c1:bX Tryz.prog 157 [7000000] [] [.me .sl 7000000 2 [],.int .i64 0,.int .i64 2,.int .i64 2,.fn 74] (XI l) (.tup []) (XI l):=by
  refine lP.ofB af Tryz.func157 rfl aI bh (ah rfl) ?_;intro F b w0 m0 hG a h1;have kp:KP Gm := .mk;rcases hl with rfl | rfl
  all_goals
   repeat' first
    | refine aJ.unroll 4 ?_
    | refine QE [30] rfl hG af kp ?_
    |((conv=>whnf); first
      | refine cX ?_
      | refine cW ?_
      | refine aa aI ?_
      | refine xE c0 ?_
      | refine ak ?_)
   exact gc.mk (ak rfl) (ae _ (ae _ (aa (aa rfl rfl) (aa (ak (ay rfl)) (aa aI aI)))))
 refine lP.ofB af Tryz.func73 rfl aI bh (ah rfl) ?_;intro F b w0 m0 hG a h1;have kp:KP J3 := .mk
 repeat' first|refine QE [13] rfl hG af kp ?_|((conv=>whnf); first|refine cX ?_|refine cW ?_|refine fc ?_|refine ae _ (aa (c) ?_)|refine xE c1 ?_|refine ak ?_)
 all_goals refine gc.mk (bA rfl) (ae _ (ae _ (aa (aa rfl rfl) (aa (ak (ay rfl)) (aa aI aI)))))
def exU (u:jY) (o:d4) (l:List vB):Prop:=(u=⟨7,[0]⟩/\o=qc/\l=pf)\/(u=⟨7,[1]⟩/\o=ql/\l=DG)
theorem aba (b:Nat) {u:jY} {o:d4} {l:List vB} (h:exU u o l):aq Tryz.prog 22 [cA b dB,.agg (fH u),.lit .nilFunc] (cH [o]):=by
 rcases h with ⟨rfl,rfl,rfl⟩ | ⟨rfl,rfl,rfl⟩
 ·exact jd b dB zK ⟨7,[0]⟩ bq bq
 ·exact jd b dB zK ⟨7,[1]⟩ bq bq
theorem XU (b:Nat):aq Tryz.prog 68 [cA b dB,.int .i64 7] (.tup [.agg (fb Zn),.bool true]):=jG b dB zK 7
theorem ZY (b:Nat):aq Tryz.prog 70 [cA b dB,.int .i64 0] (.tup [.agg (bM fL),.bool true]):=nX b dB zK 0
theorem WP:aq Tryz.prog 69 [.agg (di (gA Lt))] (.sl .no 12 [hU Lt]):=Aj _ (ma.S Lt bq)
theorem aa5 (e:List AV) (t i:Int):Zv [e,[.int .i64 2,.int .i64 t,.int .i64 i,.sl .full 0 [],.int .i64 0,.int .i64 0,.bool false]] [e,OQ ⟨2,t,i,[],0,0,false⟩]:=⟨Hv.rfl' _,⟨NM.rfl' _,NM.rfl' _,NM.rfl' _,trivial,NM.rfl' _,NM.rfl' _,NM.rfl' _,trivial⟩,trivial⟩
set_option maxHeartbeats 16000000 in
theorem xU (b:Nat) {u:jY} {o:d4} {l:List vB} (h:exU u o l):aq Tryz.prog 35 [cA b dB,.agg (fH u)] (wD l):=by
 have c1:=XU b;have c2:=WP;have a:=aba b h;have e:=ZY b;have c:=MW l (h.imp (·.2.2) (·.2.2));refine aq.ofB af Tryz.func35 rfl aI bh (ah rfl) ?_;intro F f w0 m0 hG d h1;have kp:KP rq := .mk;rcases h with ⟨rfl,rfl,rfl⟩ | ⟨rfl,rfl,rfl⟩
 all_goals
  iterate 3
   refine aJ.seq ?_
   repeat' first
    | refine QN rfl hG af kp ?_
    |((conv=>whnf); first
      | refine cX ?_
      | refine cW ?_
      | refine aa aI ?_
      | refine ae _ (aa c1 ?_)
      | refine ae _ (aa c2 ?_))
  refine aJ.seq ?_;refine mZ hG af rq [8] aI ?_
  repeat' first
   | refine aJ.unroll 4 ?_
   | refine RP hG af 26 rq aI aI ?_
   | refine TB.done rfl ?_
   | refine TB.step hG af [] ?_
   | refine gq 99 7000000 aI rfl (Vl 7000000 rfl (aa5 _ _ _) ?_)
   |(refine aJ.frz [.tmp 4] ?_; conv=>whnf
     refine aJ.ret hG af ?_; exact Ez)
   | refine QE [102] rfl hG af kp ?_
   |((conv=>whnf); first
     | refine cX ?_
     | refine cW ?_
     | refine aa aI ?_
     | refine aa bq (ae _ (aa rfl ?_))
     | refine aa bq ?_
     | refine ae _ (aa c1 ?_)
     | refine ae _ (aa c2 ?_)
     | refine ae _ (aa a ?_)
     | refine ae _ (aa e ?_)
     | refine ae _ (aa ZT ?_)
     | refine ae _ (aa ZV ?_)
     | refine ae _ (aa ZS ?_)
     | refine ae _ (aa ZU ?_)
     | refine xE c ?_
     | refine Vz.intro ?_ ?_
     | refine bA (aa rfl (aa (ah rfl) (aa (ah rfl) (aa (ah rfl) ?_))))
     | refine ak ?_)
open Go Go.AI
set_option maxRecDepth 100000
theorem Je (n a b:Int):aq Tryz.prog 340 [.int .i64 n,.int .i64 a,.int .i64 b] (.bool (cQ n a b)):=by
 refine aM Ev Tryz.func340 ?_;intro F d w0 m0 hG c h1 kp
 repeat' first|refine aS ?_|((conv=>whnf); first|refine ⟨fun h=>?_,fun h=>?_⟩|refine ak ?_)
 all_goals refine Eb ?_
 all_goals (simp_all [cQ] <;> omega)
theorem WX {l:List Int} (h:(decide (l.length<=1000000)&&oq l)=true:=by decide +kernel):aq Tryz.prog 306 [.agg [bu l]] (.bool true):=by
 simp only [al,aP] at h;have c:=rv l h.1;rwa [h.2] at c
theorem TG (e:vB) (he:e∈pf++DG):aq Tryz.prog 303 [.agg (OQ e)] (.bool true):=by
 have g1:aq Tryz.prog 306 [.agg [bu (kQ 1)]] (.bool true):=WX;have g2:aq Tryz.prog 306 [.agg [bu (kQ 140737488355328)]] (.bool true):=WX;simp only [pf,DG,gT,List.nil_append,bF,pS,or_false] at he;rcases he with rfl | rfl | rfl | rfl
 all_goals
  refine aM EM Tryz.func303 ?_;intro F b w0 m0 hG a h1 kp
  repeat' first|refine aS ?_|((conv=>whnf); first|refine ae _ (aa (Je _ _ _) ?_)|refine ae _ (aa g1 ?_)|refine ae _ (aa g2 ?_)|refine ak ?_)
  exact Ez
theorem aag (l:List vB) (hl:exE l):aq Tryz.prog 304 [.agg (OQ (l.getD 0 IJ)),.agg (OQ (l.getD 1 IJ))] (.int .i64 (-1)):=by
 have k1:=fZ 5 53;have k2:=fZ 9 56;have k3:=fZ 1 2;have c:=fZ 4 4;have b:=fZ 5 5;have a:=ry [-1,-1,0] (ah rfl);rcases hl with rfl | rfl
 all_goals
  refine aM EK Tryz.func304 ?_;intro F e w0 m0 hG d h1 kp
  repeat' first|refine aS ?_|((conv=>whnf); first|refine ae _ (aa k1 ?_)|refine ae _ (aa k2 ?_)|refine ae _ (aa k3 ?_)|refine ae _ (aa c ?_)|refine ae _ (aa b ?_)|refine ae _ (aa a ?_)|refine ak ?_)
  all_goals exact Ez
theorem aac (l:List vB) (hl:exE l):aq Tryz.prog 269 [wD l] (.bool true):=by
 have c0:=TG (l.getD 0 IJ) (by rcases hl with rfl | rfl <;> decide);have c1:=TG (l.getD 1 IJ) (by rcases hl with rfl | rfl <;> decide);have c2:=aag l hl;refine aq.ofB af Tryz.func269 rfl aI bh (ah rfl) ?_;intro F b w0 m0 hG a h1;have kp:KP Fc := .mk;rcases hl with rfl | rfl
 all_goals
  repeat' first
   | refine aJ.unroll 4 ?_
   | refine QE [] rfl hG af kp ?_
   |((conv=>whnf); first
     | refine cX ?_
     | refine cW ?_
     | refine aa aI ?_
     | refine fun m=>?_
     | refine aa bq (ae _ (aa rfl ?_))
     | refine ae _ (aa c0 ?_)
     | refine ae _ (aa c1 ?_)
     | refine ae _ (aa c2 ?_)
     | refine PQ 6 [] [4] rfl ?_
     | refine uo 6 [] [4] rfl ?_
     | refine PQ 6 [] [5] rfl ?_
     | refine uo 6 [] [5] rfl ?_
     | refine ak ?_)
  exact Ez
def ZQ (x y:Int):Prop:=(x=1/\y=0)\/(x=140737488355328/\y=1)
set_option maxHeartbeats 4000000 in
theorem YQ (x y:Int) (h:ZQ x y):aq Tryz.prog 397 [.agg [bu Zm],.agg [bu (kQ x)]] (.tup [.agg [bu (kQ y)],.int .i64 0]):=by
 have g0:aq Tryz.prog 306 [.agg [bu Zm]] (.bool true):=WX;have g1:aq Tryz.prog 306 [.agg [bu (kQ x)]] (.bool true):=by rcases h with ⟨rfl,rfl⟩ | ⟨rfl,rfl⟩ <;> exact WX
 have c:aq Tryz.prog 399 [.agg [bu Zm],.agg [bu (kQ x)],.fn 400] (.tup [.agg [bu (kQ y)],.int .i64 0]):=by
  refine aq.ofB af Tryz.func399 rfl aI bh (ah rfl) ?_;intro F b w0 m0 hG a h1;have kp:KP uT := .mk;rcases h with ⟨rfl,rfl⟩ | ⟨rfl,rfl⟩
  all_goals
   refine aJ.seq ?_
   repeat' first|refine du ?_|((conv=>whnf); first|refine ⟨fun h=>?_,fun h=>?_⟩|refine ak ?_)
   refine aJ.seq ?_;refine aJ.seq ?_
   repeat' first|refine du ?_|((conv=>whnf); first|refine ae _ (aa g0 ?_)|refine ae _ (aa g1 ?_)|refine ⟨fun h=>?_,fun h=>?_⟩|refine ak ?_)
   refine aJ.seq ?_;refine jh hG af uT 0 aI ?_
   conv=>whnf
   refine xF xT ?_;rintro r f ⟨e,cap,rfl,rfl⟩
   conv=>whnf
   refine bz ?_;refine Y8 fun Z d=>?_
   repeat' first
    | refine aJ.unroll 26 ?_
    | refine QE [] rfl hG af kp ?_
    |((conv=>whnf); first
      | refine cX ?_
      | refine cW ?_
      | refine aa aI ?_
      | refine aa bq (ae _ (aa rfl ?_))
      | refine aa bq ?_
      | refine ae 5000000 (ae _ (ae _ (ae _ (aa (aa rfl (aa rfl rfl)) ?_))))
      | refine ae _ (aa (K6 _ _) ?_)
      | refine ae _ (aa rfl ?_)
      | refine ak ?_)
   refine d _ _ ?_
   conv=>whnf
   first
    | refine il 5000000 8 [bu (kQ 0)] rfl rfl (aa (bA ⟨rfl,rfl⟩) trivial) ?_
    | refine il 5000000 8 [bu (kQ 1)] rfl rfl (aa (bA ⟨rfl,rfl⟩) trivial) ?_
   refine bz ?_
   all_goals exact Ez
 refine aM Ej Tryz.func397 ?_;intro F b w0 m0 hG a h1 kp;refine bz ?_
 all_goals exact Ez
open Go Go.AI
set_option maxRecDepth 100000
theorem XW (x y:Int) (h:ZQ x y):aq Tryz.prog 392 [.agg [bu (kQ x)],.agg [bu Zm]] (.bool (y==0)):=by
 have a:=YQ x y h;rcases h with ⟨rfl,rfl⟩ | ⟨rfl,rfl⟩
 all_goals
  refine aM Ek Tryz.func392 ?_;intro F c w0 m0 hG b h1 kp
  repeat' first|refine aS ?_|((conv=>whnf); first|refine ae _ (aa (a) ?_)|refine aa (aa (ah rfl) (ah rfl)) ?_|refine ak ?_)
  all_goals exact Ez
def aa8 (e:vB) (r:Bool):Prop:=(e=pf.getD 0 IJ/\r=true)\/(e=pf.getD 1 IJ/\r=false)\/(e=DG.getD 0 IJ/\r=false)\/(e=DG.getD 1 IJ/\r=false)
theorem zL (e:vB) (r:Bool) (h:aa8 e r):aq Tryz.prog 378 [.agg (OQ e),.ref (hU Lt)] (.bool (!r)):=by
 have k1:=XW 1 0 (ak ⟨rfl,rfl⟩);have k2:=XW 140737488355328 1 (bA ⟨rfl,rfl⟩)
 have c:aq Tryz.prog 379 [.agg (hU Lt),.agg (OQ e)] (.bool r):=by
  rcases h with ⟨rfl,rfl⟩ | ⟨rfl,rfl⟩ | ⟨rfl,rfl⟩ | ⟨rfl,rfl⟩
  all_goals
   refine aM El Tryz.func379 ?_;intro F b w0 m0 hG a h1 kp
   repeat' first|refine aS ?_|((conv=>whnf); first|refine ae _ (aa (Je _ _ _) ?_)|refine ae _ (aa k1 ?_)|refine ae _ (aa k2 ?_)|refine ak ?_)
   all_goals exact Ez
 refine aM Em Tryz.func378 ?_;intro F b w0 m0 hG a h1 kp;refine bz ?_
 all_goals exact Ez
def Zo (l:List vB) (r:List vB):Prop:=(l=pf/\r=pf.take 1)\/(l=DG/\r=[])
theorem aaa (l r:List vB) (h:Zo l r):bX Tryz.prog 221 [7000000] [] [.me .sl 7000000 2 [],.clo 378 [.ref (hU Lt)]] (XI l) (.int .i64 r.length) (XI l):=by
 have c1:=zL (pf.getD 0 IJ) true (ak ⟨rfl,rfl⟩);have c2:=zL (pf.getD 1 IJ) false (bA (ak ⟨rfl,rfl⟩));have a:=zL (DG.getD 0 IJ) false (bA (bA (ak ⟨rfl,rfl⟩)));refine lP.ofB af Tryz.func221 rfl aI bh (ah rfl) ?_;intro F c w0 m0 hG b h1;have kp:KP vk := .mk;rcases h with ⟨rfl,rfl⟩ | ⟨rfl,rfl⟩
 all_goals
  repeat' first
   | refine aJ.unroll 4 ?_
   | refine QE [] rfl hG af kp ?_
   |((conv=>whnf); first
     | refine cX ?_
     | refine cW ?_
     | refine aa aI ?_
     | refine aa bq ?_
     | refine ae _ (aa c1 ?_)
     | refine ae _ (aa c2 ?_)
     | refine ae _ (aa a ?_)
     | refine ae _ (aa rfl ?_)
     | refine ak ?_)
  exact gc.mk (ak rfl) (ae _ (ae _ (aa (aa rfl rfl) (aa (ak (ay rfl)) (aa aI aI)))))
set_option maxHeartbeats 8000000 in
theorem aae (l r:List vB) (h:Zo l r):lP Tryz.prog 376 [5006000] [] [.me .sl 5006000 2 [],.clo 378 [.ref (hU Lt)]] [(5006000,.me .arr 5006000 7 (l.map OQ))] (fun v L=>v=wD r/\L=[]):=by
 have a:=aaa l r h;have c2:=zL (pf.getD 1 IJ) false (bA (ak ⟨rfl,rfl⟩));have c:=zL (DG.getD 1 IJ) false (bA (bA (bA ⟨rfl,rfl⟩)));refine lP.ofB af Tryz.func376 rfl aI bh (ah rfl) ?_;intro F d w0 m0 hG b h1;have kp:KP uU := .mk;rcases h with ⟨rfl,rfl⟩ | ⟨rfl,rfl⟩
 all_goals
  refine gq 5006000 7000000 aI rfl ?_
  conv=>whnf
  repeat' first
   | refine aJ.unroll 4 ?_
   |(refine RN hG af uU 3 aI ?_; conv=>whnf
     refine bA ?_; conv=>whnf
     refine aa bq (aa bq (aa bq ?_)); conv=>whnf
     refine aa bq ?_; conv=>whnf
     refine aJ.seq ?_)
   |(refine aJ.frz [.tmp 4] ?_; conv=>whnf
     refine aJ.ret hG af ?_;exact gc.mk (ak rfl) (ae _ (ae [] (aa (aa rfl rfl) (aa (ak (ay rfl)) (aa rfl rfl))))))
   | refine QE [10] rfl hG af kp ?_
   |((conv=>whnf); first
     | refine cX ?_
     | refine cW ?_
     | refine aa aI ?_
     | refine xE a ?_
     | refine aa bq ?_
     | refine ae _ (aa c2 ?_)
     | refine ae _ (aa c ?_)
     | refine ae _ (aa rfl ?_)
     | refine ak ?_)
open Go Go.AI
set_option maxRecDepth 100000
theorem abf (l:List vB) (h1n:1<=l.length) (hn:l.length<=1000000):lP Tryz.prog 377 [5006000] [] [wD l] [] (fun r L'=>r = .me .sl 5006000 l.length []/\L'=[(5006000,.me .arr 5006000 7 (l.map OQ))]):=by
 let V0:=72; have V1:=Tryz.func377; let V2:=En; let V3:=@OQ; exact Lm
theorem Z9:aq Tryz.prog 362 [.sl .full 1 [[.int .i64 4]]] (bu [4]):=by
 have c1:lP Tryz.prog 77 [5000000] [] [.sl .full 1 [[.int .i64 4]]] [] (fun r e=>r = .me .sl 5000000 1 []/\e=[(5000000,.me .arr 5000000 1 [[.int .i64 4]])]):=by
  refine lP.ofB af Tryz.func77 rfl aI bh (ah rfl) ?_;intro F c w0 m0 hG b h1;have kp:KP fN := .mk
  repeat' first
   |(refine gq 7 5000000 aI rfl ?_; conv=>whnf
     refine aJ.ret hG af ?_;exact gc.mk (ak rfl) (ae _ (ae _ (aa (aa rfl rfl) (aa (bA (aa rfl aI)) (aa aI aI))))))
   | refine m9 hG af (M:=fun t=>t=150) gu fN aI ?_
   | refine QE [] rfl hG af kp ?_
   |((conv=>whnf); first
     | refine cX ?_
     | refine cW ?_
     | refine aa aI ?_
     | refine aa (fun h=>nomatch h) ?_
     | refine bA (aa rfl (aa (ah rfl) (aa (ah rfl) (aa (ah rfl) ?_))))
     | refine ak ?_)
 have i:jC [4]=[4]:=by delta jC; rw [jA]; rfl
 rw [<- i];refine aM mr Tryz.func362 ?_;intro F c w0 m0 hG b h1 kp;refine aJ.seq ?_
 repeat' first|refine du ?_|((conv=>whnf); first|refine ⟨fun h=>?_,fun h=>?_⟩|refine ak ?_)
 refine aJ.seq ?_;refine jh hG af mr 1 aI ?_
 conv=>whnf
 refine xF c1 ?_;rintro r j ⟨rfl,rfl⟩
 conv=>whnf
 refine aJ.seq ?_;refine r9 hG af mr 1 aI ?_
 conv=>whnf
 refine aa rfl (ae _ (ae _ (aa (nE [4] bq) (aa rfl (aa (mU [4]).symm ?_)))))
 conv=>whnf
 refine aJ.seq ?_;refine r8 hG af mr 1 aI ?_
 conv=>whnf
 refine ae _ (ae _ (aa (lz (sortI [4]) (by rw [oc]; decide)) (aa rfl (aa (oi _) ?_))));rintro r a rfl f d
 conv=>whnf
 refine aJ.ret hG af ?_;exact Ends.mk (ak rfl) (ay (ax (fun z=>AV.sl .no 1 z) (mU _)))
theorem ZX (l r:List vB) (h:Zo l r):aq Tryz.prog 361 [.agg [wD l,.int .i64 0],.agg (hU Lt)] (wD r):=by
 have c1:=abf l (by rcases h with ⟨rfl,rfl⟩ | ⟨rfl,rfl⟩ <;> decide) (by rcases h with ⟨rfl,rfl⟩ | ⟨rfl,rfl⟩ <;> decide);have c2:=aae l r h;rw [show l.length=2 by rcases h with ⟨rfl,rfl⟩ | ⟨rfl,rfl⟩ <;> rfl] at c1;refine aM Eo Tryz.func361 ?_;intro F b w0 m0 hG a h1 kp
 repeat' first|refine QE [7,9] rfl hG af kp ?_|((conv=>whnf); first|refine cX ?_|refine cW ?_|refine fc ?_|refine xE c1 ?_|refine xE c2 ?_|refine ⟨fun h=>?_,fun h=>?_⟩|refine ak ?_)
 all_goals exact Ez
def YS (r:List vB):AV := .agg [.int .i64 0,match r with | [] => .sl .full 0 [] | _=>bu [4]]
theorem ZW (l r:List vB) (h:Zo l r):aq Tryz.prog 341 [.agg [wD l,.int .i64 0],.agg (hU Lt)] (.tup [YS r,.bool (!r.isEmpty)]):=by
 have c1:=ZX l r h;rcases h with ⟨rfl,rfl⟩ | ⟨rfl,rfl⟩
 all_goals
  refine aM Eu Tryz.func341 ?_;intro F b w0 m0 hG a h1 kp
  repeat' first|refine aS ?_|((conv=>whnf); first|refine cX ?_|refine cW ?_|refine ae _ (aa (c1) ?_)|refine aa bq (ae _ (aa rfl ?_))|refine ae _ (aa Z9 ?_)|refine ak ?_)
  all_goals exact Ez
def XM:List (List Int×AV):=[([1],AV.fn 341),([2],AV.fn 342),([3],AV.fn 343),([4],AV.fn 344),([5],AV.fn 345),([6],AV.fn 346)]
theorem YO:aq Tryz.prog 305 [] (.mapv (f8 false XM)):=by
 refine aq.ofB af Tryz.func305 rfl aI bh (ah rfl) ?_;intro F b w0 m0 hG a h1;have kp:KP EJ := .mk
 repeat' first
  |(refine La 1 0 rfl rfl ?_; conv=>whnf
    refine aJ.ret hG af ?_; exact Ez)
  | refine QE [] rfl hG af kp ?_
  |((conv=>whnf); first
    | refine cX ?_
    | refine cW ?_
    | refine aa aI ?_
    | refine fun m=>?_
    | refine uo 1 [] [1] rfl ?_
    | refine uo 1 (XM.take 1) [2] rfl ?_
    | refine uo 1 (XM.take 2) [3] rfl ?_
    | refine uo 1 (XM.take 3) [4] rfl ?_
    | refine uo 1 (XM.take 4) [5] rfl ?_
    | refine uo 1 (XM.take 5) [6] rfl ?_
    | refine ak ?_)
theorem Z7 (l r:List vB) (h:Zo l r):aq Tryz.prog 137 [.agg (di (gA Lt)),wD l] (.tup [.bool (!r.isEmpty),.int .i64 0]):=by
 have e:∀ p∈XM,p.1.length=1:=by decide
 have d:=ZW l r h;have f:=aac l (h.imp (·.1) (·.1));have c:aq Tryz.prog 141 [.agg (di (gA Lt))] (.bool true):=ja _ (ma.S Lt bq)
 have c1:aq Tryz.prog 270 [.agg [wD l,.int .i64 0],.agg (di (gA Lt))] (.tup [YS r,.bool (!r.isEmpty)]):=by
  rcases h with ⟨rfl,rfl⟩ | ⟨rfl,rfl⟩
  all_goals
   refine aM Fb Tryz.func270 ?_;intro F b w0 m0 hG a h1 kp
   repeat' first|refine aS ?_|((conv=>whnf); first|refine ae _ (aa (YO) ?_)|refine ae XM (ae [1] (ae _ (aa (aa rfl (aa rfl (aa rfl (aa e rfl)))) ?_)))|refine ae _ (aa (d) ?_)|refine ak ?_)
   all_goals exact Ez
 have c2:aq Tryz.prog 220 [.agg (di (gA Lt)),wD l] (.tup [YS r,.bool (!r.isEmpty),.int .i64 0]):=by
  rcases h with ⟨rfl,rfl⟩ | ⟨rfl,rfl⟩
  all_goals
   refine aM FC Tryz.func220 ?_;intro F b w0 m0 hG a h1 kp
   repeat' first|refine aS ?_|((conv=>whnf); first|refine cX ?_|refine cW ?_|refine ae _ (aa (c) ?_)|refine ae _ (aa (f) ?_)|refine ae _ (aa (c1) ?_)|refine ak ?_)
   all_goals exact Ez
 rcases h with ⟨rfl,rfl⟩ | ⟨rfl,rfl⟩
 all_goals
  refine aM GB Tryz.func137 ?_;intro F b w0 m0 hG a h1 kp
  repeat' first|refine aS ?_|((conv=>whnf); first|refine ae _ (aa (c2) ?_)|refine ak ?_)
  all_goals exact Ez
theorem XV (e:vB) (h:e∈pf):aq Tryz.prog 136 [.agg (OQ e),.ref (fb Zn)] (.bool false):=by
 simp only [pf,bF,pS,or_false] at h;rcases h with rfl | rfl
 all_goals
  refine aM GC Tryz.func136 ?_;intro F b w0 m0 hG a h1 kp
  repeat' first|refine aS ?_|((conv=>whnf); first|refine cX ?_|refine cW ?_|refine ak ?_)
  all_goals exact Ez
theorem abb:aq Tryz.prog 138 [wD pf,.clo 136 [.ref (fb Zn)]] (.bool false):=by
 have k0:=XV (pf.getD 0 IJ) bq;have k1:=XV (pf.getD 1 IJ) bq
 have c:aq Tryz.prog 221 [wD pf,.clo 136 [.ref (fb Zn)]] (.int .i64 (-1)):=by
  refine aq.ofB af Tryz.func221 rfl aI bh (ah rfl) ?_;intro F b w0 m0 hG a h1;have kp:KP vk := .mk
  repeat' first
   | refine aJ.unroll 4 ?_
   | refine QE [] rfl hG af kp ?_
   |((conv=>whnf); first
     | refine cX ?_
     | refine cW ?_
     | refine aa aI ?_
     | refine aa bq (ae _ (aa rfl ?_))
     | refine ae _ (aa k0 ?_)
     | refine ae _ (aa k1 ?_)
     | refine ak ?_)
  exact Ez
 refine aM GA Tryz.func138 ?_;intro F b w0 m0 hG a h1 kp;refine bz ?_
 all_goals exact Ez
theorem Tx (b:Nat) {u:jY} {o:d4} {l r:List vB} (h:exU u o l) (k:Zo l r):aq Tryz.prog 66 [cA b dB,.agg (fH u)] (.bool (!r.isEmpty)):=by
 have c1:=XU b;have c2:=xU b h;have a:=Z7 l r k;have d:=abb;rcases k with ⟨rfl,rfl⟩ | ⟨rfl,rfl⟩
 all_goals
  rcases h with ⟨rfl,rfl,h⟩ | ⟨rfl,rfl,h⟩
  all_goals first | exact absurd h bq | skip
  refine aM J6 Tryz.func66 ?_;intro F e w0 m0 hG c h1 kp
  repeat' first|refine aS ?_|((conv=>whnf); first|refine cX ?_|refine cW ?_|refine ae _ (aa (c1) ?_)|refine ae _ (aa (c2) ?_)|refine ae _ (aa (a) ?_)|refine ae _ (aa (d) ?_)|refine ak ?_)
  all_goals exact Ez
theorem DB (b:Nat):aq Tryz.prog 66 [cA b dB,.agg (fH ⟨7,[0]⟩)] (.bool true)/\aq Tryz.prog 66 [cA b dB,.agg (fH ⟨7,[1]⟩)] (.bool false):=
 ⟨Tx b (ak ⟨rfl,rfl,rfl⟩) (ak ⟨rfl,rfl⟩),Tx b (bA ⟨rfl,rfl,rfl⟩) (bA ⟨rfl,rfl⟩)⟩
end Go.Proofs
