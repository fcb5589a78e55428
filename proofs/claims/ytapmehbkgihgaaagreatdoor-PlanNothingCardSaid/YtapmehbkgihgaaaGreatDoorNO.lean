/- Part 15 of the proof: an abstract interpreter for the code, contracts of the functions, and plain facts; the conditions are those typed. -/
import Derived.Test.YtapmehbkgihgaaaGreatDoorNH
set_option linter.unusedSectionVars false
set_option linter.unusedVariables false
set_option linter.unusedSimpArgs false
namespace Go.Proofs
open Go Go.AI
set_option maxRecDepth 100000
def wC (l:List d4):Prop:=l=[]\/l=[qc]\/l=[ql]\/l=[qc,ql]
theorem TN {l:List d4} (h:wC l):aq Tryz.prog 83 [cH l] (kG (fI l)):=by
 rcases h with rfl | rfl | rfl | rfl
 all_goals exact dR xG Tryz.func83
theorem DC (l:List d4):aq Tryz.prog 134 [cH l] (.clo 219 [.ref [cH l]]):=dK GD Tryz.func134
def ZB (x:Int×Int):List AV:=[.agg (cj x.1 x.2)]
theorem OL {l:List d4} (h:wC l):iA Tryz.prog ZB 219 [.ref [cH l]] (l.flatMap slP):=by
 rcases h with rfl | rfl | rfl | rfl
 all_goals exact G9 FD Tryz.func219
theorem AC {Γ:ce} {s:St} {K:Exit->St->Prop} (e:Γ.OK) (h1:1<=Γ.n) {g:Operand} {ps:Array Tmp} {assign body:Code} {α:Type} (avs:α->List AV)
  {f:FuncId} {cap:List AV} (b:List Nat) (j:ev s g = .clo f cap) (a:iA Γ.P avs f cap []) (d:∀ x,(avs x).length=ps.size)
  (l:(mW b (oI assign++(oI body++ps.toList))&&mW b [1000000000]&&mW [1000000000] (oI assign)&&(ps.toList.all fun p=>Nat.blt p Γ.nt))=true) (c:ps.toList.Nodup) (i:Tj b s=true)
  (h:K .normal (mb b s)):aJ Γ s (.rangeFunc g ps assign body) K:=eY e h1 avs b j a d l c i (by rw [St.frc_eq]; exact h)
open Go Go.AI
set_option maxRecDepth 100000
theorem Z8 {l:List d4} (h:wC l):aq Tryz.prog 211 [Cn (yN l)] (.bool true):=by
 have k1:=r7;have k2:=wN;rcases h with rfl | rfl | rfl | rfl
 all_goals exact dR FJ Tryz.func211
def Z4 (l:List d4) (p q f:List (Int×Int)):Prop:=(l=[qc]/\p=[(5,6),(53,-6)]/\q=p/\f=[(5,6),(53,0)])\/(l=[ql]/\p=[(9,6),(56,-6)]/\q=p/\f=[(9,6),(56,0)])\/(l=[qc,ql]/\p=[(5,6),(53,-6),(9,6),(56,-6)]/\q=[(5,6),(9,6),(53,-6),(56,-6)]/\f=[(5,6),(9,12),(53,6),(56,0)])
def Zi (n:Nat) (l:List (List AV)):List (Nat×AV):=[(7000000,.me .arr 7000000 n l)]
def Ca (l:List (Int×Int)):List (List AV):=l.map fun z=>[.int .i64 z.1,.int .i64 z.2]
theorem YV (a b c d:Int):aq Tryz.prog 267 [.agg [.int .i64 a,.int .i64 b],.agg [.int .i64 c,.int .i64 d]] (.int .i64 (jT a c)):=by
 have k1:=fZ;exact dR Fd Tryz.func267
theorem YG {l:List d4} {p q f:List (Int×Int)} (h:Z4 l p q f):bX Tryz.prog 266 [7000000] [] [.me .sl 7000000 p.length [],.fn 267] (Zi 2 (Ca p)) (.tup []) (Zi 2 (Ca q)):=by
 have k1:=YV
 have c0:bX Tryz.prog 324 [7000000] [] [.me .sl 7000000 p.length [],.int .i64 0,.int .i64 p.length,.fn 267] (Zi 2 (Ca p)) (.tup []) (Zi 2 (Ca q)):=by
  rcases h with ⟨_,rfl,rfl,_⟩ | ⟨_,rfl,rfl,_⟩ | ⟨_,rfl,rfl,_⟩
  all_goals
   let es:List Nat:=[]
   exact pQ uX Tryz.func324
 have c1:bX Tryz.prog 301 [7000000] [] [.me .sl 7000000 p.length [],.int .i64 0,.int .i64 p.length,.int .i64 (Lib.bitLen p.length),.fn 267] (Zi 2 (Ca p)) (.tup []) (Zi 2 (Ca q)):=by
  rcases h with ⟨_,rfl,rfl,_⟩ | ⟨_,rfl,rfl,_⟩ | ⟨_,rfl,rfl,_⟩
  all_goals
   let es:List Nat:=[30]
   exact pQ vc Tryz.func301
 have c2:=kJ p.length (au _) (by rcases h with ⟨_,rfl,_⟩ | ⟨_,rfl,_⟩ | ⟨_,rfl,_⟩ <;> decide);rcases h with ⟨_,rfl,rfl,_⟩ | ⟨_,rfl,rfl,_⟩ | ⟨_,rfl,rfl,_⟩
 all_goals
  let es:List Nat:=[13]
  exact pQ ve Tryz.func266
set_option maxHeartbeats 4000000 in
theorem DF {l:List d4} {p q f:List (Int×Int)} (h:Z4 l p q f):iA Tryz.prog pA 265 [.ref [Cn (yN l)]] f:=by
  have cs:=YG h;refine iA.of Tryz.func265 rfl aI bh (ah rfl) rfl ?_;intro F n m y J Jx hY;have kp:KP pI := .mk;rcases h with ⟨rfl,rfl,rfl,rfl⟩ | ⟨rfl,rfl,rfl,rfl⟩ | ⟨rfl,rfl,rfl,rfl⟩
  all_goals
    refine io.seq ?_;refine AH aI (fun b m0 hG a=>?_) hY;refine mZ hG af pI [3] aI ?_
    conv=>whnf
    refine io.seq ?_;refine AH aI (fun b m0 hG a=>?_) hY
    repeat' first
      | refine aJ.unroll 9 ?_
      | refine QE [] rfl hG af kp ?_
      | ((conv=>whnf); first
         | refine cX ?_
         | refine cW ?_
         | refine aa aI ?_
         | refine aa bq (ae _ (aa rfl ?_))
         | refine bA (aa rfl (aa (ah rfl) (aa (ah rfl) (aa (ah rfl) ?_))))
         | refine aa (ah rfl) ?_)
    refine io.seq ?_;refine AH aI (fun b m0 hG a=>?_) hY;refine gq 30 7000000 aI rfl ?_
    repeat' first | refine QE [33] rfl hG af kp ?_ | ((conv=>whnf); first | refine cX ?_ | refine cW ?_ | refine aa aI ?_ | refine xE cs ?_)
    refine io.seq ?_;refine AH aI (fun b m0 hG a=>?_) hY;refine aJ.frz [.tmp 3] ?_
    conv=>whnf
    repeat' first | refine QE [] rfl hG af kp ?_ | ((conv=>whnf); first | refine cX ?_ | refine cW ?_ | refine aa aI ?_)
    repeat' first
      | refine io.unroll 9 ?_
      | (refine AH (c := .region _ _ true) aI (fun b m0 hG a=>?_) hY; refine QE [] rfl hG af kp ?_)
      | refine QM rfl hY af kp ?_
      | ((conv=>whnf); first
         | refine cX ?_
         | refine cW ?_
         | refine aa aI ?_
         | refine aa bq (ae _ (aa rfl ?_))
         | (refine ae _ (aa rfl (aa rfl (fun t d=>?_))); subst d; refine aa ?_ ?_)
         | refine ak ?_)
    all_goals first | exact iL.mk (ak rfl) (bA rfl) | exact iL.mk (bA rfl) (ak rfl)
open Go Go.AI
set_option maxRecDepth 100000
theorem YW (a b c d e f:Int):aq Tryz.prog 216 [.agg [.int .i64 a,.int .i64 b,.int .i64 c],.agg [.int .i64 d,.int .i64 e,.int .i64 f]] (.int .i64 (RZ [jT a d,jT b e])):=by
 have k1:=fZ;have k:=ry [jT a d,jT b e] (ah rfl);exact dR FF Tryz.func216
def YR (l:List d4) (p q r:List dX):Prop:=(l=[qc]/\p=[⟨1,5,8⟩,⟨2,20,23⟩,⟨2,50,53⟩]/\q=p/\r=p)\/(l=[ql]/\p=[⟨1,9,11⟩,⟨2,23,26⟩,⟨2,53,56⟩]/\q=p/\r=p)\/(l=[qc,ql]/\p=[⟨1,5,8⟩,⟨1,9,11⟩,⟨2,20,23⟩,⟨2,50,53⟩,⟨2,23,26⟩,⟨2,53,56⟩]/\q=[⟨1,5,8⟩,⟨1,9,11⟩,⟨2,20,23⟩,⟨2,23,26⟩,⟨2,50,53⟩,⟨2,53,56⟩]/\r=[⟨1,5,8⟩,⟨1,9,11⟩,⟨2,20,26⟩,⟨2,50,56⟩])
def XH (b cap:Nat) (l:List dX):List (Nat×AV):=[(5000000,.me (.row b cap) 5000000 3 (l.map f9))]
def hdB (b cap:Nat) (l:List dX):AV := .lit (.slice (some ⟨b,0,none⟩) l.length cap)
set_option maxHeartbeats 16000000 in
theorem YH (b cap:Nat) {l:List d4} {p q r:List dX} (h:YR l p q r):bX Tryz.prog 268 [5000000] [] [hdB b cap p,.fn 216] (XH b cap p) (.tup []) (XH b cap q):=by
 have k1:=YW
 have c0:bX Tryz.prog 332 [5000000] [] [hdB b cap p,.int .i64 0,.int .i64 p.length,.fn 216] (XH b cap p) (.tup []) (XH b cap q):=by
  rcases h with ⟨_,rfl,rfl,_⟩ | ⟨_,rfl,rfl,_⟩ | ⟨_,rfl,rfl,_⟩
  all_goals
   let es:List Nat:=[]
   exact pQ uW Tryz.func332
 have c1:bX Tryz.prog 302 [5000000] [] [hdB b cap p,.int .i64 0,.int .i64 p.length,.int .i64 (Lib.bitLen p.length),.fn 216] (XH b cap p) (.tup []) (XH b cap q):=by
  rcases h with ⟨_,rfl,rfl,_⟩ | ⟨_,rfl,rfl,_⟩ | ⟨_,rfl,rfl,_⟩
  all_goals
   let es:List Nat:=[30]
   exact pQ vb Tryz.func302
 have c2:=kJ p.length (au _) (by rcases h with ⟨_,rfl,_⟩ | ⟨_,rfl,_⟩ | ⟨_,rfl,_⟩ <;> decide);rcases h with ⟨_,rfl,rfl,_⟩ | ⟨_,rfl,rfl,_⟩ | ⟨_,rfl,rfl,_⟩
 all_goals
  let es:List Nat:=[13]
  exact pQ vd Tryz.func268
theorem aaf (a b c d e f:Int):aq Tryz.prog 218 [.agg [.int .i64 a,.int .i64 b,.int .i64 c],.agg [.int .i64 d,.int .i64 e,.int .i64 f]] (.tup [.agg [.int .i64 a,.int .i64 b,.int .i64 (max c f)],.bool (a==d&&decide (e<=c))]):=by
 refine aM FE Tryz.func218 ?_;intro F j w0 m0 hG i h1 kp
 repeat' first|refine aS ?_|((conv=>whnf); first|refine ⟨fun h=>?_,fun h=>?_⟩|refine ak ?_)
 all_goals (rw [h]; exact Ez)
set_option maxHeartbeats 16000000 in
theorem Z6 (b cap:Nat) {l:List d4} {p q r:List dX} (h:YR l p q r):bX Tryz.prog 217 [5000000] [] [hdB b cap p,.fn 216,.fn 218] (XH b cap p) (iY r) (XH b cap q):=by
 have c1:=YH b cap h;have k1:=aaf;refine lP.ofB af Tryz.func217 rfl aI bh (ah rfl) ?_;intro F d w0 m0 hG c h1;have kp:KP pL := .mk;rcases h with ⟨_,rfl,rfl,rfl⟩ | ⟨_,rfl,rfl,rfl⟩ | ⟨_,rfl,rfl,rfl⟩
 all_goals
  iterate 2
   refine aJ.seq ?_
   repeat' first | refine QF [15] rfl hG af kp ?_ | ((conv=>whnf); first | refine cX ?_ | refine cW ?_ | refine aa aI ?_ | refine xE c1 ?_)
  refine aJ.seq ?_;refine mZ hG af pL [7] aI ?_
  conv=>whnf
  refine kL fun Z a=>?_
  repeat' first
   | refine aJ.unroll 9 ?_
   | refine QE [] rfl hG af kp ?_
   |((conv=>whnf); first
     | refine cX ?_
     | refine cW ?_
     | refine aa aI ?_
     | refine aa bq (ae _ (aa rfl ?_))
     | refine ae 5000000 (ae _ (ae _ (ae _ (aa (aa rfl (aa rfl rfl)) ?_))))
     | refine aa bq ?_
     | refine ae _ (aa (by apply k1) ?_)
     | refine ae _ (aa rfl ?_)
     | refine bA (aa rfl (aa (ah rfl) (aa (ah rfl) (aa (ah rfl) ?_))))
     | refine aa (ah rfl) ?_
     | refine ak ?_)
  conv=>whnf
  refine a _ ?_;clear a Z
  conv=>whnf
  refine aJ.frz [.tmp 7] ?_
  let es:List Nat:=[]
  exact Nx
set_option maxHeartbeats 16000000 in
theorem DE {l:List d4} {p q r:List dX} (h:YR l p q r):aq Tryz.prog 133 [cH l] (iY r):=by
 have hl:wC l:=by rcases h with ⟨rfl,_⟩ | ⟨rfl,_⟩ | ⟨rfl,_⟩ <;> simp [wC]
 have c1:=DC l;have i:=OL hl;have k1:=Ac;have f:=fun b cap=>Z6 b cap h;refine rG af Tryz.func133 rfl aI bh (ah rfl) ?_;intro F t w0 m0 hG j n a;have kp:KP vo := .mk;rcases h with ⟨rfl,rfl,rfl,rfl⟩ | ⟨rfl,rfl,rfl,rfl⟩ | ⟨rfl,rfl,rfl,rfl⟩
 all_goals
  iterate 6
   refine kL fun Z c=>?_
   repeat' first
    | refine aJ.unroll 9 ?_
    | refine eY hG (bC bq n) ZB [3,4,2] rfl i (fun _=>rfl) aI bq rfl ?_
    | refine QE [] rfl hG af kp ?_
    | refine QE [] rfl d af kp ?_
    |((conv=>whnf); first
      | refine cX ?_
      | refine cW ?_
      | refine aa aI ?_
      | refine aa bq (ae _ (aa rfl ?_))
      | refine ae _ (aa c1 ?_)
      | refine ae _ (aa (by apply k1) ?_)
      | refine aa (ah rfl) ?_
      | intro o n2 m2 d m
      | refine aa LE ?_
      | refine ak ?_)
   conv=>whnf
   refine c _ ?_;clear c Z
  refine aJ.le (s':=⟨[(3,.loc 3 0)],[(3,[.sl (.id 1003000) 3 _])]⟩) (LE) ?_;refine aJ.unfrz a 1003000 3 0 rfl rfl rfl rfl rfl rfl rfl rfl (fun b cap=>?_)
  conv=>whnf
  refine gq 1003000 5000000 (g := .row b cap) aI rfl ?_;have e:=f b cap
  repeat' first | refine QE [55] rfl hG af kp ?_ | ((conv=>whnf); first | refine cX ?_ | refine cW ?_ | refine aa aI ?_ | refine xE e ?_)
  exact Ez
theorem TD:aq Tryz.prog 133 [cH []] (iY []):=by
 have c1:=DC [];have a:=OL (l:=[]) (ak rfl);have i0:aq Tryz.prog 332 [.sl .no 0 [],.int .i64 0,.int .i64 0,.fn 216] (.tup []):=dR uW Tryz.func332;have i1:aq Tryz.prog 302 [.sl .no 0 [],.int .i64 0,.int .i64 0,.int .i64 0,.fn 216] (.tup []):=dR vb Tryz.func302;have i2:=kJ 0 bq bq;have i3:aq Tryz.prog 268 [.sl .no 0 [],.fn 216] (.tup []):=dR vd Tryz.func268;have i4:aq Tryz.prog 217 [.sl .no 0 [],.fn 216,.fn 218] (iY []):=dR pL Tryz.func217;refine aM vo Tryz.func133 ?_;intro F c w0 m0 hG b h1 kp
 repeat' first|refine eY hG (bC bq h1) ZB [3,4,2] rfl a (fun _=>rfl) aI bq rfl ?_|refine aJ.unroll 1 ?_|refine bz ?_|fail
 all_goals exact Ez
open Go Go.AI
set_option maxRecDepth 100000
theorem TC (s:Nat->Int) (t:Int):aq Tryz.prog 130 [.agg (bM s),.int .i64 t] (WN s t):=dK GG Tryz.func130
theorem YT (l:List d4):aq Tryz.prog 213 [Cn (yN l)] (.clo 265 [.ref [Cn (yN l)]]):=dK FH Tryz.func213
theorem WY:iA Tryz.prog pA 265 [.ref [Cn []]] []:=by
 have i0:aq Tryz.prog 324 [.sl .no 2 [],.int .i64 0,.int .i64 0,.fn 267] (.tup []):=dR uX Tryz.func324;have i1:aq Tryz.prog 301 [.sl .no 2 [],.int .i64 0,.int .i64 0,.int .i64 0,.fn 267] (.tup []):=dR vc Tryz.func301;have i2:=kJ 0 bq bq;have i3:aq Tryz.prog 266 [.sl .no 2 [],.fn 267] (.tup []):=dR ve Tryz.func266;exact G9 pI Tryz.func265
theorem YK {l:List d4} {m:Int} (h:wC l) (hm:cQ m 0 1000000=true) (hl:l=[]\/m=12):aq Tryz.prog 131 [Cn (yN l),.int .i64 m] (.tup [.int .i64 (-1),.int .i64 0]):=by
 have c1:=Z8 h;have c2:=YT l;have d:=r7 m 0 1000000;rw [hm] at d;have a:=DF (l:=[qc]) (ak ⟨rfl,rfl,rfl,rfl⟩);have f:=DF (l:=[ql]) (bA (ak ⟨rfl,rfl,rfl,rfl⟩));have i:=DF (l:=[qc,ql]) (bA (bA ⟨rfl,rfl,rfl,rfl⟩));refine aM GF Tryz.func131 ?_;intro F j w0 m0 hG c h1 kp;rcases h with rfl | rfl | rfl | rfl
 ·repeat' first|refine AC hG (bC bq h1) pA [5,4,3] rfl WY (fun _=>rfl) aI bq rfl ?_|refine bz ?_|fail
  all_goals exact Ez
 all_goals
  obtain rfl:m=12:=hl.resolve_left cU
  repeat' first
   | refine eY hG (bC bq h1) pA [5,4,3] rfl (by first | exact a | exact f | exact i) (fun _=>rfl) aI bq rfl ?_
   | refine QE [] rfl hG af kp ?_
   | refine QE [] rfl b af kp ?_
   |((conv=>whnf); first
     | refine cX ?_
     | refine cW ?_
     | refine aa aI ?_
     | refine ae _ (aa bf ?_)
     | intro n n2 m2 b e
     | refine aa LE ?_
     | refine ak ?_)
  all_goals exact Ez
open Go Go.AI
set_option maxRecDepth 100000
theorem OH {s:Nat->Int} {l:List d4} {a b:Int} (h:wC l) (hm:cQ (s 10) 0 1000000=true) (hl:l=[]\/s=fL/\a=0/\b=100):aq Tryz.prog 62 [.agg (bM s),cH l,.agg (cj a b)] (WN s (-1)):=by
 have c1:=YK h hm (hl.imp id fun e=>by rw [e.1]; rfl);have c2:=TC s (-1);have d:=tt qc bq (by decide +kernel);have c:=tt ql bq (by decide +kernel);rcases h with rfl | rfl | rfl | rfl
 ·exact dR xK Tryz.func62
 all_goals
  obtain ⟨rfl,rfl,rfl⟩:=hl.resolve_left cU;exact dR xK Tryz.func62
set_option maxHeartbeats 16000000 in
theorem OM {s:Nat->Int} {l:List d4} {a b:Int} (h:wC l) (hl:l=[]\/s=fL/\a=0/\b=100):aq Tryz.prog 64 [.agg (bM s),cH l,.agg (cj a b)] (.tup [.agg (gQ ⟨0,0,0,0⟩),.bool false]):=by
 have c1:=(DC [qc]).sl0 (o := .full);have c2:=(DC [ql]).sl0 (o := .full);rcases h with rfl | rfl | rfl | rfl
 ·exact dR nK Tryz.func64
 all_goals obtain ⟨rfl,rfl,rfl⟩:=hl.resolve_left cU
 ·exact dR nK Tryz.func64
 ·exact dR nK Tryz.func64
 refine rG af Tryz.func64 rfl aI bh (ah rfl) ?_;intro F f w0 m0 hG e h1 _;have kp:KP nK := .mk
 repeat' first
  | refine aJ.scopeEnds ?_
  | refine aJ.unroll 4 ?_
  | refine eY hG (bC bq h1) ZB [6,7,8,9,1,18,19,20,10,11,27,28,29,13,14] rfl (OL (l:=[qc]) (bA (ak rfl))) (fun _=>rfl) aI bq rfl ?_
  | refine eY d (show 1<=n2 by dsimp only at c; omega) ZB [6,7,8,9,1,18,19,20,10,11,27,28,29,13,14,15] rfl (OL (l:=[ql]) (bA (bA (ak rfl)))) (fun _=>rfl) aI bq rfl ?_
  | refine QE [] rfl bf af kp ?_
  |((conv=>whnf); first
    | refine cX ?_
    | refine cW ?_
    | refine aa aI ?_
    | refine aa bq (ae _ (aa rfl ?_))
    | refine aa bq ?_
    | refine aa (ah rfl) ?_
    | refine ae _ (aa bf ?_)
    | intro i n2 m2 d c
    | refine aa LE ?_
    | refine ak ?_)
 all_goals exact Ez
theorem TF {s:Nat->Int} {l:List d4} {a b:Int} (h:wC l) (d:wY a b=true) (hv:tM s (fI l)=true) (c:Dr s (fI l) a b = -1):aq Tryz.prog 61 [.agg (bM s),cH l,.agg (cj a b)] (WN s (-1)):=by
 have c1:=TN h;have c2:=Q0 s (fI l) a b (by rcases h with rfl | rfl | rfl | rfl <;> decide) d hv;have e:=TC s (-1);rw [c] at c2;exact dR J9 Tryz.func61
theorem OJ {s:Nat->Int} {l:List d4} {a b:Int} (h:wC l) (hv:tM s (fI l)=true) (c:xa s (fI l)=none):aq Tryz.prog 60 [.agg (bM s),cH l,.agg (cj a b)] (.tup [.agg (gQ ⟨0,0,0,0⟩),.bool false]):=by
 have c1:=TN h;have c2:=CI s (fI l) (by rcases h with rfl | rfl | rfl | rfl <;> decide) hv;rw [c] at c2;exact dR Ka Tryz.func60
theorem IH {s:Nat->Int} {l:List d4} {a b:Int} {r:List dX} (e:aq Tryz.prog 133 [cH l] (iY r)) (c:r.length<=1000000) (hv:kY s r a b=true):aq Tryz.prog 63 [.agg (bM s),cH l,.agg (cj a b)] (WN s (tj s r a b)):=by
 have c2:=UV s r a b c hv;have d:=TC s (tj s r a b);exact dR J8 Tryz.func63
open Go Go.AI
set_option maxRecDepth 100000
set_option maxHeartbeats 16000000
theorem TH {o:d4} (h:o=qc\/o=ql):aq Tryz.prog 127 [.agg (bM fL),.agg (bO o),cZ dB.passes] (.bool true):=by
 have k1:=mD;have c:=rZ (mi fL) o.a o.b o.look;rw [show g9 (mi fL) o.a o.b o.look=true by rcases h with rfl | rfl <;> decide +kernel] at c;rcases h with rfl | rfl
 all_goals exact dR kH Tryz.func127
theorem Tz {l:List d4} {o:d4} (h:l=[]\/l=[qc]/\o=ql):aq Tryz.prog 128 [cH l,.clo 126 [.ref (bO o)]] (.bool false):=by
 have c:aq Tryz.prog 58 [cH l,.clo 126 [.ref (bO o)]] (.int .i64 (-1)):=by
  rcases h with rfl | ⟨rfl,rfl⟩
  ·exact dR lH Tryz.func58
  ·have c1:aq Tryz.prog 126 [.agg (bO qc),.ref (bO ql)] (.bool false):=dR GI Tryz.func126;exact dR lH Tryz.func58
 exact dR vp Tryz.func128
theorem ZR {l:List d4} (h:wC l):aq Tryz.prog 59 [.agg (bM fL),cH l,cZ dB.passes,.agg (cj 0 100)] (.bool true):=by
 have c1:=TH (ak rfl);have c2:=TH (bA rfl);have c:=Tz (l:=[]) (o:=qc) (ak rfl);have f:=Tz (l:=[]) (o:=ql) (ak rfl);have e:=Tz (bA ⟨rfl,rfl⟩);have d:=Ac 0 100;have a:=oD fL;rw [show kP fL=true by decide +kernel] at a;have b:=iz dB.passes bq;rw [show jq dB.passes=true by decide +kernel] at b;rcases h with rfl | rfl | rfl | rfl
 all_goals exact dR xL Tryz.func59
theorem YF {s:Nat->Int} {ps:List bQ} {a b:Int} (c:ps.length<=1000000) (hv:vU s [] ps a b=true):aq Tryz.prog 59 [.agg (bM s),cH [],cZ ps,.agg (cj a b)] (.bool true):=by
 simp only [vU,al,cI] at hv;obtain ⟨⟨⟨⟨⟨_,h1⟩,h2⟩,f⟩,j⟩,_⟩:=hv;have l:=Ac a b;rw [h1] at l;have d:=oD s;rw [f] at d;have e:=iz ps c;rw [j] at e;have n:decide (IntKind.i64.wrap (b - a)>3000)=true->False:=fun h=>by rw [show decide (IntKind.i64.wrap (b - a)>3000)=false from h2] at h; cases h
 refine aM xL Tryz.func59 ?_;intro F m w0 m0 hG i h1 kp
 repeat' first|refine aJ.unroll 1 ?_|refine bz ?_|fail
 all_goals exact Ez
def Yh (Γ:ce) (c:Code) (K:Exit->St->Prop):Nat->St->Prop
 | 0,_=>False
 | n+1,s=>aJ Γ s c fun e s'=>match e with | .normal=>Yh Γ c K n s' | e=>K e s'
theorem K8 {Γ:ce} {s:St} {c:Code} {K:Exit->St->Prop} (n:Nat) (h:Yh Γ c K n s):aJ Γ s (.loop c) K:=by
 refine aJ.loop (X:=Nat×St) (fun x=>x.2) (fun x=>Yh Γ c K x.1 x.2) (fun x=>x.1) (n,s) h (.refl s) fun x hx=>?_;obtain ⟨n,s⟩:=x
 cases n with
 | zero=>exact hx.elim
 | succ n=>exact ⟨SP.mono (aJ.out hx) fun e s' h=>by cases e <;> first | exact ⟨(n,s'),h,jy n,.refl s'⟩ | exact h⟩
def vT (s:Nat->Int) (a b:Int):List yo:=if tj s [] a b = -1 then [] else [⟨5,s 0,0,tj s [] a b⟩]
theorem Tu {s:Nat->Int} {ps:List bQ} {a b:Int} (f:ps.length<=1000000) (hv:vU s [] ps a b=true) (l:kP s=true) (hm:cQ (s 10) 0 1000000=true) (o:wY a b=true) (i:kY s [] a b=true) (n:Dr s [] a b = -1):aq Tryz.prog 29 [.agg (bM s),cH [],cZ ps,.agg (cj a b)] (.tup [jr (vT s a b),.int .i64 0]):=by
 have e:wC []:=ak rfl;have c:tM s (fI [])=true:=by rw [tM,l]; rfl
 have c1:=OJ (a:=a) (b:=b) e c rfl;have c2:=TF e o c n;have q:=OH (a:=a) (b:=b) e hm (ak rfl);have h:=IH TD (aU _) i;have r:=OM (s:=s) (a:=a) (b:=b) e (ak rfl);have u:=YF f hv;unfold vT;generalize tj s [] a b=t at *
 have key:∀ (z:Bool) (L:List yo),(t != -1)=z->L=(bif z then [⟨5,s 0,0,t⟩] else [])->aq Tryz.prog 29 [.agg (bM s),cH [],cZ ps,.agg (cj a b)] (.tup [jr L,.int .i64 0]):=fun z L hz j=>by
  have h:aq Tryz.prog 63 [.agg (bM s),cH [],.agg (cj a b)] (.tup [.agg (gQ ⟨0,s 0,0,t⟩),.bool z]):=by rw [<- hz]; exact h
  subst j;cases z
  all_goals
   refine aM xO Tryz.func29 ?_;intro F p w0 m0 hG m h1 kp
   repeat' first
    | refine K8 6 ?_
    | refine QE [] rfl hG af kp ?_
    |((conv=>whnf); first
      | refine cX ?_
      | refine cW ?_
      | refine aa aI ?_
      | refine aa bq (ae _ (aa rfl ?_))
      | refine aa (ah rfl) ?_
      | refine ae _ (aa bf ?_)
      | refine ak ?_)
   all_goals exact Ez
 by_cases d:t = -1
 ·exact key false _ (by simp [d]) (by simp [d])
 ·exact key true _ (by simp [d]) (by simp [d])
theorem Tv {l:List d4} {r:List dX} (h:wC l) (j:aq Tryz.prog 133 [cH l] (iY r)) (f:r.length<=1000000) (hv:kY fL r 0 100=true) (he:tj fL r 0 100 = -1) (d:xa fL (fI l)=none) (c:tM fL (fI l)=true) (e:Dr fL (fI l) 0 100 = -1):aq Tryz.prog 29 [.agg (bM fL),cH l,cZ dB.passes,.agg (cj 0 100)] (.tup [jr [],.int .i64 0]):=by
 have c1:=OJ (a:=0) (b:=100) h c d;have c2:=TF h bq c e;have m:=OH (s:=fL) (a:=0) (b:=100) h bq (bA ⟨rfl,rfl,rfl⟩);have i:=IH j f hv;rw [he] at i;have n:=OM (s:=fL) (a:=0) (b:=100) h (bA ⟨rfl,rfl,rfl⟩);have o:=ZR h;rcases h with rfl | rfl | rfl | rfl
 all_goals exact dR xO Tryz.func29
end Go.Proofs
