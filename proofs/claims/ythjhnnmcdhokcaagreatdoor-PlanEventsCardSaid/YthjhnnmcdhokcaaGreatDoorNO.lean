/- Part 15 of the proof: an abstract interpreter for the code, contracts of the functions, and plain facts; the conditions are those typed. -/
import Derived.Test.YthjhnnmcdhokcaaGreatDoorNH
set_option linter.unusedSectionVars false
set_option linter.unusedVariables false
set_option linter.unusedSimpArgs false
namespace Go.Proofs
open Go Go.AI
set_option maxRecDepth 100000
def yG (l:List dZ):Prop:=l=[]\/l=[qn]\/l=[qm]\/l=[qn,qm]
theorem Ut {l:List dZ} (h:yG l):ar Tryz.prog 88 [dl l] (kJ (gc l)):=by
 rcases h with rfl | rfl | rfl | rfl
 all_goals exact dK x3 Tryz.func88
theorem Ef (l:List dZ):ar Tryz.prog 161 [dl l] (.clo 246 [.ref [dl l]]):=dP GP Tryz.func161
def spX (x:Int×Int):List AV:=[.agg (cA x.1 x.2)]
theorem Pm {l:List dZ} (h:yG l):jA Tryz.prog spX 246 [.ref [dl l]] (l.flatMap slP):=by
 rcases h with rfl | rfl | rfl | rfl
 all_goals exact HF FQ Tryz.func246
theorem A5 {Γ:cr} {s:St} {K:Exit->St->Prop} (e:Γ.OK) (h1:1<=Γ.n) {g:Operand} {ps:Array Tmp} {assign body:Code} {α:Type} (avs:α->List AV)
  {f:FuncId} {cap:List AV} (b:List Nat) (j:ev s g = .clo f cap) (a:jA Γ.P avs f cap []) (d:∀ x,(avs x).length=ps.size)
  (hk:(nb b (p0 assign++(p0 body++ps.toList))&&nb b [1000000000]&&nb [1000000000] (p0 assign)&&(ps.toList.all fun p=>Nat.blt p Γ.nt))=true) (c:ps.toList.Nodup) (i:T8 b s=true)
  (h:K .normal (mg b s)):aI Γ s (.rangeFunc g ps assign body) K:=il e h1 avs b j a d hk c i (by rw [St.frc_eq]; exact h)
open Go Go.AI
set_option maxRecDepth 100000
theorem aaX {l:List dZ} (h:yG l):ar Tryz.prog 238 [CX (zj l)] (.bool true):=by
 have k1:=r8;have k2:=xe;rcases h with rfl | rfl | rfl | rfl
 all_goals exact dK FX Tryz.func238
def aaS (l:List dZ) (p q f:List (Int×Int)):Prop:=(l=[qn]/\p=[(5,6),(53,-6)]/\q=p/\f=[(5,6),(53,0)])\/(l=[qm]/\p=[(9,6),(56,-6)]/\q=p/\f=[(9,6),(56,0)])\/(l=[qn,qm]/\p=[(5,6),(53,-6),(9,6),(56,-6)]/\q=[(5,6),(9,6),(53,-6),(56,-6)]/\f=[(5,6),(9,12),(53,6),(56,0)])
def rwN (n:Nat) (l:List (List AV)):List (Nat×AV):=[(7000000,.me .arr 7000000 n l)]
def CI (l:List (Int×Int)):List (List AV):=l.map fun z=>[.int .i64 z.1,.int .i64 z.2]
theorem ZX (a b c d:Int):ar Tryz.prog 286 [.agg [.int .i64 a,.int .i64 b],.agg [.int .i64 c,.int .i64 d]] (.int .i64 (gT a c)):=by
 have k1:=nj;exact dK Fy Tryz.func286
theorem ZH {l:List dZ} {p q f:List (Int×Int)} (h:aaS l p q f):bW Tryz.prog 285 [7000000] [] [.me .sl 7000000 p.length [],.fn 286] (rwN 2 (CI p)) (.tup []) (rwN 2 (CI q)):=by
 have k1:=ZX
 have c0:bW Tryz.prog 329 [7000000] [] [.me .sl 7000000 p.length [],.int .i64 0,.int .i64 p.length,.fn 286] (rwN 2 (CI p)) (.tup []) (rwN 2 (CI q)):=by
  rcases h with ⟨_,rfl,rfl,_⟩ | ⟨_,rfl,rfl,_⟩ | ⟨_,rfl,rfl,_⟩
  all_goals
   let es:List Nat:=[]
   exact jU vo Tryz.func329
 have c1:bW Tryz.prog 317 [7000000] [] [.me .sl 7000000 p.length [],.int .i64 0,.int .i64 p.length,.int .i64 (Lib.bitLen p.length),.fn 286] (rwN 2 (CI p)) (.tup []) (rwN 2 (CI q)):=by
  rcases h with ⟨_,rfl,rfl,_⟩ | ⟨_,rfl,rfl,_⟩ | ⟨_,rfl,rfl,_⟩
  all_goals
   let es:List Nat:=[30]
   exact jU vq Tryz.func317
 have c2:=ij p.length (au _) (by rcases h with ⟨_,rfl,_⟩ | ⟨_,rfl,_⟩ | ⟨_,rfl,_⟩ <;> decide);rcases h with ⟨_,rfl,rfl,_⟩ | ⟨_,rfl,rfl,_⟩ | ⟨_,rfl,rfl,_⟩
 all_goals
  let es:List Nat:=[13]
  exact jU vz Tryz.func285
set_option maxHeartbeats 4000000 in
theorem Ej {l:List dZ} {p q f:List (Int×Int)} (h:aaS l p q f):jA Tryz.prog pA 284 [.ref [CX (zj l)]] f:=by
  have cs:=ZH h;refine jA.of Tryz.func284 rfl aK bj (ah rfl) rfl ?_;intro F n m y J Jx hY;have kp:KP pG := .mk;rcases h with ⟨rfl,rfl,rfl,rfl⟩ | ⟨rfl,rfl,rfl,rfl⟩ | ⟨rfl,rfl,rfl,rfl⟩
  all_goals
    refine ir.seq ?_;refine Ba aK (fun b m0 hG a=>?_) hY;refine nk hG af pG [3] aK ?_
    conv=>whnf
    refine ir.seq ?_;refine Ba aK (fun b m0 hG a=>?_) hY
    repeat' first
      | refine aI.unroll 9 ?_
      | refine QE [] rfl hG af kp ?_
      | ((conv=>whnf); first
         | refine cZ ?_
         | refine cY ?_
         | refine aa aK ?_
         | refine aa bt (ae _ (aa rfl ?_))
         | refine bw (aa rfl (aa (ah rfl) (aa (ah rfl) (aa (ah rfl) ?_))))
         | refine aa (ah rfl) ?_)
    refine ir.seq ?_;refine Ba aK (fun b m0 hG a=>?_) hY;refine gf 30 7000000 aK rfl ?_
    repeat' first | refine QE [33] rfl hG af kp ?_ | ((conv=>whnf); first | refine cZ ?_ | refine cY ?_ | refine aa aK ?_ | refine xE cs ?_)
    refine ir.seq ?_;refine Ba aK (fun b m0 hG a=>?_) hY;refine aI.frz [.tmp 3] ?_
    conv=>whnf
    repeat' first | refine QE [] rfl hG af kp ?_ | ((conv=>whnf); first | refine cZ ?_ | refine cY ?_ | refine aa aK ?_)
    repeat' first
      | refine ir.unroll 9 ?_
      | (refine Ba (c := .region _ _ true) aK (fun b m0 hG a=>?_) hY; refine QE [] rfl hG af kp ?_)
      | refine QM rfl hY af kp ?_
      | ((conv=>whnf); first
         | refine cZ ?_
         | refine cY ?_
         | refine aa aK ?_
         | refine aa bt (ae _ (aa rfl ?_))
         | (refine ae _ (aa rfl (aa rfl (fun t d=>?_))); subst d; refine aa ?_ ?_)
         | refine aj ?_)
    all_goals first | exact iL.mk (aj rfl) (bw rfl) | exact iL.mk (bw rfl) (aj rfl)
open Go Go.AI
set_option maxRecDepth 100000
theorem ZY (a b c d e f:Int):ar Tryz.prog 243 [.agg [.int .i64 a,.int .i64 b,.int .i64 c],.agg [.int .i64 d,.int .i64 e,.int .i64 f]] (.int .i64 (O2 [gT a d,gT b e])):=by
 have k1:=nj;have k:=rA [gT a d,gT b e] (ah rfl);exact dK FS Tryz.func243
def ZQ (l:List dZ) (p q r:List d6):Prop:=(l=[qn]/\p=[⟨1,5,8⟩,⟨2,20,23⟩,⟨2,50,53⟩]/\q=p/\r=p)\/(l=[qm]/\p=[⟨1,9,11⟩,⟨2,23,26⟩,⟨2,53,56⟩]/\q=p/\r=p)\/(l=[qn,qm]/\p=[⟨1,5,8⟩,⟨1,9,11⟩,⟨2,20,23⟩,⟨2,50,53⟩,⟨2,23,26⟩,⟨2,53,56⟩]/\q=[⟨1,5,8⟩,⟨1,9,11⟩,⟨2,20,23⟩,⟨2,23,26⟩,⟨2,50,53⟩,⟨2,53,56⟩]/\r=[⟨1,5,8⟩,⟨1,9,11⟩,⟨2,20,26⟩,⟨2,50,56⟩])
def YE (b cap:Nat) (l:List d6):List (Nat×AV):=[(5000000,.me (.row b cap) 5000000 3 (l.map gi))]
def hdB (b cap:Nat) (l:List d6):AV := .lit (.slice (some ⟨b,0,none⟩) l.length cap)
set_option maxHeartbeats 16000000 in
theorem ZI (b cap:Nat) {l:List dZ} {p q r:List d6} (h:ZQ l p q r):bW Tryz.prog 287 [5000000] [] [hdB b cap p,.fn 243] (YE b cap p) (.tup []) (YE b cap q):=by
 have k1:=ZY
 have c0:bW Tryz.prog 337 [5000000] [] [hdB b cap p,.int .i64 0,.int .i64 p.length,.fn 243] (YE b cap p) (.tup []) (YE b cap q):=by
  rcases h with ⟨_,rfl,rfl,_⟩ | ⟨_,rfl,rfl,_⟩ | ⟨_,rfl,rfl,_⟩
  all_goals
   let es:List Nat:=[]
   exact jU vn Tryz.func337
 have c1:bW Tryz.prog 318 [5000000] [] [hdB b cap p,.int .i64 0,.int .i64 p.length,.int .i64 (Lib.bitLen p.length),.fn 243] (YE b cap p) (.tup []) (YE b cap q):=by
  rcases h with ⟨_,rfl,rfl,_⟩ | ⟨_,rfl,rfl,_⟩ | ⟨_,rfl,rfl,_⟩
  all_goals
   let es:List Nat:=[30]
   exact jU vp Tryz.func318
 have c2:=ij p.length (au _) (by rcases h with ⟨_,rfl,_⟩ | ⟨_,rfl,_⟩ | ⟨_,rfl,_⟩ <;> decide);rcases h with ⟨_,rfl,rfl,_⟩ | ⟨_,rfl,rfl,_⟩ | ⟨_,rfl,rfl,_⟩
 all_goals
  let es:List Nat:=[13]
  exact jU vx Tryz.func287
theorem aa4 (a b c d e f:Int):ar Tryz.prog 245 [.agg [.int .i64 a,.int .i64 b,.int .i64 c],.agg [.int .i64 d,.int .i64 e,.int .i64 f]] (.tup [.agg [.int .i64 a,.int .i64 b,.int .i64 (max c f)],.bool (a==d&&decide (e<=c))]):=by
 refine aM FR Tryz.func245 ?_;intro F j w0 m0 hG i h1 kp
 repeat' first|refine aQ ?_|((conv=>whnf); first|refine ⟨fun h=>?_,fun h=>?_⟩|refine aj ?_)
 all_goals (rw [h]; exact Ez)
set_option maxHeartbeats 16000000 in
theorem aaV (b cap:Nat) {l:List dZ} {p q r:List d6} (h:ZQ l p q r):bW Tryz.prog 244 [5000000] [] [hdB b cap p,.fn 243,.fn 245] (YE b cap p) (i6 r) (YE b cap q):=by
 have c1:=ZI b cap h;have k1:=aa4;refine lR.ofB af Tryz.func244 rfl aK bj (ah rfl) ?_;intro F d w0 m0 hG c h1;have kp:KP pO := .mk;rcases h with ⟨_,rfl,rfl,rfl⟩ | ⟨_,rfl,rfl,rfl⟩ | ⟨_,rfl,rfl,rfl⟩
 all_goals
  iterate 2
   refine aI.seq ?_
   repeat' first | refine QF [15] rfl hG af kp ?_ | ((conv=>whnf); first | refine cZ ?_ | refine cY ?_ | refine aa aK ?_ | refine xE c1 ?_)
  refine aI.seq ?_;refine nk hG af pO [7] aK ?_
  conv=>whnf
  refine jL fun Z a=>?_
  repeat' first
   | refine aI.unroll 9 ?_
   | refine QE [] rfl hG af kp ?_
   |((conv=>whnf); first
     | refine cZ ?_
     | refine cY ?_
     | refine aa aK ?_
     | refine aa bt (ae _ (aa rfl ?_))
     | refine ae 5000000 (ae _ (ae _ (ae _ (aa (aa rfl (aa rfl rfl)) ?_))))
     | refine aa bt ?_
     | refine ae _ (aa (by apply k1) ?_)
     | refine ae _ (aa rfl ?_)
     | refine bw (aa rfl (aa (ah rfl) (aa (ah rfl) (aa (ah rfl) ?_))))
     | refine aa (ah rfl) ?_
     | refine aj ?_)
  conv=>whnf
  refine a _ ?_;clear a Z
  conv=>whnf
  refine aI.frz [.tmp 7] ?_
  let es:List Nat:=[]
  exact Oh
set_option maxHeartbeats 16000000 in
theorem Eh {l:List dZ} {p q r:List d6} (h:ZQ l p q r):ar Tryz.prog 160 [dl l] (i6 r):=by
 have hl:yG l:=by rcases h with ⟨rfl,_⟩ | ⟨rfl,_⟩ | ⟨rfl,_⟩ <;> simp [yG]
 have c1:=Ef l;have i:=Pm hl;have k1:=JH;have f:=fun b cap=>aaV b cap h;refine rI af Tryz.func160 rfl aK bj (ah rfl) ?_;intro F t w0 m0 hG j n a;have kp:KP vJ := .mk;rcases h with ⟨rfl,rfl,rfl,rfl⟩ | ⟨rfl,rfl,rfl,rfl⟩ | ⟨rfl,rfl,rfl,rfl⟩
 all_goals
  iterate 6
   refine jL fun Z c=>?_
   repeat' first
    | refine aI.unroll 9 ?_
    | refine il hG (bH bt n) spX [3,4,2] rfl i (fun _=>rfl) aK bt rfl ?_
    | refine QE [] rfl hG af kp ?_
    | refine QE [] rfl d af kp ?_
    |((conv=>whnf); first
      | refine cZ ?_
      | refine cY ?_
      | refine aa aK ?_
      | refine aa bt (ae _ (aa rfl ?_))
      | refine ae _ (aa c1 ?_)
      | refine ae _ (aa (by apply k1) ?_)
      | refine aa (ah rfl) ?_
      | intro o n2 m2 d m
      | refine aa LE ?_
      | refine aj ?_)
   conv=>whnf
   refine c _ ?_;clear c Z
  refine aI.le (s':=⟨[(3,.loc 3 0)],[(3,[.sl (.id 1003000) 3 _])]⟩) (LE) ?_;refine aI.unfrz a 1003000 3 0 rfl rfl rfl rfl rfl rfl rfl rfl (fun b cap=>?_)
  conv=>whnf
  refine gf 1003000 5000000 (g := .row b cap) aK rfl ?_;have e:=f b cap
  repeat' first | refine QE [55] rfl hG af kp ?_ | ((conv=>whnf); first | refine cZ ?_ | refine cY ?_ | refine aa aK ?_ | refine xE e ?_)
  exact Ez
theorem Ul:ar Tryz.prog 160 [dl []] (i6 []):=by
 have c1:=Ef [];have a:=Pm (l:=[]) (aj rfl);have i0:ar Tryz.prog 337 [.sl .no 0 [],.int .i64 0,.int .i64 0,.fn 243] (.tup []):=dK vn Tryz.func337;have i1:ar Tryz.prog 318 [.sl .no 0 [],.int .i64 0,.int .i64 0,.int .i64 0,.fn 243] (.tup []):=dK vp Tryz.func318;have i2:=ij 0 bt bt;have i3:ar Tryz.prog 287 [.sl .no 0 [],.fn 243] (.tup []):=dK vx Tryz.func287;have i4:ar Tryz.prog 244 [.sl .no 0 [],.fn 243,.fn 245] (i6 []):=dK pO Tryz.func244;refine aM vJ Tryz.func160 ?_;intro F c w0 m0 hG b h1 kp
 repeat' first|refine il hG (bH bt h1) spX [3,4,2] rfl a (fun _=>rfl) aK bt rfl ?_|refine aI.unroll 1 ?_|refine bv ?_|fail
 all_goals exact Ez
open Go Go.AI
set_option maxRecDepth 100000
theorem Uk (s:Nat->Int) (t:Int):ar Tryz.prog 157 [.agg (bR s),.int .i64 t] (XH s t):=dP GS Tryz.func157
theorem ZT (l:List dZ):ar Tryz.prog 240 [CX (zj l)] (.clo 284 [.ref [CX (zj l)]]):=dP FV Tryz.func240
theorem XV:jA Tryz.prog pA 284 [.ref [CX []]] []:=by
 have i0:ar Tryz.prog 329 [.sl .no 2 [],.int .i64 0,.int .i64 0,.fn 286] (.tup []):=dK vo Tryz.func329;have i1:ar Tryz.prog 317 [.sl .no 2 [],.int .i64 0,.int .i64 0,.int .i64 0,.fn 286] (.tup []):=dK vq Tryz.func317;have i2:=ij 0 bt bt;have i3:ar Tryz.prog 285 [.sl .no 2 [],.fn 286] (.tup []):=dK vz Tryz.func285;exact HF pG Tryz.func284
theorem ZL {l:List dZ} {m:Int} (h:yG l) (hm:cT m 0 1000000=true) (hl:l=[]\/m=12):ar Tryz.prog 158 [CX (zj l),.int .i64 m] (.tup [.int .i64 (-1),.int .i64 0]):=by
 have c1:=aaX h;have c2:=ZT l;have d:=r8 m 0 1000000;rw [hm] at d;have a:=Ej (l:=[qn]) (aj ⟨rfl,rfl,rfl,rfl⟩);have f:=Ej (l:=[qm]) (bw (aj ⟨rfl,rfl,rfl,rfl⟩));have i:=Ej (l:=[qn,qm]) (bw (bw ⟨rfl,rfl,rfl,rfl⟩));refine aM GR Tryz.func158 ?_;intro F j w0 m0 hG c h1 kp;rcases h with rfl | rfl | rfl | rfl
 ·repeat' first|refine A5 hG (bH bt h1) pA [5,4,3] rfl XV (fun _=>rfl) aK bt rfl ?_|refine bv ?_|fail
  all_goals exact Ez
 all_goals
  obtain rfl:m=12:=hl.resolve_left dc
  repeat' first
   | refine il hG (bH bt h1) pA [5,4,3] rfl (by first | exact a | exact f | exact i) (fun _=>rfl) aK bt rfl ?_
   | refine QE [] rfl hG af kp ?_
   | refine QE [] rfl b af kp ?_
   |((conv=>whnf); first
     | refine cZ ?_
     | refine cY ?_
     | refine aa aK ?_
     | refine ae _ (aa a8 ?_)
     | intro n n2 m2 b e
     | refine aa LE ?_
     | refine aj ?_)
  all_goals exact Ez
open Go Go.AI
set_option maxRecDepth 100000
theorem XJ {s:Nat->Int} {l:List dZ} {a b:Int} (h:yG l) (hm:cT (s 10) 0 1000000=true) (hl:l=[]\/s=gh/\a=0/\b=100):ar Tryz.prog 76 [.agg (bR s),dl l,.agg (cA a b)] (XH s (-1)):=by
 have c1:=ZL h hm (hl.imp id fun e=>by rw [e.1]; rfl);have c2:=Uk s (-1);have d:=tJ qn bt (by decide +kernel);have c:=tJ qm bt (by decide +kernel);rcases h with rfl | rfl | rfl | rfl
 ·exact dK x4 Tryz.func76
 all_goals
  obtain ⟨rfl,rfl,rfl⟩:=hl.resolve_left dc;exact dK x4 Tryz.func76
set_option maxHeartbeats 16000000 in
theorem XL {s:Nat->Int} {l:List dZ} {a b:Int} (h:yG l) (hl:l=[]\/s=gh/\a=0/\b=100):ar Tryz.prog 78 [.agg (bR s),dl l,.agg (cA a b)] (.tup [.agg (lZ ⟨0,0,0,0⟩),.bool false]):=by
 have c1:=(Ef [qn]).sl0 (o := .full);have c2:=(Ef [qm]).sl0 (o := .full);rcases h with rfl | rfl | rfl | rfl
 ·exact dK nU Tryz.func78
 all_goals obtain ⟨rfl,rfl,rfl⟩:=hl.resolve_left dc
 ·exact dK nU Tryz.func78
 ·exact dK nU Tryz.func78
 refine rI af Tryz.func78 rfl aK bj (ah rfl) ?_;intro F f w0 m0 hG e h1 _;have kp:KP nU := .mk
 repeat' first
  | refine aI.scopeEnds ?_
  | refine aI.unroll 4 ?_
  | refine il hG (bH bt h1) spX [6,7,8,9,1,18,19,20,10,11,27,28,29,13,14] rfl (Pm (l:=[qn]) (bw (aj rfl))) (fun _=>rfl) aK bt rfl ?_
  | refine il d (show 1<=n2 by dsimp only at c; omega) spX [6,7,8,9,1,18,19,20,10,11,27,28,29,13,14,15] rfl (Pm (l:=[qm]) (bw (bw (aj rfl)))) (fun _=>rfl) aK bt rfl ?_
  | refine QE [] rfl a8 af kp ?_
  |((conv=>whnf); first
    | refine cZ ?_
    | refine cY ?_
    | refine aa aK ?_
    | refine aa bt (ae _ (aa rfl ?_))
    | refine aa bt ?_
    | refine aa (ah rfl) ?_
    | refine ae _ (aa a8 ?_)
    | intro i n2 m2 d c
    | refine aa LE ?_
    | refine aj ?_)
 all_goals exact Ez
theorem ZS {s:Nat->Int} {l:List dZ} {a b:Int} (h:yG l) (d:Cz a b=true) (hv:yn s (gc l)=true) (c:T5 s (gc l) a b = -1):ar Tryz.prog 75 [.agg (bR s),dl l,.agg (cA a b)] (XH s (-1)):=by
 have c1:=Ut h;have c2:=RL s (gc l) a b (by rcases h with rfl | rfl | rfl | rfl <;> decide) d hv;have e:=Uk s (-1);rw [c] at c2;exact dK Kx Tryz.func75
theorem XK {s:Nat->Int} {l:List dZ} {a b:Int} (h:yG l) (hv:yn s (gc l)=true) (c:xA s (gc l)=none):ar Tryz.prog 74 [.agg (bR s),dl l,.agg (cA a b)] (.tup [.agg (lZ ⟨0,0,0,0⟩),.bool false]):=by
 have c1:=Ut h;have c2:=Df s (gc l) (by rcases h with rfl | rfl | rfl | rfl <;> decide) hv;rw [c] at c2;exact dK Ky Tryz.func74
theorem Ur {s:Nat->Int} {l:List dZ} {a b:Int} {r:List d6} (e:ar Tryz.prog 160 [dl l] (i6 r)) (c:r.length<=1000000) (hv:mN s r a b=true):ar Tryz.prog 77 [.agg (bR s),dl l,.agg (cA a b)] (XH s (En s r a b)):=by
 have c2:=VL s r a b c hv;have d:=Uk s (En s r a b);exact dK Kw Tryz.func77
open Go Go.AI
set_option maxRecDepth 100000
set_option maxHeartbeats 16000000
theorem Un {o:dZ} (h:o=qn\/o=qm):ar Tryz.prog 154 [.agg (bR gh),.agg (bL o),dt dD.passes] (.bool true):=by
 have k1:=mJ;have c:=r7 (iN gh) o.a o.b o.look;rw [show eG (iN gh) o.a o.b o.look=true by rcases h with rfl | rfl <;> decide +kernel] at c;rcases h with rfl | rfl
 all_goals exact dK kM Tryz.func154
theorem Ui {l:List dZ} {o:dZ} (h:l=[]\/l=[qn]/\o=qm):ar Tryz.prog 155 [dl l,.clo 153 [.ref (bL o)]] (.bool false):=by
 have c:ar Tryz.prog 72 [dl l,.clo 153 [.ref (bL o)]] (.int .i64 (-1)):=by
  rcases h with rfl | ⟨rfl,rfl⟩
  ·exact dK lL Tryz.func72
  ·have c1:ar Tryz.prog 153 [.agg (bL qn),.ref (bL qm)] (.bool false):=dK GU Tryz.func153;exact dK lL Tryz.func72
 exact dK vK Tryz.func155
theorem aaN {l:List dZ} (h:yG l):ar Tryz.prog 73 [.agg (bR gh),dl l,dt dD.passes,.agg (cA 0 100)] (.bool true):=by
 have c1:=Un (aj rfl);have c2:=Un (bw rfl);have b:=Ui (l:=[]) (o:=qn) (aj rfl);have d:=Ui (l:=[]) (o:=qm) (aj rfl);have c:=Ui (bw ⟨rfl,rfl⟩);have d1:=JH 0 100;have d2:=rz gh;rw [show ny gh=true by decide +kernel] at d2;have a:=jS dD.passes bt;rw [show j9 dD.passes=true by decide +kernel] at a;rcases h with rfl | rfl | rfl | rfl
 all_goals exact dK Kz Tryz.func73
theorem Pk {l:List dZ} {r:List d6} (h:yG l) (j:ar Tryz.prog 160 [dl l] (i6 r)) (f:r.length<=1000000) (hv:mN gh r 0 100=true) (he:En gh r 0 100 = -1) (d:xA gh (gc l)=none) (c:yn gh (gc l)=true) (e:T5 gh (gc l) 0 100 = -1):ar Tryz.prog 35 [.agg (bR gh),dl l,dt dD.passes,.agg (cA 0 100)] (.tup [lF [],.int .i64 0]):=by
 have c1:=XK (a:=0) (b:=100) h c d;have c2:=ZS h bt c e;have m:=XJ (s:=gh) (a:=0) (b:=100) h bt (bw ⟨rfl,rfl,rfl⟩);have i:=Ur j f hv;rw [he] at i;have n:=XL (s:=gh) (a:=0) (b:=100) h (bw ⟨rfl,rfl,rfl⟩);have o:=aaN h;rcases h with rfl | rfl | rfl | rfl
 all_goals exact dK KW Tryz.func35
end Go.Proofs
