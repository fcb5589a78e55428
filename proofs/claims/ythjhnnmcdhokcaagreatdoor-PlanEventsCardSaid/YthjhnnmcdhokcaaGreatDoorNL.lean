/- Part 12 of the proof: an abstract interpreter for the code, contracts of the functions, and plain facts; the conditions are those typed. -/
import Derived.Test.YthjhnnmcdhokcaaGreatDoorNH
set_option linter.unusedSectionVars false
set_option linter.unusedVariables false
set_option linter.unusedSimpArgs false
namespace Go.Proofs
open Go Go.AI
set_option maxRecDepth 100000
def Bz (x:Int):List Int:=[0,0,0,0,0,0,0,0,0,0,0,x,0,0,0,0,0,0,0,0,0,0,0,0]
def rg:List jl:=[⟨1,5,4,Bz 1,81,1,true⟩,⟨2,53,4,[],0,0,false⟩]
def M7:List jl:=[⟨1,9,5,Bz 140737488355328,85,0,true⟩,⟨2,56,5,[],0,0,false⟩]
def exE (l:List jl):Prop:=l=rg\/l=M7
def Uv:jl:=⟨0,0,0,[],0,0,false⟩
def rw7 (l:List jl):List (Nat×AV):=[(7000000,.me .arr 7000000 7 (lU l))]
def exU (u:iu) (o:dZ) (l:List jl):Prop:=(u=⟨7,[0]⟩/\o=qn/\l=rg)\/(u=⟨7,[1]⟩/\o=qm/\l=M7)
theorem aaT (b:Nat):ar Tryz.prog 58 [cK b dD,.int .i64 7] (.tup [.agg (fL exO),.bool true]):=iC b dD Ee 7
theorem Up {u:iu} {o:dZ} {l:List jl} (h:exU u o l):Wm dD u:=by
 rcases h with ⟨rfl,rfl,rfl⟩ | ⟨rfl,rfl,rfl⟩
 all_goals
  refine ⟨by decide,by decide,by decide,j4.S Pq bt,?_,?_,?_⟩
  all_goals
   intro j hj;simp only [cg] at hj;subst hj;decide +kernel
theorem ZU (b:Nat) {u:iu} {o:dZ} {l:List jl} (h:exU u o l):ar Tryz.prog 23 [cK b dD,.agg (eO u)] (mv l):=by
 have c:=yj b dD Ee u (Up h);have e:El dD u=l:=by rcases h with ⟨rfl,rfl,rfl⟩ | ⟨rfl,rfl,rfl⟩ <;> decide +kernel
 rwa [e] at c
open Go Go.AI
set_option maxRecDepth 100000
theorem aa0 {l:List Int} (h:(decide (l.length<=1000000)&&mi l)=true:=by decide +kernel):ar Tryz.prog 68 [.agg [bB l]] (.bool true):=by
 simp only [al,aO] at h;have c:=nW l h.1;rwa [h.2] at c
theorem aa2 (l:List jl) (hl:exE l):ar Tryz.prog 7 [mv l] (.bool true):=by
 have c:=sV l (by rcases hl with rfl | rfl <;> decide) (by rcases hl with rfl | rfl <;> decide);rwa [show yH l=true by rcases hl with rfl | rfl <;> decide +kernel] at c
def aaM (x y:Int):Prop:=(x=1/\y=0)\/(x=140737488355328/\y=1)
set_option maxHeartbeats 4000000 in
theorem ZP (x y:Int) (h:aaM x y):ar Tryz.prog 397 [.agg [bB exR],.agg [bB (Bz x)]] (.tup [.agg [bB (Bz y)],.int .i64 0]):=by
 have g0:ar Tryz.prog 68 [.agg [bB exR]] (.bool true):=aa0;have g1:ar Tryz.prog 68 [.agg [bB (Bz x)]] (.bool true):=by rcases h with ⟨rfl,rfl⟩ | ⟨rfl,rfl⟩ <;> exact aa0
 have c:ar Tryz.prog 399 [.agg [bB exR],.agg [bB (Bz x)],.fn 400] (.tup [.agg [bB (Bz y)],.int .i64 0]):=by
  refine ar.ofB af Tryz.func399 rfl aK bj (ah rfl) ?_;intro F b w0 m0 hG a h1;have kp:KP vk := .mk;rcases h with ⟨rfl,rfl⟩ | ⟨rfl,rfl⟩
  all_goals
   refine aI.seq ?_
   repeat' first|refine dz ?_|((conv=>whnf); first|refine ⟨fun h=>?_,fun h=>?_⟩|refine aj ?_)
   refine aI.seq ?_;refine aI.seq ?_
   repeat' first|refine dz ?_|((conv=>whnf); first|refine ae _ (aa g0 ?_)|refine ae _ (aa g1 ?_)|refine ⟨fun h=>?_,fun h=>?_⟩|refine aj ?_)
   refine aI.seq ?_;refine ji hG af vk 0 aK ?_
   conv=>whnf
   refine xF yi ?_;rintro r f ⟨e,cap,rfl,rfl⟩
   conv=>whnf
   refine bv ?_;refine aae fun Z d=>?_
   repeat' first
    | refine aI.unroll 26 ?_
    | refine QE [] rfl hG af kp ?_
    |((conv=>whnf); first
      | refine cZ ?_
      | refine cY ?_
      | refine aa aK ?_
      | refine aa bt (ae _ (aa rfl ?_))
      | refine aa bt ?_
      | refine ae 5000000 (ae _ (ae _ (ae _ (aa (aa rfl (aa rfl rfl)) ?_))))
      | refine ae _ (aa (LJ _ _) ?_)
      | refine ae _ (aa rfl ?_)
      | refine aj ?_)
   refine d _ _ ?_
   conv=>whnf
   first
    | refine iq 5000000 8 [bB (Bz 0)] rfl rfl (aa (bw ⟨rfl,rfl⟩) trivial) ?_
    | refine iq 5000000 8 [bB (Bz 1)] rfl rfl (aa (bw ⟨rfl,rfl⟩) trivial) ?_
   refine bv ?_
   all_goals exact Ez
 refine aM EV Tryz.func397 ?_;intro F b w0 m0 hG a h1 kp;refine bv ?_
 all_goals exact Ez
open Go Go.AI
set_option maxRecDepth 100000
theorem YU (x y:Int) (h:aaM x y):ar Tryz.prog 392 [.agg [bB (Bz x)],.agg [bB exR]] (.bool (y==0)):=by
 have a:=ZP x y h;rcases h with ⟨rfl,rfl⟩ | ⟨rfl,rfl⟩
 all_goals
  refine aM EW Tryz.func392 ?_;intro F c w0 m0 hG b h1 kp
  repeat' first|refine aQ ?_|((conv=>whnf); first|refine ae _ (aa (a) ?_)|refine aa (aa (ah rfl) (ah rfl)) ?_|refine aj ?_)
  all_goals exact Ez
def ab3 (e:jl) (r:Bool):Prop:=(e=rg.getD 0 Uv/\r=true)\/(e=rg.getD 1 Uv/\r=false)\/(e=M7.getD 0 Uv/\r=false)\/(e=M7.getD 1 Uv/\r=false)
theorem Al (e:jl) (r:Bool) (h:ab3 e r):ar Tryz.prog 380 [.agg (pm e),.ref (gQ Pq)] (.bool (!r)):=by
 have k1:=YU 1 0 (aj ⟨rfl,rfl⟩);have k2:=YU 140737488355328 1 (bw ⟨rfl,rfl⟩)
 have c:ar Tryz.prog 381 [.agg (gQ Pq),.agg (pm e)] (.bool r):=by
  rcases h with ⟨rfl,rfl⟩ | ⟨rfl,rfl⟩ | ⟨rfl,rfl⟩ | ⟨rfl,rfl⟩
  all_goals
   refine aM EX Tryz.func381 ?_;intro F b w0 m0 hG a h1 kp
   repeat' first|refine aQ ?_|((conv=>whnf); first|refine ae _ (aa (JL _ _ _) ?_)|refine ae _ (aa k1 ?_)|refine ae _ (aa k2 ?_)|refine aj ?_)
   all_goals exact Ez
 refine aM EY Tryz.func380 ?_;intro F b w0 m0 hG a h1 kp;refine bv ?_
 all_goals exact Ez
def exF (l:List jl) (r:List jl):Prop:=(l=rg/\r=rg.take 1)\/(l=M7/\r=[])
theorem aaZ (l r:List jl) (h:exF l r):bW Tryz.prog 248 [7000000] [] [.me .sl 7000000 2 [],.clo 380 [.ref (gQ Pq)]] (rw7 l) (.int .i64 r.length) (rw7 l):=by
 have c1:=Al (rg.getD 0 Uv) true (aj ⟨rfl,rfl⟩);have c2:=Al (rg.getD 1 Uv) false (bw (aj ⟨rfl,rfl⟩));have a:=Al (M7.getD 0 Uv) false (bw (bw (aj ⟨rfl,rfl⟩)));refine lR.ofB af Tryz.func248 rfl aK bj (ah rfl) ?_;intro F c w0 m0 hG b h1;have kp:KP vE := .mk;rcases h with ⟨rfl,rfl⟩ | ⟨rfl,rfl⟩
 all_goals
  repeat' first
   | refine aI.unroll 4 ?_
   | refine QE [] rfl hG af kp ?_
   |((conv=>whnf); first
     | refine cZ ?_
     | refine cY ?_
     | refine aa aK ?_
     | refine aa bt ?_
     | refine ae _ (aa c1 ?_)
     | refine ae _ (aa c2 ?_)
     | refine ae _ (aa a ?_)
     | refine ae _ (aa rfl ?_)
     | refine aj ?_)
  exact gj.mk (aj rfl) (ae _ (ae _ (aa (aa rfl rfl) (aa (aj (az rfl)) (aa aK aK)))))
set_option maxHeartbeats 8000000 in
theorem aa3 (l r:List jl) (h:exF l r):lR Tryz.prog 378 [5006000] [] [.me .sl 5006000 2 [],.clo 380 [.ref (gQ Pq)]] [(5006000,.me .arr 5006000 7 (l.map pm))] (fun v L=>v=mv r/\L=[]):=by
 have a:=aaZ l r h;have c2:=Al (rg.getD 1 Uv) false (bw (aj ⟨rfl,rfl⟩));have c:=Al (M7.getD 1 Uv) false (bw (bw (bw ⟨rfl,rfl⟩)));refine lR.ofB af Tryz.func378 rfl aK bj (ah rfl) ?_;intro F d w0 m0 hG b h1;have kp:KP vl := .mk;rcases h with ⟨rfl,rfl⟩ | ⟨rfl,rfl⟩
 all_goals
  refine gf 5006000 7000000 aK rfl ?_
  conv=>whnf
  repeat' first
   | refine aI.unroll 4 ?_
   |(refine Sz hG af vl 3 aK ?_; conv=>whnf
     refine bw ?_; conv=>whnf
     refine aa bt (aa bt (aa bt ?_)); conv=>whnf
     refine aa bt ?_; conv=>whnf
     refine aI.seq ?_)
   |(refine aI.frz [.tmp 4] ?_; conv=>whnf
     refine aI.ret hG af ?_;exact gj.mk (aj rfl) (ae _ (ae [] (aa (aa rfl rfl) (aa (aj (az rfl)) (aa rfl rfl))))))
   | refine QE [10] rfl hG af kp ?_
   |((conv=>whnf); first
     | refine cZ ?_
     | refine cY ?_
     | refine aa aK ?_
     | refine xE a ?_
     | refine aa bt ?_
     | refine ae _ (aa c2 ?_)
     | refine ae _ (aa c ?_)
     | refine ae _ (aa rfl ?_)
     | refine aj ?_)
open Go Go.AI
set_option maxRecDepth 100000
theorem ab6 (l:List jl) (h1n:1<=l.length) (hn:l.length<=1000000):lR Tryz.prog 379 [5006000] [] [mv l] [] (fun r L'=>r = .me .sl 5006000 l.length []/\L'=[(5006000,.me .arr 5006000 7 (l.map pm))]):=by
 let V0:=72; have V1:=Tryz.func379; let V2:=EZ; let V3:=@pm; exact L0
theorem aaY:ar Tryz.prog 364 [.sl .full 1 [[.int .i64 4]]] (bB [4]):=by
 have c1:lR Tryz.prog 82 [5000000] [] [.sl .full 1 [[.int .i64 4]]] [] (fun r e=>r = .me .sl 5000000 1 []/\e=[(5000000,.me .arr 5000000 1 [[.int .i64 4]])]):=by
  refine lR.ofB af Tryz.func82 rfl aK bj (ah rfl) ?_;intro F c w0 m0 hG b h1;have kp:KP fS := .mk
  repeat' first
   |(refine gf 7 5000000 aK rfl ?_; conv=>whnf
     refine aI.ret hG af ?_;exact gj.mk (aj rfl) (ae _ (ae _ (aa (aa rfl rfl) (aa (bw (aa rfl aK)) (aa aK aK))))))
   | refine nl hG af (M:=fun t=>t=162) gE fS aK ?_
   | refine QE [] rfl hG af kp ?_
   |((conv=>whnf); first
     | refine cZ ?_
     | refine cY ?_
     | refine aa aK ?_
     | refine aa (fun h=>nomatch h) ?_
     | refine bw (aa rfl (aa (ah rfl) (aa (ah rfl) (aa (ah rfl) ?_))))
     | refine aj ?_)
 have i:nG [4]=[4]:=by delta nG; rw [oq]; rfl
 rw [<- i];refine aM mz Tryz.func364 ?_;intro F c w0 m0 hG b h1 kp;refine aI.seq ?_
 repeat' first|refine dz ?_|((conv=>whnf); first|refine ⟨fun h=>?_,fun h=>?_⟩|refine aj ?_)
 refine aI.seq ?_;refine ji hG af mz 1 aK ?_
 conv=>whnf
 refine xF c1 ?_;rintro r j ⟨rfl,rfl⟩
 conv=>whnf
 refine aI.seq ?_;refine xm hG af mz 1 aK ?_
 conv=>whnf
 refine aa rfl (ae _ (ae _ (aa (ro [4] bt) (aa rfl (aa (oy [4]).symm ?_)))))
 conv=>whnf
 refine aI.seq ?_;refine xl hG af mz 1 aK ?_
 conv=>whnf
 refine ae _ (ae _ (aa (oa (sortI [4]) (by rw [wu]; decide)) (aa rfl (aa (Ab _) ?_))));rintro r a rfl f d
 conv=>whnf
 refine aI.ret hG af ?_;exact Ends.mk (aj rfl) (az (ax (fun z=>AV.sl .no 1 z) (oy _)))
theorem aaP (l r:List jl) (h:exF l r):ar Tryz.prog 363 [.agg [mv l,.int .i64 0],.agg (gQ Pq)] (mv r):=by
 have c1:=ab6 l (by rcases h with ⟨rfl,rfl⟩ | ⟨rfl,rfl⟩ <;> decide) (by rcases h with ⟨rfl,rfl⟩ | ⟨rfl,rfl⟩ <;> decide);have c2:=aa3 l r h;rw [show l.length=2 by rcases h with ⟨rfl,rfl⟩ | ⟨rfl,rfl⟩ <;> rfl] at c1;refine aM E1 Tryz.func363 ?_;intro F b w0 m0 hG a h1 kp
 repeat' first|refine QE [7,9] rfl hG af kp ?_|((conv=>whnf); first|refine cZ ?_|refine cY ?_|refine ed ?_|refine xE c1 ?_|refine xE c2 ?_|refine ⟨fun h=>?_,fun h=>?_⟩|refine aj ?_)
 all_goals exact Ez
def ZR (r:List jl):AV := .agg [.int .i64 0,match r with | [] => .sl .full 0 [] | _=>bB [4]]
theorem aaO (l r:List jl) (h:exF l r):ar Tryz.prog 345 [.agg [mv l,.int .i64 0],.agg (gQ Pq)] (.tup [ZR r,.bool (!r.isEmpty)]):=by
 have c1:=aaP l r h;rcases h with ⟨rfl,rfl⟩ | ⟨rfl,rfl⟩
 all_goals
  refine aM E2 Tryz.func345 ?_;intro F b w0 m0 hG a h1 kp
  repeat' first|refine aQ ?_|((conv=>whnf); first|refine cZ ?_|refine cY ?_|refine ae _ (aa (c1) ?_)|refine aa bt (ae _ (aa rfl ?_))|refine ae _ (aa aaY ?_)|refine aj ?_)
  all_goals exact Ez
def YJ:List (List Int×AV):=[([1],AV.fn 345),([2],AV.fn 346),([3],AV.fn 347),([4],AV.fn 348),([5],AV.fn 349),([6],AV.fn 350)]
theorem ZO:ar Tryz.prog 319 [] (.mapv (gp false YJ)):=by
 refine ar.ofB af Tryz.func319 rfl aK bj (ah rfl) ?_;intro F b w0 m0 hG a h1;have kp:KP Fc := .mk
 repeat' first
  |(refine LM 1 0 rfl rfl ?_; conv=>whnf
    refine aI.ret hG af ?_; exact Ez)
  | refine QE [] rfl hG af kp ?_
  |((conv=>whnf); first
    | refine cZ ?_
    | refine cY ?_
    | refine aa aK ?_
    | refine fun m=>?_
    | refine yC 1 [] [1] rfl ?_
    | refine yC 1 (YJ.take 1) [2] rfl ?_
    | refine yC 1 (YJ.take 2) [3] rfl ?_
    | refine yC 1 (YJ.take 3) [4] rfl ?_
    | refine yC 1 (YJ.take 4) [5] rfl ?_
    | refine yC 1 (YJ.take 5) [6] rfl ?_
    | refine aj ?_)
theorem aaW (l r:List jl) (h:exF l r):ar Tryz.prog 164 [.agg (dp (gP Pq)),mv l] (.tup [.bool (!r.isEmpty),.int .i64 0]):=by
 have hk:∀ p∈YJ,p.1.length=1:=by decide
 have d:=aaO l r h;have e:=aa2 l (h.imp (·.1) (·.1));have c:ar Tryz.prog 127 [.agg (dp (gP Pq))] (.bool true):=jd _ (j4.S Pq bt)
 have c1:ar Tryz.prog 288 [.agg [mv l,.int .i64 0],.agg (dp (gP Pq))] (.tup [ZR r,.bool (!r.isEmpty)]):=by
  rcases h with ⟨rfl,rfl⟩ | ⟨rfl,rfl⟩
  all_goals
   refine aM Fx Tryz.func288 ?_;intro F b w0 m0 hG a h1 kp
   repeat' first|refine aQ ?_|((conv=>whnf); first|refine ae _ (aa (ZO) ?_)|refine ae YJ (ae [1] (ae _ (aa (aa rfl (aa rfl (aa rfl (aa hk rfl)))) ?_)))|refine ae _ (aa (d) ?_)|refine aj ?_)
   all_goals exact Ez
 have c2:ar Tryz.prog 247 [.agg (dp (gP Pq)),mv l] (.tup [ZR r,.bool (!r.isEmpty),.int .i64 0]):=by
  rcases h with ⟨rfl,rfl⟩ | ⟨rfl,rfl⟩
  all_goals
   refine aM FP Tryz.func247 ?_;intro F b w0 m0 hG a h1 kp
   repeat' first|refine aQ ?_|((conv=>whnf); first|refine cZ ?_|refine cY ?_|refine ae _ (aa (c) ?_)|refine ae _ (aa (e) ?_)|refine ae _ (aa (c1) ?_)|refine aj ?_)
   all_goals exact Ez
 rcases h with ⟨rfl,rfl⟩ | ⟨rfl,rfl⟩
 all_goals
  refine aM GN Tryz.func164 ?_;intro F b w0 m0 hG a h1 kp
  repeat' first|refine aQ ?_|((conv=>whnf); first|refine ae _ (aa (c2) ?_)|refine aj ?_)
  all_goals exact Ez
theorem YT (e:jl) (h:e∈rg):ar Tryz.prog 163 [.agg (pm e),.ref (fL exO)] (.bool false):=by
 simp only [rg,bC,yL,or_false] at h;rcases h with rfl | rfl
 all_goals
  refine aM GO Tryz.func163 ?_;intro F b w0 m0 hG a h1 kp
  repeat' first|refine aQ ?_|((conv=>whnf); first|refine cZ ?_|refine cY ?_|refine aj ?_)
  all_goals exact Ez
theorem ab5:ar Tryz.prog 165 [mv rg,.clo 163 [.ref (fL exO)]] (.bool false):=by
 have k0:=YT (rg.getD 0 Uv) bt;have k1:=YT (rg.getD 1 Uv) bt
 have c:ar Tryz.prog 248 [mv rg,.clo 163 [.ref (fL exO)]] (.int .i64 (-1)):=by
  refine ar.ofB af Tryz.func248 rfl aK bj (ah rfl) ?_;intro F b w0 m0 hG a h1;have kp:KP vE := .mk
  repeat' first
   | refine aI.unroll 4 ?_
   | refine QE [] rfl hG af kp ?_
   |((conv=>whnf); first
     | refine cZ ?_
     | refine cY ?_
     | refine aa aK ?_
     | refine aa bt (ae _ (aa rfl ?_))
     | refine ae _ (aa k0 ?_)
     | refine ae _ (aa k1 ?_)
     | refine aj ?_)
  exact Ez
 refine aM GM Tryz.func165 ?_;intro F b w0 m0 hG a h1 kp;refine bv ?_
 all_goals exact Ez
theorem Ug (b:Nat) {u:iu} {o:dZ} {l r:List jl} (h:exU u o l) (k:exF l r):ar Tryz.prog 80 [cK b dD,.agg (eO u)] (.bool (!r.isEmpty)):=by
 have c1:=aaT b;have c2:=ZU b h;have a:=aaW l r k;have d:=ab5;rcases k with ⟨rfl,rfl⟩ | ⟨rfl,rfl⟩
 all_goals
  rcases h with ⟨rfl,rfl,h⟩ | ⟨rfl,rfl,h⟩
  all_goals first | exact absurd h bt | skip
  refine aM Ku Tryz.func80 ?_;intro F e w0 m0 hG c h1 kp
  repeat' first|refine aQ ?_|((conv=>whnf); first|refine cZ ?_|refine cY ?_|refine ae _ (aa (c1) ?_)|refine ae _ (aa (c2) ?_)|refine ae _ (aa (a) ?_)|refine ae _ (aa (d) ?_)|refine aj ?_)
  all_goals exact Ez
theorem Ed (b:Nat):ar Tryz.prog 80 [cK b dD,.agg (eO ⟨7,[0]⟩)] (.bool true)/\ar Tryz.prog 80 [cK b dD,.agg (eO ⟨7,[1]⟩)] (.bool false):=
 ⟨Ug b (aj ⟨rfl,rfl,rfl⟩) (aj ⟨rfl,rfl⟩),Ug b (bw ⟨rfl,rfl,rfl⟩) (bw ⟨rfl,rfl⟩)⟩
end Go.Proofs
