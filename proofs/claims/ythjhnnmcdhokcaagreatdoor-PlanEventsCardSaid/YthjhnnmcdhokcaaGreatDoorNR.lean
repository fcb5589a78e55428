/- Part 18 of the proof: an abstract interpreter for the code, contracts of the functions, and plain facts; the conditions are those typed. -/
import Derived.Test.YthjhnnmcdhokcaaGreatDoorNH
import Derived.Test.YthjhnnmcdhokcaaGreatDoorNL
set_option linter.unusedSectionVars false
set_option linter.unusedVariables false
set_option linter.unusedSimpArgs false
namespace Go.Proofs
open Go Go.AI
set_option maxRecDepth 100000
theorem X7 {p:Prop} (h:p:=by
 refine lR.ofB af Tryz.func38 rfl aK bj (ah rfl) ?_;intro F n' w0 m0 hG hro h1;have kp:KP KU := .mk
 repeat'
  first
   | refine aI.unroll 17 ?_
   | refine QE [96,131,150,191] rfl hG af kp ?_
   |((conv=>whnf); first
    | refine cZ ?_
    | refine cY ?_
    | refine aa aK ?_
    | refine fun m=>?_
    | refine aa bt (ae _ (aa rfl ?_))
    | refine yC 24 [] [7] rfl ?_
    | refine yC 24 [([7],.int .i64 1)] [7] rfl ?_
    | refine yC 25 [] [7] rfl ?_
    | refine yC 25 [([7],.int .i64 0)] [7] rfl ?_
    | refine YL 24 [] [7] rfl ?_
    | refine YL 24 [([7],.int .i64 1)] [7] rfl ?_
    | refine YL 24 [([7],.int .i64 2)] [7] rfl ?_
    | refine YL 25 [([7],.int .i64 0)] [7] rfl ?_
    | refine YL 25 [([7],.int .i64 1)] [7] rfl ?_
    | refine aa bt ?_
    | refine ae _ (aa rfl ?_)
    | refine ae _ (aa v0 ?_)
    | refine ae _ (aa v1 ?_)
    | refine ae _ (aa oA ?_)
    | refine ae _ (aa oB ?_)
    | refine xE a1 ?_
    | refine xE a2 ?_
    | refine aj ?_)
 conv=>whnf
 exact gj.mk (bw rfl) (ae (.tup []) (ae _ (aa (aa rfl rfl) (aa (aj (az rfl)) (aa aK aK)))))):p:=h
theorem Uh (b:Nat):ar Tryz.prog 81 [cK b dD,.agg (bL qn)] (.int .i64 1)/\ar Tryz.prog 81 [cK b dD,.agg (bL qm)] (.int .i64 1):=⟨tL b dD Ee qn,tL b dD Ee qm⟩
set_option maxHeartbeats 64000000 in
theorem abi (b:Nat):bW Tryz.prog 38 [5000011] [5004000] [cK b dD,bB [0],dl [qn]] (LP b []) (.tup []) (LP b []):=by
 obtain ⟨v0,v1⟩:=Ed b;obtain ⟨oA,oB⟩:=Uh b;exact X7
set_option maxHeartbeats 64000000 in
theorem abh (b:Nat):bW Tryz.prog 38 [5000011] [5004000] [cK b dD,bB [1],dl [qm]] (LP b []) (.tup []) (LP b [⟨8,7,1,0⟩]):=by
 obtain ⟨v0,v1⟩:=Ed b;obtain ⟨oA,oB⟩:=Uh b;have a1:=vP b dD [] bt 8 7 1 0;exact X7
set_option maxHeartbeats 64000000 in
theorem abg (b:Nat):bW Tryz.prog 38 [5000011] [5004000] [cK b dD,bB [0,1],dl [qn,qm]] (LP b []) (.tup []) (LP b [⟨8,7,2,0⟩,⟨11,1,5,0⟩]):=by
 obtain ⟨v0,v1⟩:=Ed b;obtain ⟨oA,oB⟩:=Uh b;have a1:=vP b dD [] bt 8 7 2 0;have a2:=vP b dD [⟨8,7,2,0⟩] bt 11 1 5 0;exact X7
open Go Go.AI
set_option maxRecDepth 100000
def aa6 (c:List Int) (l:List dZ) (f:List Wl) (t:List Int):Prop:=(c=[0]/\l=[qn]/\f=[]/\t=[20,50])\/(c=[1]/\l=[qm]/\f=[⟨8,7,1,0⟩]/\t=[23,53])\/(c=[0,1]/\l=[qn,qm]/\f=[⟨8,7,2,0⟩,⟨11,1,5,0⟩]/\t=[20,23,50,53])
set_option maxHeartbeats 64000000 in
theorem Uq {c:List Int} {l:List dZ} {f:List Wl} {t:List Int} (h:aa6 c l f t)
  (n:ar Tryz.prog 14 [.agg (gC dD)] (.bool true))
  (q:ar Tryz.prog 27 [bB c,.int .i64 2] (.bool true))
  (c1:lR Tryz.prog 29 [5000000] [] [.me .sl 5000000 c.length []] [(5000000,.me .arr 5000000 1 (c.map fun h=>[AV.int .i64 h]))] (fun r L=>r=bB c/\L=[]))
  (o:∀ b,ar Tryz.prog 28 [cK b dD,.agg (eO ⟨0,c⟩),.lit .nilFunc] (dl l))
  (i:∀ b,ar Tryz.prog 30 [cK b dD,.agg (bL qn)] (.bool true)/\ar Tryz.prog 30 [cK b dD,.agg (bL qm)] (.bool true))
  (p:lR Tryz.prog 33 [5006000] [] [dl l] [] (fun r j=>r = .me .sl 5006000 l.length []/\j=[(5006000,.me .arr 5006000 9 (l.map bL))]))
  (y:lR Tryz.prog 32 [5006000] [] [.me .sl 5006000 l.length [],.clo 34 [.ref (bR gh)]] [(5006000,.me .arr 5006000 9 (l.map bL))] (fun r L=>r=dl l/\L=[]))
  (w:ar Tryz.prog 35 [.agg (bR gh),dl l,dt dD.passes,.agg (cA 0 100)] (.tup [lF [],.int .i64 0]))
  (a:∀ b,ar Tryz.prog 36 [cK b dD,dl l,.int .i64 0] (bB t))
  (d:∀ b,∀ x∈t,ar Tryz.prog 37 [cK b dD,dl l,.int .i64 0,.int .i64 x] (.int .i64 1))
  (e:∀ b,bW Tryz.prog 38 [5000011] [5004000] [cK b dD,bB c,dl l] (LP b []) (.tup []) (LP b f)) :
  ar Tryz.prog 9 [.agg (gC dD),bB c] (.tup [lF f,.int .i64 0]):=by
 rcases h with ⟨rfl,rfl,rfl,rfl⟩ | ⟨rfl,rfl,rfl,rfl⟩ | ⟨rfl,rfl,rfl,rfl⟩
 all_goals
  refine aM jg Tryz.func9 ?_;intro F z w0 m0 hG m h1 kp;refine aI.seq ?_
  repeat' first|refine dz ?_|((conv=>whnf); first|refine aj ?_)
  refine aI.seq ?_;refine aI.seq ?_
  repeat' first|refine dz ?_|((conv=>whnf); first|refine ae _ (aa (n) ?_)|refine ae _ (aa (q) ?_)|refine ⟨fun h=>?_,fun h=>?_⟩|refine aj ?_)
  repeat' first|refine dz ?_|((conv=>whnf); first|refine ⟨fun h=>?_,fun h=>?_⟩|refine aj ?_)
  conv=>whnf
  refine aI.seq ?_;refine aI.reg hG af jg aK ?_
  conv=>whnf
  refine io 36 11 5004000 4 rfl rfl ?_
  conv=>whnf
  refine aI.pin 36 5000011 rfl rfl rfl (fun b=>?_)
  conv=>whnf
  refine aI.seq ?_;refine nk hG af jg [7] aK ?_
  conv=>whnf
  have c2:=o b;have e:=e b;have a:=a b;have d:=d b;obtain ⟨i,u⟩:=i b;refine jL fun Z v=>?_
  repeat' first
   | refine aI.unroll 4 ?_
   | refine QE [] rfl hG af kp ?_
   |((conv=>whnf); first
     | refine cZ ?_
     | refine cY ?_
     | refine aa aK ?_
     | refine aa bt (ae _ (aa rfl ?_))
     | refine bw (aa rfl (aa (ah rfl) (aa (ah rfl) (aa (ah rfl) ?_))))
     | refine aa (ah rfl) (aa (ah rfl) (aa (ah rfl) ?_))
     | refine aj ?_)
  conv=>whnf
  refine v _ ?_
  conv=>whnf
  refine gf 50 5000000 aK rfl ?_
  repeat' first
   | refine aI.unroll 6 ?_
   | refine QE [54,83,85,146] rfl hG af kp ?_
   |((conv=>whnf); first
     | refine cZ ?_
     | refine cY ?_
     | refine aa aK ?_
     | refine aa bt (ae _ (aa rfl ?_))
     | refine xE c1 ?_
     | refine xE p ?_
     | refine xE y ?_
     | refine xE e ?_
     | refine ae _ (aa c2 ?_)
     | refine ae _ (aa i ?_)
     | refine ae _ (aa u ?_)
     | refine ae _ (aa w ?_)
     | refine ae _ (aa a ?_)
     | refine ae _ (aa (d _ bt) ?_)
     | refine aa (ah rfl) (aa (ah rfl) ?_)
     | refine aj ?_)
  all_goals exact Ez
end Go.Proofs
