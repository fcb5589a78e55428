/- Part 18 of the proof: an abstract interpreter for the code, contracts of the functions, and plain facts; the conditions are those typed. -/
import Derived.Test.YtapmehbkgihgaaaGreatDoorNH
import Derived.Test.YtapmehbkgihgaaaGreatDoorNL
set_option linter.unusedSectionVars false
set_option linter.unusedVariables false
set_option linter.unusedSimpArgs false
namespace Go.Proofs
open Go Go.AI
set_option maxRecDepth 100000
theorem Y4 {p:Prop} (h:p:=by
 refine lP.ofB af Tryz.func32 rfl aI bh (ah rfl) ?_;intro F n' w0 m0 hG hro h1;have kp:KP lI := .mk
 repeat'
  first
   | refine aJ.unroll 17 ?_
   | refine QE [96,131,150,191] rfl hG af kp ?_
   |((conv=>whnf); first
    | refine cX ?_
    | refine cW ?_
    | refine aa aI ?_
    | refine fun m=>?_
    | refine aa bq (ae _ (aa rfl ?_))
    | refine uo 24 [] [7] rfl ?_
    | refine uo 24 [([7],.int .i64 1)] [7] rfl ?_
    | refine uo 25 [] [7] rfl ?_
    | refine uo 25 [([7],.int .i64 0)] [7] rfl ?_
    | refine PQ 24 [] [7] rfl ?_
    | refine PQ 24 [([7],.int .i64 1)] [7] rfl ?_
    | refine PQ 24 [([7],.int .i64 2)] [7] rfl ?_
    | refine PQ 25 [([7],.int .i64 0)] [7] rfl ?_
    | refine PQ 25 [([7],.int .i64 1)] [7] rfl ?_
    | refine aa bq ?_
    | refine ae _ (aa rfl ?_)
    | refine ae _ (aa v0 ?_)
    | refine ae _ (aa v1 ?_)
    | refine ae _ (aa oA ?_)
    | refine ae _ (aa oB ?_)
    | refine xE a1 ?_
    | refine xE a2 ?_
    | refine ak ?_)
 conv=>whnf
 exact gc.mk (bA rfl) (ae (.tup []) (ae _ (aa (aa rfl rfl) (aa (ak (ay rfl)) (aa aI aI)))))):p:=h
theorem Ty (b:Nat):aq Tryz.prog 67 [cA b dB,.agg (bO qc)] (.int .i64 1)/\aq Tryz.prog 67 [cA b dB,.agg (bO ql)] (.int .i64 1):=⟨tv b dB zK qc,tv b dB zK ql⟩
set_option maxHeartbeats 64000000 in
theorem aas (b:Nat):bX Tryz.prog 32 [5000011] [5004000] [cA b dB,bu [0],cH [qc]] (LP b []) (.tup []) (LP b []):=by
 obtain ⟨v0,v1⟩:=DB b;obtain ⟨oA,oB⟩:=Ty b;exact Y4
set_option maxHeartbeats 64000000 in
theorem aar (b:Nat):bX Tryz.prog 32 [5000011] [5004000] [cA b dB,bu [1],cH [ql]] (LP b []) (.tup []) (LP b [⟨8,7,1,0⟩]):=by
 obtain ⟨v0,v1⟩:=DB b;obtain ⟨oA,oB⟩:=Ty b;have a1:=vt b dB [] bq 8 7 1 0;exact Y4
set_option maxHeartbeats 64000000 in
theorem aaq (b:Nat):bX Tryz.prog 32 [5000011] [5004000] [cA b dB,bu [0,1],cH [qc,ql]] (LP b []) (.tup []) (LP b [⟨8,7,2,0⟩,⟨11,1,5,0⟩]):=by
 obtain ⟨v0,v1⟩:=DB b;obtain ⟨oA,oB⟩:=Ty b;have a1:=vt b dB [] bq 8 7 2 0;have a2:=vt b dB [⟨8,7,2,0⟩] bq 11 1 5 0;exact Y4
open Go Go.AI
set_option maxRecDepth 100000
def aah (c:List Int) (l:List d4) (f:List yo) (t:List Int):Prop:=(c=[0]/\l=[qc]/\f=[]/\t=[20,50])\/(c=[1]/\l=[ql]/\f=[⟨8,7,1,0⟩]/\t=[23,53])\/(c=[0,1]/\l=[qc,ql]/\f=[⟨8,7,2,0⟩,⟨11,1,5,0⟩]/\t=[20,23,50,53])
set_option maxHeartbeats 64000000 in
theorem TK {c:List Int} {l:List d4} {f:List yo} {t:List Int} (h:aah c l f t)
  (n:aq Tryz.prog 13 [.agg (gz dB)] (.bool true))
  (q:aq Tryz.prog 21 [bu c,.int .i64 2] (.bool true))
  (c1:lP Tryz.prog 23 [5000000] [] [.me .sl 5000000 c.length []] [(5000000,.me .arr 5000000 1 (c.map fun h=>[AV.int .i64 h]))] (fun r L=>r=bu c/\L=[]))
  (o:∀ b,aq Tryz.prog 22 [cA b dB,.agg (fH ⟨0,c⟩),.lit .nilFunc] (cH l))
  (i:∀ b,aq Tryz.prog 24 [cA b dB,.agg (bO qc)] (.bool true)/\aq Tryz.prog 24 [cA b dB,.agg (bO ql)] (.bool true))
  (p:lP Tryz.prog 27 [5006000] [] [cH l] [] (fun r j=>r = .me .sl 5006000 l.length []/\j=[(5006000,.me .arr 5006000 9 (l.map bO))]))
  (y:lP Tryz.prog 26 [5006000] [] [.me .sl 5006000 l.length [],.clo 28 [.ref (bM fL)]] [(5006000,.me .arr 5006000 9 (l.map bO))] (fun r L=>r=cH l/\L=[]))
  (w:aq Tryz.prog 29 [.agg (bM fL),cH l,cZ dB.passes,.agg (cj 0 100)] (.tup [jr [],.int .i64 0]))
  (a:∀ b,aq Tryz.prog 30 [cA b dB,cH l,.int .i64 0] (bu t))
  (d:∀ b,∀ x∈t,aq Tryz.prog 31 [cA b dB,cH l,.int .i64 0,.int .i64 x] (.int .i64 1))
  (e:∀ b,bX Tryz.prog 32 [5000011] [5004000] [cA b dB,bu c,cH l] (LP b []) (.tup []) (LP b f)) :
  aq Tryz.prog 6 [.agg (gz dB),bu c] (.tup [jr f,.int .i64 0]):=by
 rcases h with ⟨rfl,rfl,rfl,rfl⟩ | ⟨rfl,rfl,rfl,rfl⟩ | ⟨rfl,rfl,rfl,rfl⟩
 all_goals
  refine aM je Tryz.func6 ?_;intro F z w0 m0 hG m h1 kp;refine aJ.seq ?_
  repeat' first|refine du ?_|((conv=>whnf); first|refine ak ?_)
  refine aJ.seq ?_;refine aJ.seq ?_
  repeat' first|refine du ?_|((conv=>whnf); first|refine ae _ (aa (n) ?_)|refine ae _ (aa (q) ?_)|refine ⟨fun h=>?_,fun h=>?_⟩|refine ak ?_)
  repeat' first|refine du ?_|((conv=>whnf); first|refine ⟨fun h=>?_,fun h=>?_⟩|refine ak ?_)
  conv=>whnf
  refine aJ.seq ?_;refine aJ.reg hG af je aI ?_
  conv=>whnf
  refine ii 36 11 5004000 4 rfl rfl ?_
  conv=>whnf
  refine aJ.pin 36 5000011 rfl rfl rfl (fun b=>?_)
  conv=>whnf
  refine aJ.seq ?_;refine mZ hG af je [7] aI ?_
  conv=>whnf
  have c2:=o b;have e:=e b;have a:=a b;have d:=d b;obtain ⟨i,u⟩:=i b;refine kL fun Z v=>?_
  repeat' first
   | refine aJ.unroll 4 ?_
   | refine QE [] rfl hG af kp ?_
   |((conv=>whnf); first
     | refine cX ?_
     | refine cW ?_
     | refine aa aI ?_
     | refine aa bq (ae _ (aa rfl ?_))
     | refine bA (aa rfl (aa (ah rfl) (aa (ah rfl) (aa (ah rfl) ?_))))
     | refine aa (ah rfl) (aa (ah rfl) (aa (ah rfl) ?_))
     | refine ak ?_)
  conv=>whnf
  refine v _ ?_
  conv=>whnf
  refine gq 50 5000000 aI rfl ?_
  repeat' first
   | refine aJ.unroll 6 ?_
   | refine QE [54,83,85,146] rfl hG af kp ?_
   |((conv=>whnf); first
     | refine cX ?_
     | refine cW ?_
     | refine aa aI ?_
     | refine aa bq (ae _ (aa rfl ?_))
     | refine xE c1 ?_
     | refine xE p ?_
     | refine xE y ?_
     | refine xE e ?_
     | refine ae _ (aa c2 ?_)
     | refine ae _ (aa i ?_)
     | refine ae _ (aa u ?_)
     | refine ae _ (aa w ?_)
     | refine ae _ (aa a ?_)
     | refine ae _ (aa (d _ bq) ?_)
     | refine aa (ah rfl) (aa (ah rfl) ?_)
     | refine ak ?_)
  all_goals exact Ez
end Go.Proofs
