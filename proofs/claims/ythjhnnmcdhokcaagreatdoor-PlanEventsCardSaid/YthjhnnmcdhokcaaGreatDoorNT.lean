/- Part 20 of the proof: an abstract interpreter for the code, contracts of the functions, and plain facts; the conditions are those typed. -/
import Derived.Test.YthjhnnmcdhokcaaGreatDoorNH
import Derived.Test.YthjhnnmcdhokcaaGreatDoorNO
import Derived.Test.YthjhnnmcdhokcaaGreatDoorNR
set_option linter.unusedSectionVars false
set_option linter.unusedVariables false
set_option linter.unusedSimpArgs false
namespace Go.Proofs
open Go Go.AI
set_option maxRecDepth 100000
set_option maxHeartbeats 64000000 in
theorem abf (b:Nat):bW Tryz.prog 38 [5000011] [5004000] [cK b dD,bB [],dl []] (LP b []) (.tup []) (LP b [⟨9,7,0,0⟩]):=by
 have a1:=vP b dD [] bt 9 7 0 0;exact X7
theorem ZZ (b:Nat):ar Tryz.prog 36 [cK b dD,dl [],.int .i64 0] (bB []):=by
 have c1:=tK b dD [] 0;have c2:ar Tryz.prog 29 [.sl .no 0 []] (bB []):=Pp (bw rfl);have a:jA Tryz.prog Yy 162 [.ref [dl []],.ref [cK b dD],.ref [.int .i64 0]] []:=HF pQ Tryz.func162;refine aM yc Tryz.func36 ?_;intro F d w0 m0 hG c h1 kp
 repeat' first|refine A5 hG (bH bt h1) Yy [7,6] rfl a (fun _=>rfl) aK bt rfl ?_|refine bv ?_|fail
 all_goals exact Ez
set_option maxHeartbeats 16000000 in
theorem aa5 (e:ar Tryz.prog 14 [.agg (gC dD)] (.bool true)):ar Tryz.prog 9 [.agg (gC dD),bB []] (.tup [lF [⟨9,7,0,0⟩],.int .i64 0]):=by
 have c:=nR [] 2 bt bt;have i:=Pk (aj rfl) Ul bt (by decide +kernel) (by decide +kernel) (by decide +kernel) (by decide +kernel) (by decide +kernel);refine aM jg Tryz.func9 ?_;intro F l w0 m0 hG d h1 kp;refine aI.seq ?_
 repeat' first|refine dz ?_|((conv=>whnf); first|refine aj ?_)
 refine aI.seq ?_;refine aI.seq ?_
 repeat' first|refine dz ?_|((conv=>whnf); first|refine ae _ (aa (e) ?_)|refine ae _ (aa (c) ?_)|refine ⟨fun h=>?_,fun h=>?_⟩|refine aj ?_)
 repeat' first|refine dz ?_|((conv=>whnf); first|refine ⟨fun h=>?_,fun h=>?_⟩|refine aj ?_)
 conv=>whnf
 refine aI.seq ?_;refine aI.reg hG af jg aK ?_
 conv=>whnf
 refine io 36 11 5004000 4 rfl rfl ?_
 conv=>whnf
 refine aI.pin 36 5000011 rfl rfl rfl (fun b=>?_)
 conv=>whnf
 refine aI.seq ?_;refine nk hG af jg [7] aK ?_
 conv=>whnf
 have f:=kg b dD Ee ⟨0,[]⟩ bt bt;have j:=abf b;have a:=ZZ b
 repeat' first
  | refine aI.unroll 6 ?_
  | refine QE [146] rfl hG af kp ?_
  |((conv=>whnf); first
    | refine cZ ?_
    | refine cY ?_
    | refine aa aK ?_
    | refine aa bt (ae _ (aa rfl ?_))
    | refine xE j ?_
    | refine ae _ (aa (Pp (aj rfl)) ?_)
    | refine ae _ (aa f ?_)
    | refine ae _ (aa AW ?_)
    | refine ae _ (aa (HE _ _) ?_)
    | refine ae _ (aa i ?_)
    | refine ae _ (aa a ?_)
    | refine aa (ah rfl) (aa (ah rfl) ?_)
    | refine aj ?_)
 all_goals exact Ez
end Go.Proofs
