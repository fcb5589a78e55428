/- Part 14 of the proof: an abstract interpreter for the code, contracts of the functions, and plain facts; the conditions are those typed. -/
import Derived.Test.YtapmehbkgihgaaaGreatDoorNH
set_option linter.unusedSectionVars false
set_option linter.unusedVariables false
set_option linter.unusedSimpArgs false
namespace Go.Proofs
open Go Go.AI
set_option maxRecDepth 100000
set_option maxHeartbeats 16000000
theorem yB (b:Nat) {o:d4} (h:o=qc\/o=ql):aq Tryz.prog 24 [cA b dB,.agg (bO o)] (.bool true):=by
 have f:=iz dB.passes bq;rw [show jq dB.passes=true by decide +kernel] at f
 have c1:aq Tryz.prog 202 [.agg (bO o),cZ dB.passes] (.bool true):=by
  rcases h with rfl | rfl
  all_goals exact dR FQ Tryz.func202
 have c2:aq Tryz.prog 204 [vX o.sl] (bu [0,1]):=by
  refine aM mv Tryz.func204 ?_;intro F e w0 m0 hG c h1 kp;have i:jC [0,1]=[0,1]:=by delta jC; rw [jA]; rfl
  rcases h with rfl | rfl
  all_goals
   refine aJ.seq ?_;refine mZ hG af mv [2] aI ?_
   conv=>whnf
   refine kL fun Z d=>?_
   repeat' first
    | refine aJ.unroll 4 ?_
    | refine QE [] rfl hG af kp ?_
    |((conv=>whnf); first
      | refine cX ?_
      | refine cW ?_
      | refine aa aI ?_
      | refine aa bq (ae _ (aa rfl ?_))
      | refine bA (aa rfl (aa (ah rfl) (aa (ah rfl) (aa (ah rfl) ?_))))
      | refine aa (ah rfl) ?_)
   conv=>whnf
   refine d _ ?_;clear d Z
   conv=>whnf
   refine aJ.seq ?_;refine r9 hG af mv 1 aI ?_
   conv=>whnf
   refine aa rfl (ae _ (ae _ (aa (nE [0,1] bq) (aa rfl (aa (mU [0,1]).symm ?_)))))
   conv=>whnf
   refine aJ.seq ?_;refine r8 hG af mv 1 aI ?_
   conv=>whnf
   refine ae _ (ae _ (aa (lz (sortI [0,1]) (by rw [oc]; decide)) (aa rfl (aa (oi _) ?_))));rintro r a rfl _ _
   conv=>whnf
   refine bz ?_;exact Ends.mk (ak rfl) (ay ((ax (fun z=>AV.sl .no 1 z) (mU _)).trans (ax bu i)))
 have j:aq Tryz.prog 203 [cZ dB.passes,bu [0,1]] (.int .i64 2):=by
  refine aM FP Tryz.func203 ?_;intro F e w0 m0 hG c h1 kp
  repeat' first
   | refine aJ.unroll 4 ?_
   | refine QE [] rfl hG af kp ?_
   |((conv=>whnf); first
     | refine cX ?_
     | refine cW ?_
     | refine aa aI ?_
     | refine fun m=>?_
     | refine aa bq (ae _ (aa rfl ?_))
     | refine uo 9 [] [0] rfl ?_
     | refine uo 9 [([0],.int .i64 1)] [0] rfl ?_
     | refine PQ 9 [] [0] rfl ?_
     | refine PQ 9 [([0],.int .i64 1)] [0] rfl ?_
     | refine PQ 9 [([0],.int .i64 2)] [0] rfl ?_
     | refine aa bq ?_
     | refine ak ?_)
  all_goals exact Ez
 have p:aq Tryz.prog 123 [.int .i64 1] (.bool true):=dR GL Tryz.func123
 have l:aq Tryz.prog 122 [.agg (bO o),cZ dB.passes] (.tup [.int .i64 2,.int .i64 0]):=by
  rcases h with rfl | rfl
  all_goals exact dR GM Tryz.func122
 have n:aq Tryz.prog 57 [.agg (bO o),cZ dB.passes,.int .i64 1] (.tup [.bool true,.int .i64 0]):=by
  rcases h with rfl | rfl
  all_goals exact dR Kb Tryz.func57
 rcases h with rfl | rfl
 all_goals exact dR Kr Tryz.func24
end Go.Proofs
