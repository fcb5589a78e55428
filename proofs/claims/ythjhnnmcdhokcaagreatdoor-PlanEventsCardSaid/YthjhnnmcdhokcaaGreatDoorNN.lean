/- Part 14 of the proof: an abstract interpreter for the code, contracts of the functions, and plain facts; the conditions are those typed. -/
import Derived.Test.YthjhnnmcdhokcaaGreatDoorNH
set_option linter.unusedSectionVars false
set_option linter.unusedVariables false
set_option linter.unusedSimpArgs false
namespace Go.Proofs
open Go Go.AI
set_option maxRecDepth 100000
set_option maxHeartbeats 16000000
theorem y5 (b:Nat) {o:dZ} (h:o=qn\/o=qm):ar Tryz.prog 30 [cK b dD,.agg (bL o)] (.bool true):=by
 have f:=jS dD.passes bt;rw [show j9 dD.passes=true by decide +kernel] at f
 have c1:ar Tryz.prog 230 [.agg (bL o),dt dD.passes] (.bool true):=by
  rcases h with rfl | rfl
  all_goals exact dK F4 Tryz.func230
 have c2:ar Tryz.prog 232 [wv o.sl] (bB [0,1]):=by
  refine aM mC Tryz.func232 ?_;intro F e w0 m0 hG c h1 kp;have i:nG [0,1]=[0,1]:=by delta nG; rw [oq]; rfl
  rcases h with rfl | rfl
  all_goals
   refine aI.seq ?_;refine nk hG af mC [2] aK ?_
   conv=>whnf
   refine jL fun Z d=>?_
   repeat' first
    | refine aI.unroll 4 ?_
    | refine QE [] rfl hG af kp ?_
    |((conv=>whnf); first
      | refine cZ ?_
      | refine cY ?_
      | refine aa aK ?_
      | refine aa bt (ae _ (aa rfl ?_))
      | refine bw (aa rfl (aa (ah rfl) (aa (ah rfl) (aa (ah rfl) ?_))))
      | refine aa (ah rfl) ?_)
   conv=>whnf
   refine d _ ?_;clear d Z
   conv=>whnf
   refine aI.seq ?_;refine xm hG af mC 1 aK ?_
   conv=>whnf
   refine aa rfl (ae _ (ae _ (aa (ro [0,1] bt) (aa rfl (aa (oy [0,1]).symm ?_)))))
   conv=>whnf
   refine aI.seq ?_;refine xl hG af mC 1 aK ?_
   conv=>whnf
   refine ae _ (ae _ (aa (oa (sortI [0,1]) (by rw [wu]; decide)) (aa rfl (aa (Ab _) ?_))));rintro r a rfl _ _
   conv=>whnf
   refine bv ?_;exact Ends.mk (aj rfl) (az ((ax (fun z=>AV.sl .no 1 z) (oy _)).trans (ax bB i)))
 have j:ar Tryz.prog 231 [dt dD.passes,bB [0,1]] (.int .i64 2):=by
  refine aM F3 Tryz.func231 ?_;intro F e w0 m0 hG c h1 kp
  repeat' first
   | refine aI.unroll 4 ?_
   | refine QE [] rfl hG af kp ?_
   |((conv=>whnf); first
     | refine cZ ?_
     | refine cY ?_
     | refine aa aK ?_
     | refine fun m=>?_
     | refine aa bt (ae _ (aa rfl ?_))
     | refine yC 9 [] [0] rfl ?_
     | refine yC 9 [([0],.int .i64 1)] [0] rfl ?_
     | refine YL 9 [] [0] rfl ?_
     | refine YL 9 [([0],.int .i64 1)] [0] rfl ?_
     | refine YL 9 [([0],.int .i64 2)] [0] rfl ?_
     | refine aa bt ?_
     | refine aj ?_)
  all_goals exact Ez
 have p:ar Tryz.prog 150 [.int .i64 1] (.bool true):=dK GX Tryz.func150
 have l:ar Tryz.prog 149 [.agg (bL o),dt dD.passes] (.tup [.int .i64 2,.int .i64 0]):=by
  rcases h with rfl | rfl
  all_goals exact dK GY Tryz.func149
 have n:ar Tryz.prog 71 [.agg (bL o),dt dD.passes,.int .i64 1] (.tup [.bool true,.int .i64 0]):=by
  rcases h with rfl | rfl
  all_goals exact dK KA Tryz.func71
 rcases h with rfl | rfl
 all_goals exact dK KY Tryz.func30
end Go.Proofs
