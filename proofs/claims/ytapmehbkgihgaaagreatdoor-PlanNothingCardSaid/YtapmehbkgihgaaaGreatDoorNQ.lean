/- Part 17 of the proof: an abstract interpreter for the code, contracts of the functions, and plain facts; the conditions are those typed. -/
import Derived.Test.YtapmehbkgihgaaaGreatDoorNH
import Derived.Test.YtapmehbkgihgaaaGreatDoorNL
import Derived.Test.YtapmehbkgihgaaaGreatDoorNM
import Derived.Test.YtapmehbkgihgaaaGreatDoorNN
import Derived.Test.YtapmehbkgihgaaaGreatDoorNP
set_option linter.unusedSectionVars false
set_option linter.unusedVariables false
set_option linter.unusedSimpArgs false
namespace Go.Proofs
open Go Go.AI
set_option maxRecDepth 100000
def YX (t:Int):Hb:=(⟨7,0,0,t,[],1⟩,AY (fun j=>Sz dB (xp dB (Be dB j).opts) 0 t) 2)
def Tw (t:Int):Prop:=t=20\/t=23\/t=50\/t=53
theorem aak (t:Int) (h:Tw t):wS (YX t).2:=C2 (ex2 (by rcases h with rfl | rfl | rfl | rfl <;> decide +kernel) (by rcases h with rfl | rfl | rfl | rfl <;> decide +kernel))
theorem aai (b:Nat) {t:Int} (h:Tw t) (j:Nat) (hj:j<2):aq Tryz.prog 41 [.int .i64 j,.agg (fH (Be dB j)),.ref [cA b dB],.ref (eB ⟨0,0,0,0,1,0⟩),.ref [.int .i64 t]] (.int .i64 (Sz dB (xp dB (Be dB j).opts) 0 t)):=by
 have c1:=jd b dB zK ⟨7,[0]⟩ bq bq;have c2:=jd b dB zK ⟨7,[1]⟩ bq bq;have k1:=Mv b (ak ⟨rfl,rfl⟩) h;have k2:=Mv b (bA (ak ⟨rfl,rfl⟩)) h;obtain rfl | rfl:j=0\/j=1:=by omega
 all_goals exact dR Km Tryz.func41
set_option maxHeartbeats 64000000 in
theorem WQ:aq Tryz.prog 9 [.agg (gz dB)] (.tup [HQ [A8,IE,Qd,WR],.int .i64 0]):=by
 have a:=jb dB IF;rw [YL] at a;refine aq.ofB af Tryz.func9 rfl aI bh (ah rfl) ?_;intro F m w0 m0 hG d n;have kp:KP Ao := .mk;refine aJ.seq ?_
 repeat' first|refine du ?_|((conv=>whnf); first|refine ⟨fun h=>?_,fun h=>?_⟩|refine ak ?_)
 refine aJ.seq ?_;refine aJ.seq ?_
 repeat' first|refine du ?_|((conv=>whnf); first|refine ae _ (aa (a) ?_)|refine ⟨fun h=>?_,fun h=>?_⟩|refine ak ?_)
 repeat' first|refine du ?_|((conv=>whnf); first|refine ⟨fun h=>?_,fun h=>?_⟩|refine ak ?_)
 conv=>whnf
 refine aJ.seq ?_;refine Vn hG af Ao 2 aI ?_
 conv=>whnf
 refine Tr.own 19 12 5005000 6 rfl rfl ?_;refine Tr.pin 19 5000011 rfl rfl rfl (fun b=>?_);refine Tr.done ?_
 conv=>whnf
 refine ji [.tmp 4] ?_
 conv=>whnf
 have c1:=yB b (ak rfl);have c2:=yB b (bA rfl);have l:=Jd b;have c:=TM b (bA (bA ⟨rfl,rfl⟩)) (t:=[20,23,50,53]) (by delta jC; rw [jA]; decide +kernel);have ca:=fun (t:Int) (h:Tw t)=>ke b dB bq .full 0 7 0 0 t 1 41 [.ref [cA b dB],.ref (eB ⟨0,0,0,0,1,0⟩),.ref [.int .i64 t]] (fun j=>Sz dB (xp dB (Be dB j).opts) 0 t) (aai b h);have cl:=pC b dB bq bq [] ([20,23,50,53].map YX) bq (fun p e=>by obtain ⟨w,f,rfl⟩:=bp.1 e; exact aak w (by simpa [Tw] using f));rw [show wo dB.buns.length ([20,23,50,53].map YX)=[] by kernel_rfl,bR] at cl
 have i:=Bv b (fun u hu=>by
  have h:=DB b;have:u=⟨7,[0]⟩\/u=⟨7,[1]⟩:=by simpa [dB] using hu
  rcases this with rfl | rfl
  ·exact h.1
  ·exact h.2)
 repeat'
  first
   |(refine rC 5 rfl ?_; conv=>whnf)
   |(refine rC 10 rfl ?_; conv=>whnf)
   | refine aJ.unroll 5 ?_
   | refine QE [42,53,88,91] rfl hG af kp ?_
   |((conv=>whnf); first
    | refine cX ?_
    | refine cW ?_
    | refine aa aI ?_
    | refine aa bq (ae _ (aa rfl ?_))
    | refine ae _ (aa c1 ?_)
    | refine ae _ (aa c2 ?_)
    | refine ae _ (aa c ?_)
    | refine ae _ (aa (ca _ (by unfold Tw; decide)) ?_)
    | refine xE l ?_
    | refine xE cl ?_
    | refine xE i ?_
    | refine aa (ah rfl) ?_
    | refine ak ?_)
 conv=>whnf
 exact Ends.mk (ak rfl) (ay rfl)
end Go.Proofs
