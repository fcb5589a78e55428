/- Part 17 of the proof: an abstract interpreter for the code, contracts of the functions, and plain facts; the conditions are those typed. -/
import Derived.Test.YthjhnnmcdhokcaaGreatDoorNH
import Derived.Test.YthjhnnmcdhokcaaGreatDoorNL
import Derived.Test.YthjhnnmcdhokcaaGreatDoorNM
import Derived.Test.YthjhnnmcdhokcaaGreatDoorNN
import Derived.Test.YthjhnnmcdhokcaaGreatDoorNP
set_option linter.unusedSectionVars false
set_option linter.unusedVariables false
set_option linter.unusedSimpArgs false
namespace Go.Proofs
open Go Go.AI
set_option maxRecDepth 100000
def Z0 (t:Int):HH:=(⟨7,0,0,t,[],1⟩,Bn (fun j=>Ts dD (kU dD (BF dD j).opts) 0 t) 2)
def Uf (t:Int):Prop:=t=20\/t=23\/t=50\/t=53
theorem aa9 (t:Int) (h:Uf t):xj (Z0 t).2:=Dz (ex2 (by rcases h with rfl | rfl | rfl | rfl <;> decide +kernel) (by rcases h with rfl | rfl | rfl | rfl <;> decide +kernel))
theorem aa7 (b:Nat) {t:Int} (h:Uf t) (j:Nat) (hj:j<2):ar Tryz.prog 44 [.int .i64 j,.agg (eO (BF dD j)),.ref [cK b dD],.ref (fa ⟨0,0,0,0,1,0⟩),.ref [.int .i64 t]] (.int .i64 (Ts dD (kU dD (BF dD j).opts) 0 t)):=by
 have c1:=kg b dD Ee ⟨7,[0]⟩ bt bt;have c2:=kg b dD Ee ⟨7,[1]⟩ bt bt;have k1:=M5 b (aj ⟨rfl,rfl⟩) h;have k2:=M5 b (bw (aj ⟨rfl,rfl⟩)) h;obtain rfl | rfl:j=0\/j=1:=by omega
 all_goals exact dK KT Tryz.func44
set_option maxHeartbeats 64000000 in
theorem XM:ar Tryz.prog 10 [.agg (gC dD)] (.tup [Ir [By,Jd,QU,XN],.int .i64 0]):=by
 have a:=gU dD Je;rw [ZM] at a;refine ar.ofB af Tryz.func10 rfl aK bj (ah rfl) ?_;intro F m w0 m0 hG d n;have kp:KP yh := .mk;refine aI.seq ?_
 repeat' first|refine dz ?_|((conv=>whnf); first|refine ⟨fun h=>?_,fun h=>?_⟩|refine aj ?_)
 refine aI.seq ?_;refine aI.seq ?_
 repeat' first|refine dz ?_|((conv=>whnf); first|refine ae _ (aa (a) ?_)|refine ⟨fun h=>?_,fun h=>?_⟩|refine aj ?_)
 repeat' first|refine dz ?_|((conv=>whnf); first|refine ⟨fun h=>?_,fun h=>?_⟩|refine aj ?_)
 conv=>whnf
 refine aI.seq ?_;refine Wa hG af yh 2 aK ?_
 conv=>whnf
 refine Tr.own 19 12 5005000 6 rfl rfl ?_;refine Tr.pin 19 5000011 rfl rfl rfl (fun b=>?_);refine Tr.done ?_
 conv=>whnf
 refine jj [.tmp 4] ?_
 conv=>whnf
 have c1:=y5 b (aj rfl);have c2:=y5 b (bw rfl);have l:=JK b;have c:=Us b (bw (bw ⟨rfl,rfl⟩)) (t:=[20,23,50,53]) (bw (bw ⟨rfl,rfl⟩));have ca:=fun (t:Int) (h:Uf t)=>kf b dD bt .full 0 7 0 0 t 1 44 [.ref [cK b dD],.ref (fa ⟨0,0,0,0,1,0⟩),.ref [.int .i64 t]] (fun j=>Ts dD (kU dD (BF dD j).opts) 0 t) (aa7 b h);have cl:=pE b dD bt bt [] ([20,23,50,53].map Z0) bt (fun p e=>by obtain ⟨w,f,rfl⟩:=bp.1 e; exact aa9 w (by simpa [Uf] using f));rw [show wI dD.buns.length ([20,23,50,53].map Z0)=[] by kernel_rfl,bV] at cl
 have i:=BW b (fun u hu=>by
  have h:=Ed b;have:u=⟨7,[0]⟩\/u=⟨7,[1]⟩:=by simpa [dD] using hu
  rcases this with rfl | rfl
  ·exact h.1
  ·exact h.2)
 repeat'
  first
   |(refine rE 5 rfl ?_; conv=>whnf)
   |(refine rE 10 rfl ?_; conv=>whnf)
   | refine aI.unroll 5 ?_
   | refine QE [42,53,88,91] rfl hG af kp ?_
   |((conv=>whnf); first
    | refine cZ ?_
    | refine cY ?_
    | refine aa aK ?_
    | refine aa bt (ae _ (aa rfl ?_))
    | refine ae _ (aa c1 ?_)
    | refine ae _ (aa c2 ?_)
    | refine ae _ (aa c ?_)
    | refine ae _ (aa (ca _ (by unfold Uf; decide)) ?_)
    | refine xE l ?_
    | refine xE cl ?_
    | refine xE i ?_
    | refine aa (ah rfl) ?_
    | refine aj ?_)
 conv=>whnf
 exact Ends.mk (aj rfl) (az rfl)
end Go.Proofs
