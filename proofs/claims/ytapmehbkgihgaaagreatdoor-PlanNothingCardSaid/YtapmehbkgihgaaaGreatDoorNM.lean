/- Part 13 of the proof: an abstract interpreter for the code, contracts of the functions, and plain facts; the conditions are those typed. -/
import Derived.Test.YtapmehbkgihgaaaGreatDoorNH
set_option linter.unusedSectionVars false
set_option linter.unusedVariables false
set_option linter.unusedSimpArgs false
namespace Go.Proofs
open Go Go.AI
set_option maxRecDepth 100000
def WS (l:List d4) (q:List (Int×Int)):Prop:=(l=[qc]/\q=[(20,23),(50,53)])\/(l=[ql]/\q=[(23,26),(53,56)])\/(l=[qc,ql]/\q=[(20,23),(50,53),(23,26),(53,56)])
set_option maxHeartbeats 8000000 in
theorem OI (b:Nat) {l:List d4} {q:List (Int×Int)} (h:WS l q):iA Tryz.prog XC 135 [.ref [cH l],.ref [cA b dB],.ref [.int .i64 0]] q:=by
  refine iA.of Tryz.func135 rfl aI bh (ah rfl) rfl ?_;intro F n m y J Jx hY;have kp:KP pP := .mk;rcases h with ⟨rfl,rfl⟩ | ⟨rfl,rfl⟩ | ⟨rfl,rfl⟩
  all_goals
    repeat' first
      | refine io.unroll 5 ?_
      | refine RU hY af 13 pP aI aI aI ?_
      | refine VG.done rfl ?_
      | refine VG.step hY af ?_
      | refine QM rfl hY af kp ?_
      | ((conv=>whnf); first
         | refine cX ?_
         | refine cW ?_
         | refine aa aI ?_
         | refine Vz.intro ?_ ?_
         | refine aa bq (ae _ (aa rfl ?_))
         | (refine ae _ (aa rfl (aa rfl (fun t a=>?_))); subst a; refine aa ?_ ?_)
         | refine ak ?_)
    all_goals first | exact iL.mk (ak rfl) (bA rfl) | exact iL.mk (bA rfl) (ak rfl)
open Go Go.AI
set_option maxRecDepth 100000
set_option maxHeartbeats 16000000
theorem Mv (b:Nat) {l:List d4} {q:List (Int×Int)} (h:WS l q) {x:Int} (hx:x=20\/x=23\/x=50\/x=53):aq Tryz.prog 31 [cA b dB,cH l,.int .i64 0,.int .i64 x] (.int .i64 ((q.filter fun y=>decide (y.1<=x)&&decide (x<y.2)).length:Nat)):=by
 have c1:=tu b dB l 0;have a:=OI b h;refine aM Kp Tryz.func31 ?_;intro F e w0 m0 hG d h1 kp;rcases h with ⟨rfl,rfl⟩ | ⟨rfl,rfl⟩ | ⟨rfl,rfl⟩
 all_goals
  rcases hx with rfl | rfl | rfl | rfl
 all_goals
  repeat' first
   | refine eY hG (bC bq h1) XC [9,7] rfl a (fun _=>rfl) aI bq rfl ?_
   | refine QE [] rfl bf af kp ?_
   |((conv=>whnf); first
     | refine cX ?_
     | refine cW ?_
     | refine aa aI ?_
     | refine ae _ (aa c1 ?_)
     | intro i n2 m2 f c
     | refine aa LE ?_
     | refine ak ?_)
  all_goals exact Ez
theorem TM (b:Nat) {l:List d4} {q:List (Int×Int)} {t:List Int} (h:WS l q) (c:jC (q.map (·.1))=t):aq Tryz.prog 30 [cA b dB,cH l,.int .i64 0] (bu t):=by
 have c1:=tu b dB l 0;have e:=OI b h;have c2:=Ni (q.map (·.1)) (by rcases h with ⟨_,rfl⟩ | ⟨_,rfl⟩ | ⟨_,rfl⟩ <;> decide);rw [c] at c2;refine rG af Tryz.func30 rfl aI bh (ah rfl) ?_;intro F j w0 m0 hG f h1 a;have kp:KP rr := .mk;clear c;rcases h with ⟨rfl,rfl⟩ | ⟨rfl,rfl⟩ | ⟨rfl,rfl⟩
 all_goals
  iterate 3
   refine kL fun Z d=>?_
   repeat' first
    | refine eY hG (bC bq h1) XC [7] rfl e (fun _=>rfl) aI bq rfl ?_
    | refine QE [] rfl bf af kp ?_
    |((conv=>whnf); first
      | refine cX ?_
      | refine cW ?_
      | refine aa aI ?_
      | refine aa (ah rfl) ?_
      | refine ae _ (aa c1 ?_)
      | intro n n2 m2 m i
      | refine aa LE ?_
      | refine ak ?_)
   conv=>whnf
   refine d _ ?_;clear d Z
  refine aJ.seq ?_;refine Vp hG af a rr 1 aI ?_
  conv=>whnf
  refine aa aI ?_;refine ae _ (ae _ (aa c2 (aa rfl (aa (by simp [kk]) (aa AQ (aa (oi _) (aa rfl ?_)))))));rintro r rows rfl _ _
  conv=>whnf
  refine bz ?_;exact Ez
theorem YU {l:List d4} (h:l=[qc]\/l=[ql]\/l=[qc,ql]):lP Tryz.prog 26 [5006000] [] [.me .sl 5006000 l.length [],.clo 28 [.ref (bM fL)]] [(5006000,.me .arr 5006000 9 (l.map bO))] (fun v L=>v=cH l/\L=[]):=by
 have d:aq Tryz.prog 28 [.agg (bO qc),.ref (bM fL)] (.bool false):=dR xP Tryz.func28;have e:aq Tryz.prog 28 [.agg (bO ql),.ref (bM fL)] (.bool false):=dR xP Tryz.func28
 have b:bX Tryz.prog 58 [7000000] [] [.me .sl 7000000 l.length [],.clo 28 [.ref (bM fL)]] [(7000000,.me .arr 7000000 9 (l.map bO))] (.int .i64 (-1)) [(7000000,.me .arr 7000000 9 (l.map bO))]:=by
  let es:List Nat:=[]
  rcases h with rfl | rfl | rfl
  all_goals exact pQ lH Tryz.func58
 refine lP.ofB af Tryz.func26 rfl aI bh (ah rfl) ?_;intro F c w0 m0 hG a h1;have kp:KP xR := .mk;rcases h with rfl | rfl | rfl
 all_goals
  refine gq 5006000 7000000 aI rfl ?_
  conv=>whnf
  repeat' first
   |(refine aJ.frz [.tmp 4] ?_; conv=>whnf
     refine aJ.ret hG af ?_;exact gc.mk (ak rfl) (ae _ (ae [] (aa (aa rfl rfl) (aa (ak (ay rfl)) (aa rfl rfl))))))
   | refine QE [10] rfl hG af kp ?_
   |((conv=>whnf); first | refine cX ?_ | refine cW ?_ | refine aa aI ?_ | refine xE b ?_ | refine ak ?_)
end Go.Proofs
