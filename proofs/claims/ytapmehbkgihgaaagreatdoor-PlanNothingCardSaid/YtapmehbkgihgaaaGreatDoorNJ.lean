/- Part 10 of the proof: an abstract interpreter for the code, contracts of the functions, and plain facts; the conditions are those typed. -/
import Derived.Test.YtapmehbkgihgaaaGreatDoorNH
import Derived.Test.YtapmehbkgihgaaaGreatDoorNI
set_option linter.unusedSectionVars false
set_option linter.unusedVariables false
set_option linter.unusedSimpArgs false
namespace Go.Proofs
open Go Go.AI
set_option maxRecDepth 10000
set_option maxHeartbeats 64000000 in
theorem Nn (d:bS) (H:xY d) {F:Fence} {L:Nat} {w0:World} {m0:dI} (hG:ce.OK ⟨Tryz.prog,F,L,w0,m0,Tryz.f5.ntmps⟩) (b g cap:Nat):aJ ⟨Tryz.prog,F,L,w0,m0,Tryz.f5.ntmps⟩ ⟨[(4,.pin 5100000 b 0 []),(3,.int .i64 (aF d.t0 5000)),(2,.loc 2 0),(1,.loc 1 0),(xk 5100000,.me .box 5100000 b [[.sl .no 21 ((fy d).map bM),.sl (.id 5101000) 6 (((List.range 3).map (fF d)).map eB),.sl .no 6 ((fz d).map bU),.sl (.id 5103000) 19 [],.sl (.id 5104000) 9 ((cB d).map bO),.sl (.id 5105000) 2 [],.sl (.id 5106000) 1 [],.lit (.slice (some ⟨g,0,none⟩) 16 cap),.int .i64 (aF d.loss 3),.int .i64 (aF d.t0 5000),.int .i64 (IntKind.i64.wrap (aF d.t0 5000+200))]]),(xk 32,.me (.row g cap) 32 1 (List.replicate 16 [.int .i64 0]))],[(2,[.sl (.id 1002000) 0 [],.sl (.id 1002001) 0 [],.sl (.id 1002002) 0 [],.sl (.id 1002003) 0 [],.sl (.id 1002004) 0 [],.sl (.id 1002005) 0 [],.sl (.id 1002006) 0 [],.sl (.id 1002007) 0 [],.int .i64 0,.int .i64 0,.int .i64 0]),(1,fM d)]⟩ (fw (fw (fw (fw (fw (fw (fw ((match Tryz.f5.body with | some c=>c | none => .skip))))))))) (Go.AI.Ends jK Tryz.f5.results.toList (.agg (gz (ir d)))):=by
 repeat' first|refine aJ.seq ?_|refine dh hG af bn [] aI ?_|refine dH hG af bn [] aI ?_|refine aJ.skip hG af ?_|refine aJ.label hG af ?_|refine aJ.ret hG af ?_|refine aJ.exit hG af ?_|refine ck rfl ?_|refine cm rfl ?_|refine aJ.cond rfl (aa (fun h=>?_) (fun h=>?_))|((conv=>whnf); first|refine cX ?_|refine cW ?_|refine fc ?_|refine aa (fun h=>?_) (fun h=>?_)|refine ak ?_)
 refine aJ.cut (X:=Unit) (fun _=>⟨[(4,.pin 5100000 b 0 []),(3,.int .i64 (aF d.t0 5000)),(2,.loc 2 0),(1,.loc 1 0),(xk 5100000,.me .box 5100000 b [[.sl .no 21 ((fy d).map bM),.sl (.id 5101000) 6 (((List.range 3).map (fF d)).map eB),.sl .no 6 ((fz d).map bU),.sl (.id 5103000) 19 ((d7 d).map fb),.sl (.id 5104000) 9 ((cB d).map bO),.sl (.id 5105000) 2 [],.sl (.id 5106000) 1 [],.lit (.slice (some ⟨g,0,none⟩) 16 cap),.int .i64 (aF d.loss 3),.int .i64 (aF d.t0 5000),.int .i64 (IntKind.i64.wrap (aF d.t0 5000+200))]]),(xk 32,.me (.row g cap) 32 1 (List.replicate 16 [.int .i64 0]))],[(2,[.sl (.id 1002000) 0 [],.sl (.id 1002001) 0 [],.sl (.id 1002002) 0 [],.sl (.id 1002003) 0 [],.sl (.id 1002004) 0 [],.sl (.id 1002005) 0 [],.sl (.id 1002006) 0 [],.sl (.id 1002007) 0 [],.int .i64 0,.int .i64 0,.int .i64 0]),(1,fM d)]⟩) (fun _=>True) ?_ (fun _ _=>?_)
 ·refine aJ.block ?_;refine aJ.loop (X:=Nat) (fun i=>⟨[(11,.int .i64 i),(4,.pin 5100000 b 0 []),(3,.int .i64 (aF d.t0 5000)),(2,.loc 2 0),(1,.loc 1 0),(xk 5100000,.me .box 5100000 b [[.sl .no 21 ((fy d).map bM),.sl (.id 5101000) 6 (((List.range 3).map (fF d)).map eB),.sl .no 6 ((fz d).map bU),.sl (.id 5103000) 19 ((Hn d i).map fb),.sl (.id 5104000) 9 ((cB d).map bO),.sl (.id 5105000) 2 [],.sl (.id 5106000) 1 [],.lit (.slice (some ⟨g,0,none⟩) 16 cap),.int .i64 (aF d.loss 3),.int .i64 (aF d.t0 5000),.int .i64 (IntKind.i64.wrap (aF d.t0 5000+200))]]),(xk 32,.me (.row g cap) 32 1 (List.replicate 16 [.int .i64 0]))],[(2,[.sl (.id 1002000) 0 [],.sl (.id 1002001) 0 [],.sl (.id 1002002) 0 [],.sl (.id 1002003) 0 [],.sl (.id 1002004) 0 [],.sl (.id 1002005) 0 [],.sl (.id 1002006) 0 [],.sl (.id 1002007) 0 [],.int .i64 0,.int .i64 0,.int .i64 0]),(1,fM d)]⟩) (fun i=>i<=4) (fun i=>4 - i) 0 (aU _) (LE) (fun i hi=>?_)
  ·by_cases t:i<4
   ·have e:=dF (show (i:Int)<4 by omega)
    repeat' first|exact (e bf).elim|refine aJ.seq ?_|refine dh hG af bn [] aI ?_|refine dH hG af bn [] aI ?_|refine aJ.skip hG af ?_|refine aJ.label hG af ?_|refine aJ.ret hG af ?_|refine aJ.exit hG af ?_|refine ck rfl ?_|refine cm rfl ?_|refine aJ.cond rfl (aa (fun h=>?_) (fun h=>?_))|((conv=>whnf); first|refine cX ?_|refine cW ?_|refine fc ?_|refine aa (fun h=>?_) (fun h=>?_)|refine ak ?_)
    refine aJ.block ?_;refine aJ.seq ?_
    repeat' first|exact (e bf).elim|refine dh hG af bn [] aI ?_|refine dH hG af bn [] aI ?_|refine aJ.skip hG af ?_|refine aJ.label hG af ?_|refine aJ.ret hG af ?_|refine aJ.exit hG af ?_|refine ck rfl ?_|refine cm rfl ?_|((conv=>whnf); first|refine cX ?_|refine cW ?_|refine fc ?_|refine aa (fun h=>?_) (fun h=>?_)|refine ak ?_)
    refine aJ.seq ?_;refine aJ.cut (X:=Unit) (fun _=>⟨[(12,.loc 12 0),(11,.int .i64 i),(4,.pin 5100000 b 0 []),(3,.int .i64 (aF d.t0 5000)),(2,.loc 2 0),(1,.loc 1 0),(xk 5100000,.me .box 5100000 b [[.sl .no 21 ((fy d).map bM),.sl (.id 5101000) 6 (((List.range 3).map (fF d)).map eB),.sl .no 6 ((fz d).map bU),.sl (.id 5103000) 19 ((Hn d i).map fb),.sl (.id 5104000) 9 ((cB d).map bO),.sl (.id 5105000) 2 [],.sl (.id 5106000) 1 [],.lit (.slice (some ⟨g,0,none⟩) 16 cap),.int .i64 (aF d.loss 3),.int .i64 (aF d.t0 5000),.int .i64 (IntKind.i64.wrap (aF d.t0 5000+200))]]),(xk 32,.me (.row g cap) 32 1 (List.replicate 16 [.int .i64 0]))],[(12,yA (Cv d i)),(2,[.sl (.id 1002000) 0 [],.sl (.id 1002001) 0 [],.sl (.id 1002002) 0 [],.sl (.id 1002003) 0 [],.sl (.id 1002004) 0 [],.sl (.id 1002005) 0 [],.sl (.id 1002006) 0 [],.sl (.id 1002007) 0 [],.int .i64 0,.int .i64 0,.int .i64 0]),(1,fM d)]⟩) (fun _=>True) ?_ (fun _ _=>?_)
    ·have v:((d.ords.map yA).length:Int)=(d.ords.length:Int):=by rw [az]
     by_cases ho:i<d.ords.length
     ·have a:=dF (show (i:Int)<((d.ords.map yA).length:Int) by omega);have n:(d.ords.map yA)[(i:Int).toNat]?=some (yA (Cv d i)):=cG yA z4 ho
      repeat' first|exact (a bf).elim|refine QE [] rfl hG af (.mk:KP bn) ?_|((conv=>whnf); first|refine cX ?_|refine cW ?_|refine fc ?_|refine aa (au i) (ae _ (aa n ?_))|refine aa (fun h=>?_) (fun h=>?_)|refine ak ?_)
      all_goals refine ae () (aa trivial (LE))
     ·have a:=dT (show ¬((i:Int)<((d.ords.map yA).length:Int)) by omega);have hz:Cv d i=z4:=by unfold Cv; rw [aK,fR ar]; rfl
      rw [hz]
      repeat' first|exact (a bf).elim|refine QE [] rfl hG af (.mk:KP bn) ?_|((conv=>whnf); first|refine cX ?_|refine cW ?_|refine fc ?_|refine aa (fun h=>?_) (fun h=>?_)|refine ak ?_)
      all_goals refine ae () (aa trivial (LE))
    ·conv=>whnf
     refine aJ.seq ?_
     repeat' first|exact (e bf).elim|refine dh hG af bn [] aI ?_|refine dH hG af bn [] aI ?_|refine aJ.skip hG af ?_|refine aJ.label hG af ?_|refine aJ.ret hG af ?_|refine aJ.exit hG af ?_|refine ck rfl ?_|refine cm rfl ?_|((conv=>whnf); first|refine cX ?_|refine cW ?_|refine fc ?_|refine aa (fun h=>?_) (fun h=>?_)|refine ak ?_)
     refine aJ.seq ?_;refine aJ.cut (X:=Unit) (fun _=>⟨[(13,.int .i64 (yh (cB d) i 0)),(12,.loc 12 0),(11,.int .i64 i),(4,.pin 5100000 b 0 []),(3,.int .i64 (aF d.t0 5000)),(2,.loc 2 0),(1,.loc 1 0),(xk 5100000,.me .box 5100000 b [[.sl .no 21 ((fy d).map bM),.sl (.id 5101000) 6 (((List.range 3).map (fF d)).map eB),.sl .no 6 ((fz d).map bU),.sl (.id 5103000) 19 ((Hn d i).map fb),.sl (.id 5104000) 9 ((cB d).map bO),.sl (.id 5105000) 2 [],.sl (.id 5106000) 1 [],.lit (.slice (some ⟨g,0,none⟩) 16 cap),.int .i64 (aF d.loss 3),.int .i64 (aF d.t0 5000),.int .i64 (IntKind.i64.wrap (aF d.t0 5000+200))]]),(xk 32,.me (.row g cap) 32 1 (List.replicate 16 [.int .i64 0]))],[(12,yA (Cv d i)),(2,[.sl (.id 1002000) 0 [],.sl (.id 1002001) 0 [],.sl (.id 1002002) 0 [],.sl (.id 1002003) 0 [],.sl (.id 1002004) 0 [],.sl (.id 1002005) 0 [],.sl (.id 1002006) 0 [],.sl (.id 1002007) 0 [],.int .i64 0,.int .i64 0,.int .i64 0]),(1,fM d)]⟩) (fun _=>True) ?_ (fun _ _=>?_)
     ·refine aJ.seq ?_
      repeat' first|exact (e bf).elim|refine dh hG af bn [] aI ?_|refine dH hG af bn [] aI ?_|refine aJ.skip hG af ?_|refine aJ.label hG af ?_|refine aJ.ret hG af ?_|refine aJ.exit hG af ?_|refine ck rfl ?_|refine cm rfl ?_|((conv=>whnf); first|refine cX ?_|refine cW ?_|refine fc ?_|refine aa (fun h=>?_) (fun h=>?_)|refine ak ?_)
      have N:((cB d).length:Int)<=1000000:=by have:=uG d (nk d); have h:nk d<=(fy d).length:=dP _ _; have:=H.slen; show ((DK d (nk d)).length:Int)<=_; omega
      have v:(((cB d).map bO).length:Int)=((cB d).length:Int):=by rw [az]
      have E:=Ts (cB d) i;have y:=fun j h=>P8 (l:=cB d) (i:=i) (j:=j) h;generalize cB d=O at *;have G:IntKind.i64.wrap (((O.map bO).length:Int) - 1)=(O.length:Int) - 1:=by rw [v]; exact aZ ar ar
      refine aJ.block ?_;refine aJ.loop (X:=Nat) (fun j=>⟨[(14,.int .i64 ((j:Int) - 1)),(13,.int .i64 (yh (O) i j)),(12,.loc 12 0),(11,.int .i64 i),(4,.pin 5100000 b 0 []),(3,.int .i64 (aF d.t0 5000)),(2,.loc 2 0),(1,.loc 1 0),(xk 5100000,.me .box 5100000 b [[.sl .no 21 ((fy d).map bM),.sl (.id 5101000) 6 (((List.range 3).map (fF d)).map eB),.sl .no 6 ((fz d).map bU),.sl (.id 5103000) 19 ((Hn d i).map fb),.sl (.id 5104000) 9 ((O).map bO),.sl (.id 5105000) 2 [],.sl (.id 5106000) 1 [],.lit (.slice (some ⟨g,0,none⟩) 16 cap),.int .i64 (aF d.loss 3),.int .i64 (aF d.t0 5000),.int .i64 (IntKind.i64.wrap (aF d.t0 5000+200))]]),(xk 32,.me (.row g cap) 32 1 (List.replicate 16 [.int .i64 0]))],[(12,yA (Cv d i)),(2,[.sl (.id 1002000) 0 [],.sl (.id 1002001) 0 [],.sl (.id 1002002) 0 [],.sl (.id 1002003) 0 [],.sl (.id 1002004) 0 [],.sl (.id 1002005) 0 [],.sl (.id 1002006) 0 [],.sl (.id 1002007) 0 [],.int .i64 0,.int .i64 0,.int .i64 0]),(1,fM d)]⟩) (fun j=>j<=O.length) (fun j=>j) O.length (ba _) (St.le.of ?_ ?_) (fun j hj=>?_)
      ·refine aa (ax (fun z=>some (AV.int .i64 z)) G) (aa (ax (fun z=>some (AV.int .i64 z)) E.symm) ?_);exact RF
      ·exact RF
      ·cases j with
       | zero=>
        have a:=dT (show ¬((((0:Nat):Int) - 1)>=0) by omega)
        repeat' first|exact (a bf).elim|refine QE [] rfl hG af (.mk:KP bn) ?_|((conv=>whnf); first|refine cX ?_|refine cW ?_|refine fc ?_|refine aa (fun h=>?_) (fun h=>?_)|refine ak ?_)
        all_goals refine ae () (aa trivial (LE))
       | succ m=>
        have a:=dF (show (((m+1:Nat):Int) - 1)>=0 by omega);have Q:(0:Int)<=((m+1:Nat):Int) - 1:=by omega
        have o:((m+1:Nat):Int) - 1=(m:Int):=by omega
        have n:(O.map bO)[(((m+1:Nat):Int) - 1).toNat]?=some (bO (O.getD m dt)):=by rw [o]; exact cG bO dt ar
        have M:=y m ar
        repeat' first|exact (a bf).elim|refine QE [] rfl hG af (.mk:KP bn) ?_|((conv=>whnf); first|refine cX ?_|refine cW ?_|refine fc ?_|refine aa Q (ae _ (aa n ?_))|refine aa (fun h=>?_) (fun h=>?_)|refine ak ?_)
        ·have r:((m+1:Nat):Int) - 1=yh O i m:=by rw [M,aX (by unfold zQ; exact dQ (eq_of_beq bf))]; exact o
         have q:IntKind.i64.wrap (((m+1:Nat):Int) - 1 - 1)=(m:Int) - 1:=by rw [o]; exact aZ ar ar
         refine ae m (aa ar (aa ar (St.le.of ?_ ?_)))
         ·refine aa (ax (fun z=>some (AV.int .i64 z)) q) (aa (ax (fun z=>some (AV.int .i64 z)) r) ?_);exact RF
         ·exact RF
        ·have r:yh O i (m+1)=yh O i m:=by rw [M,aV (by unfold zQ; have h:=(by assumption:((O.getD m dt).ord==(i:Int))=false); simpa using h)]
         have q:IntKind.i64.wrap (((m+1:Nat):Int) - 1 - 1)=(m:Int) - 1:=by rw [o]; exact aZ ar ar
         refine ae m (aa ar (aa ar (St.le.of ?_ ?_)))
         ·refine aa (ax (fun z=>some (AV.int .i64 z)) q) (aa (ax (fun z=>some (AV.int .i64 z)) r) ?_);exact RF
         ·exact RF
     ·conv=>whnf
      rw [P7];have P:=pm d i;have f:=zP d i;unfold A9 at f
      cases A:(cB d).findIdx? (zQ i) with
      | none=>
       rw [A] at f;rw [bR] at f
       repeat' first|exact (e bf).elim|refine QE [] rfl hG af (.mk:KP bn) ?_|((conv=>whnf); first|refine cX ?_|refine cW ?_|refine fc ?_|refine aa (fun h=>?_) (fun h=>?_)|refine ak ?_)
       refine ae (i+1) (aa t (aa ar (St.le.of ?_ ?_)))
       ·rw [f];refine aa (ax some (bL ar)) ?_;exact RF
       ·exact RF
      | some p=>
       rw [A] at f;obtain ⟨u,-,-⟩:=iC.1 A;have Z:(cB d).length<=8:=by have:=uG d (nk d); have h:nk d<=(fy d).length:=dP _ _; have:=H.slen; show (DK d (nk d)).length<=_; omega
       have n:((cB d).map bO)[((p:Nat):Int).toNat]?=some (bO ((cB d).getD p dt)):=cG bO dt u;obtain ⟨g1,g2,g3,g4⟩:=H.goal _ (c8 dt u);have x:(fy d)[wG d ((cB d).getD p dt)]?=some (nh d (wG d ((cB d).getD p dt))):=by unfold nh; rw [ai g2,aK (l:=fy d),ai g2]; rfl
       have U:=Na ⟨fy d,(List.range 3).map (fF d),fz d,Hn d i,cB d,[],[],List.replicate 16 0,aF d.loss 3,aF d.t0 5000,IntKind.i64.wrap (aF d.t0 5000+200)⟩ (.slice (some ⟨g,0,none⟩) 16 cap) (by have:=H.slen; show (fy d).length<=_; omega) _ (Cv d i) _ _ g1 x g3 g4;have w:(((Hn d i).map fb).length+1)*200<=70368744177664:=by rw [az]; omega
       have J:((Hn d i).map fb).length+1<=4611686018427387904:=by rw [az]; omega
       have a:=dT (show ¬((p:Int)<0) by omega);have B:=dF (show (p:Int)>=0 by omega)
       repeat' first|exact (a bf).elim|exact (B bf).elim|refine QE [] rfl hG af (.mk:KP bn) ?_|((conv=>whnf); first|refine cX ?_|refine cW ?_|refine fc ?_|refine ae _ (aa (gj _ _ bq) ?_)|refine ae _ (aa (U) ?_)|refine aa (au p) (ae _ (aa n ?_))|refine aa w (aa J ?_)|refine aa bq (aa bq ?_)|refine aa (show (4:Int)≠0 by decide) ?_|refine aa bq (aa bq (aa (ah rfl) (aa bq ?_)))|refine aa (fun h=>?_) (fun h=>?_)|refine ak ?_)
       refine ae (i+1) (aa t (aa ar (St.le.of ?_ ?_)))
       ·rw [f,c7];refine aa (ax some (bL ar)) ?_;exact RF
       ·exact RF
   ·have e:=dT (show ¬((i:Int)<4) by omega);have D:i=4:=by omega
    subst D
    repeat' first|exact (e bf).elim|refine QE [] rfl hG af (.mk:KP bn) ?_|((conv=>whnf); first|refine cX ?_|refine cW ?_|refine fc ?_|refine aa (fun h=>?_) (fun h=>?_)|refine ak ?_)
    refine ae () (aa trivial (LE))
 ·conv=>whnf
  refine aJ.le (LE) (Nm d H hG b g cap)
open Go Go.AI
set_option maxRecDepth 10000
set_option maxHeartbeats 64000000 in
theorem No (d:bS) (H:xY d) {F:Fence} {E:Nat} {w0:World} {m0:dI} (hG:ce.OK ⟨Tryz.prog,F,E,w0,m0,Tryz.f5.ntmps⟩) (b g cap:Nat):aJ ⟨Tryz.prog,F,E,w0,m0,Tryz.f5.ntmps⟩ ⟨[(4,.pin 5100000 b 0 []),(3,.int .i64 (aF d.t0 5000)),(2,.loc 2 0),(1,.loc 1 0),(xk 5100000,.me .box 5100000 b [[.sl .no 21 ((fy d).map bM),.sl (.id 5101000) 6 (((List.range 3).map (fF d)).map eB),.sl .no 6 ((fz d).map bU),.sl (.id 5103000) 19 [],.sl (.id 5104000) 9 [],.sl (.id 5105000) 2 [],.sl (.id 5106000) 1 [],.lit (.slice (some ⟨g,0,none⟩) 16 cap),.int .i64 (aF d.loss 3),.int .i64 (aF d.t0 5000),.int .i64 (IntKind.i64.wrap (aF d.t0 5000+200))]]),(xk 32,.me (.row g cap) 32 1 (List.replicate 16 [.int .i64 0]))],[(2,[.sl (.id 1002000) 0 [],.sl (.id 1002001) 0 [],.sl (.id 1002002) 0 [],.sl (.id 1002003) 0 [],.sl (.id 1002004) 0 [],.sl (.id 1002005) 0 [],.sl (.id 1002006) 0 [],.sl (.id 1002007) 0 [],.int .i64 0,.int .i64 0,.int .i64 0]),(1,fM d)]⟩ (fw (fw (fw (fw (fw (fw ((match Tryz.f5.body with | some c=>c | none => .skip)))))))) (Go.AI.Ends jK Tryz.f5.results.toList (.agg (gz (ir d)))):=by
 repeat' first|refine aJ.seq ?_|refine dh hG af bn [] aI ?_|refine dH hG af bn [] aI ?_|refine aJ.skip hG af ?_|refine aJ.label hG af ?_|refine aJ.ret hG af ?_|refine aJ.exit hG af ?_|refine ck rfl ?_|refine cm rfl ?_|refine aJ.cond rfl (aa (fun h=>?_) (fun h=>?_))|((conv=>whnf); first|refine cX ?_|refine cW ?_|refine fc ?_|refine aa (fun h=>?_) (fun h=>?_)|refine ak ?_)
 have q:(((fy d).map bM).length:Int)=((fy d).length:Int):=by rw [az]
 have j:((d.opts.map fun z=>[AV.sl .no 5 (z.map gU)]).length:Int)=(d.opts.length:Int):=by rw [az]
 refine aJ.cut (X:=Unit) (fun _=>⟨[(4,.pin 5100000 b 0 []),(3,.int .i64 (aF d.t0 5000)),(2,.loc 2 0),(1,.loc 1 0),(xk 5100000,.me .box 5100000 b [[.sl .no 21 ((fy d).map bM),.sl (.id 5101000) 6 (((List.range 3).map (fF d)).map eB),.sl .no 6 ((fz d).map bU),.sl (.id 5103000) 19 [],.sl (.id 5104000) 9 ((cB d).map bO),.sl (.id 5105000) 2 [],.sl (.id 5106000) 1 [],.lit (.slice (some ⟨g,0,none⟩) 16 cap),.int .i64 (aF d.loss 3),.int .i64 (aF d.t0 5000),.int .i64 (IntKind.i64.wrap (aF d.t0 5000+200))]]),(xk 32,.me (.row g cap) 32 1 (List.replicate 16 [.int .i64 0]))],[(2,[.sl (.id 1002000) 0 [],.sl (.id 1002001) 0 [],.sl (.id 1002002) 0 [],.sl (.id 1002003) 0 [],.sl (.id 1002004) 0 [],.sl (.id 1002005) 0 [],.sl (.id 1002006) 0 [],.sl (.id 1002007) 0 [],.int .i64 0,.int .i64 0,.int .i64 0]),(1,fM d)]⟩) (fun _=>True) ?_ (fun _ _=>?_)
 ·refine aJ.block ?_;refine aJ.loop (X:=Nat) (fun i=>⟨[(10,.int .i64 i),(4,.pin 5100000 b 0 []),(3,.int .i64 (aF d.t0 5000)),(2,.loc 2 0),(1,.loc 1 0),(xk 5100000,.me .box 5100000 b [[.sl .no 21 ((fy d).map bM),.sl (.id 5101000) 6 (((List.range 3).map (fF d)).map eB),.sl .no 6 ((fz d).map bU),.sl (.id 5103000) 19 [],.sl (.id 5104000) 9 ((DK d i).map bO),.sl (.id 5105000) 2 [],.sl (.id 5106000) 1 [],.lit (.slice (some ⟨g,0,none⟩) 16 cap),.int .i64 (aF d.loss 3),.int .i64 (aF d.t0 5000),.int .i64 (IntKind.i64.wrap (aF d.t0 5000+200))]]),(xk 32,.me (.row g cap) 32 1 (List.replicate 16 [.int .i64 0]))],[(2,[.sl (.id 1002000) 0 [],.sl (.id 1002001) 0 [],.sl (.id 1002002) 0 [],.sl (.id 1002003) 0 [],.sl (.id 1002004) 0 [],.sl (.id 1002005) 0 [],.sl (.id 1002006) 0 [],.sl (.id 1002007) 0 [],.int .i64 0,.int .i64 0,.int .i64 0]),(1,fM d)]⟩) (fun i=>i<=nk d) (fun i=>nk d - i) 0 (aU _) (LE) (fun i hi=>?_)
  ·have N:(fy d).length<=2:=H.slen;have M:nk d<=(fy d).length:=dP _ _;have Q:nk d<=d.opts.length:=gR _ _;have P:nk d=(fy d).length\/nk d=d.opts.length:=by unfold nk; omega
   by_cases p:i<nk d
   ·have n:=dF (show (i:Int)<(((fy d).map bM).length:Int) by omega);have a:=dF (show (i:Int)<((d.opts.map fun z=>[AV.sl .no 5 (z.map gU)]).length:Int) by omega);have y:((fy d).map bM)[(i:Int).toNat]?=some (bM (nh d i)):=cG bM iM ar;have f:(d.opts.map fun z=>[AV.sl .no 5 (z.map gU)])[(i:Int).toNat]?=some [AV.sl .no 5 ((d.opts.getD i []).map gU)]:=cG (fun z=>[AV.sl .no 5 (z.map gU)]) [] ar;have m:IntKind.i64.wrap ((i:Int)+1)=(i:Int)+1:=aZ ar ar;have l:IntKind.i64.wrap (10*IntKind.i64.wrap ((i:Int)+1))=10*((i:Int)+1):=by rw [m]; exact aZ ar ar
    have e:∀ x∈(d.opts.getD i []).take 4,wv x:=fun x hx=>H.ops _ (c8 [] ar) x (dy hx)
    have D:aq Tryz.prog 19 [.agg (bM (nh d i)),cZ (fz d),.int .i64 (aF d.t0 5000),.int .i64 (IntKind.i64.wrap (10*IntKind.i64.wrap ((i:Int)+1))),.sl .no 5 (((d.opts.getD i []).take 4).map gU)] (cH (Bb d i)):=by
     rw [l]; exact D9 _ _ _ _ _ (H.oh i ar) e
    have t:=zR d i;have G:=IQ d i;have U:=uG d i;generalize d.opts.getD i []=z at *;have u:0<=min ((z.map gU).length:Int) 4:=by omega
    have v:min ((z.map gU).length:Int) 4<=((z.map gU).length:Int):=by omega
    have w:(min ((z.map gU).length:Int) 4).toNat<=(z.map gU).length:=by omega
    have r:List.drop 0 (List.take (min ((z.map gU).length:Int) 4).toNat (z.map gU))=(z.take 4).map gU:=by
     rw [Hh,<- Lv]
     congr 1
     rw [az];by_cases h2:z.length<=4
     ·rw [bE ar,bE h2]
     ·rw [show (min (z.length:Int) 4).toNat=4 by omega]
    rw [<- r] at D;have J:((DK d (i+1)).map bO)=(DK d i).map bO++(Bb d i).map bO:=by rw [t,c7]
    have o:(((DK d i).map bO).length+((Bb d i).map bO).length)*88<=70368744177664:=by rw [az,az]; omega
    have B:((DK d i).map bO).length+((Bb d i).map bO).length<=4611686018427387904:=by rw [az,az]; omega
    generalize Bb d i=L at *;generalize (DK d i).map bO=O0 at *;generalize nh d i=Z at *
    repeat' first|exact (n bf).elim|exact (a bf).elim|refine QE [] rfl hG af (.mk:KP bn) ?_|((conv=>whnf); first|refine cX ?_|refine cW ?_|refine fc ?_|refine aa (au i) (ae _ (aa y ?_))|refine aa (au i) (ae _ (aa f ?_))|refine aa u ?_|refine aa v ?_|refine aa (aU _) (aa w ?_)|refine ae _ (aa (D) ?_)|refine aa o (aa B ?_)|refine aa (fun h=>?_) (fun h=>?_)|refine ak ?_)
    refine ae (i+1) (aa p (aa ar (St.le.of ?_ ?_)))
    ·rw [J];refine aa (ax some (bL ar)) ?_;exact RF
    ·exact RF
   ·have a:decide ((i:Int)<(((fy d).map bM).length:Int))=true->decide ((i:Int)<((d.opts.map fun z=>[AV.sl .no 5 (z.map gU)]).length:Int))=true->False:=fun h g=>by
     have h:=aH h;have g:=aH g;rw [q] at h;rw [j] at g;omega
    have A:i=nk d:=by omega
    subst A
    repeat' first|exact (a bf bf).elim|refine QE [] rfl hG af (.mk:KP bn) ?_|((conv=>whnf); first|refine cX ?_|refine cW ?_|refine fc ?_|refine aa (fun h=>?_) (fun h=>?_)|refine ak ?_)
    all_goals refine ae () (aa trivial (LE))
 ·conv=>whnf
  refine aJ.le (LE) (Nn d H hG b g cap)
open Go Go.AI
set_option maxRecDepth 10000
set_option maxHeartbeats 64000000 in
theorem Q8 (d:bS) (H:xY d):aq Tryz.prog 5 [.agg (fM d)] (.agg (gz (ir d))):=by
 have ho:=H.orb;refine Lp af Tryz.func5 rfl aI bh (ah rfl) ?_;intro F n' w0 m0 hG hro h1 Z us hul n
 obtain ⟨u0,u1,u2,u3,u4,u5,u6,u7,u8,u9,rfl⟩:∃ u0 u1 u2 u3 u4 u5 u6 u7 u8 u9,us=[u0,u1,u2,u3,u4,u5,u6,u7,u8,u9]:=by
  match us,hul with
  | [u0,u1,u2,u3,u4,u5,u6,u7,u8,u9],_=>exact ⟨_,_,_,_,_,_,_,_,_,_,rfl⟩
 repeat' first|refine QE [] rfl hG af (.mk:KP bn) ?_|((conv=>whnf); first|refine cX ?_|refine cW ?_|refine fc ?_|refine ae _ (aa (gj _ _ bq) ?_)|refine aa bq (aa bq (aa (ah rfl) (aa bq ?_)))|refine aa (fun h=>?_) (fun h=>?_)|refine ak ?_)
 refine aJ.le (s':=⟨[(5,.int .i64 0),(4,.loc 4 0),(3,.int .i64 (aF d.t0 5000)),(2,.loc 2 0),(1,.loc 1 0)],[(4,[.sl .full 0 [],.sl .full 0 [],.sl .full 0 [],.sl .full 0 [],.sl .full 0 [],.sl .full 0 [],.sl .full 0 [],.sl (.id 32) 1 (List.replicate 16 [.int .i64 0]),.int .i64 (aF d.loss 3),.int .i64 (aF d.t0 5000),.int .i64 (IntKind.i64.wrap (aF d.t0 5000+200))]),(2,[.sl (.id 1002000) 0 [],.sl (.id 1002001) 0 [],.sl (.id 1002002) 0 [],.sl (.id 1002003) 0 [],.sl (.id 1002004) 0 [],.sl (.id 1002005) 0 [],.sl (.id 1002006) 0 [],.sl (.id 1002007) 0 [],.int .i64 0,.int .i64 0,.int .i64 0]),(1,[.int .i64 d.t0,.lit u1,.lit u2,.lit u3,.lit u4,.lit u5,.lit u6,.lit u7,.int .i64 d.loss,.int .i64 d.prom])]⟩) (LE) ?_;refine aJ.unfrz Z 32 4 7 rfl rfl rfl rfl rfl rfl rfl rfl (fun g cap=>?_)
 conv=>whnf
 refine na 1 1 (x := .sl .no 7 (d.orbs.map d8)) rfl rfl rfl (n 1 _ _ rfl rfl) ?_
 conv=>whnf
 refine na 1 2 (x := .sl .no 4 (d.sq.map yA)) rfl rfl rfl (n 2 _ _ rfl rfl) ?_
 conv=>whnf
 refine na 1 3 (x := .sl .no 1 (d.pss.map fun z=>[.sl .no 3 (z.map gV)])) rfl rfl rfl (n 3 _ _ rfl rfl) ?_
 conv=>whnf
 refine na 1 4 (x := .sl .no 1 (d.opts.map fun z=>[.sl .no 5 (z.map gU)])) rfl rfl rfl (n 4 _ _ rfl rfl) ?_
 conv=>whnf
 refine na 1 5 (x := .sl .no 4 (d.ords.map yA)) rfl rfl rfl (n 5 _ _ rfl rfl) ?_
 conv=>whnf
 refine na 1 6 (x := .sl .no 3 (d.buns.map gV)) rfl rfl rfl (n 6 _ _ rfl rfl) ?_
 conv=>whnf
 refine na 1 7 (x:=bu d.quo) rfl rfl rfl (n 7 _ _ rfl rfl) ?_
 conv=>whnf
 refine ii 4 1 5101000 6 rfl rfl ?_
 conv=>whnf
 refine ii 4 2 5102000 6 rfl rfl ?_
 conv=>whnf
 refine ii 4 3 5103000 19 rfl rfl ?_
 conv=>whnf
 refine ii 4 4 5104000 9 rfl rfl ?_
 conv=>whnf
 refine ii 4 5 5105000 2 rfl rfl ?_
 conv=>whnf
 refine ii 4 6 5106000 1 rfl rfl ?_
 conv=>whnf
 refine aJ.pin 4 5100000 rfl rfl rfl (fun b=>?_)
 conv=>whnf
 refine aJ.loop (X:=Nat) (fun i=>⟨[(5,.int .i64 i),(4,.pin 5100000 b 0 []),(3,.int .i64 (aF d.t0 5000)),(2,.loc 2 0),(1,.loc 1 0),(xk 5100000,.me .box 5100000 b [[.sl .full 0 [],.sl (.id 5101000) 6 (((List.range i).map (fF d)).map eB),.sl (.id 5102000) 6 [],.sl (.id 5103000) 19 [],.sl (.id 5104000) 9 [],.sl (.id 5105000) 2 [],.sl (.id 5106000) 1 [],.lit (.slice (some ⟨g,0,none⟩) 16 cap),.int .i64 (aF d.loss 3),.int .i64 (aF d.t0 5000),.int .i64 (IntKind.i64.wrap (aF d.t0 5000+200))]]),(xk 32,.me (.row g cap) 32 1 (List.replicate 16 [.int .i64 0]))],[(2,[.sl (.id 1002000) 0 [],.sl (.id 1002001) 0 [],.sl (.id 1002002) 0 [],.sl (.id 1002003) 0 [],.sl (.id 1002004) 0 [],.sl (.id 1002005) 0 [],.sl (.id 1002006) 0 [],.sl (.id 1002007) 0 [],.int .i64 0,.int .i64 0,.int .i64 0]),(1,fM d)]⟩) (fun i=>i<=3) (fun i=>3 - i) 0 (aU _) (LE) (fun i hi=>?_)
 ·by_cases U:i<3
  ·have c:=dF (show (i:Int)<3 by omega);have c0:=Bm (i:Int) (fun j=>match j with | 0=>(i:Int) | 1=>(i:Int) | 2=>(i:Int) | _=>IntKind.i64.wrap (d.loss+(i:Int)));have hrow:((List.range (i+1)).map (fF d)).map eB=((List.range i).map (fF d)).map eB++[eB (fF d i)]:=by rw [dJ]; simp
   have hln:(((List.range i).map (fF d)).map eB).length<=3:=by rw [az,az,vQ]; omega
   generalize ((List.range i).map (fF d)).map eB=row at *;have hq1:(row.length+1)*48<=70368744177664:=by omega
   have hq2:row.length+1<=4611686018427387904:=by omega
   repeat' first|exact (c bf).elim|refine QE [] rfl hG af (.mk:KP bn) ?_|((conv=>whnf); first|refine cX ?_|refine cW ?_|refine fc ?_|refine ae _ (aa (c0) ?_)|refine aa hq1 (aa hq2 ?_)|refine aa (fun h=>?_) (fun h=>?_)|refine ak ?_)
   refine ae (i+1) (aa U (aa ar (St.le.of ?_ ?_)))
   ·rw [hrow];refine aa (ax some (bL ar)) ?_;exact RF
   ·exact RF
  ·have c:=dT (show ¬((i:Int)<3) by omega);have hil:i=3:=by omega
   subst hil;have Z:0<=min ((d.orbs.map d8).length:Int) 2:=by omega
   have hm2:(min ((d.orbs.map d8).length:Int) 2).toNat<=(d.orbs.map d8).length:=by omega
   have htk:List.drop 0 (List.take (min ((d.orbs.map d8).length:Int) 2).toNat (d.orbs.map d8))=(d.orbs.take 2).map d8:=by
    rw [Hh,<- Lv]
    congr 1
    rw [az];by_cases h2:d.orbs.length<=2
    ·rw [bE ar,bE h2]
    ·rw [show (min (d.orbs.length:Int) 2).toNat=2 by omega]
   have cS:aq Tryz.prog 16 [.sl .no 7 (List.drop 0 (List.take (min ((d.orbs.map d8).length:Int) 2).toNat (d.orbs.map d8))),.sl .no 4 (d.sq.map yA)] (qC (fy d)):=by
    rw [htk];exact M9 _ _ fun x hx=>ho x (dy hx)
   have hm1:min ((d.orbs.map d8).length:Int) 2<=((d.orbs.map d8).length:Int):=by omega
   repeat' first|exact (c bf).elim|refine QE [] rfl hG af (.mk:KP bn) ?_|((conv=>whnf); first|refine cX ?_|refine cW ?_|refine fc ?_|refine aa Z ?_|refine aa hm1 ?_|refine aa (aU _) (aa hm2 ?_)|refine ae _ (aa (cS) ?_)|refine aa (fun h=>?_) (fun h=>?_)|refine ak ?_)
   refine aJ.pubX 5100000 2 rfl rfl ?_
   conv=>whnf
   have hS2:=H.sat;have hSl:(((fy d).map bM).length:Int)=((fy d).length:Int):=by rw [az]
   refine aJ.loop (X:=Nat) (fun i=>⟨[(6,.int .i64 i),(4,.pin 5100000 b 0 []),(3,.int .i64 (aF d.t0 5000)),(2,.loc 2 0),(1,.loc 1 0),(xk 5100000,.me .box 5100000 b [[.sl .no 21 ((fy d).map bM),.sl (.id 5101000) 6 (((List.range 3).map (fF d)).map eB),.sl .no 6 ((R0 d i).map bU),.sl (.id 5103000) 19 [],.sl (.id 5104000) 9 [],.sl (.id 5105000) 2 [],.sl (.id 5106000) 1 [],.lit (.slice (some ⟨g,0,none⟩) 16 cap),.int .i64 (aF d.loss 3),.int .i64 (aF d.t0 5000),.int .i64 (IntKind.i64.wrap (aF d.t0 5000+200))]]),(xk 32,.me (.row g cap) 32 1 (List.replicate 16 [.int .i64 0]))],[(2,[.sl (.id 1002000) 0 [],.sl (.id 1002001) 0 [],.sl (.id 1002002) 0 [],.sl (.id 1002003) 0 [],.sl (.id 1002004) 0 [],.sl (.id 1002005) 0 [],.sl (.id 1002006) 0 [],.sl (.id 1002007) 0 [],.int .i64 0,.int .i64 0,.int .i64 0]),(1,fM d)]⟩) (fun i=>i<=min (fy d).length d.pss.length) (fun i=>min (fy d).length d.pss.length - i) 0 (aU _) (LE) (fun i hi=>?_)
   ·have hS3:(fy d).length<=2:=H.slen;have hpl:((d.pss.map fun z=>[AV.sl .no 3 (z.map gV)]).length:Int)=(d.pss.length:Int):=by rw [az]
    by_cases U:i<min (fy d).length d.pss.length
    ·have bb1:=dF (show (i:Int)<(((fy d).map bM).length:Int) by omega);have M:=dF (show (i:Int)<((d.pss.map fun z=>[AV.sl .no 3 (z.map gV)]).length:Int) by omega);have hx1:((fy d).map bM)[(i:Int).toNat]?=some (bM (nh d i)):=cG bM iM ar;have hx2:(d.pss.map fun z=>[AV.sl .no 3 (z.map gV)])[(i:Int).toNat]?=some [AV.sl .no 3 ((d.pss.getD i []).map gV)]:=cG (fun z=>[AV.sl .no 3 (z.map gV)]) [] ar;have c1:aq Tryz.prog 17 [.int .i64 (nh d i 0),.int .i64 (aF d.t0 5000),.sl .no 3 ((d.pss.getD i []).map gV)] (cZ (Ba d i)):=Jz _ _ _ (hS2 i ar) H.fr (H.pss _ (c8 [] ar));have hSs:=uF d i;have hL6:=IP d i;have hP6:=DJ d i;generalize Ba d i=L at *;generalize R0 d i=P0 at *;generalize nh d i=xi at *
     repeat' first|exact (bb1 bf).elim|exact (M bf).elim|refine QE [] rfl hG af (.mk:KP bn) ?_|((conv=>whnf); first|refine cX ?_|refine cW ?_|refine fc ?_|refine aa (au i) (ae _ (aa hx1 ?_))|refine aa (au i) (ae _ (aa hx2 ?_))|refine ae _ (aa (c1) ?_)|refine aa (fun h=>?_) (fun h=>?_)|refine ak ?_)
     refine aJ.loop (X:=Nat) (fun k=>⟨[(8,.int .i64 k),(7,cZ L),(6,.int .i64 i),(4,.pin 5100000 b 0 []),(3,.int .i64 (aF d.t0 5000)),(2,.loc 2 0),(1,.loc 1 0),(xk 5100000,.me .box 5100000 b [[.sl .no 21 ((fy d).map bM),.sl (.id 5101000) 6 (((List.range 3).map (fF d)).map eB),.sl .no 6 ((td P0 (L.take k)).map bU),.sl (.id 5103000) 19 [],.sl (.id 5104000) 9 [],.sl (.id 5105000) 2 [],.sl (.id 5106000) 1 [],.lit (.slice (some ⟨g,0,none⟩) 16 cap),.int .i64 (aF d.loss 3),.int .i64 (aF d.t0 5000),.int .i64 (IntKind.i64.wrap (aF d.t0 5000+200))]]),(xk 32,.me (.row g cap) 32 1 (List.replicate 16 [.int .i64 0]))],[(2,[.sl (.id 1002000) 0 [],.sl (.id 1002001) 0 [],.sl (.id 1002002) 0 [],.sl (.id 1002003) 0 [],.sl (.id 1002004) 0 [],.sl (.id 1002005) 0 [],.sl (.id 1002006) 0 [],.sl (.id 1002007) 0 [],.int .i64 0,.int .i64 0,.int .i64 0]),(1,fM d)]⟩) (fun k=>k<=L.length) (fun k=>L.length - k) 0 (aU _) (LE) (fun k hk=>?_)
     ·have hLl:((L.map bU).length:Int)=(L.length:Int):=by rw [az]
      by_cases w:k<L.length
      ·have c:=dF (show (k:Int)<((L.map bU).length:Int) by omega);have f:(L.map bU)[(k:Int).toNat]?=some (bU (L.getD k p9)):=cG bU p9 w;have G:=PW (a:=P0) w;have hQl:=Iv (L.take k) P0;rw [dA] at hQl;generalize L.getD k p9=p at *;generalize td P0 (L.take k)=Q at *;have hQm:((Q.map bU).length:Int)=(Q.length:Int):=by rw [az]
       repeat' first|exact (c bf).elim|refine aJ.seq ?_|refine dh hG af bn [] aI ?_|refine dH hG af bn [] aI ?_|refine aJ.skip hG af ?_|refine aJ.label hG af ?_|refine aJ.ret hG af ?_|refine aJ.exit hG af ?_|refine ck rfl ?_|refine cm rfl ?_|refine aJ.cond rfl (aa (fun h=>?_) (fun h=>?_))|((conv=>whnf); first|refine cX ?_|refine cW ?_|refine fc ?_|refine aa (fun h=>?_) (fun h=>?_)|refine ak ?_)
       refine aJ.block ?_
       repeat' first|exact (c bf).elim|refine aJ.seq ?_|refine dh hG af bn [] aI ?_|refine dH hG af bn [] aI ?_|refine aJ.skip hG af ?_|refine aJ.label hG af ?_|refine aJ.ret hG af ?_|refine aJ.exit hG af ?_|refine ck rfl ?_|refine cm rfl ?_|refine aJ.cond rfl (aa (fun h=>?_) (fun h=>?_))|((conv=>whnf); first|refine cX ?_|refine cW ?_|refine fc ?_|refine aa (fun h=>?_) (fun h=>?_)|refine ak ?_)
       refine aJ.cut (X:=Nat) (fun a=>⟨[(9,.int .i64 a),(8,.int .i64 k),(7,cZ L),(6,.int .i64 i),(4,.pin 5100000 b 0 []),(3,.int .i64 (aF d.t0 5000)),(2,.loc 2 0),(1,.loc 1 0),(xk 5100000,.me .box 5100000 b [[.sl .no 21 ((fy d).map bM),.sl (.id 5101000) 6 (((List.range 3).map (fF d)).map eB),.sl .no 6 ((Q).map bU),.sl (.id 5103000) 19 [],.sl (.id 5104000) 9 [],.sl (.id 5105000) 2 [],.sl (.id 5106000) 1 [],.lit (.slice (some ⟨g,0,none⟩) 16 cap),.int .i64 (aF d.loss 3),.int .i64 (aF d.t0 5000),.int .i64 (IntKind.i64.wrap (aF d.t0 5000+200))]]),(xk 32,.me (.row g cap) 32 1 (List.replicate 16 [.int .i64 0]))],[(2,[.sl (.id 1002000) 0 [],.sl (.id 1002001) 0 [],.sl (.id 1002002) 0 [],.sl (.id 1002003) 0 [],.sl (.id 1002004) 0 [],.sl (.id 1002005) 0 [],.sl (.id 1002006) 0 [],.sl (.id 1002007) 0 [],.int .i64 0,.int .i64 0,.int .i64 0]),(1,fM d)]⟩) (fun a=>a<=Q.length/\(∀ y∈Q.take a,kl p y=false)/\∀ h:a<Q.length,kl p Q[a]=true) ?_ (fun a P=>?_)
       ·refine aJ.block ?_;refine aJ.loop (X:=Nat) (fun a=>⟨[(9,.int .i64 a),(8,.int .i64 k),(7,cZ L),(6,.int .i64 i),(4,.pin 5100000 b 0 []),(3,.int .i64 (aF d.t0 5000)),(2,.loc 2 0),(1,.loc 1 0),(xk 5100000,.me .box 5100000 b [[.sl .no 21 ((fy d).map bM),.sl (.id 5101000) 6 (((List.range 3).map (fF d)).map eB),.sl .no 6 ((Q).map bU),.sl (.id 5103000) 19 [],.sl (.id 5104000) 9 [],.sl (.id 5105000) 2 [],.sl (.id 5106000) 1 [],.lit (.slice (some ⟨g,0,none⟩) 16 cap),.int .i64 (aF d.loss 3),.int .i64 (aF d.t0 5000),.int .i64 (IntKind.i64.wrap (aF d.t0 5000+200))]]),(xk 32,.me (.row g cap) 32 1 (List.replicate 16 [.int .i64 0]))],[(2,[.sl (.id 1002000) 0 [],.sl (.id 1002001) 0 [],.sl (.id 1002002) 0 [],.sl (.id 1002003) 0 [],.sl (.id 1002004) 0 [],.sl (.id 1002005) 0 [],.sl (.id 1002006) 0 [],.sl (.id 1002007) 0 [],.int .i64 0,.int .i64 0,.int .i64 0]),(1,fM d)]⟩) (fun a=>a<=Q.length/\∀ y∈Q.take a,kl p y=false) (fun a=>Q.length - a) 0 ⟨aU _,fun y hy=>by simp at hy⟩ (LE) (fun a P=>?_)
        ·obtain ⟨P,B⟩:=P;by_cases A:a<Q.length
         ·have J:=dF (show (a:Int)<((Q.map bU).length:Int) by omega);have hxa:(Q.map bU)[(a:Int).toNat]?=some (bU (Q.getD a p9)):=cG bU p9 A;have hta2:=dz p9 A;have hqa:Q[a]=Q.getD a p9:=by rw [aK,ai A]; rfl
          generalize Q.getD a p9=q at *;have c2:=BC p q
          repeat' first|exact (J bf).elim|exact (c bf).elim|refine QE [] rfl hG af (.mk:KP bn) ?_|((conv=>whnf); first|refine cX ?_|refine cW ?_|refine fc ?_|refine aa (au k) (ae _ (aa f ?_))|refine aa (au a) (ae _ (aa hxa ?_))|refine ae _ (aa (c2) ?_)|refine aa (fun h=>?_) (fun h=>?_)|refine ak ?_)
          ·have hn:∀ y∈Q.take (a+1),kl p y=false:=fun y hy=>by
            rw [hta2] at hy;rcases eT.1 hy with h2 | h2
            ·exact B y h2
            ·rw [cv.1 h2]; simpa using (by assumption:(!kl p q)=true)
           refine ae (a+1) (aa ⟨A,hn⟩ (aa ar (LE)))
          ·refine ae a (aa ⟨P,B,fun _=>by rw [hqa]; simpa using (by assumption:(!kl p q)=false)⟩ (LE))
         ·have J:=dT (show ¬((a:Int)<((Q.map bU).length:Int)) by omega)
          repeat' first|exact (J bf).elim|exact (c bf).elim|refine QE [] rfl hG af (.mk:KP bn) ?_|((conv=>whnf); first|refine cX ?_|refine cW ?_|refine fc ?_|refine aa (fun h=>?_) (fun h=>?_)|refine ak ?_)
          refine ae a (aa ⟨P,B,fun h=>absurd h A⟩ (LE))
       ·obtain ⟨P,B,hxa⟩:=P;have hins:=Wz B hxa;obtain ⟨T,hT⟩:∃ T,T=(List.take ((a:Int)).toNat (Q.map bU)).drop 0:=⟨_,rfl⟩;obtain ⟨D,hD⟩:∃ D,D=(List.take (Q.map bU).length (Q.map bU)).drop ((a:Int)).toNat:=⟨_,rfl⟩;have E:T=(Q.take a).map bU:=by rw [hT,Hh,eK,Lv]
        have N:D=(Q.drop a).map bU:=by rw [hD,dl,eK,List.map_drop]
        have e:(uu p Q).map bU=T++bU p::D:=by rw [hins,E,N,c7,cp]
        have hTl:T.length<=100:=by rw [E,az,dA]; omega
        have hDl:D.length<=100:=by rw [N,az,ym]; omega
        have r:(1+D.length)*48<=70368744177664:=by omega
        have l:1+D.length<=4611686018427387904:=by omega
        have m:(T.length+(D.length+1))*48<=70368744177664:=by omega
        have v:T.length+(D.length+1)<=4611686018427387904:=by omega
        have o:((a:Int)).toNat<=(Q.map bU).length:=by rw [az]; omega
        conv=>whnf
        repeat' first|exact (c bf).elim|refine aJ.seq ?_|refine aJ.block ?_|refine dh hG af bn [] aI ?_|refine aJ.skip hG af ?_|refine aJ.label hG af ?_|refine aJ.ret hG af ?_|refine aJ.exit hG af ?_|refine ck rfl ?_|refine cm rfl ?_|refine aJ.cond rfl (aa (fun h=>?_) (fun h=>?_))|((conv=>whnf); first|refine cX ?_|refine cW ?_|refine fc ?_|refine aa (au k) (ae _ (aa f ?_))|refine aa (au a) ?_|refine aa (aU _) ?_|refine aa o ?_|refine aa (ba _) ?_|refine aa rfl ?_|refine aa r (aa l ?_)|refine aa m (aa v ?_)|refine aa (fun h=>?_) (fun h=>?_)|refine ak ?_)
        rw [<- hD];clear hD N
        cases D with
        | nil=>
         repeat' first|exact (c bf).elim|refine aJ.seq ?_|refine aJ.block ?_|refine dh hG af bn [] aI ?_|refine aJ.skip hG af ?_|refine aJ.label hG af ?_|refine aJ.ret hG af ?_|refine aJ.exit hG af ?_|refine ck rfl ?_|refine cm rfl ?_|refine aJ.cond rfl (aa (fun h=>?_) (fun h=>?_))|((conv=>whnf); first|refine cX ?_|refine cW ?_|refine fc ?_|refine aa (au k) (ae _ (aa f ?_))|refine aa (au a) ?_|refine aa (aU _) ?_|refine aa o ?_|refine aa (ba _) ?_|refine aa rfl ?_|refine aa r (aa l ?_)|refine aa m (aa v ?_)|refine aa (fun h=>?_) (fun h=>?_)|refine ak ?_)
         rw [<- hT];clear hT E
         cases T with
         | nil=>
          repeat' first|exact (c bf).elim|refine aJ.seq ?_|refine aJ.block ?_|refine dh hG af bn [] aI ?_|refine aJ.skip hG af ?_|refine aJ.label hG af ?_|refine aJ.ret hG af ?_|refine aJ.exit hG af ?_|refine ck rfl ?_|refine cm rfl ?_|refine aJ.cond rfl (aa (fun h=>?_) (fun h=>?_))|((conv=>whnf); first|refine cX ?_|refine cW ?_|refine fc ?_|refine aa (au k) (ae _ (aa f ?_))|refine aa (au a) ?_|refine aa (aU _) ?_|refine aa o ?_|refine aa (ba _) ?_|refine aa rfl ?_|refine aa r (aa l ?_)|refine aa m (aa v ?_)|refine aa (fun h=>?_) (fun h=>?_)|refine ak ?_)
          refine aJ.pubX 5100000 2 rfl rfl ?_
          conv=>whnf
          repeat' first|exact (c bf).elim|refine QE [] rfl hG af (.mk:KP bn) ?_|((conv=>whnf); first|refine cX ?_|refine cW ?_|refine fc ?_|refine aa (fun h=>?_) (fun h=>?_)|refine ak ?_)
          refine ae (k+1) (aa w (aa ar (St.le.of ?_ ?_)))
          ·rw [G,e];refine aa (ax some (bL ar)) ?_;exact RF
          ·exact RF
         | cons t T' => 
          repeat' first|exact (c bf).elim|refine aJ.seq ?_|refine aJ.block ?_|refine dh hG af bn [] aI ?_|refine aJ.skip hG af ?_|refine aJ.label hG af ?_|refine aJ.ret hG af ?_|refine aJ.exit hG af ?_|refine ck rfl ?_|refine cm rfl ?_|refine aJ.cond rfl (aa (fun h=>?_) (fun h=>?_))|((conv=>whnf); first|refine cX ?_|refine cW ?_|refine fc ?_|refine aa (au k) (ae _ (aa f ?_))|refine aa (au a) ?_|refine aa (aU _) ?_|refine aa o ?_|refine aa (ba _) ?_|refine aa rfl ?_|refine aa r (aa l ?_)|refine aa m (aa v ?_)|refine aa (fun h=>?_) (fun h=>?_)|refine ak ?_)
          refine aJ.pubX 5100000 2 rfl rfl ?_
          conv=>whnf
          repeat' first|exact (c bf).elim|refine QE [] rfl hG af (.mk:KP bn) ?_|((conv=>whnf); first|refine cX ?_|refine cW ?_|refine fc ?_|refine aa (fun h=>?_) (fun h=>?_)|refine ak ?_)
          refine ae (k+1) (aa w (aa ar (St.le.of ?_ ?_)))
          ·rw [G,e];refine aa (ax some (bL ar)) ?_;exact RF
          ·exact RF
        | cons u D'=>
         repeat' first|exact (c bf).elim|refine aJ.seq ?_|refine aJ.block ?_|refine dh hG af bn [] aI ?_|refine aJ.skip hG af ?_|refine aJ.label hG af ?_|refine aJ.ret hG af ?_|refine aJ.exit hG af ?_|refine ck rfl ?_|refine cm rfl ?_|refine aJ.cond rfl (aa (fun h=>?_) (fun h=>?_))|((conv=>whnf); first|refine cX ?_|refine cW ?_|refine fc ?_|refine aa (au k) (ae _ (aa f ?_))|refine aa (au a) ?_|refine aa (aU _) ?_|refine aa o ?_|refine aa (ba _) ?_|refine aa rfl ?_|refine aa r (aa l ?_)|refine aa m (aa v ?_)|refine aa (fun h=>?_) (fun h=>?_)|refine ak ?_)
         rw [<- hT];clear hT E
         cases T with
         | nil=>
          repeat' first|exact (c bf).elim|refine aJ.seq ?_|refine aJ.block ?_|refine dh hG af bn [] aI ?_|refine aJ.skip hG af ?_|refine aJ.label hG af ?_|refine aJ.ret hG af ?_|refine aJ.exit hG af ?_|refine ck rfl ?_|refine cm rfl ?_|refine aJ.cond rfl (aa (fun h=>?_) (fun h=>?_))|((conv=>whnf); first|refine cX ?_|refine cW ?_|refine fc ?_|refine aa (au k) (ae _ (aa f ?_))|refine aa (au a) ?_|refine aa (aU _) ?_|refine aa o ?_|refine aa (ba _) ?_|refine aa rfl ?_|refine aa r (aa l ?_)|refine aa m (aa v ?_)|refine aa (fun h=>?_) (fun h=>?_)|refine ak ?_)
          refine aJ.pubX 5100000 2 rfl rfl ?_
          conv=>whnf
          repeat' first|exact (c bf).elim|refine QE [] rfl hG af (.mk:KP bn) ?_|((conv=>whnf); first|refine cX ?_|refine cW ?_|refine fc ?_|refine aa (fun h=>?_) (fun h=>?_)|refine ak ?_)
          refine ae (k+1) (aa w (aa ar (St.le.of ?_ ?_)))
          ·rw [G,e];refine aa (ax some (bL ar)) ?_;exact RF
          ·exact RF
         | cons t T' => 
          repeat' first|exact (c bf).elim|refine aJ.seq ?_|refine aJ.block ?_|refine dh hG af bn [] aI ?_|refine aJ.skip hG af ?_|refine aJ.label hG af ?_|refine aJ.ret hG af ?_|refine aJ.exit hG af ?_|refine ck rfl ?_|refine cm rfl ?_|refine aJ.cond rfl (aa (fun h=>?_) (fun h=>?_))|((conv=>whnf); first|refine cX ?_|refine cW ?_|refine fc ?_|refine aa (au k) (ae _ (aa f ?_))|refine aa (au a) ?_|refine aa (aU _) ?_|refine aa o ?_|refine aa (ba _) ?_|refine aa rfl ?_|refine aa r (aa l ?_)|refine aa m (aa v ?_)|refine aa (fun h=>?_) (fun h=>?_)|refine ak ?_)
          refine aJ.pubX 5100000 2 rfl rfl ?_
          conv=>whnf
          repeat' first|exact (c bf).elim|refine QE [] rfl hG af (.mk:KP bn) ?_|((conv=>whnf); first|refine cX ?_|refine cW ?_|refine fc ?_|refine aa (fun h=>?_) (fun h=>?_)|refine ak ?_)
          refine ae (k+1) (aa w (aa ar (St.le.of ?_ ?_)))
          ·rw [G,e];refine aa (ax some (bL ar)) ?_;exact RF
          ·exact RF
      ·have c:=dT (show ¬((k:Int)<((L.map bU).length:Int)) by omega);have hkL:k=L.length:=by omega
       subst hkL;rw [dl,<- hSs]
       repeat' first|exact (c bf).elim|refine QE [] rfl hG af (.mk:KP bn) ?_|((conv=>whnf); first|refine cX ?_|refine cW ?_|refine fc ?_|refine aa (fun h=>?_) (fun h=>?_)|refine ak ?_)
       refine ae (i+1) (aa U (aa ar (LE)))
    ·have bb1:i<(fy d).length->decide ((i:Int)<((d.pss.map fun z=>[AV.sl .no 3 (z.map gV)]).length:Int))=true->False:=fun g h=>by have:=aH h; rw [hpl] at this; omega
     have hil:i=min (fy d).length d.pss.length:=by omega
     have M:decide ((i:Int)<(((fy d).map bM).length:Int))=true->decide ((i:Int)<((d.pss.map fun z=>[AV.sl .no 3 (z.map gV)]).length:Int))=true->False:=fun h g=>by
      have h:=aH h;have g:=aH g;rw [hSl] at h;rw [hpl] at g;omega
     subst hil;refine aJ.seq ?_;refine aJ.seq ?_
     repeat' first|exact (M bf bf).elim|refine QF [] rfl hG af (.mk:KP bn) ?_|((conv=>whnf); first|refine cX ?_|refine cW ?_|refine fc ?_|refine aa (fun h=>?_) (fun h=>?_)|refine ak ?_)
     all_goals refine aJ.le (LE) (No d H hG b g cap)
end Go.Proofs
