/- Part 10 of the proof: an abstract interpreter for the code, contracts of the functions, and plain facts; the conditions are those typed. -/
import Derived.Test.YthjhnnmcdhokcaaGreatDoorNH
import Derived.Test.YthjhnnmcdhokcaaGreatDoorNI
set_option linter.unusedSectionVars false
set_option linter.unusedVariables false
set_option linter.unusedSimpArgs false
namespace Go.Proofs
open Go Go.AI
set_option maxRecDepth 10000
set_option maxHeartbeats 64000000 in
theorem NV (d:bQ) (H:yl d) {F:Fence} {L:Nat} {w0:World} {m0:d5} (hG:cr.OK ⟨Tryz.prog,F,L,w0,m0,Tryz.f5.ntmps⟩) (b g cap:Nat):aI ⟨Tryz.prog,F,L,w0,m0,Tryz.f5.ntmps⟩ ⟨[(4,.pin 5100000 b 0 []),(3,.int .i64 (aH d.t0 5000)),(2,.loc 2 0),(1,.loc 1 0),(xk 5100000,.me .box 5100000 b [[.sl .no 21 ((fP d).map bR),.sl (.id 5101000) 6 (((List.range 3).map (fN d)).map fa),.sl .no 6 ((fz d).map bY),.sl (.id 5103000) 19 [],.sl (.id 5104000) 9 ((bT d).map bL),.sl (.id 5105000) 2 [],.sl (.id 5106000) 1 [],.lit (.slice (some ⟨g,0,none⟩) 16 cap),.int .i64 (aH d.loss 3),.int .i64 (aH d.t0 5000),.int .i64 (IntKind.i64.wrap (aH d.t0 5000+200))]]),(xk 32,.me (.row g cap) 32 1 (List.replicate 16 [.int .i64 0]))],[(2,[.sl (.id 1002000) 0 [],.sl (.id 1002001) 0 [],.sl (.id 1002002) 0 [],.sl (.id 1002003) 0 [],.sl (.id 1002004) 0 [],.sl (.id 1002005) 0 [],.sl (.id 1002006) 0 [],.sl (.id 1002007) 0 [],.int .i64 0,.int .i64 0,.int .i64 0]),(1,fR d)]⟩ (fy (fy (fy (fy (fy (fy (fy ((match Tryz.f5.body with | some c=>c | none => .skip))))))))) (Go.AI.Ends jT Tryz.f5.results.toList (.agg (gC (jr d)))):=by
 repeat' first|refine aI.seq ?_|refine dh hG af bn [] aK ?_|refine dJ hG af bn [] aK ?_|refine aI.skip hG af ?_|refine aI.label hG af ?_|refine aI.ret hG af ?_|refine aI.exit hG af ?_|refine cc rfl ?_|refine ce rfl ?_|refine aI.cond rfl (aa (fun h=>?_) (fun h=>?_))|((conv=>whnf); first|refine cZ ?_|refine cY ?_|refine ed ?_|refine aa (fun h=>?_) (fun h=>?_)|refine aj ?_)
 refine aI.cut (X:=Unit) (fun _=>⟨[(4,.pin 5100000 b 0 []),(3,.int .i64 (aH d.t0 5000)),(2,.loc 2 0),(1,.loc 1 0),(xk 5100000,.me .box 5100000 b [[.sl .no 21 ((fP d).map bR),.sl (.id 5101000) 6 (((List.range 3).map (fN d)).map fa),.sl .no 6 ((fz d).map bY),.sl (.id 5103000) 19 ((d8 d).map fL),.sl (.id 5104000) 9 ((bT d).map bL),.sl (.id 5105000) 2 [],.sl (.id 5106000) 1 [],.lit (.slice (some ⟨g,0,none⟩) 16 cap),.int .i64 (aH d.loss 3),.int .i64 (aH d.t0 5000),.int .i64 (IntKind.i64.wrap (aH d.t0 5000+200))]]),(xk 32,.me (.row g cap) 32 1 (List.replicate 16 [.int .i64 0]))],[(2,[.sl (.id 1002000) 0 [],.sl (.id 1002001) 0 [],.sl (.id 1002002) 0 [],.sl (.id 1002003) 0 [],.sl (.id 1002004) 0 [],.sl (.id 1002005) 0 [],.sl (.id 1002006) 0 [],.sl (.id 1002007) 0 [],.int .i64 0,.int .i64 0,.int .i64 0]),(1,fR d)]⟩) (fun _=>True) ?_ (fun _ _=>?_)
 ·refine aI.block ?_;refine aI.loop (X:=Nat) (fun i=>⟨[(11,.int .i64 i),(4,.pin 5100000 b 0 []),(3,.int .i64 (aH d.t0 5000)),(2,.loc 2 0),(1,.loc 1 0),(xk 5100000,.me .box 5100000 b [[.sl .no 21 ((fP d).map bR),.sl (.id 5101000) 6 (((List.range 3).map (fN d)).map fa),.sl .no 6 ((fz d).map bY),.sl (.id 5103000) 19 ((HS d i).map fL),.sl (.id 5104000) 9 ((bT d).map bL),.sl (.id 5105000) 2 [],.sl (.id 5106000) 1 [],.lit (.slice (some ⟨g,0,none⟩) 16 cap),.int .i64 (aH d.loss 3),.int .i64 (aH d.t0 5000),.int .i64 (IntKind.i64.wrap (aH d.t0 5000+200))]]),(xk 32,.me (.row g cap) 32 1 (List.replicate 16 [.int .i64 0]))],[(2,[.sl (.id 1002000) 0 [],.sl (.id 1002001) 0 [],.sl (.id 1002002) 0 [],.sl (.id 1002003) 0 [],.sl (.id 1002004) 0 [],.sl (.id 1002005) 0 [],.sl (.id 1002006) 0 [],.sl (.id 1002007) 0 [],.int .i64 0,.int .i64 0,.int .i64 0]),(1,fR d)]⟩) (fun i=>i<=4) (fun i=>4 - i) 0 (aZ _) (LE) (fun i hi=>?_)
  ·by_cases t:i<4
   ·have e:=dF (show (i:Int)<4 by omega)
    repeat' first|exact (e a8).elim|refine aI.seq ?_|refine dh hG af bn [] aK ?_|refine dJ hG af bn [] aK ?_|refine aI.skip hG af ?_|refine aI.label hG af ?_|refine aI.ret hG af ?_|refine aI.exit hG af ?_|refine cc rfl ?_|refine ce rfl ?_|refine aI.cond rfl (aa (fun h=>?_) (fun h=>?_))|((conv=>whnf); first|refine cZ ?_|refine cY ?_|refine ed ?_|refine aa (fun h=>?_) (fun h=>?_)|refine aj ?_)
    refine aI.block ?_;refine aI.seq ?_
    repeat' first|exact (e a8).elim|refine dh hG af bn [] aK ?_|refine dJ hG af bn [] aK ?_|refine aI.skip hG af ?_|refine aI.label hG af ?_|refine aI.ret hG af ?_|refine aI.exit hG af ?_|refine cc rfl ?_|refine ce rfl ?_|((conv=>whnf); first|refine cZ ?_|refine cY ?_|refine ed ?_|refine aa (fun h=>?_) (fun h=>?_)|refine aj ?_)
    refine aI.seq ?_;refine aI.cut (X:=Unit) (fun _=>⟨[(12,.loc 12 0),(11,.int .i64 i),(4,.pin 5100000 b 0 []),(3,.int .i64 (aH d.t0 5000)),(2,.loc 2 0),(1,.loc 1 0),(xk 5100000,.me .box 5100000 b [[.sl .no 21 ((fP d).map bR),.sl (.id 5101000) 6 (((List.range 3).map (fN d)).map fa),.sl .no 6 ((fz d).map bY),.sl (.id 5103000) 19 ((HS d i).map fL),.sl (.id 5104000) 9 ((bT d).map bL),.sl (.id 5105000) 2 [],.sl (.id 5106000) 1 [],.lit (.slice (some ⟨g,0,none⟩) 16 cap),.int .i64 (aH d.loss 3),.int .i64 (aH d.t0 5000),.int .i64 (IntKind.i64.wrap (aH d.t0 5000+200))]]),(xk 32,.me (.row g cap) 32 1 (List.replicate 16 [.int .i64 0]))],[(12,y4 (C5 d i)),(2,[.sl (.id 1002000) 0 [],.sl (.id 1002001) 0 [],.sl (.id 1002002) 0 [],.sl (.id 1002003) 0 [],.sl (.id 1002004) 0 [],.sl (.id 1002005) 0 [],.sl (.id 1002006) 0 [],.sl (.id 1002007) 0 [],.int .i64 0,.int .i64 0,.int .i64 0]),(1,fR d)]⟩) (fun _=>True) ?_ (fun _ _=>?_)
    ·have v:((d.ords.map y4).length:Int)=(d.ords.length:Int):=by rw [ay]
     by_cases ho:i<d.ords.length
     ·have a:=dF (show (i:Int)<((d.ords.map y4).length:Int) by omega);have n:(d.ords.map y4)[(i:Int).toNat]?=some (y4 (C5 d i)):=cQ y4 z4 ho
      repeat' first|exact (a a8).elim|refine QE [] rfl hG af (.mk:KP bn) ?_|((conv=>whnf); first|refine cZ ?_|refine cY ?_|refine ed ?_|refine aa (au i) (ae _ (aa n ?_))|refine aa (fun h=>?_) (fun h=>?_)|refine aj ?_)
      all_goals refine ae () (aa trivial (LE))
     ·have a:=dT (show ¬((i:Int)<((d.ords.map y4).length:Int)) by omega);have hz:C5 d i=z4:=by unfold C5; rw [aG,fW am]; rfl
      rw [hz]
      repeat' first|exact (a a8).elim|refine QE [] rfl hG af (.mk:KP bn) ?_|((conv=>whnf); first|refine cZ ?_|refine cY ?_|refine ed ?_|refine aa (fun h=>?_) (fun h=>?_)|refine aj ?_)
      all_goals refine ae () (aa trivial (LE))
    ·conv=>whnf
     refine aI.seq ?_
     repeat' first|exact (e a8).elim|refine dh hG af bn [] aK ?_|refine dJ hG af bn [] aK ?_|refine aI.skip hG af ?_|refine aI.label hG af ?_|refine aI.ret hG af ?_|refine aI.exit hG af ?_|refine cc rfl ?_|refine ce rfl ?_|((conv=>whnf); first|refine cZ ?_|refine cY ?_|refine ed ?_|refine aa (fun h=>?_) (fun h=>?_)|refine aj ?_)
     refine aI.seq ?_;refine aI.cut (X:=Unit) (fun _=>⟨[(13,.int .i64 (yF (bT d) i 0)),(12,.loc 12 0),(11,.int .i64 i),(4,.pin 5100000 b 0 []),(3,.int .i64 (aH d.t0 5000)),(2,.loc 2 0),(1,.loc 1 0),(xk 5100000,.me .box 5100000 b [[.sl .no 21 ((fP d).map bR),.sl (.id 5101000) 6 (((List.range 3).map (fN d)).map fa),.sl .no 6 ((fz d).map bY),.sl (.id 5103000) 19 ((HS d i).map fL),.sl (.id 5104000) 9 ((bT d).map bL),.sl (.id 5105000) 2 [],.sl (.id 5106000) 1 [],.lit (.slice (some ⟨g,0,none⟩) 16 cap),.int .i64 (aH d.loss 3),.int .i64 (aH d.t0 5000),.int .i64 (IntKind.i64.wrap (aH d.t0 5000+200))]]),(xk 32,.me (.row g cap) 32 1 (List.replicate 16 [.int .i64 0]))],[(12,y4 (C5 d i)),(2,[.sl (.id 1002000) 0 [],.sl (.id 1002001) 0 [],.sl (.id 1002002) 0 [],.sl (.id 1002003) 0 [],.sl (.id 1002004) 0 [],.sl (.id 1002005) 0 [],.sl (.id 1002006) 0 [],.sl (.id 1002007) 0 [],.int .i64 0,.int .i64 0,.int .i64 0]),(1,fR d)]⟩) (fun _=>True) ?_ (fun _ _=>?_)
     ·refine aI.seq ?_
      repeat' first|exact (e a8).elim|refine dh hG af bn [] aK ?_|refine dJ hG af bn [] aK ?_|refine aI.skip hG af ?_|refine aI.label hG af ?_|refine aI.ret hG af ?_|refine aI.exit hG af ?_|refine cc rfl ?_|refine ce rfl ?_|((conv=>whnf); first|refine cZ ?_|refine cY ?_|refine ed ?_|refine aa (fun h=>?_) (fun h=>?_)|refine aj ?_)
      have N:((bT d).length:Int)<=1000000:=by have:=uX d (na d); have h:na d<=(fP d).length:=dU _ _; have:=H.slen; show ((Er d (na d)).length:Int)<=_; omega
      have v:(((bT d).map bL).length:Int)=((bT d).length:Int):=by rw [ay]
      have E:=Ue (bT d) i;have y:=fun j h=>QO (l:=bT d) (i:=i) (j:=j) h;generalize bT d=O at *;have G:IntKind.i64.wrap (((O.map bL).length:Int) - 1)=(O.length:Int) - 1:=by rw [v]; exact a6 am am
      refine aI.block ?_;refine aI.loop (X:=Nat) (fun j=>⟨[(14,.int .i64 ((j:Int) - 1)),(13,.int .i64 (yF (O) i j)),(12,.loc 12 0),(11,.int .i64 i),(4,.pin 5100000 b 0 []),(3,.int .i64 (aH d.t0 5000)),(2,.loc 2 0),(1,.loc 1 0),(xk 5100000,.me .box 5100000 b [[.sl .no 21 ((fP d).map bR),.sl (.id 5101000) 6 (((List.range 3).map (fN d)).map fa),.sl .no 6 ((fz d).map bY),.sl (.id 5103000) 19 ((HS d i).map fL),.sl (.id 5104000) 9 ((O).map bL),.sl (.id 5105000) 2 [],.sl (.id 5106000) 1 [],.lit (.slice (some ⟨g,0,none⟩) 16 cap),.int .i64 (aH d.loss 3),.int .i64 (aH d.t0 5000),.int .i64 (IntKind.i64.wrap (aH d.t0 5000+200))]]),(xk 32,.me (.row g cap) 32 1 (List.replicate 16 [.int .i64 0]))],[(12,y4 (C5 d i)),(2,[.sl (.id 1002000) 0 [],.sl (.id 1002001) 0 [],.sl (.id 1002002) 0 [],.sl (.id 1002003) 0 [],.sl (.id 1002004) 0 [],.sl (.id 1002005) 0 [],.sl (.id 1002006) 0 [],.sl (.id 1002007) 0 [],.int .i64 0,.int .i64 0,.int .i64 0]),(1,fR d)]⟩) (fun j=>j<=O.length) (fun j=>j) O.length (ba _) (St.le.of ?_ ?_) (fun j hj=>?_)
      ·refine aa (ax (fun z=>some (AV.int .i64 z)) G) (aa (ax (fun z=>some (AV.int .i64 z)) E.symm) ?_);exact RF
      ·exact RF
      ·cases j with
       | zero=>
        have a:=dT (show ¬((((0:Nat):Int) - 1)>=0) by omega)
        repeat' first|exact (a a8).elim|refine QE [] rfl hG af (.mk:KP bn) ?_|((conv=>whnf); first|refine cZ ?_|refine cY ?_|refine ed ?_|refine aa (fun h=>?_) (fun h=>?_)|refine aj ?_)
        all_goals refine ae () (aa trivial (LE))
       | succ m=>
        have a:=dF (show (((m+1:Nat):Int) - 1)>=0 by omega);have Q:(0:Int)<=((m+1:Nat):Int) - 1:=by omega
        have o:((m+1:Nat):Int) - 1=(m:Int):=by omega
        have n:(O.map bL)[(((m+1:Nat):Int) - 1).toNat]?=some (bL (O.getD m de)):=by rw [o]; exact cQ bL de am
        have M:=y m am
        repeat' first|exact (a a8).elim|refine QE [] rfl hG af (.mk:KP bn) ?_|((conv=>whnf); first|refine cZ ?_|refine cY ?_|refine ed ?_|refine aa Q (ae _ (aa n ?_))|refine aa (fun h=>?_) (fun h=>?_)|refine aj ?_)
        ·have r:((m+1:Nat):Int) - 1=yF O i m:=by rw [M,aV (by unfold Aq; exact bP (eq_of_beq a8))]; exact o
         have q:IntKind.i64.wrap (((m+1:Nat):Int) - 1 - 1)=(m:Int) - 1:=by rw [o]; exact a6 am am
         refine ae m (aa am (aa am (St.le.of ?_ ?_)))
         ·refine aa (ax (fun z=>some (AV.int .i64 z)) q) (aa (ax (fun z=>some (AV.int .i64 z)) r) ?_);exact RF
         ·exact RF
        ·have r:yF O i (m+1)=yF O i m:=by rw [M,aY (by unfold Aq; have h:=(by assumption:((O.getD m de).ord==(i:Int))=false); simpa using h)]
         have q:IntKind.i64.wrap (((m+1:Nat):Int) - 1 - 1)=(m:Int) - 1:=by rw [o]; exact a6 am am
         refine ae m (aa am (aa am (St.le.of ?_ ?_)))
         ·refine aa (ax (fun z=>some (AV.int .i64 z)) q) (aa (ax (fun z=>some (AV.int .i64 z)) r) ?_);exact RF
         ·exact RF
     ·conv=>whnf
      rw [QL];have P:=rS d i;have f:=Ap d i;unfold BA at f
      cases A:(bT d).findIdx? (Aq i) with
      | none=>
       rw [A] at f;rw [bV] at f
       repeat' first|exact (e a8).elim|refine QE [] rfl hG af (.mk:KP bn) ?_|((conv=>whnf); first|refine cZ ?_|refine cY ?_|refine ed ?_|refine aa (fun h=>?_) (fun h=>?_)|refine aj ?_)
       refine ae (i+1) (aa t (aa am (St.le.of ?_ ?_)))
       ·rw [f];refine aa (ax some (bK am)) ?_;exact RF
       ·exact RF
      | some p=>
       rw [A] at f;obtain ⟨u,-,-⟩:=iD.1 A;have Z:(bT d).length<=8:=by have:=uX d (na d); have h:na d<=(fP d).length:=dU _ _; have:=H.slen; show (Er d (na d)).length<=_; omega
       have n:((bT d).map bL)[((p:Nat):Int).toNat]?=some (bL ((bT d).getD p de)):=cQ bL de u;obtain ⟨g1,g2,g3,g4⟩:=H.goal _ (cF de u);have x:(fP d)[wX d ((bT d).getD p de)]?=some (nv d (wX d ((bT d).getD p de))):=by unfold nv; rw [ai g2,aG (l:=fP d),ai g2]; rfl
       have U:=NK ⟨fP d,(List.range 3).map (fN d),fz d,HS d i,bT d,[],[],List.replicate 16 0,aH d.loss 3,aH d.t0 5000,IntKind.i64.wrap (aH d.t0 5000+200)⟩ (.slice (some ⟨g,0,none⟩) 16 cap) (by have:=H.slen; show (fP d).length<=_; omega) _ (C5 d i) _ _ g1 x g3 g4;have w:(((HS d i).map fL).length+1)*200<=70368744177664:=by rw [ay]; omega
       have J:((HS d i).map fL).length+1<=4611686018427387904:=by rw [ay]; omega
       have a:=dT (show ¬((p:Int)<0) by omega);have B:=dF (show (p:Int)>=0 by omega)
       repeat' first|exact (a a8).elim|exact (B a8).elim|refine QE [] rfl hG af (.mk:KP bn) ?_|((conv=>whnf); first|refine cZ ?_|refine cY ?_|refine ed ?_|refine ae _ (aa (gy _ _ bt) ?_)|refine ae _ (aa (U) ?_)|refine aa (au p) (ae _ (aa n ?_))|refine aa w (aa J ?_)|refine aa bt (aa bt ?_)|refine aa (show (4:Int)≠0 by decide) ?_|refine aa bt (aa bt (aa (ah rfl) (aa bt ?_)))|refine aa (fun h=>?_) (fun h=>?_)|refine aj ?_)
       refine ae (i+1) (aa t (aa am (St.le.of ?_ ?_)))
       ·rw [f,dw];refine aa (ax some (bK am)) ?_;exact RF
       ·exact RF
   ·have e:=dT (show ¬((i:Int)<4) by omega);have D:i=4:=by omega
    subst D
    repeat' first|exact (e a8).elim|refine QE [] rfl hG af (.mk:KP bn) ?_|((conv=>whnf); first|refine cZ ?_|refine cY ?_|refine ed ?_|refine aa (fun h=>?_) (fun h=>?_)|refine aj ?_)
    refine ae () (aa trivial (LE))
 ·conv=>whnf
  refine aI.le (LE) (NU d H hG b g cap)
open Go Go.AI
set_option maxRecDepth 10000
set_option maxHeartbeats 64000000 in
theorem NW (d:bQ) (H:yl d) {F:Fence} {E:Nat} {w0:World} {m0:d5} (hG:cr.OK ⟨Tryz.prog,F,E,w0,m0,Tryz.f5.ntmps⟩) (b g cap:Nat):aI ⟨Tryz.prog,F,E,w0,m0,Tryz.f5.ntmps⟩ ⟨[(4,.pin 5100000 b 0 []),(3,.int .i64 (aH d.t0 5000)),(2,.loc 2 0),(1,.loc 1 0),(xk 5100000,.me .box 5100000 b [[.sl .no 21 ((fP d).map bR),.sl (.id 5101000) 6 (((List.range 3).map (fN d)).map fa),.sl .no 6 ((fz d).map bY),.sl (.id 5103000) 19 [],.sl (.id 5104000) 9 [],.sl (.id 5105000) 2 [],.sl (.id 5106000) 1 [],.lit (.slice (some ⟨g,0,none⟩) 16 cap),.int .i64 (aH d.loss 3),.int .i64 (aH d.t0 5000),.int .i64 (IntKind.i64.wrap (aH d.t0 5000+200))]]),(xk 32,.me (.row g cap) 32 1 (List.replicate 16 [.int .i64 0]))],[(2,[.sl (.id 1002000) 0 [],.sl (.id 1002001) 0 [],.sl (.id 1002002) 0 [],.sl (.id 1002003) 0 [],.sl (.id 1002004) 0 [],.sl (.id 1002005) 0 [],.sl (.id 1002006) 0 [],.sl (.id 1002007) 0 [],.int .i64 0,.int .i64 0,.int .i64 0]),(1,fR d)]⟩ (fy (fy (fy (fy (fy (fy ((match Tryz.f5.body with | some c=>c | none => .skip)))))))) (Go.AI.Ends jT Tryz.f5.results.toList (.agg (gC (jr d)))):=by
 repeat' first|refine aI.seq ?_|refine dh hG af bn [] aK ?_|refine dJ hG af bn [] aK ?_|refine aI.skip hG af ?_|refine aI.label hG af ?_|refine aI.ret hG af ?_|refine aI.exit hG af ?_|refine cc rfl ?_|refine ce rfl ?_|refine aI.cond rfl (aa (fun h=>?_) (fun h=>?_))|((conv=>whnf); first|refine cZ ?_|refine cY ?_|refine ed ?_|refine aa (fun h=>?_) (fun h=>?_)|refine aj ?_)
 have q:(((fP d).map bR).length:Int)=((fP d).length:Int):=by rw [ay]
 have j:((d.opts.map fun z=>[AV.sl .no 5 (z.map gZ)]).length:Int)=(d.opts.length:Int):=by rw [ay]
 refine aI.cut (X:=Unit) (fun _=>⟨[(4,.pin 5100000 b 0 []),(3,.int .i64 (aH d.t0 5000)),(2,.loc 2 0),(1,.loc 1 0),(xk 5100000,.me .box 5100000 b [[.sl .no 21 ((fP d).map bR),.sl (.id 5101000) 6 (((List.range 3).map (fN d)).map fa),.sl .no 6 ((fz d).map bY),.sl (.id 5103000) 19 [],.sl (.id 5104000) 9 ((bT d).map bL),.sl (.id 5105000) 2 [],.sl (.id 5106000) 1 [],.lit (.slice (some ⟨g,0,none⟩) 16 cap),.int .i64 (aH d.loss 3),.int .i64 (aH d.t0 5000),.int .i64 (IntKind.i64.wrap (aH d.t0 5000+200))]]),(xk 32,.me (.row g cap) 32 1 (List.replicate 16 [.int .i64 0]))],[(2,[.sl (.id 1002000) 0 [],.sl (.id 1002001) 0 [],.sl (.id 1002002) 0 [],.sl (.id 1002003) 0 [],.sl (.id 1002004) 0 [],.sl (.id 1002005) 0 [],.sl (.id 1002006) 0 [],.sl (.id 1002007) 0 [],.int .i64 0,.int .i64 0,.int .i64 0]),(1,fR d)]⟩) (fun _=>True) ?_ (fun _ _=>?_)
 ·refine aI.block ?_;refine aI.loop (X:=Nat) (fun i=>⟨[(10,.int .i64 i),(4,.pin 5100000 b 0 []),(3,.int .i64 (aH d.t0 5000)),(2,.loc 2 0),(1,.loc 1 0),(xk 5100000,.me .box 5100000 b [[.sl .no 21 ((fP d).map bR),.sl (.id 5101000) 6 (((List.range 3).map (fN d)).map fa),.sl .no 6 ((fz d).map bY),.sl (.id 5103000) 19 [],.sl (.id 5104000) 9 ((Er d i).map bL),.sl (.id 5105000) 2 [],.sl (.id 5106000) 1 [],.lit (.slice (some ⟨g,0,none⟩) 16 cap),.int .i64 (aH d.loss 3),.int .i64 (aH d.t0 5000),.int .i64 (IntKind.i64.wrap (aH d.t0 5000+200))]]),(xk 32,.me (.row g cap) 32 1 (List.replicate 16 [.int .i64 0]))],[(2,[.sl (.id 1002000) 0 [],.sl (.id 1002001) 0 [],.sl (.id 1002002) 0 [],.sl (.id 1002003) 0 [],.sl (.id 1002004) 0 [],.sl (.id 1002005) 0 [],.sl (.id 1002006) 0 [],.sl (.id 1002007) 0 [],.int .i64 0,.int .i64 0,.int .i64 0]),(1,fR d)]⟩) (fun i=>i<=na d) (fun i=>na d - i) 0 (aZ _) (LE) (fun i hi=>?_)
  ·have N:(fP d).length<=2:=H.slen;have M:na d<=(fP d).length:=dU _ _;have Q:na d<=d.opts.length:=gY _ _;have P:na d=(fP d).length\/na d=d.opts.length:=by unfold na; omega
   by_cases p:i<na d
   ·have n:=dF (show (i:Int)<(((fP d).map bR).length:Int) by omega);have a:=dF (show (i:Int)<((d.opts.map fun z=>[AV.sl .no 5 (z.map gZ)]).length:Int) by omega);have y:((fP d).map bR)[(i:Int).toNat]?=some (bR (nv d i)):=cQ bR jp am;have f:(d.opts.map fun z=>[AV.sl .no 5 (z.map gZ)])[(i:Int).toNat]?=some [AV.sl .no 5 ((d.opts.getD i []).map gZ)]:=cQ (fun z=>[AV.sl .no 5 (z.map gZ)]) [] am;have m:IntKind.i64.wrap ((i:Int)+1)=(i:Int)+1:=a6 am am;have l:IntKind.i64.wrap (10*IntKind.i64.wrap ((i:Int)+1))=10*((i:Int)+1):=by rw [m]; exact a6 am am
    have e:∀ x∈(d.opts.getD i []).take 4,wO x:=fun x hx=>H.ops _ (cF [] am) x (dN hx)
    have D:ar Tryz.prog 20 [.agg (bR (nv d i)),dt (fz d),.int .i64 (aH d.t0 5000),.int .i64 (IntKind.i64.wrap (10*IntKind.i64.wrap ((i:Int)+1))),.sl .no 5 (((d.opts.getD i []).take 4).map gZ)] (dl (BC d i)):=by
     rw [l]; exact EM _ _ _ _ _ (H.oh i am) e
    have t:=Ar d i;have G:=Jn d i;have U:=uX d i;generalize d.opts.getD i []=z at *;have u:0<=min ((z.map gZ).length:Int) 4:=by omega
    have v:min ((z.map gZ).length:Int) 4<=((z.map gZ).length:Int):=by omega
    have w:(min ((z.map gZ).length:Int) 4).toNat<=(z.map gZ).length:=by omega
    have r:List.drop 0 (List.take (min ((z.map gZ).length:Int) 4).toNat (z.map gZ))=(z.take 4).map gZ:=by
     rw [HN,<- Ma]
     congr 1
     rw [ay];by_cases h2:z.length<=4
     ·rw [bA am,bA h2]
     ·rw [show (min (z.length:Int) 4).toNat=4 by omega]
    rw [<- r] at D;have J:((Er d (i+1)).map bL)=(Er d i).map bL++(BC d i).map bL:=by rw [t,dw]
    have o:(((Er d i).map bL).length+((BC d i).map bL).length)*88<=70368744177664:=by rw [ay,ay]; omega
    have B:((Er d i).map bL).length+((BC d i).map bL).length<=4611686018427387904:=by rw [ay,ay]; omega
    generalize BC d i=L at *;generalize (Er d i).map bL=O0 at *;generalize nv d i=Z at *
    repeat' first|exact (n a8).elim|exact (a a8).elim|refine QE [] rfl hG af (.mk:KP bn) ?_|((conv=>whnf); first|refine cZ ?_|refine cY ?_|refine ed ?_|refine aa (au i) (ae _ (aa y ?_))|refine aa (au i) (ae _ (aa f ?_))|refine aa u ?_|refine aa v ?_|refine aa (aZ _) (aa w ?_)|refine ae _ (aa (D) ?_)|refine aa o (aa B ?_)|refine aa (fun h=>?_) (fun h=>?_)|refine aj ?_)
    refine ae (i+1) (aa p (aa am (St.le.of ?_ ?_)))
    ·rw [J];refine aa (ax some (bK am)) ?_;exact RF
    ·exact RF
   ·have a:decide ((i:Int)<(((fP d).map bR).length:Int))=true->decide ((i:Int)<((d.opts.map fun z=>[AV.sl .no 5 (z.map gZ)]).length:Int))=true->False:=fun h g=>by
     have h:=aF h;have g:=aF g;rw [q] at h;rw [j] at g;omega
    have A:i=na d:=by omega
    subst A
    repeat' first|exact (a a8 a8).elim|refine QE [] rfl hG af (.mk:KP bn) ?_|((conv=>whnf); first|refine cZ ?_|refine cY ?_|refine ed ?_|refine aa (fun h=>?_) (fun h=>?_)|refine aj ?_)
    all_goals refine ae () (aa trivial (LE))
 ·conv=>whnf
  refine aI.le (LE) (NV d H hG b g cap)
open Go Go.AI
set_option maxRecDepth 10000
set_option maxHeartbeats 64000000 in
theorem RQ (d:bQ) (H:yl d):ar Tryz.prog 5 [.agg (fR d)] (.agg (gC (jr d))):=by
 have ho:=H.orb;refine L5 af Tryz.func5 rfl aK bj (ah rfl) ?_;intro F n' w0 m0 hG hro h1 Z us hul n
 obtain ⟨u0,u1,u2,u3,u4,u5,u6,u7,u8,u9,rfl⟩:∃ u0 u1 u2 u3 u4 u5 u6 u7 u8 u9,us=[u0,u1,u2,u3,u4,u5,u6,u7,u8,u9]:=by
  match us,hul with
  | [u0,u1,u2,u3,u4,u5,u6,u7,u8,u9],_=>exact ⟨_,_,_,_,_,_,_,_,_,_,rfl⟩
 repeat' first|refine QE [] rfl hG af (.mk:KP bn) ?_|((conv=>whnf); first|refine cZ ?_|refine cY ?_|refine ed ?_|refine ae _ (aa (gy _ _ bt) ?_)|refine aa bt (aa bt (aa (ah rfl) (aa bt ?_)))|refine aa (fun h=>?_) (fun h=>?_)|refine aj ?_)
 refine aI.le (s':=⟨[(5,.int .i64 0),(4,.loc 4 0),(3,.int .i64 (aH d.t0 5000)),(2,.loc 2 0),(1,.loc 1 0)],[(4,[.sl .full 0 [],.sl .full 0 [],.sl .full 0 [],.sl .full 0 [],.sl .full 0 [],.sl .full 0 [],.sl .full 0 [],.sl (.id 32) 1 (List.replicate 16 [.int .i64 0]),.int .i64 (aH d.loss 3),.int .i64 (aH d.t0 5000),.int .i64 (IntKind.i64.wrap (aH d.t0 5000+200))]),(2,[.sl (.id 1002000) 0 [],.sl (.id 1002001) 0 [],.sl (.id 1002002) 0 [],.sl (.id 1002003) 0 [],.sl (.id 1002004) 0 [],.sl (.id 1002005) 0 [],.sl (.id 1002006) 0 [],.sl (.id 1002007) 0 [],.int .i64 0,.int .i64 0,.int .i64 0]),(1,[.int .i64 d.t0,.lit u1,.lit u2,.lit u3,.lit u4,.lit u5,.lit u6,.lit u7,.int .i64 d.loss,.int .i64 d.prom])]⟩) (LE) ?_;refine aI.unfrz Z 32 4 7 rfl rfl rfl rfl rfl rfl rfl rfl (fun g cap=>?_)
 conv=>whnf
 refine nm 1 1 (x := .sl .no 7 (d.orbs.map d7)) rfl rfl rfl (n 1 _ _ rfl rfl) ?_
 conv=>whnf
 refine nm 1 2 (x := .sl .no 4 (d.sq.map y4)) rfl rfl rfl (n 2 _ _ rfl rfl) ?_
 conv=>whnf
 refine nm 1 3 (x := .sl .no 1 (d.pss.map fun z=>[.sl .no 3 (z.map g8)])) rfl rfl rfl (n 3 _ _ rfl rfl) ?_
 conv=>whnf
 refine nm 1 4 (x := .sl .no 1 (d.opts.map fun z=>[.sl .no 5 (z.map gZ)])) rfl rfl rfl (n 4 _ _ rfl rfl) ?_
 conv=>whnf
 refine nm 1 5 (x := .sl .no 4 (d.ords.map y4)) rfl rfl rfl (n 5 _ _ rfl rfl) ?_
 conv=>whnf
 refine nm 1 6 (x := .sl .no 3 (d.buns.map g8)) rfl rfl rfl (n 6 _ _ rfl rfl) ?_
 conv=>whnf
 refine nm 1 7 (x:=bB d.quo) rfl rfl rfl (n 7 _ _ rfl rfl) ?_
 conv=>whnf
 refine io 4 1 5101000 6 rfl rfl ?_
 conv=>whnf
 refine io 4 2 5102000 6 rfl rfl ?_
 conv=>whnf
 refine io 4 3 5103000 19 rfl rfl ?_
 conv=>whnf
 refine io 4 4 5104000 9 rfl rfl ?_
 conv=>whnf
 refine io 4 5 5105000 2 rfl rfl ?_
 conv=>whnf
 refine io 4 6 5106000 1 rfl rfl ?_
 conv=>whnf
 refine aI.pin 4 5100000 rfl rfl rfl (fun b=>?_)
 conv=>whnf
 refine aI.loop (X:=Nat) (fun i=>⟨[(5,.int .i64 i),(4,.pin 5100000 b 0 []),(3,.int .i64 (aH d.t0 5000)),(2,.loc 2 0),(1,.loc 1 0),(xk 5100000,.me .box 5100000 b [[.sl .full 0 [],.sl (.id 5101000) 6 (((List.range i).map (fN d)).map fa),.sl (.id 5102000) 6 [],.sl (.id 5103000) 19 [],.sl (.id 5104000) 9 [],.sl (.id 5105000) 2 [],.sl (.id 5106000) 1 [],.lit (.slice (some ⟨g,0,none⟩) 16 cap),.int .i64 (aH d.loss 3),.int .i64 (aH d.t0 5000),.int .i64 (IntKind.i64.wrap (aH d.t0 5000+200))]]),(xk 32,.me (.row g cap) 32 1 (List.replicate 16 [.int .i64 0]))],[(2,[.sl (.id 1002000) 0 [],.sl (.id 1002001) 0 [],.sl (.id 1002002) 0 [],.sl (.id 1002003) 0 [],.sl (.id 1002004) 0 [],.sl (.id 1002005) 0 [],.sl (.id 1002006) 0 [],.sl (.id 1002007) 0 [],.int .i64 0,.int .i64 0,.int .i64 0]),(1,fR d)]⟩) (fun i=>i<=3) (fun i=>3 - i) 0 (aZ _) (LE) (fun i hi=>?_)
 ·by_cases U:i<3
  ·have c:=dF (show (i:Int)<3 by omega);have c0:=BM (i:Int) (fun j=>match j with | 0=>(i:Int) | 1=>(i:Int) | 2=>(i:Int) | _=>IntKind.i64.wrap (d.loss+(i:Int)));have hrow:((List.range (i+1)).map (fN d)).map fa=((List.range i).map (fN d)).map fa++[fa (fN d i)]:=by rw [dV]; simp
   have hln:(((List.range i).map (fN d)).map fa).length<=3:=by rw [ay,ay,SE]; omega
   generalize ((List.range i).map (fN d)).map fa=row at *;have hq1:(row.length+1)*48<=70368744177664:=by omega
   have hq2:row.length+1<=4611686018427387904:=by omega
   repeat' first|exact (c a8).elim|refine QE [] rfl hG af (.mk:KP bn) ?_|((conv=>whnf); first|refine cZ ?_|refine cY ?_|refine ed ?_|refine ae _ (aa (c0) ?_)|refine aa hq1 (aa hq2 ?_)|refine aa (fun h=>?_) (fun h=>?_)|refine aj ?_)
   refine ae (i+1) (aa U (aa am (St.le.of ?_ ?_)))
   ·rw [hrow];refine aa (ax some (bK am)) ?_;exact RF
   ·exact RF
  ·have c:=dT (show ¬((i:Int)<3) by omega);have hil:i=3:=by omega
   subst hil;have Z:0<=min ((d.orbs.map d7).length:Int) 2:=by omega
   have hm2:(min ((d.orbs.map d7).length:Int) 2).toNat<=(d.orbs.map d7).length:=by omega
   have htk:List.drop 0 (List.take (min ((d.orbs.map d7).length:Int) 2).toNat (d.orbs.map d7))=(d.orbs.take 2).map d7:=by
    rw [HN,<- Ma]
    congr 1
    rw [ay];by_cases h2:d.orbs.length<=2
    ·rw [bA am,bA h2]
    ·rw [show (min (d.orbs.length:Int) 2).toNat=2 by omega]
   have cS:ar Tryz.prog 17 [.sl .no 7 (List.drop 0 (List.take (min ((d.orbs.map d7).length:Int) 2).toNat (d.orbs.map d7))),.sl .no 4 (d.sq.map y4)] (sx (fP d)):=by
    rw [htk];exact NJ _ _ fun x hx=>ho x (dN hx)
   have hm1:min ((d.orbs.map d7).length:Int) 2<=((d.orbs.map d7).length:Int):=by omega
   repeat' first|exact (c a8).elim|refine QE [] rfl hG af (.mk:KP bn) ?_|((conv=>whnf); first|refine cZ ?_|refine cY ?_|refine ed ?_|refine aa Z ?_|refine aa hm1 ?_|refine aa (aZ _) (aa hm2 ?_)|refine ae _ (aa (cS) ?_)|refine aa (fun h=>?_) (fun h=>?_)|refine aj ?_)
   refine aI.pubX 5100000 2 rfl rfl ?_
   conv=>whnf
   have hS2:=H.sat;have hSl:(((fP d).map bR).length:Int)=((fP d).length:Int):=by rw [ay]
   refine aI.loop (X:=Nat) (fun i=>⟨[(6,.int .i64 i),(4,.pin 5100000 b 0 []),(3,.int .i64 (aH d.t0 5000)),(2,.loc 2 0),(1,.loc 1 0),(xk 5100000,.me .box 5100000 b [[.sl .no 21 ((fP d).map bR),.sl (.id 5101000) 6 (((List.range 3).map (fN d)).map fa),.sl .no 6 ((SN d i).map bY),.sl (.id 5103000) 19 [],.sl (.id 5104000) 9 [],.sl (.id 5105000) 2 [],.sl (.id 5106000) 1 [],.lit (.slice (some ⟨g,0,none⟩) 16 cap),.int .i64 (aH d.loss 3),.int .i64 (aH d.t0 5000),.int .i64 (IntKind.i64.wrap (aH d.t0 5000+200))]]),(xk 32,.me (.row g cap) 32 1 (List.replicate 16 [.int .i64 0]))],[(2,[.sl (.id 1002000) 0 [],.sl (.id 1002001) 0 [],.sl (.id 1002002) 0 [],.sl (.id 1002003) 0 [],.sl (.id 1002004) 0 [],.sl (.id 1002005) 0 [],.sl (.id 1002006) 0 [],.sl (.id 1002007) 0 [],.int .i64 0,.int .i64 0,.int .i64 0]),(1,fR d)]⟩) (fun i=>i<=min (fP d).length d.pss.length) (fun i=>min (fP d).length d.pss.length - i) 0 (aZ _) (LE) (fun i hi=>?_)
   ·have hS3:(fP d).length<=2:=H.slen;have hpl:((d.pss.map fun z=>[AV.sl .no 3 (z.map g8)]).length:Int)=(d.pss.length:Int):=by rw [ay]
    by_cases U:i<min (fP d).length d.pss.length
    ·have bb1:=dF (show (i:Int)<(((fP d).map bR).length:Int) by omega);have M:=dF (show (i:Int)<((d.pss.map fun z=>[AV.sl .no 3 (z.map g8)]).length:Int) by omega);have hx1:((fP d).map bR)[(i:Int).toNat]?=some (bR (nv d i)):=cQ bR jp am;have hx2:(d.pss.map fun z=>[AV.sl .no 3 (z.map g8)])[(i:Int).toNat]?=some [AV.sl .no 3 ((d.pss.getD i []).map g8)]:=cQ (fun z=>[AV.sl .no 3 (z.map g8)]) [] am;have c1:ar Tryz.prog 18 [.int .i64 (nv d i 0),.int .i64 (aH d.t0 5000),.sl .no 3 ((d.pss.getD i []).map g8)] (dt (BB d i)):=J7 _ _ _ (hS2 i am) H.fr (H.pss _ (cF [] am));have hSs:=uW d i;have hL6:=Jm d i;have hP6:=Ep d i;generalize BB d i=L at *;generalize SN d i=P0 at *;generalize nv d i=xi at *
     repeat' first|exact (bb1 a8).elim|exact (M a8).elim|refine QE [] rfl hG af (.mk:KP bn) ?_|((conv=>whnf); first|refine cZ ?_|refine cY ?_|refine ed ?_|refine aa (au i) (ae _ (aa hx1 ?_))|refine aa (au i) (ae _ (aa hx2 ?_))|refine ae _ (aa (c1) ?_)|refine aa (fun h=>?_) (fun h=>?_)|refine aj ?_)
     refine aI.loop (X:=Nat) (fun k=>⟨[(8,.int .i64 k),(7,dt L),(6,.int .i64 i),(4,.pin 5100000 b 0 []),(3,.int .i64 (aH d.t0 5000)),(2,.loc 2 0),(1,.loc 1 0),(xk 5100000,.me .box 5100000 b [[.sl .no 21 ((fP d).map bR),.sl (.id 5101000) 6 (((List.range 3).map (fN d)).map fa),.sl .no 6 ((tv P0 (L.take k)).map bY),.sl (.id 5103000) 19 [],.sl (.id 5104000) 9 [],.sl (.id 5105000) 2 [],.sl (.id 5106000) 1 [],.lit (.slice (some ⟨g,0,none⟩) 16 cap),.int .i64 (aH d.loss 3),.int .i64 (aH d.t0 5000),.int .i64 (IntKind.i64.wrap (aH d.t0 5000+200))]]),(xk 32,.me (.row g cap) 32 1 (List.replicate 16 [.int .i64 0]))],[(2,[.sl (.id 1002000) 0 [],.sl (.id 1002001) 0 [],.sl (.id 1002002) 0 [],.sl (.id 1002003) 0 [],.sl (.id 1002004) 0 [],.sl (.id 1002005) 0 [],.sl (.id 1002006) 0 [],.sl (.id 1002007) 0 [],.int .i64 0,.int .i64 0,.int .i64 0]),(1,fR d)]⟩) (fun k=>k<=L.length) (fun k=>L.length - k) 0 (aZ _) (LE) (fun k hk=>?_)
     ·have hLl:((L.map bY).length:Int)=(L.length:Int):=by rw [ay]
      by_cases w:k<L.length
      ·have c:=dF (show (k:Int)<((L.map bY).length:Int) by omega);have f:(L.map bY)[(k:Int).toNat]?=some (bY (L.getD k qd)):=cQ bY qd w;have G:=QB (a:=P0) w;have hQl:=I2 (L.take k) P0;rw [di] at hQl;generalize L.getD k qd=p at *;generalize tv P0 (L.take k)=Q at *;have hQm:((Q.map bY).length:Int)=(Q.length:Int):=by rw [ay]
       repeat' first|exact (c a8).elim|refine aI.seq ?_|refine dh hG af bn [] aK ?_|refine dJ hG af bn [] aK ?_|refine aI.skip hG af ?_|refine aI.label hG af ?_|refine aI.ret hG af ?_|refine aI.exit hG af ?_|refine cc rfl ?_|refine ce rfl ?_|refine aI.cond rfl (aa (fun h=>?_) (fun h=>?_))|((conv=>whnf); first|refine cZ ?_|refine cY ?_|refine ed ?_|refine aa (fun h=>?_) (fun h=>?_)|refine aj ?_)
       refine aI.block ?_
       repeat' first|exact (c a8).elim|refine aI.seq ?_|refine dh hG af bn [] aK ?_|refine dJ hG af bn [] aK ?_|refine aI.skip hG af ?_|refine aI.label hG af ?_|refine aI.ret hG af ?_|refine aI.exit hG af ?_|refine cc rfl ?_|refine ce rfl ?_|refine aI.cond rfl (aa (fun h=>?_) (fun h=>?_))|((conv=>whnf); first|refine cZ ?_|refine cY ?_|refine ed ?_|refine aa (fun h=>?_) (fun h=>?_)|refine aj ?_)
       refine aI.cut (X:=Nat) (fun a=>⟨[(9,.int .i64 a),(8,.int .i64 k),(7,dt L),(6,.int .i64 i),(4,.pin 5100000 b 0 []),(3,.int .i64 (aH d.t0 5000)),(2,.loc 2 0),(1,.loc 1 0),(xk 5100000,.me .box 5100000 b [[.sl .no 21 ((fP d).map bR),.sl (.id 5101000) 6 (((List.range 3).map (fN d)).map fa),.sl .no 6 ((Q).map bY),.sl (.id 5103000) 19 [],.sl (.id 5104000) 9 [],.sl (.id 5105000) 2 [],.sl (.id 5106000) 1 [],.lit (.slice (some ⟨g,0,none⟩) 16 cap),.int .i64 (aH d.loss 3),.int .i64 (aH d.t0 5000),.int .i64 (IntKind.i64.wrap (aH d.t0 5000+200))]]),(xk 32,.me (.row g cap) 32 1 (List.replicate 16 [.int .i64 0]))],[(2,[.sl (.id 1002000) 0 [],.sl (.id 1002001) 0 [],.sl (.id 1002002) 0 [],.sl (.id 1002003) 0 [],.sl (.id 1002004) 0 [],.sl (.id 1002005) 0 [],.sl (.id 1002006) 0 [],.sl (.id 1002007) 0 [],.int .i64 0,.int .i64 0,.int .i64 0]),(1,fR d)]⟩) (fun a=>a<=Q.length/\(∀ y∈Q.take a,ko p y=false)/\∀ h:a<Q.length,ko p Q[a]=true) ?_ (fun a P=>?_)
       ·refine aI.block ?_;refine aI.loop (X:=Nat) (fun a=>⟨[(9,.int .i64 a),(8,.int .i64 k),(7,dt L),(6,.int .i64 i),(4,.pin 5100000 b 0 []),(3,.int .i64 (aH d.t0 5000)),(2,.loc 2 0),(1,.loc 1 0),(xk 5100000,.me .box 5100000 b [[.sl .no 21 ((fP d).map bR),.sl (.id 5101000) 6 (((List.range 3).map (fN d)).map fa),.sl .no 6 ((Q).map bY),.sl (.id 5103000) 19 [],.sl (.id 5104000) 9 [],.sl (.id 5105000) 2 [],.sl (.id 5106000) 1 [],.lit (.slice (some ⟨g,0,none⟩) 16 cap),.int .i64 (aH d.loss 3),.int .i64 (aH d.t0 5000),.int .i64 (IntKind.i64.wrap (aH d.t0 5000+200))]]),(xk 32,.me (.row g cap) 32 1 (List.replicate 16 [.int .i64 0]))],[(2,[.sl (.id 1002000) 0 [],.sl (.id 1002001) 0 [],.sl (.id 1002002) 0 [],.sl (.id 1002003) 0 [],.sl (.id 1002004) 0 [],.sl (.id 1002005) 0 [],.sl (.id 1002006) 0 [],.sl (.id 1002007) 0 [],.int .i64 0,.int .i64 0,.int .i64 0]),(1,fR d)]⟩) (fun a=>a<=Q.length/\∀ y∈Q.take a,ko p y=false) (fun a=>Q.length - a) 0 ⟨aZ _,fun y hy=>by simp at hy⟩ (LE) (fun a P=>?_)
        ·obtain ⟨P,B⟩:=P;by_cases A:a<Q.length
         ·have J:=dF (show (a:Int)<((Q.map bY).length:Int) by omega);have hxa:(Q.map bY)[(a:Int).toNat]?=some (bY (Q.getD a qd)):=cQ bY qd A;have hta2:=dG qd A;have hqa:Q[a]=Q.getD a qd:=by rw [aG,ai A]; rfl
          generalize Q.getD a qd=q at *;have c2:=Cc p q
          repeat' first|exact (J a8).elim|exact (c a8).elim|refine QE [] rfl hG af (.mk:KP bn) ?_|((conv=>whnf); first|refine cZ ?_|refine cY ?_|refine ed ?_|refine aa (au k) (ae _ (aa f ?_))|refine aa (au a) (ae _ (aa hxa ?_))|refine ae _ (aa (c2) ?_)|refine aa (fun h=>?_) (fun h=>?_)|refine aj ?_)
          ·have hn:∀ y∈Q.take (a+1),ko p y=false:=fun y hy=>by
            rw [hta2] at hy;rcases eY.1 hy with h2 | h2
            ·exact B y h2
            ·rw [cg.1 h2]; simpa using (by assumption:(!ko p q)=true)
           refine ae (a+1) (aa ⟨A,hn⟩ (aa am (LE)))
          ·refine ae a (aa ⟨P,B,fun _=>by rw [hqa]; simpa using (by assumption:(!ko p q)=false)⟩ (LE))
         ·have J:=dT (show ¬((a:Int)<((Q.map bY).length:Int)) by omega)
          repeat' first|exact (J a8).elim|exact (c a8).elim|refine QE [] rfl hG af (.mk:KP bn) ?_|((conv=>whnf); first|refine cZ ?_|refine cY ?_|refine ed ?_|refine aa (fun h=>?_) (fun h=>?_)|refine aj ?_)
          refine ae a (aa ⟨P,B,fun h=>absurd h A⟩ (LE))
       ·obtain ⟨P,B,hxa⟩:=P;have hins:=Xu B hxa;obtain ⟨T,hT⟩:∃ T,T=(List.take ((a:Int)).toNat (Q.map bY)).drop 0:=⟨_,rfl⟩;obtain ⟨D,hD⟩:∃ D,D=(List.take (Q.map bY).length (Q.map bY)).drop ((a:Int)).toNat:=⟨_,rfl⟩;have E:T=(Q.take a).map bY:=by rw [hT,HN,du,Ma]
        have N:D=(Q.drop a).map bY:=by rw [hD,ej,du,List.map_drop]
        have e:(uJ p Q).map bY=T++bY p::D:=by rw [hins,E,N,dw,cp]
        have hTl:T.length<=100:=by rw [E,ay,di]; omega
        have hDl:D.length<=100:=by rw [N,ay,pW]; omega
        have r:(1+D.length)*48<=70368744177664:=by omega
        have l:1+D.length<=4611686018427387904:=by omega
        have m:(T.length+(D.length+1))*48<=70368744177664:=by omega
        have v:T.length+(D.length+1)<=4611686018427387904:=by omega
        have o:((a:Int)).toNat<=(Q.map bY).length:=by rw [ay]; omega
        conv=>whnf
        repeat' first|exact (c a8).elim|refine aI.seq ?_|refine aI.block ?_|refine dh hG af bn [] aK ?_|refine aI.skip hG af ?_|refine aI.label hG af ?_|refine aI.ret hG af ?_|refine aI.exit hG af ?_|refine cc rfl ?_|refine ce rfl ?_|refine aI.cond rfl (aa (fun h=>?_) (fun h=>?_))|((conv=>whnf); first|refine cZ ?_|refine cY ?_|refine ed ?_|refine aa (au k) (ae _ (aa f ?_))|refine aa (au a) ?_|refine aa (aZ _) ?_|refine aa o ?_|refine aa (ba _) ?_|refine aa rfl ?_|refine aa r (aa l ?_)|refine aa m (aa v ?_)|refine aa (fun h=>?_) (fun h=>?_)|refine aj ?_)
        rw [<- hD];clear hD N
        cases D with
        | nil=>
         repeat' first|exact (c a8).elim|refine aI.seq ?_|refine aI.block ?_|refine dh hG af bn [] aK ?_|refine aI.skip hG af ?_|refine aI.label hG af ?_|refine aI.ret hG af ?_|refine aI.exit hG af ?_|refine cc rfl ?_|refine ce rfl ?_|refine aI.cond rfl (aa (fun h=>?_) (fun h=>?_))|((conv=>whnf); first|refine cZ ?_|refine cY ?_|refine ed ?_|refine aa (au k) (ae _ (aa f ?_))|refine aa (au a) ?_|refine aa (aZ _) ?_|refine aa o ?_|refine aa (ba _) ?_|refine aa rfl ?_|refine aa r (aa l ?_)|refine aa m (aa v ?_)|refine aa (fun h=>?_) (fun h=>?_)|refine aj ?_)
         rw [<- hT];clear hT E
         cases T with
         | nil=>
          repeat' first|exact (c a8).elim|refine aI.seq ?_|refine aI.block ?_|refine dh hG af bn [] aK ?_|refine aI.skip hG af ?_|refine aI.label hG af ?_|refine aI.ret hG af ?_|refine aI.exit hG af ?_|refine cc rfl ?_|refine ce rfl ?_|refine aI.cond rfl (aa (fun h=>?_) (fun h=>?_))|((conv=>whnf); first|refine cZ ?_|refine cY ?_|refine ed ?_|refine aa (au k) (ae _ (aa f ?_))|refine aa (au a) ?_|refine aa (aZ _) ?_|refine aa o ?_|refine aa (ba _) ?_|refine aa rfl ?_|refine aa r (aa l ?_)|refine aa m (aa v ?_)|refine aa (fun h=>?_) (fun h=>?_)|refine aj ?_)
          refine aI.pubX 5100000 2 rfl rfl ?_
          conv=>whnf
          repeat' first|exact (c a8).elim|refine QE [] rfl hG af (.mk:KP bn) ?_|((conv=>whnf); first|refine cZ ?_|refine cY ?_|refine ed ?_|refine aa (fun h=>?_) (fun h=>?_)|refine aj ?_)
          refine ae (k+1) (aa w (aa am (St.le.of ?_ ?_)))
          ·rw [G,e];refine aa (ax some (bK am)) ?_;exact RF
          ·exact RF
         | cons t T' => 
          repeat' first|exact (c a8).elim|refine aI.seq ?_|refine aI.block ?_|refine dh hG af bn [] aK ?_|refine aI.skip hG af ?_|refine aI.label hG af ?_|refine aI.ret hG af ?_|refine aI.exit hG af ?_|refine cc rfl ?_|refine ce rfl ?_|refine aI.cond rfl (aa (fun h=>?_) (fun h=>?_))|((conv=>whnf); first|refine cZ ?_|refine cY ?_|refine ed ?_|refine aa (au k) (ae _ (aa f ?_))|refine aa (au a) ?_|refine aa (aZ _) ?_|refine aa o ?_|refine aa (ba _) ?_|refine aa rfl ?_|refine aa r (aa l ?_)|refine aa m (aa v ?_)|refine aa (fun h=>?_) (fun h=>?_)|refine aj ?_)
          refine aI.pubX 5100000 2 rfl rfl ?_
          conv=>whnf
          repeat' first|exact (c a8).elim|refine QE [] rfl hG af (.mk:KP bn) ?_|((conv=>whnf); first|refine cZ ?_|refine cY ?_|refine ed ?_|refine aa (fun h=>?_) (fun h=>?_)|refine aj ?_)
          refine ae (k+1) (aa w (aa am (St.le.of ?_ ?_)))
          ·rw [G,e];refine aa (ax some (bK am)) ?_;exact RF
          ·exact RF
        | cons u D'=>
         repeat' first|exact (c a8).elim|refine aI.seq ?_|refine aI.block ?_|refine dh hG af bn [] aK ?_|refine aI.skip hG af ?_|refine aI.label hG af ?_|refine aI.ret hG af ?_|refine aI.exit hG af ?_|refine cc rfl ?_|refine ce rfl ?_|refine aI.cond rfl (aa (fun h=>?_) (fun h=>?_))|((conv=>whnf); first|refine cZ ?_|refine cY ?_|refine ed ?_|refine aa (au k) (ae _ (aa f ?_))|refine aa (au a) ?_|refine aa (aZ _) ?_|refine aa o ?_|refine aa (ba _) ?_|refine aa rfl ?_|refine aa r (aa l ?_)|refine aa m (aa v ?_)|refine aa (fun h=>?_) (fun h=>?_)|refine aj ?_)
         rw [<- hT];clear hT E
         cases T with
         | nil=>
          repeat' first|exact (c a8).elim|refine aI.seq ?_|refine aI.block ?_|refine dh hG af bn [] aK ?_|refine aI.skip hG af ?_|refine aI.label hG af ?_|refine aI.ret hG af ?_|refine aI.exit hG af ?_|refine cc rfl ?_|refine ce rfl ?_|refine aI.cond rfl (aa (fun h=>?_) (fun h=>?_))|((conv=>whnf); first|refine cZ ?_|refine cY ?_|refine ed ?_|refine aa (au k) (ae _ (aa f ?_))|refine aa (au a) ?_|refine aa (aZ _) ?_|refine aa o ?_|refine aa (ba _) ?_|refine aa rfl ?_|refine aa r (aa l ?_)|refine aa m (aa v ?_)|refine aa (fun h=>?_) (fun h=>?_)|refine aj ?_)
          refine aI.pubX 5100000 2 rfl rfl ?_
          conv=>whnf
          repeat' first|exact (c a8).elim|refine QE [] rfl hG af (.mk:KP bn) ?_|((conv=>whnf); first|refine cZ ?_|refine cY ?_|refine ed ?_|refine aa (fun h=>?_) (fun h=>?_)|refine aj ?_)
          refine ae (k+1) (aa w (aa am (St.le.of ?_ ?_)))
          ·rw [G,e];refine aa (ax some (bK am)) ?_;exact RF
          ·exact RF
         | cons t T' => 
          repeat' first|exact (c a8).elim|refine aI.seq ?_|refine aI.block ?_|refine dh hG af bn [] aK ?_|refine aI.skip hG af ?_|refine aI.label hG af ?_|refine aI.ret hG af ?_|refine aI.exit hG af ?_|refine cc rfl ?_|refine ce rfl ?_|refine aI.cond rfl (aa (fun h=>?_) (fun h=>?_))|((conv=>whnf); first|refine cZ ?_|refine cY ?_|refine ed ?_|refine aa (au k) (ae _ (aa f ?_))|refine aa (au a) ?_|refine aa (aZ _) ?_|refine aa o ?_|refine aa (ba _) ?_|refine aa rfl ?_|refine aa r (aa l ?_)|refine aa m (aa v ?_)|refine aa (fun h=>?_) (fun h=>?_)|refine aj ?_)
          refine aI.pubX 5100000 2 rfl rfl ?_
          conv=>whnf
          repeat' first|exact (c a8).elim|refine QE [] rfl hG af (.mk:KP bn) ?_|((conv=>whnf); first|refine cZ ?_|refine cY ?_|refine ed ?_|refine aa (fun h=>?_) (fun h=>?_)|refine aj ?_)
          refine ae (k+1) (aa w (aa am (St.le.of ?_ ?_)))
          ·rw [G,e];refine aa (ax some (bK am)) ?_;exact RF
          ·exact RF
      ·have c:=dT (show ¬((k:Int)<((L.map bY).length:Int)) by omega);have hkL:k=L.length:=by omega
       subst hkL;rw [ej,<- hSs]
       repeat' first|exact (c a8).elim|refine QE [] rfl hG af (.mk:KP bn) ?_|((conv=>whnf); first|refine cZ ?_|refine cY ?_|refine ed ?_|refine aa (fun h=>?_) (fun h=>?_)|refine aj ?_)
       refine ae (i+1) (aa U (aa am (LE)))
    ·have bb1:i<(fP d).length->decide ((i:Int)<((d.pss.map fun z=>[AV.sl .no 3 (z.map g8)]).length:Int))=true->False:=fun g h=>by have:=aF h; rw [hpl] at this; omega
     have hil:i=min (fP d).length d.pss.length:=by omega
     have M:decide ((i:Int)<(((fP d).map bR).length:Int))=true->decide ((i:Int)<((d.pss.map fun z=>[AV.sl .no 3 (z.map g8)]).length:Int))=true->False:=fun h g=>by
      have h:=aF h;have g:=aF g;rw [hSl] at h;rw [hpl] at g;omega
     subst hil;refine aI.seq ?_;refine aI.seq ?_
     repeat' first|exact (M a8 a8).elim|refine QF [] rfl hG af (.mk:KP bn) ?_|((conv=>whnf); first|refine cZ ?_|refine cY ?_|refine ed ?_|refine aa (fun h=>?_) (fun h=>?_)|refine aj ?_)
     all_goals refine aI.le (LE) (NW d H hG b g cap)
end Go.Proofs
