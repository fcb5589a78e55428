/- Part 9 of the proof: an abstract interpreter for the code, contracts of the functions, and plain facts; the conditions are those typed. -/
import Derived.Test.YthjhnnmcdhokcaaGreatDoorNH
set_option linter.unusedSectionVars false
set_option linter.unusedVariables false
set_option linter.unusedSimpArgs false
namespace Go.Proofs
open Go Go.AI
set_option maxRecDepth 10000
def fy:Code->Code
 | .seq _ b=>b
 | c=>c
set_option maxHeartbeats 64000000 in
theorem NR (d:bQ) (H:yl d) {F:Fence} {B:Nat} {w0:World} {m0:d5} (hG:cr.OK ⟨Tryz.prog,F,B,w0,m0,Tryz.f5.ntmps⟩) (b g cap:Nat):aI ⟨Tryz.prog,F,B,w0,m0,Tryz.f5.ntmps⟩ ⟨[(4,.pin 5100000 b 0 []),(3,.int .i64 (aH d.t0 5000)),(2,.loc 2 0),(1,.loc 1 0),(xk 5100000,.me .box 5100000 b [[.sl .no 21 ((fP d).map bR),.sl (.id 5101000) 6 (((List.range 3).map (fN d)).map fa),.sl .no 6 ((fz d).map bY),.sl (.id 5103000) 19 ((d8 d).map fL),.sl (.id 5104000) 9 ((bT d).map bL),.sl (.id 5105000) 2 ((sN d).map ma),.sl (.id 5106000) 1 ((wY d (d8 d).length).map (fun (h:Int)=>[AV.int .i64 h])),.lit (.slice (some ⟨g,0,none⟩) 16 cap),.int .i64 (aH d.loss 3),.int .i64 (aH d.t0 5000),.int .i64 (IntKind.i64.wrap (aH d.t0 5000+200))]]),(xk 32,.me (.row g cap) 32 1 (List.replicate 16 [.int .i64 0]))],[(2,[.sl (.id 1002000) 0 [],.sl (.id 1002001) 0 [],.sl (.id 1002002) 0 [],.sl (.id 1002003) 0 [],.sl (.id 1002004) 0 [],.sl (.id 1002005) 0 [],.sl (.id 1002006) 0 [],.sl (.id 1002007) 0 [],.int .i64 0,.int .i64 0,.int .i64 0]),(1,fR d)]⟩ (fy (fy (fy (fy (fy (fy (fy (fy (fy (fy (fy ((match Tryz.f5.body with | some c=>c | none => .skip))))))))))))) (Go.AI.Ends jT Tryz.f5.results.toList (.agg (gC (jr d)))):=by
 repeat' first|refine aI.seq ?_|refine dh hG af bn [] aK ?_|refine dJ hG af bn [] aK ?_|refine aI.skip hG af ?_|refine aI.label hG af ?_|refine aI.ret hG af ?_|refine aI.exit hG af ?_|refine cc rfl ?_|refine ce rfl ?_|refine aI.cond rfl (aa (fun h=>?_) (fun h=>?_))|((conv=>whnf); first|refine cZ ?_|refine cY ?_|refine ed ?_|refine aa (fun h=>?_) (fun h=>?_)|refine aj ?_)
 refine aI.cut (X:=Unit) (fun _=>⟨[(4,.pin 5100000 b 0 []),(3,.int .i64 (aH d.t0 5000)),(2,.loc 2 0),(1,.loc 1 0),(xk 5100000,.me .box 5100000 b [[.sl .no 21 ((fP d).map bR),.sl (.id 5101000) 6 (((List.range 3).map (fN d)).map fa),.sl .no 6 ((fz d).map bY),.sl (.id 5103000) 19 ((d8 d).map fL),.sl (.id 5104000) 9 ((bT d).map bL),.sl (.id 5105000) 2 ((sN d).map ma),.sl (.id 5106000) 1 ((wY d (d8 d).length).map (fun (h:Int)=>[AV.int .i64 h])),.lit (.slice (some ⟨g,0,none⟩) 16 cap),.int .i64 (aH d.loss 3),.int .i64 (aH d.t0 5000),.int .i64 (IntKind.i64.wrap (aH d.t0 5000+200))]]),(xk 32,.me (.row g cap) 32 1 ((y8 d 16).map (fun (h:Int)=>[AV.int .i64 h])))],[(2,[.sl (.id 1002000) 0 [],.sl (.id 1002001) 0 [],.sl (.id 1002002) 0 [],.sl (.id 1002003) 0 [],.sl (.id 1002004) 0 [],.sl (.id 1002005) 0 [],.sl (.id 1002006) 0 [],.sl (.id 1002007) 0 [],.int .i64 0,.int .i64 0,.int .i64 0]),(1,fR d)]⟩) (fun _=>True) ?_ (fun _ _=>?_)
 ·refine aI.block ?_;refine aI.loop (X:=Nat) (fun i=>⟨[(21,.int .i64 i),(4,.pin 5100000 b 0 []),(3,.int .i64 (aH d.t0 5000)),(2,.loc 2 0),(1,.loc 1 0),(xk 5100000,.me .box 5100000 b [[.sl .no 21 ((fP d).map bR),.sl (.id 5101000) 6 (((List.range 3).map (fN d)).map fa),.sl .no 6 ((fz d).map bY),.sl (.id 5103000) 19 ((d8 d).map fL),.sl (.id 5104000) 9 ((bT d).map bL),.sl (.id 5105000) 2 ((sN d).map ma),.sl (.id 5106000) 1 ((wY d (d8 d).length).map (fun (h:Int)=>[AV.int .i64 h])),.lit (.slice (some ⟨g,0,none⟩) 16 cap),.int .i64 (aH d.loss 3),.int .i64 (aH d.t0 5000),.int .i64 (IntKind.i64.wrap (aH d.t0 5000+200))]]),(xk 32,.me (.row g cap) 32 1 ((y8 d i).map (fun (h:Int)=>[AV.int .i64 h])))],[(2,[.sl (.id 1002000) 0 [],.sl (.id 1002001) 0 [],.sl (.id 1002002) 0 [],.sl (.id 1002003) 0 [],.sl (.id 1002004) 0 [],.sl (.id 1002005) 0 [],.sl (.id 1002006) 0 [],.sl (.id 1002007) 0 [],.int .i64 0,.int .i64 0,.int .i64 0]),(1,fR d)]⟩) (fun i=>i<=16) (fun i=>16 - i) 0 (aZ _) (St.le.of ?_ ?_) (fun i hi=>?_)
  ·exact RF
  ·exact RF
  ·by_cases j:i<16
   ·have a:=dF (show (i:Int)<16 by omega);have n:(y8 d i).length=16:=y6 d am;have t:((y8 d i).map (fun (h:Int)=>[AV.int .i64 h]))[(i:Int).toNat]?=some [AV.int .i64 ((y8 d i).getD i 0)]:=cQ (fun (h:Int)=>[AV.int .i64 h]) 0 am;have w:((y8 d i).map (fun (h:Int)=>[AV.int .i64 h])).length=16:=by rw [ay]; exact n
    have D:((i:Nat):Int)<((16:Nat):Int):=by omega
    repeat' first|exact (a a8).elim|refine aI.seq ?_|refine dh hG af bn [] aK ?_|refine dJ hG af bn [] aK ?_|refine aI.skip hG af ?_|refine aI.label hG af ?_|refine aI.ret hG af ?_|refine aI.exit hG af ?_|refine cc rfl ?_|refine ce rfl ?_|refine aI.cond rfl (aa (fun h=>?_) (fun h=>?_))|((conv=>whnf); first|refine cZ ?_|refine cY ?_|refine ed ?_|refine aa (fun h=>?_) (fun h=>?_)|refine aj ?_)
    refine aI.block ?_;refine aI.seq ?_;refine aI.cut (X:=Unit) (fun _=>⟨[(21,.int .i64 i),(4,.pin 5100000 b 0 []),(3,.int .i64 (aH d.t0 5000)),(2,.loc 2 0),(1,.loc 1 0),(xk 5100000,.me .box 5100000 b [[.sl .no 21 ((fP d).map bR),.sl (.id 5101000) 6 (((List.range 3).map (fN d)).map fa),.sl .no 6 ((fz d).map bY),.sl (.id 5103000) 19 ((d8 d).map fL),.sl (.id 5104000) 9 ((bT d).map bL),.sl (.id 5105000) 2 ((sN d).map ma),.sl (.id 5106000) 1 ((wY d (d8 d).length).map (fun (h:Int)=>[AV.int .i64 h])),.lit (.slice (some ⟨g,0,none⟩) 16 cap),.int .i64 (aH d.loss 3),.int .i64 (aH d.t0 5000),.int .i64 (IntKind.i64.wrap (aH d.t0 5000+200))]]),(xk 32,.me (.row g cap) 32 1 ((dB (y8 d i) i 12).map (fun (h:Int)=>[AV.int .i64 h])))],[(2,[.sl (.id 1002000) 0 [],.sl (.id 1002001) 0 [],.sl (.id 1002002) 0 [],.sl (.id 1002003) 0 [],.sl (.id 1002004) 0 [],.sl (.id 1002005) 0 [],.sl (.id 1002006) 0 [],.sl (.id 1002007) 0 [],.int .i64 0,.int .i64 0,.int .i64 0]),(1,fR d)]⟩) (fun _=>True) ?_ (fun _ _=>?_)
    ·repeat' first|exact (a a8).elim|refine QE [] rfl hG af (.mk:KP bn) ?_|((conv=>whnf); first|refine cZ ?_|refine cY ?_|refine ed ?_|refine ae _ (aa t ?_)|refine ae 32 (ae _ (ae _ (ae _ (aa (aa rfl (aa rfl w)) ?_))))|refine aa (au i) (aa D ?_)|refine aa (fun h=>?_) (fun h=>?_)|refine aj ?_)
     refine ae () (aa trivial (St.le.of ?_ ?_))
     ·repeat' (first | exact trivial | refine aa rfl ?_)
      refine aa (ax (fun z=>some (AV.me (.row g cap) 32 1 z)) ?_) ?_
      ·show dB ((y8 d i).map (fun (h:Int)=>[AV.int .i64 h])) (i:Int).toNat [AV.int .i64 12]=_;rw [ww (fun (h:Int)=>[AV.int .i64 h])]; rfl
      ·exact RF
     ·exact RF
    ·have f:=XX d j;have A:dB (dB (y8 d i) i 12) i (quoI d i)=y8 d (i+1):=by rw [Tq]; exact f
     have y:(dB (y8 d i) i 12).length=16:=by rw [fU]; exact n
     generalize y8 d i=Q at *;have r:((dB Q i 12).map (fun (h:Int)=>[AV.int .i64 h]))[(i:Int).toNat]?=some [AV.int .i64 ((dB Q i 12).getD i 0)]:=cQ (fun (h:Int)=>[AV.int .i64 h]) 0 am;have p:((dB Q i 12).map (fun (h:Int)=>[AV.int .i64 h])).length=16:=by rw [ay]; exact y
     have G:((d.quo.map (fun (h:Int)=>[AV.int .i64 h])).length:Int)=(d.quo.length:Int):=by rw [ay]
     conv=>whnf
     by_cases u:i<d.quo.length
     ·have l:=dF (show (i:Int)<((d.quo.map (fun (h:Int)=>[AV.int .i64 h])).length:Int) by omega);have o:(d.quo.map (fun (h:Int)=>[AV.int .i64 h]))[(i:Int).toNat]?=some [AV.int .i64 (d.quo.getD i 0)]:=cQ (fun (h:Int)=>[AV.int .i64 h]) 0 u;have e:quoI d i=aH (d.quo.getD i 0) 20:=aV u;have m:=gy (d.quo.getD i 0) 20 bt;rw [<- e] at m;generalize quoI d i=q at *;clear f e
      repeat' first|exact (l a8).elim|refine QE [] rfl hG af (.mk:KP bn) ?_|((conv=>whnf); first|refine cZ ?_|refine cY ?_|refine ed ?_|refine aa (au i) (ae _ (aa o ?_))|refine ae _ (aa (m) ?_)|refine ae _ (aa r ?_)|refine ae 32 (ae _ (ae _ (ae _ (aa (aa rfl (aa rfl p)) ?_))))|refine aa (au i) (aa D ?_)|refine aa (fun h=>?_) (fun h=>?_)|refine aj ?_)
      refine ae (i+1) (aa j (aa am (St.le.of ?_ ?_)))
      ·refine aa (ax some (bK am)) ?_
       repeat' (first | exact trivial | refine aa rfl ?_)
       refine aa (ax (fun z=>some (AV.me (.row g cap) 32 1 z)) ?_) ?_
       ·show dB ((dB Q i 12).map (fun (h:Int)=>[AV.int .i64 h])) (i:Int).toNat [AV.int .i64 q]=_;rw [ww (fun (h:Int)=>[AV.int .i64 h]),<- A]; rfl
       ·exact RF
      ·exact RF
     ·have l:=dT (show ¬((i:Int)<((d.quo.map (fun (h:Int)=>[AV.int .i64 h])).length:Int)) by omega);have e:quoI d i=12:=aY u;rw [e] at f
      repeat' first|exact (l a8).elim|refine QE [] rfl hG af (.mk:KP bn) ?_|((conv=>whnf); first|refine cZ ?_|refine cY ?_|refine ed ?_|refine aa (fun h=>?_) (fun h=>?_)|refine aj ?_)
      refine ae (i+1) (aa j (aa am (St.le.of ?_ ?_)))
      ·rw [<- f];refine aa (ax some (bK am)) ?_;exact RF
      ·exact RF
   ·have a:=dT (show ¬((i:Int)<16) by omega);have v:i=16:=by omega
    subst v
    repeat' first|exact (a a8).elim|refine QE [] rfl hG af (.mk:KP bn) ?_|((conv=>whnf); first|refine cZ ?_|refine cY ?_|refine ed ?_|refine aa (fun h=>?_) (fun h=>?_)|refine aj ?_)
    refine ae () (aa trivial (St.le.of ?_ ?_))
    ·exact RF
    ·exact RF
 ·conv=>whnf
  repeat' first|refine aI.seq ?_|refine aI.block ?_|refine dh hG af bn [] aK ?_|refine dJ hG af bn [] aK ?_|refine aI.skip hG af ?_|refine aI.label hG af ?_|refine aI.exit hG af ?_|refine cc rfl ?_|refine ce rfl ?_|refine aI.cond rfl (aa (fun h=>?_) (fun h=>?_))|((conv=>whnf); first|refine cZ ?_|refine cY ?_|refine ed ?_|refine aa (fun h=>?_) (fun h=>?_)|refine aj ?_)
  conv=>whnf
  refine iq 32 2 [.sl .no 21 ((fP d).map bR),.sl (.id 5101000) 6 (((List.range 3).map (fN d)).map fa),.sl .no 6 ((fz d).map bY),.sl (.id 5103000) 19 ((d8 d).map fL),.sl (.id 5104000) 9 ((bT d).map bL),.sl (.id 5105000) 2 ((sN d).map ma),.sl (.id 5106000) 1 ((wY d (d8 d).length).map (fun (h:Int)=>[AV.int .i64 h])),.sl .no 1 ((y8 d 16).map (fun (h:Int)=>[AV.int .i64 h])),.int .i64 (aH d.loss 3),.int .i64 (aH d.t0 5000),.int .i64 (IntKind.i64.wrap (aH d.t0 5000+200))] rfl rfl ?_ ?_
  ·refine aa (aj rfl) (aa (aj rfl) (aa (aj rfl) (aa (aj rfl) (aa (aj rfl) (aa (aj rfl) (aa (aj rfl) (aa (bw ⟨?_,rfl⟩) (aa (aj rfl) (aa (aj rfl) (aa (aj rfl) trivial))))))))));rw [ay,y6 d (ba _)]
  ·conv=>whnf
   repeat' first|refine QE [] rfl hG af (.mk:KP bn) ?_|((conv=>whnf); first|refine cZ ?_|refine cY ?_|refine ed ?_|refine aa (fun h=>?_) (fun h=>?_)|refine aj ?_)
   refine Ends.mk (aj rfl) (AV.weak.agg ?_ (by simp [gC,sx,Cx,dt,CK,dl,vf,bB,AV.isCell]));have E:(AV.sl .no 2 ((sN d).map ma)).weak (vf (sN d)):=tY (sN d) (fun x _=>bF.cons (az rfl) (bF.cons AV.weak.sl bF.nil)) (fun x _ c m=>by simp [eO,bB] at m; rcases m with rfl | rfl <;> rfl) (fun k h=>by cases h);exact bF.cons (az rfl) (bF.cons AV.weak.sl (bF.cons (az rfl) (bF.cons AV.weak.sl (bF.cons AV.weak.sl (bF.cons E (bF.cons AV.weak.sl (bF.cons (az rfl) (bF.cons (az rfl) (bF.cons (az rfl) (bF.cons (az rfl) bF.nil))))))))))
set_option maxHeartbeats 64000000 in
theorem NS (d:bQ) (H:yl d) {F:Fence} {t:Nat} {w0:World} {m0:d5} (hG:cr.OK ⟨Tryz.prog,F,t,w0,m0,Tryz.f5.ntmps⟩) (b g cap:Nat):aI ⟨Tryz.prog,F,t,w0,m0,Tryz.f5.ntmps⟩ ⟨[(4,.pin 5100000 b 0 []),(3,.int .i64 (aH d.t0 5000)),(2,.loc 2 0),(1,.loc 1 0),(xk 5100000,.me .box 5100000 b [[.sl .no 21 ((fP d).map bR),.sl (.id 5101000) 6 (((List.range 3).map (fN d)).map fa),.sl .no 6 ((fz d).map bY),.sl (.id 5103000) 19 ((d8 d).map fL),.sl (.id 5104000) 9 ((bT d).map bL),.sl (.id 5105000) 2 ((sN d).map ma),.sl (.id 5106000) 1 [],.lit (.slice (some ⟨g,0,none⟩) 16 cap),.int .i64 (aH d.loss 3),.int .i64 (aH d.t0 5000),.int .i64 (IntKind.i64.wrap (aH d.t0 5000+200))]]),(xk 32,.me (.row g cap) 32 1 (List.replicate 16 [.int .i64 0]))],[(2,[.sl (.id 1002000) 0 [],.sl (.id 1002001) 0 [],.sl (.id 1002002) 0 [],.sl (.id 1002003) 0 [],.sl (.id 1002004) 0 [],.sl (.id 1002005) 0 [],.sl (.id 1002006) 0 [],.sl (.id 1002007) 0 [],.int .i64 0,.int .i64 0,.int .i64 0]),(1,fR d)]⟩ (fy (fy (fy (fy (fy (fy (fy (fy (fy (fy ((match Tryz.f5.body with | some c=>c | none => .skip)))))))))))) (Go.AI.Ends jT Tryz.f5.results.toList (.agg (gC (jr d)))):=by
 repeat' first|refine aI.seq ?_|refine dh hG af bn [] aK ?_|refine dJ hG af bn [] aK ?_|refine aI.skip hG af ?_|refine aI.label hG af ?_|refine aI.ret hG af ?_|refine aI.exit hG af ?_|refine cc rfl ?_|refine ce rfl ?_|refine aI.cond rfl (aa (fun h=>?_) (fun h=>?_))|((conv=>whnf); first|refine cZ ?_|refine cY ?_|refine ed ?_|refine aa (fun h=>?_) (fun h=>?_)|refine aj ?_)
 refine aI.cut (X:=Unit) (fun _=>⟨[(4,.pin 5100000 b 0 []),(3,.int .i64 (aH d.t0 5000)),(2,.loc 2 0),(1,.loc 1 0),(xk 5100000,.me .box 5100000 b [[.sl .no 21 ((fP d).map bR),.sl (.id 5101000) 6 (((List.range 3).map (fN d)).map fa),.sl .no 6 ((fz d).map bY),.sl (.id 5103000) 19 ((d8 d).map fL),.sl (.id 5104000) 9 ((bT d).map bL),.sl (.id 5105000) 2 ((sN d).map ma),.sl (.id 5106000) 1 ((wY d (d8 d).length).map (fun (h:Int)=>[AV.int .i64 h])),.lit (.slice (some ⟨g,0,none⟩) 16 cap),.int .i64 (aH d.loss 3),.int .i64 (aH d.t0 5000),.int .i64 (IntKind.i64.wrap (aH d.t0 5000+200))]]),(xk 32,.me (.row g cap) 32 1 (List.replicate 16 [.int .i64 0]))],[(2,[.sl (.id 1002000) 0 [],.sl (.id 1002001) 0 [],.sl (.id 1002002) 0 [],.sl (.id 1002003) 0 [],.sl (.id 1002004) 0 [],.sl (.id 1002005) 0 [],.sl (.id 1002006) 0 [],.sl (.id 1002007) 0 [],.int .i64 0,.int .i64 0,.int .i64 0]),(1,fR d)]⟩) (fun _=>True) ?_ (fun _ _=>?_)
 ·refine aI.block ?_;refine aI.loop (X:=Nat) (fun i=>⟨[(20,.int .i64 i),(4,.pin 5100000 b 0 []),(3,.int .i64 (aH d.t0 5000)),(2,.loc 2 0),(1,.loc 1 0),(xk 5100000,.me .box 5100000 b [[.sl .no 21 ((fP d).map bR),.sl (.id 5101000) 6 (((List.range 3).map (fN d)).map fa),.sl .no 6 ((fz d).map bY),.sl (.id 5103000) 19 ((d8 d).map fL),.sl (.id 5104000) 9 ((bT d).map bL),.sl (.id 5105000) 2 ((sN d).map ma),.sl (.id 5106000) 1 ((wY d i).map (fun (h:Int)=>[AV.int .i64 h])),.lit (.slice (some ⟨g,0,none⟩) 16 cap),.int .i64 (aH d.loss 3),.int .i64 (aH d.t0 5000),.int .i64 (IntKind.i64.wrap (aH d.t0 5000+200))]]),(xk 32,.me (.row g cap) 32 1 (List.replicate 16 [.int .i64 0]))],[(2,[.sl (.id 1002000) 0 [],.sl (.id 1002001) 0 [],.sl (.id 1002002) 0 [],.sl (.id 1002003) 0 [],.sl (.id 1002004) 0 [],.sl (.id 1002005) 0 [],.sl (.id 1002006) 0 [],.sl (.id 1002007) 0 [],.int .i64 0,.int .i64 0,.int .i64 0]),(1,fR d)]⟩) (fun i=>i<=(d8 d).length) (fun i=>(d8 d).length - i) 0 (aZ _) (LE) (fun i hi=>?_)
  ·have u:(d8 d).length<=4:=rS d 4;have m:=Py d i;have j:(((d8 d).map fL).length:Int)=((d8 d).length:Int):=by rw [ay]
   by_cases a:i<(d8 d).length
   ·have e:=dF (show (i:Int)<(((d8 d).map fL).length:Int) by omega);have p:((d8 d).map fL)[(i:Int).toNat]?=some (fL ((d8 d).getD i jB)):=cQ fL jB a;have c0:=gy d.prom 16 bt;have n:UO d.prom i=(((aH d.prom 16).fdiv (2 ^ min (i:Int).toNat IntKind.i64.bits)).tmod 2==1):=rfl;have f:UO d.prom i=true->wY d (i+1)=wY d i++[((d8 d).getD i jB).id]:=fun h=>by unfold wY; rw [dV,tQ]; simp [h]
    have l:UO d.prom i=false->wY d (i+1)=wY d i:=fun h=>by unfold wY; rw [dV,tQ]; simp [h]
    rw [n] at f l;have o:(((wY d i).map (fun (h:Int)=>[AV.int .i64 h])).length+1)*8<=70368744177664:=by rw [ay]; omega
    have r:((wY d i).map (fun (h:Int)=>[AV.int .i64 h])).length+1<=4611686018427387904:=by rw [ay]; omega
    clear j n m;generalize wY d i=M at *;generalize d8 d=R at *
    repeat' first|exact (e a8).elim|refine QE [] rfl hG af (.mk:KP bn) ?_|((conv=>whnf); first|refine cZ ?_|refine cY ?_|refine ed ?_|refine aa (au i) (ae _ (aa p ?_))|refine ae _ (aa (c0) ?_)|refine aa (au i) ?_|refine aa (show (2:Int)≠0 by decide) ?_|refine aa o (aa r ?_)|refine aa (fun h=>?_) (fun h=>?_)|refine aj ?_)
    ·refine ae (i+1) (aa a (aa am (St.le.of ?_ ?_)))
     ·rw [f a8,dw];refine aa (ax some (bK am)) ?_;exact RF
     ·exact RF
    ·refine ae (i+1) (aa a (aa am (St.le.of ?_ ?_)))
     ·rw [l a8];refine aa (ax some (bK am)) ?_;exact RF
     ·exact RF
   ·have e:=dT (show ¬((i:Int)<(((d8 d).map fL).length:Int)) by omega);have q:i=(d8 d).length:=by omega
    clear j;subst q;clear m;generalize wY d (d8 d).length=M at *;generalize d8 d=R at *
    repeat' first|exact (e a8).elim|refine QE [] rfl hG af (.mk:KP bn) ?_|((conv=>whnf); first|refine cZ ?_|refine cY ?_|refine ed ?_|refine aa (fun h=>?_) (fun h=>?_)|refine aj ?_)
    refine ae () (aa trivial (LE))
 ·conv=>whnf
  refine aI.le (LE) (NR d H hG b g cap)
open Go Go.AI
set_option maxRecDepth 10000
theorem Pa {n:Nat} (h:n<9223372036854775807):AV.int .i64 (IntKind.i64.wrap ((n:Int)+1))=AV.int .i64 ((n+1:Nat):Int):=ax _ (by rw [qx]; omega)
set_option maxHeartbeats 64000000 in
theorem NT (d:bQ) (H:yl d) {F:Fence} {N:Nat} {w0:World} {m0:d5} (hG:cr.OK ⟨Tryz.prog,F,N,w0,m0,Tryz.f5.ntmps⟩) (b g cap:Nat):aI ⟨Tryz.prog,F,N,w0,m0,Tryz.f5.ntmps⟩ ⟨[(4,.pin 5100000 b 0 []),(3,.int .i64 (aH d.t0 5000)),(2,.loc 2 0),(1,.loc 1 0),(xk 5100000,.me .box 5100000 b [[.sl .no 21 ((fP d).map bR),.sl (.id 5101000) 6 (((List.range 3).map (fN d)).map fa),.sl .no 6 ((fz d).map bY),.sl (.id 5103000) 19 ((d8 d).map fL),.sl (.id 5104000) 9 ((bT d).map bL),.sl (.id 5105000) 2 ((oD d (rh d)).map ma),.sl (.id 5106000) 1 [],.lit (.slice (some ⟨g,0,none⟩) 16 cap),.int .i64 (aH d.loss 3),.int .i64 (aH d.t0 5000),.int .i64 (IntKind.i64.wrap (aH d.t0 5000+200))]]),(xk 32,.me (.row g cap) 32 1 (List.replicate 16 [.int .i64 0]))],[(2,[.sl (.id 1002000) 0 [],.sl (.id 1002001) 0 [],.sl (.id 1002002) 0 [],.sl (.id 1002003) 0 [],.sl (.id 1002004) 0 [],.sl (.id 1002005) 0 [],.sl (.id 1002006) 0 [],.sl (.id 1002007) 0 [],.int .i64 0,.int .i64 0,.int .i64 0]),(1,fR d)]⟩ (fy (fy (fy (fy (fy (fy (fy (fy (fy ((match Tryz.f5.body with | some c=>c | none => .skip))))))))))) (Go.AI.Ends jT Tryz.f5.results.toList (.agg (gC (jr d)))):=by
 repeat' first|refine aI.seq ?_|refine dh hG af bn [] aK ?_|refine dJ hG af bn [] aK ?_|refine aI.skip hG af ?_|refine aI.label hG af ?_|refine aI.ret hG af ?_|refine aI.exit hG af ?_|refine cc rfl ?_|refine ce rfl ?_|refine aI.cond rfl (aa (fun h=>?_) (fun h=>?_))|((conv=>whnf); first|refine cZ ?_|refine cY ?_|refine ed ?_|refine aa (fun h=>?_) (fun h=>?_)|refine aj ?_)
 refine aI.cut (X:=Unit) (fun _=>⟨[(4,.pin 5100000 b 0 []),(3,.int .i64 (aH d.t0 5000)),(2,.loc 2 0),(1,.loc 1 0),(xk 5100000,.me .box 5100000 b [[.sl .no 21 ((fP d).map bR),.sl (.id 5101000) 6 (((List.range 3).map (fN d)).map fa),.sl .no 6 ((fz d).map bY),.sl (.id 5103000) 19 ((d8 d).map fL),.sl (.id 5104000) 9 ((bT d).map bL),.sl (.id 5105000) 2 ((sN d).map ma),.sl (.id 5106000) 1 [],.lit (.slice (some ⟨g,0,none⟩) 16 cap),.int .i64 (aH d.loss 3),.int .i64 (aH d.t0 5000),.int .i64 (IntKind.i64.wrap (aH d.t0 5000+200))]]),(xk 32,.me (.row g cap) 32 1 (List.replicate 16 [.int .i64 0]))],[(2,[.sl (.id 1002000) 0 [],.sl (.id 1002001) 0 [],.sl (.id 1002002) 0 [],.sl (.id 1002003) 0 [],.sl (.id 1002004) 0 [],.sl (.id 1002005) 0 [],.sl (.id 1002006) 0 [],.sl (.id 1002007) 0 [],.int .i64 0,.int .i64 0,.int .i64 0]),(1,fR d)]⟩) (fun _=>True) ?_ (fun _ _=>?_)
 ·refine aI.block ?_;refine aI.loop (X:=Nat) (fun i=>⟨[(17,.int .i64 i),(4,.pin 5100000 b 0 []),(3,.int .i64 (aH d.t0 5000)),(2,.loc 2 0),(1,.loc 1 0),(xk 5100000,.me .box 5100000 b [[.sl .no 21 ((fP d).map bR),.sl (.id 5101000) 6 (((List.range 3).map (fN d)).map fa),.sl .no 6 ((fz d).map bY),.sl (.id 5103000) 19 ((d8 d).map fL),.sl (.id 5104000) 9 ((bT d).map bL),.sl (.id 5105000) 2 ((mw d i).map ma),.sl (.id 5106000) 1 [],.lit (.slice (some ⟨g,0,none⟩) 16 cap),.int .i64 (aH d.loss 3),.int .i64 (aH d.t0 5000),.int .i64 (IntKind.i64.wrap (aH d.t0 5000+200))]]),(xk 32,.me (.row g cap) 32 1 (List.replicate 16 [.int .i64 0]))],[(2,[.sl (.id 1002000) 0 [],.sl (.id 1002001) 0 [],.sl (.id 1002002) 0 [],.sl (.id 1002003) 0 [],.sl (.id 1002004) 0 [],.sl (.id 1002005) 0 [],.sl (.id 1002006) 0 [],.sl (.id 1002007) 0 [],.int .i64 0,.int .i64 0,.int .i64 0]),(1,fR d)]⟩) (fun i=>i<=d.buns.length) (fun i=>d.buns.length - i) 0 (aZ _) (St.le.of ?_ ?_) (fun i hi=>?_)
  ·exact RF
  ·exact RF
  ·have Q:=H.bl;have p:((d.buns.map g8).length:Int)=(d.buns.length:Int):=by rw [ay]
   have U:(bT d).length<=8:=Px d H.slen;have j:(((bT d).map bL).length:Int)=((bT d).length:Int):=by rw [ay]
   have v:=As d i hi;have m:(((mw d i).map ma).length:Int)=((mw d i).length:Int):=by rw [ay]
   have u:=QX hi;by_cases a:i<d.buns.length/\(bT d).length>1/\(mw d i).length<10
   ·obtain ⟨a,h1,x⟩:=a;have r:decide ((i:Int)<((d.buns.map g8).length:Int))=false->False:=fun h=>by have:=aR h; rw [p] at this; omega
    have J:decide ((((bT d).map bL).length:Int)>1)=false->False:=fun h=>by have:=aR h; rw [j] at this; omega
    have A:decide ((((mw d i).map ma).length:Int)<10)=false->False:=fun h=>by have:=aR h; rw [m] at this; omega
    have y:(d.buns.map g8)[(i:Int).toNat]?=some (g8 (d.buns.getD i (0,0,0))):=cQ g8 (0,0,0) a;have q:=QW a h1 x;have t:(((bT d).map bL).length:Int)≠0:=by rw [j]; omega
    have ca:=gy (d.buns.getD i (0,0,0)).1 (((bT d).map bL).length:Int) t;have cb:=gy (d.buns.getD i (0,0,0)).2.1 (((bT d).map bL).length:Int) t;rw [<- j] at q;obtain ⟨G,P⟩:=bO (n:=(((bT d).map bL).length:Int)) (H.bi _ (cF (0,0,0) a)).1 am;obtain ⟨D,Z⟩:=bO (n:=(((bT d).map bL).length:Int)) (H.bi _ (cF (0,0,0) a)).2.1 am;generalize d.buns.getD i (0,0,0)=z at *;generalize aH z.1 (((bT d).map bL).length:Int)=l at *;generalize aH z.2.1 (((bT d).map bL).length:Int)=o at *;generalize bT d=O at *;generalize mw d i=B at *;have hss':Unit->mw d (i+1)=B++mV O l o:=fun _=>q;clear q;have L:(O.map bL)[l.toNat]?=some (bL (O.getD l.toNat de)):=by rw [aT,aG,ai am]; rfl
    have E:(O.map bL)[o.toNat]?=some (bL (O.getD o.toNat de)):=by rw [aT,aG,ai am]; rfl
    have w:((B.map ma).length+1)*32<=70368744177664:=by rw [ay]; omega
    have M:(B.map ma).length+1<=4611686018427387904:=by rw [ay]; omega
    repeat' first|exact (r a8).elim|exact (J a8).elim|exact (A a8).elim|refine QE [] rfl hG af (.mk:KP bn) ?_|((conv=>whnf); first|refine cZ ?_|refine cY ?_|refine ed ?_|refine aa (au i) (ae _ (aa y ?_))|refine ae _ (aa (ca) ?_)|refine ae _ (aa (cb) ?_)|refine aa G (ae _ (aa L ?_))|refine aa D (ae _ (aa E ?_))|refine aa w (aa M ?_)|refine aa bt (aa bt ?_)|refine aa (fun h=>?_) (fun h=>?_)|refine aj ?_)
    ·have e:mV O l o=[⟨(O.getD l.toNat de).ord,[l,o]⟩]:=by unfold mV; rw [aV ⟨eq_of_beq a8,aF a8⟩]
     refine ae (i+1) (aa a (aa am (St.le.of ?_ ?_)))
     ·rw [hss' (),e,dw];refine aa (ax some (Pa am)) ?_;exact RF
     ·exact RF
    ·have e:mV O l o=[]:=by unfold mV; rw [aY fun g=>aR a8 g.2]
     refine ae (i+1) (aa a (aa am (St.le.of ?_ ?_)))
     ·rw [hss' (),e,bV];refine aa (ax some (Pa am)) ?_;exact RF
     ·exact RF
    ·have e:mV O l o=[]:=by unfold mV; rw [aY fun g=>by have h:=(by assumption:((O.getD l.toNat de).ord==(O.getD o.toNat de).ord)=false); rw [g.1] at h; simp at h]
     refine ae (i+1) (aa a (aa am (St.le.of ?_ ?_)))
     ·rw [hss' (),e,bV];refine aa (ax some (Pa am)) ?_;exact RF
     ·exact RF
   ·have f:=u a;rw [f];rw [f] at m a;clear u v
    have r:decide ((i:Int)<((d.buns.map g8).length:Int))=true->decide ((((bT d).map bL).length:Int)>1)=true->decide ((((sN d).map ma).length:Int)<10)=true->False:=fun h g k=>by
     have h:=aF h;have g:=aF g;have k:=aF k;rw [p] at h;rw [j] at g;rw [m] at k;omega
    clear f a p j m;generalize bT d=O at *;generalize sN d=B at *
    repeat' first|exact (r a8 a8 a8).elim|refine QE [] rfl hG af (.mk:KP bn) ?_|((conv=>whnf); first|refine cZ ?_|refine cY ?_|refine ed ?_|refine aa (fun h=>?_) (fun h=>?_)|refine aj ?_)
    all_goals refine ae () (aa trivial (St.le.of ?_ ?_))
    all_goals repeat' (first | exact trivial | refine aa rfl ?_)
 ·conv=>whnf
  refine aI.le (St.le.of ?_ ?_) (NS d H hG b g cap)
  ·exact RF
  ·exact RF
set_option maxHeartbeats 64000000 in
theorem NU (d:bQ) (H:yl d) {F:Fence} {u:Nat} {w0:World} {m0:d5} (hG:cr.OK ⟨Tryz.prog,F,u,w0,m0,Tryz.f5.ntmps⟩) (b g cap:Nat):aI ⟨Tryz.prog,F,u,w0,m0,Tryz.f5.ntmps⟩ ⟨[(4,.pin 5100000 b 0 []),(3,.int .i64 (aH d.t0 5000)),(2,.loc 2 0),(1,.loc 1 0),(xk 5100000,.me .box 5100000 b [[.sl .no 21 ((fP d).map bR),.sl (.id 5101000) 6 (((List.range 3).map (fN d)).map fa),.sl .no 6 ((fz d).map bY),.sl (.id 5103000) 19 ((d8 d).map fL),.sl (.id 5104000) 9 ((bT d).map bL),.sl (.id 5105000) 2 [],.sl (.id 5106000) 1 [],.lit (.slice (some ⟨g,0,none⟩) 16 cap),.int .i64 (aH d.loss 3),.int .i64 (aH d.t0 5000),.int .i64 (IntKind.i64.wrap (aH d.t0 5000+200))]]),(xk 32,.me (.row g cap) 32 1 (List.replicate 16 [.int .i64 0]))],[(2,[.sl (.id 1002000) 0 [],.sl (.id 1002001) 0 [],.sl (.id 1002002) 0 [],.sl (.id 1002003) 0 [],.sl (.id 1002004) 0 [],.sl (.id 1002005) 0 [],.sl (.id 1002006) 0 [],.sl (.id 1002007) 0 [],.int .i64 0,.int .i64 0,.int .i64 0]),(1,fR d)]⟩ (fy (fy (fy (fy (fy (fy (fy (fy ((match Tryz.f5.body with | some c=>c | none => .skip)))))))))) (Go.AI.Ends jT Tryz.f5.results.toList (.agg (gC (jr d)))):=by
 repeat' first|refine aI.seq ?_|refine dh hG af bn [] aK ?_|refine dJ hG af bn [] aK ?_|refine aI.skip hG af ?_|refine aI.label hG af ?_|refine aI.ret hG af ?_|refine aI.exit hG af ?_|refine cc rfl ?_|refine ce rfl ?_|refine aI.cond rfl (aa (fun h=>?_) (fun h=>?_))|((conv=>whnf); first|refine cZ ?_|refine cY ?_|refine ed ?_|refine aa (fun h=>?_) (fun h=>?_)|refine aj ?_)
 refine aI.cut (X:=Unit) (fun _=>⟨[(4,.pin 5100000 b 0 []),(3,.int .i64 (aH d.t0 5000)),(2,.loc 2 0),(1,.loc 1 0),(xk 5100000,.me .box 5100000 b [[.sl .no 21 ((fP d).map bR),.sl (.id 5101000) 6 (((List.range 3).map (fN d)).map fa),.sl .no 6 ((fz d).map bY),.sl (.id 5103000) 19 ((d8 d).map fL),.sl (.id 5104000) 9 ((bT d).map bL),.sl (.id 5105000) 2 ((oD d (rh d)).map ma),.sl (.id 5106000) 1 [],.lit (.slice (some ⟨g,0,none⟩) 16 cap),.int .i64 (aH d.loss 3),.int .i64 (aH d.t0 5000),.int .i64 (IntKind.i64.wrap (aH d.t0 5000+200))]]),(xk 32,.me (.row g cap) 32 1 (List.replicate 16 [.int .i64 0]))],[(2,[.sl (.id 1002000) 0 [],.sl (.id 1002001) 0 [],.sl (.id 1002002) 0 [],.sl (.id 1002003) 0 [],.sl (.id 1002004) 0 [],.sl (.id 1002005) 0 [],.sl (.id 1002006) 0 [],.sl (.id 1002007) 0 [],.int .i64 0,.int .i64 0,.int .i64 0]),(1,fR d)]⟩) (fun _=>True) ?_ (fun _ _=>?_)
 ·refine aI.block ?_;refine aI.loop (X:=Nat) (fun i=>⟨[(16,.int .i64 i),(4,.pin 5100000 b 0 []),(3,.int .i64 (aH d.t0 5000)),(2,.loc 2 0),(1,.loc 1 0),(xk 5100000,.me .box 5100000 b [[.sl .no 21 ((fP d).map bR),.sl (.id 5101000) 6 (((List.range 3).map (fN d)).map fa),.sl .no 6 ((fz d).map bY),.sl (.id 5103000) 19 ((d8 d).map fL),.sl (.id 5104000) 9 ((bT d).map bL),.sl (.id 5105000) 2 ((oD d i).map ma),.sl (.id 5106000) 1 [],.lit (.slice (some ⟨g,0,none⟩) 16 cap),.int .i64 (aH d.loss 3),.int .i64 (aH d.t0 5000),.int .i64 (IntKind.i64.wrap (aH d.t0 5000+200))]]),(xk 32,.me (.row g cap) 32 1 (List.replicate 16 [.int .i64 0]))],[(2,[.sl (.id 1002000) 0 [],.sl (.id 1002001) 0 [],.sl (.id 1002002) 0 [],.sl (.id 1002003) 0 [],.sl (.id 1002004) 0 [],.sl (.id 1002005) 0 [],.sl (.id 1002006) 0 [],.sl (.id 1002007) 0 [],.int .i64 0,.int .i64 0,.int .i64 0]),(1,fR d)]⟩) (fun i=>i<=rh d) (fun i=>rh d - i) 0 (aZ _) (St.le.of ?_ ?_) (fun i hi=>?_)
  ·exact RF
  ·exact RF
  ·have w:(bT d).length<=8:=Px d H.slen;have e:(((bT d).map bL).length:Int)=((bT d).length:Int):=by rw [ay]
   have a:=UA d i;have v:rh d<=(bT d).length:=dU _ _;have x:rh d<=7:=gY _ _;have l:rh d=(bT d).length\/rh d=7:=by unfold rh; omega
   have f:(((oD d i).map ma).length:Int)=(i:Int):=by rw [ay,a]
   by_cases o:i<rh d
   ·have j:decide ((i:Int)<(((bT d).map bL).length:Int))=false->False:=fun h=>by have:=aR h; rw [e] at this; omega
    have q:decide ((((oD d i).map ma).length:Int)<7)=false->False:=fun h=>by have:=aR h; rw [f] at this; omega
    have p:((bT d).map bL)[(i:Int).toNat]?=some (bL ((bT d).getD i de)):=cQ bL de am;have m:=QY d i;have n:(((oD d i).map ma).length+1)*32<=70368744177664:=by rw [ay]; omega
    have t:((oD d i).map ma).length+1<=4611686018427387904:=by rw [ay]; omega
    have hss':Unit->oD d (i+1)=oD d i++[⟨((bT d).getD i de).ord,[(i:Int)]⟩]:=fun _=>m;clear m e a l f;generalize oD d i=B at *;generalize bT d=O at *
    repeat' first|exact (j a8).elim|exact (q a8).elim|refine QE [] rfl hG af (.mk:KP bn) ?_|((conv=>whnf); first|refine cZ ?_|refine cY ?_|refine ed ?_|refine aa (au i) (ae _ (aa p ?_))|refine aa n (aa t ?_)|refine aa bt (aa bt ?_)|refine aa (fun h=>?_) (fun h=>?_)|refine aj ?_)
    refine ae (i+1) (aa o (aa am (St.le.of ?_ ?_)))
    ·rw [hss' (),dw];refine aa (ax some (Pa am)) ?_;exact RF
    ·exact RF
   ·have r:i=rh d:=by omega
    have j:decide ((i:Int)<(((bT d).map bL).length:Int))=true->decide ((((oD d i).map ma).length:Int)<7)=true->False:=fun h g=>by
     have h:=aF h;have g:=aF g;rw [e] at h;rw [f] at g;omega
    clear e a l f;subst r;generalize oD d (rh d)=B at *;generalize bT d=O at *
    repeat' first|exact (j a8 a8).elim|refine QE [] rfl hG af (.mk:KP bn) ?_|((conv=>whnf); first|refine cZ ?_|refine cY ?_|refine ed ?_|refine aa (fun h=>?_) (fun h=>?_)|refine aj ?_)
    all_goals refine ae () (aa trivial (St.le.of ?_ ?_))
    all_goals repeat' (first | exact trivial | refine aa rfl ?_)
 ·conv=>whnf
  refine aI.le (St.le.of ?_ ?_) (NT d H hG b g cap)
  ·exact RF
  ·exact RF
end Go.Proofs
