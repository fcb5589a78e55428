/- Part 9 of the proof: an abstract interpreter for the code, contracts of the functions, and plain facts; the conditions are those typed. -/
import Derived.Test.YtapmehbkgihgaaaGreatDoorNH
set_option linter.unusedSectionVars false
set_option linter.unusedVariables false
set_option linter.unusedSimpArgs false
namespace Go.Proofs
open Go Go.AI
set_option maxRecDepth 10000
def fw:Code->Code
 | .seq _ b=>b
 | c=>c
set_option maxHeartbeats 64000000 in
theorem Nj (d:bS) (H:xY d) {F:Fence} {B:Nat} {w0:World} {m0:dI} (hG:ce.OK ⟨Tryz.prog,F,B,w0,m0,Tryz.f5.ntmps⟩) (b g cap:Nat):aJ ⟨Tryz.prog,F,B,w0,m0,Tryz.f5.ntmps⟩ ⟨[(4,.pin 5100000 b 0 []),(3,.int .i64 (aF d.t0 5000)),(2,.loc 2 0),(1,.loc 1 0),(xk 5100000,.me .box 5100000 b [[.sl .no 21 ((fy d).map bM),.sl (.id 5101000) 6 (((List.range 3).map (fF d)).map eB),.sl .no 6 ((fz d).map bU),.sl (.id 5103000) 19 ((d7 d).map fb),.sl (.id 5104000) 9 ((cB d).map bO),.sl (.id 5105000) 2 ((vO d).map lX),.sl (.id 5106000) 1 ((vN d (d7 d).length).map (fun (h:Int)=>[AV.int .i64 h])),.lit (.slice (some ⟨g,0,none⟩) 16 cap),.int .i64 (aF d.loss 3),.int .i64 (aF d.t0 5000),.int .i64 (IntKind.i64.wrap (aF d.t0 5000+200))]]),(xk 32,.me (.row g cap) 32 1 (List.replicate 16 [.int .i64 0]))],[(2,[.sl (.id 1002000) 0 [],.sl (.id 1002001) 0 [],.sl (.id 1002002) 0 [],.sl (.id 1002003) 0 [],.sl (.id 1002004) 0 [],.sl (.id 1002005) 0 [],.sl (.id 1002006) 0 [],.sl (.id 1002007) 0 [],.int .i64 0,.int .i64 0,.int .i64 0]),(1,fM d)]⟩ (fw (fw (fw (fw (fw (fw (fw (fw (fw (fw (fw ((match Tryz.f5.body with | some c=>c | none => .skip))))))))))))) (Go.AI.Ends jK Tryz.f5.results.toList (.agg (gz (ir d)))):=by
 repeat' first|refine aJ.seq ?_|refine dh hG af bn [] aI ?_|refine dH hG af bn [] aI ?_|refine aJ.skip hG af ?_|refine aJ.label hG af ?_|refine aJ.ret hG af ?_|refine aJ.exit hG af ?_|refine ck rfl ?_|refine cm rfl ?_|refine aJ.cond rfl (aa (fun h=>?_) (fun h=>?_))|((conv=>whnf); first|refine cX ?_|refine cW ?_|refine fc ?_|refine aa (fun h=>?_) (fun h=>?_)|refine ak ?_)
 refine aJ.cut (X:=Unit) (fun _=>⟨[(4,.pin 5100000 b 0 []),(3,.int .i64 (aF d.t0 5000)),(2,.loc 2 0),(1,.loc 1 0),(xk 5100000,.me .box 5100000 b [[.sl .no 21 ((fy d).map bM),.sl (.id 5101000) 6 (((List.range 3).map (fF d)).map eB),.sl .no 6 ((fz d).map bU),.sl (.id 5103000) 19 ((d7 d).map fb),.sl (.id 5104000) 9 ((cB d).map bO),.sl (.id 5105000) 2 ((vO d).map lX),.sl (.id 5106000) 1 ((vN d (d7 d).length).map (fun (h:Int)=>[AV.int .i64 h])),.lit (.slice (some ⟨g,0,none⟩) 16 cap),.int .i64 (aF d.loss 3),.int .i64 (aF d.t0 5000),.int .i64 (IntKind.i64.wrap (aF d.t0 5000+200))]]),(xk 32,.me (.row g cap) 32 1 ((yi d 16).map (fun (h:Int)=>[AV.int .i64 h])))],[(2,[.sl (.id 1002000) 0 [],.sl (.id 1002001) 0 [],.sl (.id 1002002) 0 [],.sl (.id 1002003) 0 [],.sl (.id 1002004) 0 [],.sl (.id 1002005) 0 [],.sl (.id 1002006) 0 [],.sl (.id 1002007) 0 [],.int .i64 0,.int .i64 0,.int .i64 0]),(1,fM d)]⟩) (fun _=>True) ?_ (fun _ _=>?_)
 ·refine aJ.block ?_;refine aJ.loop (X:=Nat) (fun i=>⟨[(21,.int .i64 i),(4,.pin 5100000 b 0 []),(3,.int .i64 (aF d.t0 5000)),(2,.loc 2 0),(1,.loc 1 0),(xk 5100000,.me .box 5100000 b [[.sl .no 21 ((fy d).map bM),.sl (.id 5101000) 6 (((List.range 3).map (fF d)).map eB),.sl .no 6 ((fz d).map bU),.sl (.id 5103000) 19 ((d7 d).map fb),.sl (.id 5104000) 9 ((cB d).map bO),.sl (.id 5105000) 2 ((vO d).map lX),.sl (.id 5106000) 1 ((vN d (d7 d).length).map (fun (h:Int)=>[AV.int .i64 h])),.lit (.slice (some ⟨g,0,none⟩) 16 cap),.int .i64 (aF d.loss 3),.int .i64 (aF d.t0 5000),.int .i64 (IntKind.i64.wrap (aF d.t0 5000+200))]]),(xk 32,.me (.row g cap) 32 1 ((yi d i).map (fun (h:Int)=>[AV.int .i64 h])))],[(2,[.sl (.id 1002000) 0 [],.sl (.id 1002001) 0 [],.sl (.id 1002002) 0 [],.sl (.id 1002003) 0 [],.sl (.id 1002004) 0 [],.sl (.id 1002005) 0 [],.sl (.id 1002006) 0 [],.sl (.id 1002007) 0 [],.int .i64 0,.int .i64 0,.int .i64 0]),(1,fM d)]⟩) (fun i=>i<=16) (fun i=>16 - i) 0 (aU _) (St.le.of ?_ ?_) (fun i hi=>?_)
  ·exact RF
  ·exact RF
  ·by_cases j:i<16
   ·have a:=dF (show (i:Int)<16 by omega);have n:(yi d i).length=16:=uE d ar;have t:((yi d i).map (fun (h:Int)=>[AV.int .i64 h]))[(i:Int).toNat]?=some [AV.int .i64 ((yi d i).getD i 0)]:=cG (fun (h:Int)=>[AV.int .i64 h]) 0 ar;have w:((yi d i).map (fun (h:Int)=>[AV.int .i64 h])).length=16:=by rw [az]; exact n
    have D:((i:Nat):Int)<((16:Nat):Int):=by omega
    repeat' first|exact (a bf).elim|refine aJ.seq ?_|refine dh hG af bn [] aI ?_|refine dH hG af bn [] aI ?_|refine aJ.skip hG af ?_|refine aJ.label hG af ?_|refine aJ.ret hG af ?_|refine aJ.exit hG af ?_|refine ck rfl ?_|refine cm rfl ?_|refine aJ.cond rfl (aa (fun h=>?_) (fun h=>?_))|((conv=>whnf); first|refine cX ?_|refine cW ?_|refine fc ?_|refine aa (fun h=>?_) (fun h=>?_)|refine ak ?_)
    refine aJ.block ?_;refine aJ.seq ?_;refine aJ.cut (X:=Unit) (fun _=>⟨[(21,.int .i64 i),(4,.pin 5100000 b 0 []),(3,.int .i64 (aF d.t0 5000)),(2,.loc 2 0),(1,.loc 1 0),(xk 5100000,.me .box 5100000 b [[.sl .no 21 ((fy d).map bM),.sl (.id 5101000) 6 (((List.range 3).map (fF d)).map eB),.sl .no 6 ((fz d).map bU),.sl (.id 5103000) 19 ((d7 d).map fb),.sl (.id 5104000) 9 ((cB d).map bO),.sl (.id 5105000) 2 ((vO d).map lX),.sl (.id 5106000) 1 ((vN d (d7 d).length).map (fun (h:Int)=>[AV.int .i64 h])),.lit (.slice (some ⟨g,0,none⟩) 16 cap),.int .i64 (aF d.loss 3),.int .i64 (aF d.t0 5000),.int .i64 (IntKind.i64.wrap (aF d.t0 5000+200))]]),(xk 32,.me (.row g cap) 32 1 ((dD (yi d i) i 12).map (fun (h:Int)=>[AV.int .i64 h])))],[(2,[.sl (.id 1002000) 0 [],.sl (.id 1002001) 0 [],.sl (.id 1002002) 0 [],.sl (.id 1002003) 0 [],.sl (.id 1002004) 0 [],.sl (.id 1002005) 0 [],.sl (.id 1002006) 0 [],.sl (.id 1002007) 0 [],.int .i64 0,.int .i64 0,.int .i64 0]),(1,fM d)]⟩) (fun _=>True) ?_ (fun _ _=>?_)
    ·repeat' first|exact (a bf).elim|refine QE [] rfl hG af (.mk:KP bn) ?_|((conv=>whnf); first|refine cX ?_|refine cW ?_|refine fc ?_|refine ae _ (aa t ?_)|refine ae 32 (ae _ (ae _ (ae _ (aa (aa rfl (aa rfl w)) ?_))))|refine aa (au i) (aa D ?_)|refine aa (fun h=>?_) (fun h=>?_)|refine ak ?_)
     refine ae () (aa trivial (St.le.of ?_ ?_))
     ·repeat' (first | exact trivial | refine aa rfl ?_)
      refine aa (ax (fun z=>some (AV.me (.row g cap) 32 1 z)) ?_) ?_
      ·show dD ((yi d i).map (fun (h:Int)=>[AV.int .i64 h])) (i:Int).toNat [AV.int .i64 12]=_;rw [vY (fun (h:Int)=>[AV.int .i64 h])]; rfl
      ·exact RF
     ·exact RF
    ·have f:=W5 d j;have A:dD (dD (yi d i) i 12) i (quoI d i)=yi d (i+1):=by rw [Sy]; exact f
     have y:(dD (yi d i) i 12).length=16:=by rw [fQ]; exact n
     generalize yi d i=Q at *;have r:((dD Q i 12).map (fun (h:Int)=>[AV.int .i64 h]))[(i:Int).toNat]?=some [AV.int .i64 ((dD Q i 12).getD i 0)]:=cG (fun (h:Int)=>[AV.int .i64 h]) 0 ar;have p:((dD Q i 12).map (fun (h:Int)=>[AV.int .i64 h])).length=16:=by rw [az]; exact y
     have G:((d.quo.map (fun (h:Int)=>[AV.int .i64 h])).length:Int)=(d.quo.length:Int):=by rw [az]
     conv=>whnf
     by_cases u:i<d.quo.length
     ·have l:=dF (show (i:Int)<((d.quo.map (fun (h:Int)=>[AV.int .i64 h])).length:Int) by omega);have o:(d.quo.map (fun (h:Int)=>[AV.int .i64 h]))[(i:Int).toNat]?=some [AV.int .i64 (d.quo.getD i 0)]:=cG (fun (h:Int)=>[AV.int .i64 h]) 0 u;have e:quoI d i=aF (d.quo.getD i 0) 20:=aX u;have m:=gj (d.quo.getD i 0) 20 bq;rw [<- e] at m;generalize quoI d i=q at *;clear f e
      repeat' first|exact (l bf).elim|refine QE [] rfl hG af (.mk:KP bn) ?_|((conv=>whnf); first|refine cX ?_|refine cW ?_|refine fc ?_|refine aa (au i) (ae _ (aa o ?_))|refine ae _ (aa (m) ?_)|refine ae _ (aa r ?_)|refine ae 32 (ae _ (ae _ (ae _ (aa (aa rfl (aa rfl p)) ?_))))|refine aa (au i) (aa D ?_)|refine aa (fun h=>?_) (fun h=>?_)|refine ak ?_)
      refine ae (i+1) (aa j (aa ar (St.le.of ?_ ?_)))
      ·refine aa (ax some (bL ar)) ?_
       repeat' (first | exact trivial | refine aa rfl ?_)
       refine aa (ax (fun z=>some (AV.me (.row g cap) 32 1 z)) ?_) ?_
       ·show dD ((dD Q i 12).map (fun (h:Int)=>[AV.int .i64 h])) (i:Int).toNat [AV.int .i64 q]=_;rw [vY (fun (h:Int)=>[AV.int .i64 h]),<- A]; rfl
       ·exact RF
      ·exact RF
     ·have l:=dT (show ¬((i:Int)<((d.quo.map (fun (h:Int)=>[AV.int .i64 h])).length:Int)) by omega);have e:quoI d i=12:=aV u;rw [e] at f
      repeat' first|exact (l bf).elim|refine QE [] rfl hG af (.mk:KP bn) ?_|((conv=>whnf); first|refine cX ?_|refine cW ?_|refine fc ?_|refine aa (fun h=>?_) (fun h=>?_)|refine ak ?_)
      refine ae (i+1) (aa j (aa ar (St.le.of ?_ ?_)))
      ·rw [<- f];refine aa (ax some (bL ar)) ?_;exact RF
      ·exact RF
   ·have a:=dT (show ¬((i:Int)<16) by omega);have v:i=16:=by omega
    subst v
    repeat' first|exact (a bf).elim|refine QE [] rfl hG af (.mk:KP bn) ?_|((conv=>whnf); first|refine cX ?_|refine cW ?_|refine fc ?_|refine aa (fun h=>?_) (fun h=>?_)|refine ak ?_)
    refine ae () (aa trivial (St.le.of ?_ ?_))
    ·exact RF
    ·exact RF
 ·conv=>whnf
  repeat' first|refine aJ.seq ?_|refine aJ.block ?_|refine dh hG af bn [] aI ?_|refine dH hG af bn [] aI ?_|refine aJ.skip hG af ?_|refine aJ.label hG af ?_|refine aJ.exit hG af ?_|refine ck rfl ?_|refine cm rfl ?_|refine aJ.cond rfl (aa (fun h=>?_) (fun h=>?_))|((conv=>whnf); first|refine cX ?_|refine cW ?_|refine fc ?_|refine aa (fun h=>?_) (fun h=>?_)|refine ak ?_)
  conv=>whnf
  refine il 32 2 [.sl .no 21 ((fy d).map bM),.sl (.id 5101000) 6 (((List.range 3).map (fF d)).map eB),.sl .no 6 ((fz d).map bU),.sl (.id 5103000) 19 ((d7 d).map fb),.sl (.id 5104000) 9 ((cB d).map bO),.sl (.id 5105000) 2 ((vO d).map lX),.sl (.id 5106000) 1 ((vN d (d7 d).length).map (fun (h:Int)=>[AV.int .i64 h])),.sl .no 1 ((yi d 16).map (fun (h:Int)=>[AV.int .i64 h])),.int .i64 (aF d.loss 3),.int .i64 (aF d.t0 5000),.int .i64 (IntKind.i64.wrap (aF d.t0 5000+200))] rfl rfl ?_ ?_
  ·refine aa (ak rfl) (aa (ak rfl) (aa (ak rfl) (aa (ak rfl) (aa (ak rfl) (aa (ak rfl) (aa (ak rfl) (aa (bA ⟨?_,rfl⟩) (aa (ak rfl) (aa (ak rfl) (aa (ak rfl) trivial))))))))));rw [az,uE d (ba _)]
  ·conv=>whnf
   repeat' first|refine QE [] rfl hG af (.mk:KP bn) ?_|((conv=>whnf); first|refine cX ?_|refine cW ?_|refine fc ?_|refine aa (fun h=>?_) (fun h=>?_)|refine ak ?_)
   refine Ends.mk (ak rfl) (AV.weak.agg ?_ (by simp [gz,qC,yV,cZ,zg,cH,uO,bu,AV.isCell]));have E:(AV.sl .no 2 ((vO d).map lX)).weak (uO (vO d)):=tK (vO d) (fun x _=>bD.cons (ay rfl) (bD.cons AV.weak.sl bD.nil)) (fun x _ c m=>by simp [fH,bu] at m; rcases m with rfl | rfl <;> rfl) (fun k h=>by cases h);exact bD.cons (ay rfl) (bD.cons AV.weak.sl (bD.cons (ay rfl) (bD.cons AV.weak.sl (bD.cons AV.weak.sl (bD.cons E (bD.cons AV.weak.sl (bD.cons (ay rfl) (bD.cons (ay rfl) (bD.cons (ay rfl) (bD.cons (ay rfl) bD.nil))))))))))
set_option maxHeartbeats 64000000 in
theorem Nk (d:bS) (H:xY d) {F:Fence} {t:Nat} {w0:World} {m0:dI} (hG:ce.OK ⟨Tryz.prog,F,t,w0,m0,Tryz.f5.ntmps⟩) (b g cap:Nat):aJ ⟨Tryz.prog,F,t,w0,m0,Tryz.f5.ntmps⟩ ⟨[(4,.pin 5100000 b 0 []),(3,.int .i64 (aF d.t0 5000)),(2,.loc 2 0),(1,.loc 1 0),(xk 5100000,.me .box 5100000 b [[.sl .no 21 ((fy d).map bM),.sl (.id 5101000) 6 (((List.range 3).map (fF d)).map eB),.sl .no 6 ((fz d).map bU),.sl (.id 5103000) 19 ((d7 d).map fb),.sl (.id 5104000) 9 ((cB d).map bO),.sl (.id 5105000) 2 ((vO d).map lX),.sl (.id 5106000) 1 [],.lit (.slice (some ⟨g,0,none⟩) 16 cap),.int .i64 (aF d.loss 3),.int .i64 (aF d.t0 5000),.int .i64 (IntKind.i64.wrap (aF d.t0 5000+200))]]),(xk 32,.me (.row g cap) 32 1 (List.replicate 16 [.int .i64 0]))],[(2,[.sl (.id 1002000) 0 [],.sl (.id 1002001) 0 [],.sl (.id 1002002) 0 [],.sl (.id 1002003) 0 [],.sl (.id 1002004) 0 [],.sl (.id 1002005) 0 [],.sl (.id 1002006) 0 [],.sl (.id 1002007) 0 [],.int .i64 0,.int .i64 0,.int .i64 0]),(1,fM d)]⟩ (fw (fw (fw (fw (fw (fw (fw (fw (fw (fw ((match Tryz.f5.body with | some c=>c | none => .skip)))))))))))) (Go.AI.Ends jK Tryz.f5.results.toList (.agg (gz (ir d)))):=by
 repeat' first|refine aJ.seq ?_|refine dh hG af bn [] aI ?_|refine dH hG af bn [] aI ?_|refine aJ.skip hG af ?_|refine aJ.label hG af ?_|refine aJ.ret hG af ?_|refine aJ.exit hG af ?_|refine ck rfl ?_|refine cm rfl ?_|refine aJ.cond rfl (aa (fun h=>?_) (fun h=>?_))|((conv=>whnf); first|refine cX ?_|refine cW ?_|refine fc ?_|refine aa (fun h=>?_) (fun h=>?_)|refine ak ?_)
 refine aJ.cut (X:=Unit) (fun _=>⟨[(4,.pin 5100000 b 0 []),(3,.int .i64 (aF d.t0 5000)),(2,.loc 2 0),(1,.loc 1 0),(xk 5100000,.me .box 5100000 b [[.sl .no 21 ((fy d).map bM),.sl (.id 5101000) 6 (((List.range 3).map (fF d)).map eB),.sl .no 6 ((fz d).map bU),.sl (.id 5103000) 19 ((d7 d).map fb),.sl (.id 5104000) 9 ((cB d).map bO),.sl (.id 5105000) 2 ((vO d).map lX),.sl (.id 5106000) 1 ((vN d (d7 d).length).map (fun (h:Int)=>[AV.int .i64 h])),.lit (.slice (some ⟨g,0,none⟩) 16 cap),.int .i64 (aF d.loss 3),.int .i64 (aF d.t0 5000),.int .i64 (IntKind.i64.wrap (aF d.t0 5000+200))]]),(xk 32,.me (.row g cap) 32 1 (List.replicate 16 [.int .i64 0]))],[(2,[.sl (.id 1002000) 0 [],.sl (.id 1002001) 0 [],.sl (.id 1002002) 0 [],.sl (.id 1002003) 0 [],.sl (.id 1002004) 0 [],.sl (.id 1002005) 0 [],.sl (.id 1002006) 0 [],.sl (.id 1002007) 0 [],.int .i64 0,.int .i64 0,.int .i64 0]),(1,fM d)]⟩) (fun _=>True) ?_ (fun _ _=>?_)
 ·refine aJ.block ?_;refine aJ.loop (X:=Nat) (fun i=>⟨[(20,.int .i64 i),(4,.pin 5100000 b 0 []),(3,.int .i64 (aF d.t0 5000)),(2,.loc 2 0),(1,.loc 1 0),(xk 5100000,.me .box 5100000 b [[.sl .no 21 ((fy d).map bM),.sl (.id 5101000) 6 (((List.range 3).map (fF d)).map eB),.sl .no 6 ((fz d).map bU),.sl (.id 5103000) 19 ((d7 d).map fb),.sl (.id 5104000) 9 ((cB d).map bO),.sl (.id 5105000) 2 ((vO d).map lX),.sl (.id 5106000) 1 ((vN d i).map (fun (h:Int)=>[AV.int .i64 h])),.lit (.slice (some ⟨g,0,none⟩) 16 cap),.int .i64 (aF d.loss 3),.int .i64 (aF d.t0 5000),.int .i64 (IntKind.i64.wrap (aF d.t0 5000+200))]]),(xk 32,.me (.row g cap) 32 1 (List.replicate 16 [.int .i64 0]))],[(2,[.sl (.id 1002000) 0 [],.sl (.id 1002001) 0 [],.sl (.id 1002002) 0 [],.sl (.id 1002003) 0 [],.sl (.id 1002004) 0 [],.sl (.id 1002005) 0 [],.sl (.id 1002006) 0 [],.sl (.id 1002007) 0 [],.int .i64 0,.int .i64 0,.int .i64 0]),(1,fM d)]⟩) (fun i=>i<=(d7 d).length) (fun i=>(d7 d).length - i) 0 (aU _) (LE) (fun i hi=>?_)
  ·have u:(d7 d).length<=4:=pm d 4;have m:=DL d i;have j:(((d7 d).map fb).length:Int)=((d7 d).length:Int):=by rw [az]
   by_cases a:i<(d7 d).length
   ·have e:=dF (show (i:Int)<(((d7 d).map fb).length:Int) by omega);have p:((d7 d).map fb)[(i:Int).toNat]?=some (fb ((d7 d).getD i jO)):=cG fb jO a;have c0:=gj d.prom 16 bq;have n:T8 d.prom i=(((aF d.prom 16).fdiv (2 ^ min (i:Int).toNat IntKind.i64.bits)).tmod 2==1):=rfl;have f:T8 d.prom i=true->vN d (i+1)=vN d i++[((d7 d).getD i jO).id]:=fun h=>by unfold vN; rw [dJ,nf]; simp [h]
    have l:T8 d.prom i=false->vN d (i+1)=vN d i:=fun h=>by unfold vN; rw [dJ,nf]; simp [h]
    rw [n] at f l;have o:(((vN d i).map (fun (h:Int)=>[AV.int .i64 h])).length+1)*8<=70368744177664:=by rw [az]; omega
    have r:((vN d i).map (fun (h:Int)=>[AV.int .i64 h])).length+1<=4611686018427387904:=by rw [az]; omega
    clear j n m;generalize vN d i=M at *;generalize d7 d=R at *
    repeat' first|exact (e bf).elim|refine QE [] rfl hG af (.mk:KP bn) ?_|((conv=>whnf); first|refine cX ?_|refine cW ?_|refine fc ?_|refine aa (au i) (ae _ (aa p ?_))|refine ae _ (aa (c0) ?_)|refine aa (au i) ?_|refine aa (show (2:Int)≠0 by decide) ?_|refine aa o (aa r ?_)|refine aa (fun h=>?_) (fun h=>?_)|refine ak ?_)
    ·refine ae (i+1) (aa a (aa ar (St.le.of ?_ ?_)))
     ·rw [f bf,c7];refine aa (ax some (bL ar)) ?_;exact RF
     ·exact RF
    ·refine ae (i+1) (aa a (aa ar (St.le.of ?_ ?_)))
     ·rw [l bf];refine aa (ax some (bL ar)) ?_;exact RF
     ·exact RF
   ·have e:=dT (show ¬((i:Int)<(((d7 d).map fb).length:Int)) by omega);have q:i=(d7 d).length:=by omega
    clear j;subst q;clear m;generalize vN d (d7 d).length=M at *;generalize d7 d=R at *
    repeat' first|exact (e bf).elim|refine QE [] rfl hG af (.mk:KP bn) ?_|((conv=>whnf); first|refine cX ?_|refine cW ?_|refine fc ?_|refine aa (fun h=>?_) (fun h=>?_)|refine ak ?_)
    refine ae () (aa trivial (LE))
 ·conv=>whnf
  refine aJ.le (LE) (Nj d H hG b g cap)
open Go Go.AI
set_option maxRecDepth 10000
theorem Oz {n:Nat} (h:n<9223372036854775807):AV.int .i64 (IntKind.i64.wrap ((n:Int)+1))=AV.int .i64 ((n+1:Nat):Int):=ax _ (by rw [qu]; omega)
set_option maxHeartbeats 64000000 in
theorem Nl (d:bS) (H:xY d) {F:Fence} {N:Nat} {w0:World} {m0:dI} (hG:ce.OK ⟨Tryz.prog,F,N,w0,m0,Tryz.f5.ntmps⟩) (b g cap:Nat):aJ ⟨Tryz.prog,F,N,w0,m0,Tryz.f5.ntmps⟩ ⟨[(4,.pin 5100000 b 0 []),(3,.int .i64 (aF d.t0 5000)),(2,.loc 2 0),(1,.loc 1 0),(xk 5100000,.me .box 5100000 b [[.sl .no 21 ((fy d).map bM),.sl (.id 5101000) 6 (((List.range 3).map (fF d)).map eB),.sl .no 6 ((fz d).map bU),.sl (.id 5103000) 19 ((d7 d).map fb),.sl (.id 5104000) 9 ((cB d).map bO),.sl (.id 5105000) 2 ((om d (rf d)).map lX),.sl (.id 5106000) 1 [],.lit (.slice (some ⟨g,0,none⟩) 16 cap),.int .i64 (aF d.loss 3),.int .i64 (aF d.t0 5000),.int .i64 (IntKind.i64.wrap (aF d.t0 5000+200))]]),(xk 32,.me (.row g cap) 32 1 (List.replicate 16 [.int .i64 0]))],[(2,[.sl (.id 1002000) 0 [],.sl (.id 1002001) 0 [],.sl (.id 1002002) 0 [],.sl (.id 1002003) 0 [],.sl (.id 1002004) 0 [],.sl (.id 1002005) 0 [],.sl (.id 1002006) 0 [],.sl (.id 1002007) 0 [],.int .i64 0,.int .i64 0,.int .i64 0]),(1,fM d)]⟩ (fw (fw (fw (fw (fw (fw (fw (fw (fw ((match Tryz.f5.body with | some c=>c | none => .skip))))))))))) (Go.AI.Ends jK Tryz.f5.results.toList (.agg (gz (ir d)))):=by
 repeat' first|refine aJ.seq ?_|refine dh hG af bn [] aI ?_|refine dH hG af bn [] aI ?_|refine aJ.skip hG af ?_|refine aJ.label hG af ?_|refine aJ.ret hG af ?_|refine aJ.exit hG af ?_|refine ck rfl ?_|refine cm rfl ?_|refine aJ.cond rfl (aa (fun h=>?_) (fun h=>?_))|((conv=>whnf); first|refine cX ?_|refine cW ?_|refine fc ?_|refine aa (fun h=>?_) (fun h=>?_)|refine ak ?_)
 refine aJ.cut (X:=Unit) (fun _=>⟨[(4,.pin 5100000 b 0 []),(3,.int .i64 (aF d.t0 5000)),(2,.loc 2 0),(1,.loc 1 0),(xk 5100000,.me .box 5100000 b [[.sl .no 21 ((fy d).map bM),.sl (.id 5101000) 6 (((List.range 3).map (fF d)).map eB),.sl .no 6 ((fz d).map bU),.sl (.id 5103000) 19 ((d7 d).map fb),.sl (.id 5104000) 9 ((cB d).map bO),.sl (.id 5105000) 2 ((vO d).map lX),.sl (.id 5106000) 1 [],.lit (.slice (some ⟨g,0,none⟩) 16 cap),.int .i64 (aF d.loss 3),.int .i64 (aF d.t0 5000),.int .i64 (IntKind.i64.wrap (aF d.t0 5000+200))]]),(xk 32,.me (.row g cap) 32 1 (List.replicate 16 [.int .i64 0]))],[(2,[.sl (.id 1002000) 0 [],.sl (.id 1002001) 0 [],.sl (.id 1002002) 0 [],.sl (.id 1002003) 0 [],.sl (.id 1002004) 0 [],.sl (.id 1002005) 0 [],.sl (.id 1002006) 0 [],.sl (.id 1002007) 0 [],.int .i64 0,.int .i64 0,.int .i64 0]),(1,fM d)]⟩) (fun _=>True) ?_ (fun _ _=>?_)
 ·refine aJ.block ?_;refine aJ.loop (X:=Nat) (fun i=>⟨[(17,.int .i64 i),(4,.pin 5100000 b 0 []),(3,.int .i64 (aF d.t0 5000)),(2,.loc 2 0),(1,.loc 1 0),(xk 5100000,.me .box 5100000 b [[.sl .no 21 ((fy d).map bM),.sl (.id 5101000) 6 (((List.range 3).map (fF d)).map eB),.sl .no 6 ((fz d).map bU),.sl (.id 5103000) 19 ((d7 d).map fb),.sl (.id 5104000) 9 ((cB d).map bO),.sl (.id 5105000) 2 ((mo d i).map lX),.sl (.id 5106000) 1 [],.lit (.slice (some ⟨g,0,none⟩) 16 cap),.int .i64 (aF d.loss 3),.int .i64 (aF d.t0 5000),.int .i64 (IntKind.i64.wrap (aF d.t0 5000+200))]]),(xk 32,.me (.row g cap) 32 1 (List.replicate 16 [.int .i64 0]))],[(2,[.sl (.id 1002000) 0 [],.sl (.id 1002001) 0 [],.sl (.id 1002002) 0 [],.sl (.id 1002003) 0 [],.sl (.id 1002004) 0 [],.sl (.id 1002005) 0 [],.sl (.id 1002006) 0 [],.sl (.id 1002007) 0 [],.int .i64 0,.int .i64 0,.int .i64 0]),(1,fM d)]⟩) (fun i=>i<=d.buns.length) (fun i=>d.buns.length - i) 0 (aU _) (St.le.of ?_ ?_) (fun i hi=>?_)
  ·exact RF
  ·exact RF
  ·have Q:=H.bl;have p:((d.buns.map gV).length:Int)=(d.buns.length:Int):=by rw [az]
   have U:(cB d).length<=8:=OW d H.slen;have j:(((cB d).map bO).length:Int)=((cB d).length:Int):=by rw [az]
   have v:=zS d i hi;have m:(((mo d i).map lX).length:Int)=((mo d i).length:Int):=by rw [az]
   have u:=Qh hi;by_cases a:i<d.buns.length/\(cB d).length>1/\(mo d i).length<10
   ·obtain ⟨a,h1,x⟩:=a;have r:decide ((i:Int)<((d.buns.map gV).length:Int))=false->False:=fun h=>by have:=aW h; rw [p] at this; omega
    have J:decide ((((cB d).map bO).length:Int)>1)=false->False:=fun h=>by have:=aW h; rw [j] at this; omega
    have A:decide ((((mo d i).map lX).length:Int)<10)=false->False:=fun h=>by have:=aW h; rw [m] at this; omega
    have y:(d.buns.map gV)[(i:Int).toNat]?=some (gV (d.buns.getD i (0,0,0))):=cG gV (0,0,0) a;have q:=Qg a h1 x;have t:(((cB d).map bO).length:Int)≠0:=by rw [j]; omega
    have ca:=gj (d.buns.getD i (0,0,0)).1 (((cB d).map bO).length:Int) t;have cb:=gj (d.buns.getD i (0,0,0)).2.1 (((cB d).map bO).length:Int) t;rw [<- j] at q;obtain ⟨G,P⟩:=bN (n:=(((cB d).map bO).length:Int)) (H.bi _ (c8 (0,0,0) a)).1 ar;obtain ⟨D,Z⟩:=bN (n:=(((cB d).map bO).length:Int)) (H.bi _ (c8 (0,0,0) a)).2.1 ar;generalize d.buns.getD i (0,0,0)=z at *;generalize aF z.1 (((cB d).map bO).length:Int)=l at *;generalize aF z.2.1 (((cB d).map bO).length:Int)=o at *;generalize cB d=O at *;generalize mo d i=B at *;have hss':Unit->mo d (i+1)=B++mP O l o:=fun _=>q;clear q;have L:(O.map bO)[l.toNat]?=some (bO (O.getD l.toNat dt)):=by rw [aQ,aK,ai ar]; rfl
    have E:(O.map bO)[o.toNat]?=some (bO (O.getD o.toNat dt)):=by rw [aQ,aK,ai ar]; rfl
    have w:((B.map lX).length+1)*32<=70368744177664:=by rw [az]; omega
    have M:(B.map lX).length+1<=4611686018427387904:=by rw [az]; omega
    repeat' first|exact (r bf).elim|exact (J bf).elim|exact (A bf).elim|refine QE [] rfl hG af (.mk:KP bn) ?_|((conv=>whnf); first|refine cX ?_|refine cW ?_|refine fc ?_|refine aa (au i) (ae _ (aa y ?_))|refine ae _ (aa (ca) ?_)|refine ae _ (aa (cb) ?_)|refine aa G (ae _ (aa L ?_))|refine aa D (ae _ (aa E ?_))|refine aa w (aa M ?_)|refine aa bq (aa bq ?_)|refine aa (fun h=>?_) (fun h=>?_)|refine ak ?_)
    ·have e:mP O l o=[⟨(O.getD l.toNat dt).ord,[l,o]⟩]:=by unfold mP; rw [aX ⟨eq_of_beq bf,aH bf⟩]
     refine ae (i+1) (aa a (aa ar (St.le.of ?_ ?_)))
     ·rw [hss' (),e,c7];refine aa (ax some (Oz ar)) ?_;exact RF
     ·exact RF
    ·have e:mP O l o=[]:=by unfold mP; rw [aV fun g=>aW bf g.2]
     refine ae (i+1) (aa a (aa ar (St.le.of ?_ ?_)))
     ·rw [hss' (),e,bR];refine aa (ax some (Oz ar)) ?_;exact RF
     ·exact RF
    ·have e:mP O l o=[]:=by unfold mP; rw [aV fun g=>by have h:=(by assumption:((O.getD l.toNat dt).ord==(O.getD o.toNat dt).ord)=false); rw [g.1] at h; simp at h]
     refine ae (i+1) (aa a (aa ar (St.le.of ?_ ?_)))
     ·rw [hss' (),e,bR];refine aa (ax some (Oz ar)) ?_;exact RF
     ·exact RF
   ·have f:=u a;rw [f];rw [f] at m a;clear u v
    have r:decide ((i:Int)<((d.buns.map gV).length:Int))=true->decide ((((cB d).map bO).length:Int)>1)=true->decide ((((vO d).map lX).length:Int)<10)=true->False:=fun h g k=>by
     have h:=aH h;have g:=aH g;have k:=aH k;rw [p] at h;rw [j] at g;rw [m] at k;omega
    clear f a p j m;generalize cB d=O at *;generalize vO d=B at *
    repeat' first|exact (r bf bf bf).elim|refine QE [] rfl hG af (.mk:KP bn) ?_|((conv=>whnf); first|refine cX ?_|refine cW ?_|refine fc ?_|refine aa (fun h=>?_) (fun h=>?_)|refine ak ?_)
    all_goals refine ae () (aa trivial (St.le.of ?_ ?_))
    all_goals repeat' (first | exact trivial | refine aa rfl ?_)
 ·conv=>whnf
  refine aJ.le (St.le.of ?_ ?_) (Nk d H hG b g cap)
  ·exact RF
  ·exact RF
set_option maxHeartbeats 64000000 in
theorem Nm (d:bS) (H:xY d) {F:Fence} {u:Nat} {w0:World} {m0:dI} (hG:ce.OK ⟨Tryz.prog,F,u,w0,m0,Tryz.f5.ntmps⟩) (b g cap:Nat):aJ ⟨Tryz.prog,F,u,w0,m0,Tryz.f5.ntmps⟩ ⟨[(4,.pin 5100000 b 0 []),(3,.int .i64 (aF d.t0 5000)),(2,.loc 2 0),(1,.loc 1 0),(xk 5100000,.me .box 5100000 b [[.sl .no 21 ((fy d).map bM),.sl (.id 5101000) 6 (((List.range 3).map (fF d)).map eB),.sl .no 6 ((fz d).map bU),.sl (.id 5103000) 19 ((d7 d).map fb),.sl (.id 5104000) 9 ((cB d).map bO),.sl (.id 5105000) 2 [],.sl (.id 5106000) 1 [],.lit (.slice (some ⟨g,0,none⟩) 16 cap),.int .i64 (aF d.loss 3),.int .i64 (aF d.t0 5000),.int .i64 (IntKind.i64.wrap (aF d.t0 5000+200))]]),(xk 32,.me (.row g cap) 32 1 (List.replicate 16 [.int .i64 0]))],[(2,[.sl (.id 1002000) 0 [],.sl (.id 1002001) 0 [],.sl (.id 1002002) 0 [],.sl (.id 1002003) 0 [],.sl (.id 1002004) 0 [],.sl (.id 1002005) 0 [],.sl (.id 1002006) 0 [],.sl (.id 1002007) 0 [],.int .i64 0,.int .i64 0,.int .i64 0]),(1,fM d)]⟩ (fw (fw (fw (fw (fw (fw (fw (fw ((match Tryz.f5.body with | some c=>c | none => .skip)))))))))) (Go.AI.Ends jK Tryz.f5.results.toList (.agg (gz (ir d)))):=by
 repeat' first|refine aJ.seq ?_|refine dh hG af bn [] aI ?_|refine dH hG af bn [] aI ?_|refine aJ.skip hG af ?_|refine aJ.label hG af ?_|refine aJ.ret hG af ?_|refine aJ.exit hG af ?_|refine ck rfl ?_|refine cm rfl ?_|refine aJ.cond rfl (aa (fun h=>?_) (fun h=>?_))|((conv=>whnf); first|refine cX ?_|refine cW ?_|refine fc ?_|refine aa (fun h=>?_) (fun h=>?_)|refine ak ?_)
 refine aJ.cut (X:=Unit) (fun _=>⟨[(4,.pin 5100000 b 0 []),(3,.int .i64 (aF d.t0 5000)),(2,.loc 2 0),(1,.loc 1 0),(xk 5100000,.me .box 5100000 b [[.sl .no 21 ((fy d).map bM),.sl (.id 5101000) 6 (((List.range 3).map (fF d)).map eB),.sl .no 6 ((fz d).map bU),.sl (.id 5103000) 19 ((d7 d).map fb),.sl (.id 5104000) 9 ((cB d).map bO),.sl (.id 5105000) 2 ((om d (rf d)).map lX),.sl (.id 5106000) 1 [],.lit (.slice (some ⟨g,0,none⟩) 16 cap),.int .i64 (aF d.loss 3),.int .i64 (aF d.t0 5000),.int .i64 (IntKind.i64.wrap (aF d.t0 5000+200))]]),(xk 32,.me (.row g cap) 32 1 (List.replicate 16 [.int .i64 0]))],[(2,[.sl (.id 1002000) 0 [],.sl (.id 1002001) 0 [],.sl (.id 1002002) 0 [],.sl (.id 1002003) 0 [],.sl (.id 1002004) 0 [],.sl (.id 1002005) 0 [],.sl (.id 1002006) 0 [],.sl (.id 1002007) 0 [],.int .i64 0,.int .i64 0,.int .i64 0]),(1,fM d)]⟩) (fun _=>True) ?_ (fun _ _=>?_)
 ·refine aJ.block ?_;refine aJ.loop (X:=Nat) (fun i=>⟨[(16,.int .i64 i),(4,.pin 5100000 b 0 []),(3,.int .i64 (aF d.t0 5000)),(2,.loc 2 0),(1,.loc 1 0),(xk 5100000,.me .box 5100000 b [[.sl .no 21 ((fy d).map bM),.sl (.id 5101000) 6 (((List.range 3).map (fF d)).map eB),.sl .no 6 ((fz d).map bU),.sl (.id 5103000) 19 ((d7 d).map fb),.sl (.id 5104000) 9 ((cB d).map bO),.sl (.id 5105000) 2 ((om d i).map lX),.sl (.id 5106000) 1 [],.lit (.slice (some ⟨g,0,none⟩) 16 cap),.int .i64 (aF d.loss 3),.int .i64 (aF d.t0 5000),.int .i64 (IntKind.i64.wrap (aF d.t0 5000+200))]]),(xk 32,.me (.row g cap) 32 1 (List.replicate 16 [.int .i64 0]))],[(2,[.sl (.id 1002000) 0 [],.sl (.id 1002001) 0 [],.sl (.id 1002002) 0 [],.sl (.id 1002003) 0 [],.sl (.id 1002004) 0 [],.sl (.id 1002005) 0 [],.sl (.id 1002006) 0 [],.sl (.id 1002007) 0 [],.int .i64 0,.int .i64 0,.int .i64 0]),(1,fM d)]⟩) (fun i=>i<=rf d) (fun i=>rf d - i) 0 (aU _) (St.le.of ?_ ?_) (fun i hi=>?_)
  ·exact RF
  ·exact RF
  ·have w:(cB d).length<=8:=OW d H.slen;have e:(((cB d).map bO).length:Int)=((cB d).length:Int):=by rw [az]
   have a:=TS d i;have v:rf d<=(cB d).length:=dP _ _;have x:rf d<=7:=gR _ _;have l:rf d=(cB d).length\/rf d=7:=by unfold rf; omega
   have f:(((om d i).map lX).length:Int)=(i:Int):=by rw [az,a]
   by_cases o:i<rf d
   ·have j:decide ((i:Int)<(((cB d).map bO).length:Int))=false->False:=fun h=>by have:=aW h; rw [e] at this; omega
    have q:decide ((((om d i).map lX).length:Int)<7)=false->False:=fun h=>by have:=aW h; rw [f] at this; omega
    have p:((cB d).map bO)[(i:Int).toNat]?=some (bO ((cB d).getD i dt)):=cG bO dt ar;have m:=Qi d i;have n:(((om d i).map lX).length+1)*32<=70368744177664:=by rw [az]; omega
    have t:((om d i).map lX).length+1<=4611686018427387904:=by rw [az]; omega
    have hss':Unit->om d (i+1)=om d i++[⟨((cB d).getD i dt).ord,[(i:Int)]⟩]:=fun _=>m;clear m e a l f;generalize om d i=B at *;generalize cB d=O at *
    repeat' first|exact (j bf).elim|exact (q bf).elim|refine QE [] rfl hG af (.mk:KP bn) ?_|((conv=>whnf); first|refine cX ?_|refine cW ?_|refine fc ?_|refine aa (au i) (ae _ (aa p ?_))|refine aa n (aa t ?_)|refine aa bq (aa bq ?_)|refine aa (fun h=>?_) (fun h=>?_)|refine ak ?_)
    refine ae (i+1) (aa o (aa ar (St.le.of ?_ ?_)))
    ·rw [hss' (),c7];refine aa (ax some (Oz ar)) ?_;exact RF
    ·exact RF
   ·have r:i=rf d:=by omega
    have j:decide ((i:Int)<(((cB d).map bO).length:Int))=true->decide ((((om d i).map lX).length:Int)<7)=true->False:=fun h g=>by
     have h:=aH h;have g:=aH g;rw [e] at h;rw [f] at g;omega
    clear e a l f;subst r;generalize om d (rf d)=B at *;generalize cB d=O at *
    repeat' first|exact (j bf bf).elim|refine QE [] rfl hG af (.mk:KP bn) ?_|((conv=>whnf); first|refine cX ?_|refine cW ?_|refine fc ?_|refine aa (fun h=>?_) (fun h=>?_)|refine ak ?_)
    all_goals refine ae () (aa trivial (St.le.of ?_ ?_))
    all_goals repeat' (first | exact trivial | refine aa rfl ?_)
 ·conv=>whnf
  refine aJ.le (St.le.of ?_ ?_) (Nl d H hG b g cap)
  ·exact RF
  ·exact RF
end Go.Proofs
