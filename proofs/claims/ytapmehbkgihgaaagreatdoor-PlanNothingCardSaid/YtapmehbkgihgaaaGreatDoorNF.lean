/- Part 6 of the proof: an abstract interpreter for the code, contracts of the functions, and plain facts; the conditions are those typed. -/
import Derived.Test.YtapmehbkgihgaaaGreatDoorNE
set_option linter.unusedSectionVars false
set_option linter.unusedVariables false
set_option linter.unusedSimpArgs false
namespace Go.AI
open Go
abbrev qn:=@Int.le_refl
abbrev AQ:=@Nat.zero_lt_one
abbrev Zs:=@List.mem_of_find?_eq_some
abbrev aaz:=@Nat.lt_succ_iff_lt_or_eq
end Go.AI
namespace Go.Proofs
open Go Go.AI
set_option maxRecDepth 10000
def mq {α:Type} (l:List α) (p:Nat->Bool):Bool:=(List.range l.length).all p
theorem ox {α:Type} {l:List α} {p:Nat->Bool} {i:Nat} (hi:i<l.length) (h:p i=false):mq l p=false:=by
 rw [mq,RW]; exact ⟨i,bB.2 hi,by rw [h]; exact Bool.false_ne_true⟩
theorem ov {α:Type} {l:List α} {p:Nat->Bool} {i:Nat} (hi:i<=l.length) (h:¬ i<l.length) (a:(List.range i).all p=true):mq l p=true:=by
 rw [mq,show l.length=i by omega]; exact a
def y7 (n:Nat) (l:List Int):Bool:=mq l (zq n l)
def wl {α:Type} (d:α) (ok:α->Bool) (key:α->Int) (l:List α) (i:Nat):Bool:=ok (l.getD i d)&&(decide (i=0)||decide (key (l.getD (i - 1) d)<key (l.getD i d)))
def up {α:Type} (d:α) (most:Nat) (ok:α->Bool) (key:α->Int) (l:List α):Bool:=decide (l.length<=most)&&mq l (wl d ok key l)
def BS (s:nY):Bool:=cQ s.id 0 11&&(cQ s.reach 0 6&&(cQ s.ant 1 8&&cQ s.skew 0 30))&&kC (s.x,s.y)
set_option maxHeartbeats 4000000 in
theorem nH (l:List Int) (n:Nat) (hl:l.length<=1000000) (q:n<=1000000):aq Tryz.prog 21 [bu l,.int .i64 n] (.bool (y7 n l)):=by
 refine aM Ks Tryz.func21 ?_;intro F p w0 m0 hG o h1 kp;have e:IntKind.i64.wrap ((n:Int) - 1)=(n:Int) - 1:=aZ ar ar;refine bz ?_;refine aJ.loop (X:=Nat) (fun x=>⟨[(9,.int .i64 x),(8,.int .i64 (l.map fun h=>[AV.int .i64 h]).length),(7,bu l),(1,.int .i64 n),(0,bu l)],[]⟩) (fun x=>x<=l.length/\(List.range x).all (zq n l)=true) (fun x=>l.length - x) 0 ⟨aU _,rfl⟩ (LE) (fun x hx=>?_)
 ·rename Nat=>i
  obtain ⟨hi,m⟩:=hx;by_cases a:i<l.length
  ·have c:=dF (show (i:Int)<((l.map fun h=>[AV.int .i64 h]).length:Int) by simp; omega);have hx:=rK a;have j:(i:Int)>0->IntKind.i64.wrap ((i:Int) - 1)=((i - 1:Nat):Int):=fun h=>(aZ ar ar).trans ar;have d:decide ((i:Int)>0)=true->0<=IntKind.i64.wrap ((i:Int) - 1):=fun h=>by rw [j (aH h)]; omega
   have f:decide ((i:Int)>0)=true->(l.map fun h=>[AV.int .i64 h])[(IntKind.i64.wrap ((i:Int) - 1)).toNat]?=some [.int .i64 (dW l (i - 1))]:=fun h=>by rw [j (aH h)]; exact rK ar
   have b:zq n l i=(decide (0<=dW l i)&&decide (dW l i<n)&&(decide (i=0)||decide (dW l (i - 1)<dW l i))):=rfl;generalize dW l (i - 1)=v at f b;generalize dW l i=u at hx b
   repeat' first|exact (c bf).elim|refine aS ?_|((conv=>whnf); first|refine aa (au i) (ae _ (aa hx ?_))|refine aa (d bf) (ae _ (aa (f bf) ?_))|refine ae _ (aa (oy _ _ _) ?_)|refine ⟨fun h=>?_,fun h=>?_⟩|refine ak ?_)
   all_goals first
    |(refine Eb ?_
      exact (ox a (by rw [b]; simp only [cQ,e] at *; clear hG hx f d j c m b; grind)).symm)
    | skip
   all_goals (refine ae (i+1) (aa ?_ (aa ar (St.le.of ?_ ?_))))
   all_goals first
    |(refine aa (ax some (bL ar)) ?_
      repeat' (first | exact trivial | refine aa rfl ?_))
    |((repeat' (first | exact trivial | refine aa rfl ?_)); done)
    |(exact ⟨a,by rw [ot,m,b]; simp only [cQ,e] at *; clear hG hx f d j c m b; grind⟩)
  ·have c:=dT (show ¬((i:Int)<((l.map fun h=>[AV.int .i64 h]).length:Int)) by simp; omega);refine bz ?_;exact Ends.mk (ak rfl) (ay (ax AV.bool (ov hi a m).symm))
theorem Lj {q:Prop} (h:q:=by
 refine aM V2 V1 ?_;intro F n' w0 m0 hG hro h1 kp
 repeat' first|refine aS ?_|((conv=>whnf); first|refine ⟨fun h=>?_,fun h=>?_⟩|refine ak ?_)
 ·refine Eb ?_;have:=aH ‹_›;rw [up,eq (by simp at this; omega)]; rfl
 refine aJ.loop (X:=Nat) (fun x=>⟨[(17,.int .i64 x),(16,.int .i64 (l.map V4).length),(15,.sl .no V0 (l.map V4)),(0,.sl .no V0 (l.map V4)),(1,.int .i64 most),(2,.fn g),(3,.fn g2)],[]⟩) (fun x=>x<=l.length/\(List.range x).all (wl V3 ok key l)=true) (fun x=>l.length - x) 0 ⟨aU _,rfl⟩ (LE) (fun x hx=>?_)
 ·rename Nat=>i
  obtain ⟨hi,ht⟩:=hx;by_cases hlt_i:i<l.length
  ·have bbk:=dF (show (i:Int)<((l.map V4).length:Int) by simp; omega);have hx:(l.map V4)[(i:Int).toNat]?=some (V4 (l.getD i V3)):=by simp [ai hlt_i]
   have hw:(i:Int)>0->IntKind.i64.wrap ((i:Int) - 1)=((i - 1:Nat):Int):=fun h=>(aZ ar ar).trans ar;have hp0:decide ((i:Int)>0)=true->0<=IntKind.i64.wrap ((i:Int) - 1):=fun h=>by rw [hw (aH h)]; omega
   have hp:decide ((i:Int)>0)=true->(l.map V4)[(IntKind.i64.wrap ((i:Int) - 1)).toNat]?=some (V4 (l.getD (i - 1) V3)):=fun h=>by rw [hw (aH h)]; simp [ai (show i - 1<l.length by omega)]
   have hok:wl V3 ok key l i=(ok (l.getD i V3)&&(decide (i=0)||decide (key (l.getD (i - 1) V3)<key (l.getD i V3)))):=rfl;generalize l.getD (i - 1) V3=v at hp hok;generalize l.getD i V3=u at hx hok
   repeat' first|exact (bbk bf).elim|refine aS ?_|((conv=>whnf); first|refine aa (au i) (ae _ (aa hx ?_))|refine aa (hp0 bf) (ae _ (aa (hp bf) ?_))|refine ae _ (aa (hv _) ?_)|refine ae _ (aa (hk _) ?_)|refine ⟨fun h=>?_,fun h=>?_⟩|refine ak ?_)
   all_goals first
    |(refine Eb ?_
      rw [up,ox hlt_i (by rw [hok]; clear hG hv hk; grind)]; simp)
    | skip
   all_goals (refine ae (i+1) (aa ?_ (aa ar (St.le.of ?_ ?_))))
   all_goals first
    |(refine aa (ax some (bL ar)) ?_
      repeat' (first | exact trivial | refine aa rfl ?_))
    |((repeat' (first | exact trivial | refine aa rfl ?_)); done)
    |(exact ⟨hlt_i,by rw [ot,ht,hok]; clear hG hv hk; grind⟩)
  ·have bbk:=dT (show ¬((i:Int)<((l.map V4).length:Int)) by simp; omega);refine bz ?_
   exact Ends.mk (ak rfl) (ay (ax AV.bool (by
    have:=aW ‹decide (((l.map V4).length:Int)>(most:Int))=false›;rw [up,ov hi hlt_i ht,dQ (by simp at this; omega)]; rfl)))):q:=h
set_option maxHeartbeats 4000000 in
theorem KE (l:List (Nat->Int)) (most:Nat) (ok:(Nat->Int)->Bool) (key:(Nat->Int)->Int) (g g2:FuncId) (hl:l.length<=1000000)
  (hv:∀ x,aq Tryz.prog g [.agg (bM x)] (.bool (ok x))) (hk:∀ x,aq Tryz.prog g2 [.agg (bM x)] (.int .i64 (key x))):aq Tryz.prog 170 [.sl .no 21 (l.map bM),.int .i64 most,.fn g,.fn g2] (.bool (up iM most ok key l)):=by
 let V0:=21; have V1:=Tryz.func170; let V2:=Gb; let V3:=@iM; let V4:=@bM; exact Lj
set_option maxHeartbeats 4000000 in
theorem KD (l:List nY) (most:Nat) (ok:nY->Bool) (key:nY->Int) (g g2:FuncId) (hl:l.length<=1000000)
  (hv:∀ x,aq Tryz.prog g [.agg (eB x)] (.bool (ok x))) (hk:∀ x,aq Tryz.prog g2 [.agg (eB x)] (.int .i64 (key x))):aq Tryz.prog 172 [.sl .no 6 (l.map eB),.int .i64 most,.fn g,.fn g2] (.bool (up LH most ok key l)):=by
 let V0:=6; have V1:=Tryz.func172; let V2:=F9; let V3:=@LH; let V4:=@eB; exact Lj
theorem M7 (s:Nat->Int):aq Tryz.prog 171 [.agg (bM s)] (.int .i64 (s 0)):=dK Ga Tryz.func171
theorem MV (s:nY):aq Tryz.prog 174 [.agg (eB s)] (.int .i64 s.id):=dK F7 Tryz.func174
theorem Bh (s:nY):aq Tryz.prog 173 [.agg (eB s)] (.bool (BS s)):=by
 refine aM F8 Tryz.func173 ?_;intro F b w0 m0 hG a h1 kp
 repeat' first|refine aS ?_|((conv=>whnf); first|refine ae _ (aa ((rx [⟨s.id,0,11⟩,⟨s.reach,0,6⟩,⟨s.ant,1,8⟩,⟨s.skew,0,30⟩] (ah rfl)).sl0) ?_)|refine ae _ (aa (KO (s.x,s.y)) ?_)|refine ⟨fun h=>?_,fun h=>?_⟩|refine ak ?_)
 all_goals refine Eb ?_
 all_goals (simp only [BS,qg,RV,cr] at *; simp_all)
def C5 (l:List (Nat->Int)):Bool:=up iM 24 kP (fun s=>s 0) l
def CZ (l:List nY):Bool:=up LH 12 BS nY.id l
theorem Ae (l:List (Nat->Int)) (hl:l.length<=1000000):aq Tryz.prog 103 [qC l] (.bool (C5 l)):=by
 refine aM G2 Tryz.func103 ?_;intro F b w0 m0 hG a h1 kp
 repeat' first|refine aS ?_|((conv=>whnf); first|refine ae _ (aa (KE l 24 kP (fun s=>s 0) _ _ hl oD M7) ?_)|refine ⟨fun h=>?_,fun h=>?_⟩|refine ak ?_)
 all_goals exact Ez
theorem Ad (l:List nY) (hl:l.length<=1000000):aq Tryz.prog 104 [yV l] (.bool (CZ l)):=by
 refine aM G1 Tryz.func104 ?_;intro F b w0 m0 hG a h1 kp
 repeat' first|refine aS ?_|((conv=>whnf); first|refine ae _ (aa (KD l 12 BS nY.id _ _ hl Bh MV) ?_)|refine ⟨fun h=>?_,fun h=>?_⟩|refine ak ?_)
 all_goals exact Ez
open Go Go.AI
set_option maxRecDepth 10000
theorem M6 (s:Nat->Int) (id:Int):aq Tryz.prog 144 [.agg (bM s),.ref [.int .i64 id]] (.bool (decide (s 0=id))):=dK Gw Tryz.func144
def jB (l:List (Nat->Int)) (id:Int):Option (Nat->Int):=l.find? fun x=>decide (x 0=id)
theorem nX (b:Nat) (s:eo) (i:s.Small) (id:Int):aq Tryz.prog 70 [cA b s,.int .i64 id] (.tup [.agg (bM ((jB s.sats id).getD iM)),.bool (jB s.sats id).isSome]):=by
 have c:=Bt s.sats (fun x=>decide (x 0=id)) 144 _ [.ref [.int .i64 id]] (ak rfl) i.sats fun x _=>M6 x id;rcases wx (fun x=>decide (x 0=id)) s.sats 0 with ⟨n,x,e,hx,hf⟩ | ⟨e,hf⟩
 ·rw [e,bI] at c;have hx:(s.sats.map bM)[(n:Int).toNat]?=some (bM x):=by simp [hx]
  have f:=dT (show ¬((n:Int)<0) by omega);rw [show jB s.sats id=some x from hf];refine aM xI Tryz.func70 ?_;intro F d w0 m0 hG a h1 kp
  repeat' first|exact (f bf).elim|refine aS ?_|((conv=>whnf); first|refine ae _ (aa (c) ?_)|refine aa (au n) (ae _ (aa hx ?_))|refine ⟨fun h=>?_,fun h=>?_⟩|refine ak ?_)
  all_goals exact Ez
 ·rw [e] at c;rw [show jB s.sats id=none from hf];refine aM xI Tryz.func70 ?_;intro F d w0 m0 hG a h1 kp;refine bz ?_
  all_goals refine Ends.mk (ak rfl) (AV.weak.tup (.cons (AV.weak.agg ?_ (by simp [fb,bM,jO,Tm,mg,bu,AV.isCell])) (.cons (.refl _) .nil)))
  all_goals (repeat (first | exact bD.nil | exact bD.cons (.refl _) ?_ | refine bD.cons ?_ ?_ | exact bK | exact ay rfl))
theorem Nf (s:kM) (id:Int):aq Tryz.prog 140 [.agg (fb s),.ref [.int .i64 id]] (.bool (decide (s.id=id))):=dK Gy Tryz.func140
def gW (l:List kM) (id:Int):Option kM:=l.find? fun x=>decide (x.id=id)
theorem jG (b:Nat) (s:eo) (i:s.Small) (id:Int):aq Tryz.prog 68 [cA b s,.int .i64 id] (.tup [.agg (fb ((gW s.ords id).getD jO)),.bool (gW s.ords id).isSome]):=by
 have c:=Bu s.ords (fun x=>decide (x.id=id)) 140 _ [.ref [.int .i64 id]] (ak rfl) i.ords fun x _=>Nf x id;rcases wx (fun x=>decide (x.id=id)) s.ords 0 with ⟨n,x,e,hx,hf⟩ | ⟨e,hf⟩
 ·rw [e,bI] at c;have hx:(s.ords.map fb)[(n:Int).toNat]?=some (fb x):=by simp [hx]
  have f:=dT (show ¬((n:Int)<0) by omega);rw [show gW s.ords id=some x from hf];refine aM xJ Tryz.func68 ?_;intro F d w0 m0 hG a h1 kp
  repeat' first|exact (f bf).elim|refine aS ?_|((conv=>whnf); first|refine ae _ (aa (c) ?_)|refine aa (au n) (ae _ (aa hx ?_))|refine ⟨fun h=>?_,fun h=>?_⟩|refine ak ?_)
  all_goals exact Ez
 ·rw [e] at c;rw [show gW s.ords id=none from hf];refine aM xJ Tryz.func68 ?_;intro F d w0 m0 hG a h1 kp;refine bz ?_
  all_goals refine Ends.mk (ak rfl) (AV.weak.tup (.cons (AV.weak.agg ?_ (by simp [fb,bM,jO,Tm,mg,bu,AV.isCell])) (.cons (.refl _) .nil)))
  all_goals (repeat (first | exact bD.nil | exact bD.cons (.refl _) ?_ | refine bD.cons ?_ ?_ | exact bK | exact ay rfl))
open Go Go.AI
set_option maxRecDepth 10000
theorem MZ (t:nY) (x:bQ):aq Tryz.prog 102 [.agg (eB t),.ref (bU x)] (.bool (decide (t.id=x.st))):=dK G3 Tryz.func102
def Pk (s:eo) (x:bQ):Bool := !(jB s.sats x.sat).isSome || !(s.stas.any fun t=>decide (t.id=x.st))
theorem Ji (b:Nat) (s:eo) (a:s.Small) (x:bQ):aq Tryz.prog 100 [.agg (bU x),.ref [cA b s]] (.bool (Pk s x)):=by
 refine aM G5 Tryz.func100 ?_;intro F d w0 m0 hG c h1 kp
 repeat' first|refine aS ?_|((conv=>whnf); first|refine ae _ (aa (nX b s a x.sat) ?_)|refine ae _ (aa (wQ s.stas (fun t=>decide (t.id=x.st)) _ _ _ (ak rfl) a.stas fun t _=>MZ t x) ?_)|refine ⟨fun h=>?_,fun h=>?_⟩|refine ak ?_)
 all_goals refine Eb ?_
 all_goals (simp only [Pk, *] <;> simp_all)
def VV (s:eo):Bool:=C5 s.sats&&CZ s.stas&&jq s.passes && !(s.passes.any (Pk s))
def Sw (s:eo):Bool:=VV s&&cQ s.b 1 1000000&&cQ s.a 0 (s.b - 1)&&decide (s.b - s.a<=3000)
set_option maxHeartbeats 4000000 in
theorem Uj (b:Nat) (s:eo) (c:s.Small):aq Tryz.prog 45 [cA b s] (.bool (Sw s)):=by
 have d:cQ s.b 1 1000000=true->IntKind.i64.wrap (s.b - 1)=s.b - 1:=fun h=>by simp only [cQ,al,aP] at h; exact aZ ar ar
 have e:cQ s.b 1 1000000=true->cQ s.a 0 (s.b - 1)=true->IntKind.i64.wrap (s.b - s.a)=s.b - s.a:=fun h h2=>by simp only [cQ,al,aP] at h h2; exact aZ ar ar
 refine aM nL Tryz.func45 ?_;intro F i w0 m0 hG f h1 kp;refine aJ.seq ?_;refine aJ.reg hG af nL aI ?_
 conv=>whnf
 refine aJ.seq ?_;refine aJ.reg hG af nL aI ?_
 conv=>whnf
 refine aJ.seq ?_;refine aJ.cut (X:=Unit) (fun _=>⟨[(4,.bool (VV s)),(2,.bool false),(1,.ref [cA b s])],[]⟩) (fun _=>True) ?_ (fun _ _=>?_)
 ·refine aJ.reg hG af nL aI ?_
  repeat' first|refine aS ?_|((conv=>whnf); first|refine ae _ (aa (Ae _ c.sats) ?_)|refine ae _ (aa (Ad _ c.stas) ?_)|refine ae _ (aa (iz _ c.passes) ?_)|refine ae _ (aa (nM s.passes (Pk s) _ _ _ (ak rfl) c.passes fun x _=>Ji b s c x) ?_)|refine ⟨fun h=>?_,fun h=>?_⟩|refine ak ?_)
  all_goals refine ae () (aa trivial (St.le.of (aa (ax (fun z=>some (AV.bool z)) ?_) ?_) ?_))
  all_goals first
   |(simp only [VV, *,bG,cr,bJ,bP,sm,AM,gP,fu,jj,ep]; done)
   |(repeat' (first | exact trivial | refine aa rfl ?_))
 conv=>whnf
 repeat' first|refine aS ?_|((conv=>whnf); first|refine ae _ (aa (oy _ _ _) ?_)|refine ⟨fun h=>?_,fun h=>?_⟩|refine ak ?_)
 all_goals refine Eb ?_
 all_goals (clear hG c; simp only [Sw]; grind)
open Go Go.AI
set_option maxRecDepth 10000
abbrev gA (s:gp):qh:=⟨1,s,0,[]⟩
abbrev ix (w:Int) (s:gp):qh:=⟨4,mg,w,[s]⟩
abbrev eL (w:Int) (s:gp):qh:=⟨2,⟨[],0,0,1,0,false⟩,w,[s]⟩
theorem oz (n a b:Int):aq Tryz.prog 180 [.int .i64 n,.int .i64 a,.int .i64 b] (.bool (cQ n a b)):=by
 refine aM F0 Tryz.func180 ?_;intro F d w0 m0 hG c h1 kp
 repeat' first|refine aS ?_|((conv=>whnf); first|refine ⟨fun h=>?_,fun h=>?_⟩|refine ak ?_)
 all_goals refine Eb ?_
 all_goals (simp_all [cQ] <;> omega)
theorem Ar (l:List gp) (p:gp->Bool) (g:FuncId) (fv:AV) (cap:List AV) (hf:fv = .clo g cap\/(fv = .fn g/\cap=[])) (hl:l.length<=1000000)
  (hp:∀ x∈l,aq Tryz.prog g ((.agg (hU x))::cap) (.bool (p x))):aq Tryz.prog 349 [.sl .no 12 (l.map hU),fv] (.int .i64 (lR p l 0)):=by
 let E:=hU; let D:=mg; let K:=Er; let N:=12; have f:=Tryz.func349; exact Vy
theorem kI (l:List gp) (p:gp->Bool) (g:FuncId) (fv:AV) (cap:List AV) (hf:fv = .clo g cap\/(fv = .fn g/\cap=[])) (hl:l.length<=1000000)
  (hp:∀ x∈l,aq Tryz.prog g ((.agg (hU x))::cap) (.bool (p x))):aq Tryz.prog 311 [.sl .no 12 (l.map hU),fv] (.bool (l.any p)):=by
 have I:=Ar l p g fv cap hf hl hp; let K:=EH; have f:=Tryz.func311; exact X3
def fS (s:gp):Bool:=oq s.rows&&decide (zW s.rows>0)&&cQ s.a 0 1000000&&cQ s.b (s.a+1) 1000000&&cQ s.lo 0 90&&cQ s.hi s.lo 90
theorem Nb (s:gp):aq Tryz.prog 272 [.agg (di (gA s))] (.agg (di (gA { s with rows:=[] }))):=by
 dsimp only [di,gA,ix,eL,mg];refine aM pG Tryz.func272 ?_;intro F b w0 m0 hG a h1 kp;refine bz ?_
 all_goals refine Ends.mk (ak rfl) (AV.weak.agg ?_ (by simp [di,bu,AV.isCell]))
 all_goals (repeat (first | exact bD.nil | exact bD.cons (.refl _) ?_ | refine bD.cons ?_ ?_ | exact bK | exact ay rfl))
set_option maxHeartbeats 4000000 in
theorem Jv (s:gp):aq Tryz.prog 271 [.agg (di (gA s)),.agg (di (gA { s with rows:=[] }))] (.bool true):=by
 dsimp only [di,gA,ix,eL,mg];refine aM pH Tryz.func271 ?_;intro F b w0 m0 hG a h1 kp
 repeat' first|refine aS ?_|((conv=>whnf); first|refine ⟨fun h=>?_,fun h=>?_⟩|refine ak ?_)
 all_goals refine Eb ?_
 all_goals simp_all
theorem Ed (s:gp) (b:s.rows.length<=1000000):aq Tryz.prog 273 [.agg (di (gA s))] (.bool (fS s)):=by
 dsimp only [di,gA,ix,eL,mg];have c:cQ s.a 0 1000000=true->IntKind.i64.wrap (s.a+1)=s.a+1:=fun h=>by simp only [cQ,al,aP] at h; exact aZ ar ar
 refine aM pF Tryz.func273 ?_;intro F e w0 m0 hG d h1 kp
 repeat' first|refine aS ?_|((conv=>whnf); first|refine ae _ (aa (oz _ _ _) ?_)|refine ae _ (aa (rv s.rows b) ?_)|refine ae _ (aa (Nv s.rows b) ?_)|refine ⟨fun h=>?_,fun h=>?_⟩|refine ak ?_)
 all_goals refine Eb ?_
 all_goals (clear hG; (try rw [c bf] at *); simp_all [fS]; try (intros; omega))
theorem Nd (w:Int) (s:gp):aq Tryz.prog 272 [.agg (di (ix w s))] (.agg (di (({ ix w s with kids:=[] })))):=by
 dsimp only [di,gA,ix,eL,mg];refine aM pG Tryz.func272 ?_;intro F b w0 m0 hG a h1 kp;refine bz ?_
 all_goals refine Ends.mk (ak rfl) (AV.weak.agg ?_ (by simp [di,bu,AV.isCell]))
 all_goals (repeat (first | exact bD.nil | exact bD.cons (.refl _) ?_ | refine bD.cons ?_ ?_ | exact bK | exact ay rfl))
set_option maxHeartbeats 4000000 in
theorem Jy (w:Int) (s:gp):aq Tryz.prog 271 [.agg (di (ix w s)),.agg (di (({ ix w s with kids:=[] })))] (.bool true):=by
 dsimp only [di,gA,ix,eL,mg];refine aM pH Tryz.func271 ?_;intro F b w0 m0 hG a h1 kp;refine bz ?_
 all_goals refine Eb ?_
 all_goals simp_all
theorem Ef (w:Int) (s:gp):aq Tryz.prog 273 [.agg (di (ix w s))] (.bool (cQ w 0 1000000)):=by
 dsimp only [di,gA,ix,eL,mg];refine aM pF Tryz.func273 ?_;intro F b w0 m0 hG a h1 kp
 repeat' first|refine aS ?_|((conv=>whnf); first|refine ae _ (aa (oz _ _ _) ?_)|refine ⟨fun h=>?_,fun h=>?_⟩|refine ak ?_)
 all_goals refine Eb ?_
 all_goals (clear hG; grind [cQ])
theorem Nc (w:Int) (s:gp):aq Tryz.prog 272 [.agg (di (eL w s))] (.agg (di (({ eL w s with kids:=[] })))):=by
 dsimp only [di,gA,ix,eL,mg];refine aM pG Tryz.func272 ?_;intro F b w0 m0 hG a h1 kp;refine bz ?_
 all_goals refine Ends.mk (ak rfl) (AV.weak.agg ?_ (by simp [di,bu,AV.isCell]))
 all_goals (repeat (first | exact bD.nil | exact bD.cons (.refl _) ?_ | refine bD.cons ?_ ?_ | exact bK | exact ay rfl))
set_option maxHeartbeats 4000000 in
theorem Jw (w:Int) (s:gp):aq Tryz.prog 271 [.agg (di (eL w s)),.agg (di (({ eL w s with kids:=[] })))] (.bool true):=by
 dsimp only [di,gA,ix,eL,mg];refine aM pH Tryz.func271 ?_;intro F b w0 m0 hG a h1 kp;refine bz ?_
 all_goals refine Eb ?_
 all_goals simp_all
theorem Ee (w:Int) (s:gp):aq Tryz.prog 273 [.agg (di (eL w s))] (.bool (cQ w 1 1000000)):=by
 dsimp only [di,gA,ix,eL,mg];refine aM pF Tryz.func273 ?_;intro F b w0 m0 hG a h1 kp
 repeat' first|refine aS ?_|((conv=>whnf); first|refine ae _ (aa (oz _ _ _) ?_)|refine ⟨fun h=>?_,fun h=>?_⟩|refine ak ?_)
 all_goals refine Eb ?_
 all_goals (clear hG; grind [cQ])
theorem Nq:aq Tryz.prog 310 [.int .i64 4] (.int .i64 3):=dK uY Tryz.func310
theorem Np:aq Tryz.prog 310 [.int .i64 2] (.int .i64 1):=dK uY Tryz.func310
theorem JA (s:gp):aq Tryz.prog 274 [.agg (di (gA s))] (.bool true):=by
 have c:=kI [] (fun _=>false) 309 _ [.ref (di (gA s))] (ak rfl) (ah rfl) (fun _ h=>absurd h pS);dsimp only [di,gA,ix,eL,mg] at *;refine aM pE Tryz.func274 ?_;intro F b w0 m0 hG a h1 kp;refine bz ?_
 all_goals exact Ez
theorem Ra (w:Int) (s:gp) (k:gp):aq Tryz.prog 309 [.agg (hU k),.ref (di (ix w s))] (.bool false):=by
 dsimp only [di,gA,ix,eL,mg];refine aM uZ Tryz.func309 ?_;intro F b w0 m0 hG a h1 kp
 repeat' first|refine aS ?_|((conv=>whnf); first|refine ae _ (aa (Nq) ?_)|refine ⟨fun h=>?_,fun h=>?_⟩|refine ak ?_)
 all_goals exact Ez
theorem JC (w:Int) (s:gp):aq Tryz.prog 274 [.agg (di (ix w s))] (.bool true):=by
 have c:=kI [s] (fun _=>false) 309 _ [.ref (di (ix w s))] (ak rfl) (ah rfl) (fun k _=>Ra w s k);dsimp only [di,gA,ix,eL,mg] at *;refine aM pE Tryz.func274 ?_;intro F b w0 m0 hG a h1 kp;refine bz ?_
 all_goals exact Ez
theorem Q9 (w:Int) (s:gp) (k:gp):aq Tryz.prog 309 [.agg (hU k),.ref (di (eL w s))] (.bool false):=by
 dsimp only [di,gA,ix,eL,mg];refine aM uZ Tryz.func309 ?_;intro F b w0 m0 hG a h1 kp
 repeat' first|refine aS ?_|((conv=>whnf); first|refine ae _ (aa (Np) ?_)|refine ⟨fun h=>?_,fun h=>?_⟩|refine ak ?_)
 all_goals exact Ez
theorem JB (w:Int) (s:gp):aq Tryz.prog 274 [.agg (di (eL w s))] (.bool true):=by
 have c:=kI [s] (fun _=>false) 309 _ [.ref (di (eL w s))] (ak rfl) (ah rfl) (fun k _=>Q9 w s k);dsimp only [di,gA,ix,eL,mg] at *;refine aM pE Tryz.func274 ?_;intro F b w0 m0 hG a h1 kp;refine bz ?_
 all_goals exact Ez
set_option maxHeartbeats 4000000 in
theorem Ah (s:gp) (d:Nat) (b:s.rows.length<=1000000) (j:d<=4):aq Tryz.prog 222 [.agg (di (gA s)),.int .i64 d] (.tup [.int .i64 (if fS s then 1 else 0),.bool (fS s)]):=by
 have c1:=Nb s;have c2:=Jv s;have c:=Ed s b;have i:=JA s;have a:decide ((d:Int)>4)=true->False:=fun h=>by have:=aH h; omega
 dsimp only [di,gA,ix,eL,mg] at *;refine aM vj Tryz.func222 ?_;intro F l w0 m0 hG e h1 kp
 repeat' first|exact (a bf).elim|refine aS ?_|((conv=>whnf); first|refine ae _ (aa (oz _ _ _) ?_)|refine ae _ (aa (c1) ?_)|refine ae _ (aa (c2) ?_)|refine ae _ (aa (c) ?_)|refine ae _ (aa (i) ?_)|refine ⟨fun h=>?_,fun h=>?_⟩|refine ak ?_)
 ·refine Ends.mk (ak rfl) (ay ?_);have:fS s=false:=by simpa using ‹(!fS s)=true›
  rw [this]; rfl
 ·have f:fS s=true:=by simpa using ‹(!fS s)=false›
  rw [f];refine aJ.loop (X:=Unit) (fun _=>⟨[(39,.int .i64 0),(38,.int .i64 0),(6,.int .i64 1)],[]⟩) (fun _=>True) (fun _=>0) () trivial (LE) (fun x hx=>?_);refine bz ?_
  all_goals exact Ez
theorem Pc {q:Prop} (h:q:=by
 have c1:=W0 w s;have c2:=W1 w s;have c3:=W2 w s;have c4:=W3 w s;dsimp only [di,gA,ix,eL,mg] at *;refine aM vj Tryz.func222 ?_;intro F n' w0 m0 hG hro h1 kp
 repeat' first|refine aS ?_|((conv=>whnf); first|refine ae _ (aa (oz _ _ _) ?_)|refine ae _ (aa (c1) ?_)|refine ae _ (aa (c2) ?_)|refine ae _ (aa (c3) ?_)|refine ae _ (aa (c4) ?_)|refine ⟨fun h=>?_,fun h=>?_⟩|refine ak ?_)
 ·refine Ends.mk (ak rfl) (ay ?_);have:(cQ w W4 1000000)=false:=by simpa using ‹(!cQ w W4 1000000)=true›
  rw [this]; rfl
 ·have hk:(cQ w W4 1000000)=true:=by simpa using ‹(!cQ w W4 1000000)=false›
  rw [hk,bG];refine aJ.loop (X:=Bool) (fun i=>⟨[(39,.int .i64 (cond i 1 0)),(38,.int .i64 1),(37,.sl .no 12 [hU s]),(6,.int .i64 (cond i 2 1)),(1,.int .i64 1)],[]⟩) (fun i=>i=true->fS s=true) (fun i=>cond i 0 1) false (fun h=>Bool.noConfusion h) (LE) (fun x hx=>?_)
  ·cases x with
   | false=>
    clear hx;have hx:[hU s][(0:Int).toNat]?=some (hU s):=rfl
    repeat' first|refine aS ?_|((conv=>whnf); first|refine aa (qn 0) (ae _ (aa hx ?_))|refine ae _ (aa (Ah s 2 hr (ah rfl)) ?_)|refine ⟨fun h=>?_,fun h=>?_⟩|refine ak ?_)
    ·refine Ends.mk (ak rfl) (ay ?_);have:fS s=false:=by simpa using ‹(!fS s)=true›
     rw [this]; rfl
    ·have hk:fS s=true:=by simpa using ‹(!fS s)=false›
     refine ae true (aa (fun _=>hk) (aa AQ (St.le.of ?_ ?_)))
     ·refine aa (ax (fun z=>some (AV.int .i64 z)) (by rfl)) ?_;rw [hk];exact RF
     ·exact RF
   | true=>
    rw [hx rfl];refine bz ?_
    all_goals exact Ez):q:=h
set_option maxHeartbeats 4000000 in
theorem M5 (w:Int) (s:gp) (hr:s.rows.length<=1000000):aq Tryz.prog 222 [.agg (di (ix w s)),.int .i64 1] (.tup [.int .i64 (if cQ w 0 1000000&&fS s then 2 else 0),.bool (cQ w 0 1000000&&fS s)]):=by
 have W0:=@Nd; have W1:=@Jy; have W2:=@Ef; have W3:=@JC; let W4:Int:=0; exact Pc
set_option maxHeartbeats 4000000 in
theorem M0 (w:Int) (s:gp) (hr:s.rows.length<=1000000):aq Tryz.prog 222 [.agg (di (eL w s)),.int .i64 1] (.tup [.int .i64 (if cQ w 1 1000000&&fS s then 2 else 0),.bool (cQ w 1 1000000&&fS s)]):=by
 have W0:=@Nc; have W1:=@Jw; have W2:=@Ee; have W3:=@JB; let W4:Int:=1; exact Pc
open Go Go.AI
set_option maxRecDepth 10000
inductive ma:qh->Prop
 | S (s:gp) (a:s.rows.length<=1000000):ma (gA s)
 | D (w:Int) (s:gp) (a:s.rows.length<=1000000):ma (ix w s)
 | P (w:Int) (s:gp) (a:s.rows.length<=1000000):ma (eL w s)
def kc (g:qh):Bool:=if g.kind=1 then fS g.see else if g.kind=4 then cQ g.within 0 1000000&&fS (g.kids.headD mg) else cQ g.within 1 1000000&&fS (g.kids.headD mg)
theorem ja (g:qh) (h:ma g):aq Tryz.prog 141 [.agg (di g)] (.bool (kc g)):=by
 cases h with
 | S s b=>
  have a:=Ah s 1 b (ah rfl);have hv:kc _=(fS s):=show kc (gA s)=_ from aX rfl
  rw [hv];generalize (fS s)=ok at a;refine aM pO Tryz.func141 ?_;intro F d w0 m0 hG c h1 kp
  repeat' first|refine aS ?_|((conv=>whnf); first|refine ae _ (aa (a) ?_)|refine ⟨fun h=>?_,fun h=>?_⟩|refine ak ?_)
  all_goals refine Eb ?_
  all_goals (clear a hG; cases ok <;> simp_all)
 | D w s b=>
  have a:=M5 w s b;have hv:kc _=(cQ w 0 1000000&&fS s):=show kc (ix w s)=_ from rfl
  rw [hv];generalize (cQ w 0 1000000&&fS s)=ok at a;refine aM pO Tryz.func141 ?_;intro F d w0 m0 hG c h1 kp
  repeat' first|refine aS ?_|((conv=>whnf); first|refine ae _ (aa (a) ?_)|refine ⟨fun h=>?_,fun h=>?_⟩|refine ak ?_)
  all_goals refine Eb ?_
  all_goals (clear a hG; cases ok <;> simp_all)
 | P w s b=>
  have a:=M0 w s b;have hv:kc _=(cQ w 1 1000000&&fS s):=show kc (eL w s)=_ from rfl
  rw [hv];generalize (cQ w 1 1000000&&fS s)=ok at a;refine aM pO Tryz.func141 ?_;intro F d w0 m0 hG c h1 kp
  repeat' first|refine aS ?_|((conv=>whnf); first|refine ae _ (aa (a) ?_)|refine ⟨fun h=>?_,fun h=>?_⟩|refine ak ?_)
  all_goals refine Eb ?_
  all_goals (clear a hG; cases ok <;> simp_all)
def xl (o:kM):Bool:=cQ o.id 0 63&&cQ o.own 0 15&&cQ o.price 0 1000000000&&cQ o.group (-1) 15&&cQ o.known 0 1000000&&cQ o.due (o.known+1) 1000000&&kc o.goal
set_option maxHeartbeats 4000000 in
theorem Bg (o:kM) (h:ma o.goal):aq Tryz.prog 107 [.agg (fb o)] (.bool (xl o)):=by
 have a:=ja o.goal h;have b:cQ o.known 0 1000000=true->IntKind.i64.wrap (o.known+1)=o.known+1:=fun h=>by simp only [cQ,al,aP] at h; exact aZ ar ar
 refine aM GY Tryz.func107 ?_;intro F d w0 m0 hG c h1 kp
 repeat' first|refine aS ?_|((conv=>whnf); first|refine ae _ (aa (oz _ _ _) ?_)|refine ae _ (aa (a) ?_)|refine ⟨fun h=>?_,fun h=>?_⟩|refine ak ?_)
 all_goals refine Eb ?_
 all_goals (clear hG a; (try rw [b bf] at *); simp_all [xl])
theorem K5 (n:Int):aq Tryz.prog 108 [.int .i64 n] (.bool (!cQ n 0 1000000)):=by
 refine aM GX Tryz.func108 ?_;intro F b w0 m0 hG a h1 kp
 repeat' first|refine aS ?_|((conv=>whnf); first|refine ae _ (aa (oy _ _ _) ?_)|refine ⟨fun h=>?_,fun h=>?_⟩|refine ak ?_)
 all_goals exact Ez
structure eo.Right (s:eo):Prop extends s.Small where
 goals:∀ o∈s.ords,ma o.goal
def Oo (l:List kM):Bool:=mq l (wl jO xl kM.id l)
def Wq (ords:List kM) (l:List Int) (i:Nat):Bool:=(gW ords (dW l i)).isSome&&(decide (i=0)||decide (dW l (i - 1)<dW l i))
def H0 (ords:List kM) (l:List Int):Bool:=mq l (Wq ords l)
def Od (s:eo):Bool:=decide (s.ords.length<=12)&&decide (s.quo.length=16) && !(s.quo.any fun n => !cQ n 0 1000000)&&cQ s.loss 0 3
def oS (s:eo):Bool:=Oo s.ords&&H0 s.ords s.prom&&Od s
set_option maxHeartbeats 4000000 in
theorem Jb (b:Nat) (s:eo) (f:s.Right):aq Tryz.prog 46 [cA b s] (.bool (oS s)):=by
 have p:=f.ords;have o:=f.prom;refine aM Ki Tryz.func46 ?_;intro F y w0 m0 hG w h1 kp;refine bz ?_;refine aJ.loop (X:=Nat) (fun x=>⟨[(16,.int .i64 x),(15,.int .i64 (s.ords.map fb).length),(14,zg s.ords),(0,cA b s),(2,.bool false)],[]⟩) (fun x=>x<=s.ords.length/\(List.range x).all (wl jO xl kM.id s.ords)=true) (fun x=>s.ords.length - x) 0 ⟨aU _,rfl⟩ (LE) (fun x hx=>?_)
 ·rename Nat=>i
  obtain ⟨hi,m⟩:=hx;by_cases a:i<s.ords.length
  ·have e:=dF (show (i:Int)<((s.ords.map fb).length:Int) by simp; omega);have hx:(s.ords.map fb)[(i:Int).toNat]?=some (fb (s.ords.getD i jO)):=by simp [ai a]
   have j:(i:Int)>0->IntKind.i64.wrap ((i:Int) - 1)=((i - 1:Nat):Int):=fun h=>(aZ ar ar).trans ar;have d:decide ((i:Int)>0)=true->0<=IntKind.i64.wrap ((i:Int) - 1):=fun h=>by rw [j (aH h)]; omega
   have l:decide ((i:Int)>0)=true->(s.ords.map fb)[(IntKind.i64.wrap ((i:Int) - 1)).toNat]?=some (fb (s.ords.getD (i - 1) jO)):=fun h=>by rw [j (aH h)]; simp [ai (show i - 1<s.ords.length by omega)]
   have c:wl jO xl kM.id s.ords i=(xl (s.ords.getD i jO)&&(decide (i=0)||decide ((s.ords.getD (i - 1) jO).id<(s.ords.getD i jO).id))):=rfl;have hv:=Bg (s.ords.getD i jO) (f.goals _ (by rw [aK,ai a]; exact bT a));generalize s.ords.getD (i - 1) jO=v at l c;generalize s.ords.getD i jO=u at hx c hv
   repeat' first|exact (e bf).elim|refine aS ?_|((conv=>whnf); first|refine aa (au i) (ae _ (aa hx ?_))|refine aa (d bf) (ae _ (aa (l bf) ?_))|refine ae _ (aa (hv) ?_)|refine ⟨fun h=>?_,fun h=>?_⟩|refine ak ?_)
   all_goals first
    |(refine Eb ?_
      have hf:Oo s.ords=false:=ox a (by rw [c]; clear hG hx l d j f hv m hi p o; grind);simp only [oS,hf,bJ])
    | skip
   all_goals (refine ae (i+1) (aa ?_ (aa ar (St.le.of ?_ ?_))))
   all_goals first
    |(refine aa (ax some (bL ar)) ?_
      repeat' (first | exact trivial | refine aa rfl ?_))
    |((repeat' (first | exact trivial | refine aa rfl ?_)); done)
    |(exact ⟨a,by rw [ot,m,c]; clear hG hx l d j f hv; grind⟩)
  ·have e:=dT (show ¬((i:Int)<((s.ords.map fb).length:Int)) by simp; omega);have q:Oo s.ords=true:=ov hi a m;refine bz ?_;refine aJ.loop (X:=Nat) (fun x=>⟨[(50,.int .i64 x),(49,.int .i64 (s.prom.map fun h=>[AV.int .i64 h]).length),(48,bu s.prom),(0,cA b s),(2,.bool false)],[]⟩) (fun x=>x<=s.prom.length/\(List.range x).all (Wq s.ords s.prom)=true) (fun x=>s.prom.length - x) 0 ⟨aU _,rfl⟩ (LE) (fun x hx=>?_)
   ·rename Nat=>i
    obtain ⟨hi,m⟩:=hx;by_cases a:i<s.prom.length
    ·have e:=dF (show (i:Int)<((s.prom.map fun h=>[AV.int .i64 h]).length:Int) by simp; omega);have hx:=rK a;have j:(i:Int)>0->IntKind.i64.wrap ((i:Int) - 1)=((i - 1:Nat):Int):=fun h=>(aZ ar ar).trans ar;have d:decide ((i:Int)>0)=true->0<=IntKind.i64.wrap ((i:Int) - 1):=fun h=>by rw [j (aH h)]; omega
     have l:decide ((i:Int)>0)=true->(s.prom.map fun h=>[AV.int .i64 h])[(IntKind.i64.wrap ((i:Int) - 1)).toNat]?=some [.int .i64 (dW s.prom (i - 1))]:=fun h=>by rw [j (aH h)]; exact rK ar
     have c:Wq s.ords s.prom i=((gW s.ords (dW s.prom i)).isSome&&(decide (i=0)||decide (dW s.prom (i - 1)<dW s.prom i))):=rfl;generalize dW s.prom (i - 1)=v at l c;generalize dW s.prom i=u at hx c
     repeat' first|exact (e bf).elim|refine aS ?_|((conv=>whnf); first|refine aa (au i) (ae _ (aa hx ?_))|refine aa (d bf) (ae _ (aa (l bf) ?_))|refine ae _ (aa (jG b s f.toSmall _) ?_)|refine ⟨fun h=>?_,fun h=>?_⟩|refine ak ?_)
     all_goals first
      |(refine Eb ?_
        have hf:H0 s.ords s.prom=false:=ox a (by rw [c]; clear hG hx l d j f q m hi p o; grind);simp only [oS,hf,bJ,bP])
      | skip
     all_goals (refine ae (i+1) (aa ?_ (aa ar (St.le.of ?_ ?_))))
     all_goals first
      |(refine aa (ax some (bL ar)) ?_
        repeat' (first | exact trivial | refine aa rfl ?_))
      |((repeat' (first | exact trivial | refine aa rfl ?_)); done)
      |(exact ⟨a,by rw [ot,m,c]; clear hG hx l d j f q; grind⟩)
    ·have e:=dT (show ¬((i:Int)<((s.prom.map fun h=>[AV.int .i64 h]).length:Int)) by simp; omega);have r:H0 s.ords s.prom=true:=ov hi a m
     repeat' first|exact (e bf).elim|refine aS ?_|((conv=>whnf); first|refine ae _ (aa (rz s.quo (fun n => !cQ n 0 1000000) _ _ _ (bA ⟨rfl,rfl⟩) f.quo fun n _=>K5 n) ?_)|refine ae _ (aa (oy _ _ _) ?_)|refine ⟨fun h=>?_,fun h=>?_⟩|refine ak ?_)
     all_goals refine Eb ?_
     all_goals (simp only [oS,q,r,bG,Od]; generalize (s.quo.any fun n => !cQ n 0 1000000)=t at *; clear hG f m hi q r; simp_all <;> (try (intros; first | omega | exact ⟨by omega,by omega⟩ | (cases t <;> simp_all <;> omega))))
open Go Go.AI
set_option maxRecDepth 10000
def sd (b a:Nat):List AV:=[.pin 5001000 b 0 [],.pin 5000000 a 0 []]
def LS (b a:Nat):List (Nat×AV):=[(5000000,.me .box 5000000 a [[.clo 142 (sd b a)]]),(5001000,.me .box 5001000 b [[.sl .full 0 []]])]
def LT (c a b cap:Nat) (s:gp):List (Nat×AV):=[(5000000,.me .box 5000000 a [[.clo 142 (sd c a)]]),(5001000,.me .box 5001000 c [[.lit (.slice (some ⟨b,0,none⟩) 1 cap)]]),(5002000,.me (.row b cap) 5002000 12 [hU s])]
set_option maxHeartbeats 8000000 in
theorem sN (s:gp) (d:s.rows.length<=1000000) (c a:Nat):lP Tryz.prog 142 [5000000,5001000,5002000] [] (.agg (hU s)::sd c a) (LS c a) (fun r e=>∃ b cap,r = .tup []/\e=LT c a b cap s):=by
 refine lP.ofB af Tryz.func142 rfl aI bh (ah rfl) ?_;intro F i w0 m0 hG f h1;refine aJ.seq ?_;have kp:KP fe := .mk
 repeat' first|refine du ?_|((conv=>whnf); first|refine ⟨fun h=>?_,fun h=>?_⟩|refine ak ?_)
 refine aJ.seq ?_;have kp:KP fe := .mk
 repeat' first|refine du ?_|((conv=>whnf); first|refine ⟨fun h=>?_,fun h=>?_⟩|refine ak ?_)
 refine aJ.seq ?_;have kp:KP fe := .mk
 repeat' first|refine du ?_|((conv=>whnf); first|refine ⟨fun h=>?_,fun h=>?_⟩|refine ak ?_)
 refine aJ.seq ?_
 repeat' first|refine aJ.block ?_|refine dH hG af fe [] aI ?_|refine aJ.skip hG af ?_|refine aJ.label hG af ?_|refine aJ.ret hG af ?_|refine aJ.exit hG af ?_|refine ck rfl ?_|refine cm rfl ?_|refine aJ.cond rfl (aa (fun h=>?_) (fun h=>?_))|((conv=>whnf); first|refine cX ?_|refine cW ?_|refine fc ?_|refine ae _ (aa (KK s.rows d) ?_)|refine aa (fun h=>?_) (fun h=>?_)|refine ak ?_)
 refine aJ.cut (X:=Nat×Nat) (fun x=>⟨[(xk 5000000,.me .box 5000000 a [[.clo 142 (sd c a)]]),(xk 5001000,.me .box 5001000 c [[.lit (.slice (some ⟨x.1,0,none⟩) 1 x.2)]]),(xk 19,.me (.row x.1 x.2) 19 12 [hU s]),(3,.loc 3 0)],[(3,hU s)]⟩) (fun _=>True) ?_ (fun x _=>?_)
 ·refine wT hG af fe aI ?_
  repeat' first
   | refine TB.done rfl ?_
   | refine TB.step hG af [7000000019] ?_
   |(conv=>whnf
     first
      | refine Vz.intro ?_ ?_
      | refine ae 19 (ae _ (ae _ (ae _ (aa (aa rfl (aa rfl rfl)) ?_))))
      | refine aa aI ?_
      | refine bA (aa rfl ?_)
      | refine aa AQ (aa (ah rfl) (aa (ah rfl) ?_))
      | refine aa (qn 0) (aa (show (0:Int)<1 by decide) ?_)
      | refine ae _ (aa rfl ?_)
      | refine fun b cap=>?_)
  all_goals refine ae (b,cap) (aa trivial (St.le.of ?_ ?_))
  all_goals (repeat' (first | exact trivial | refine aa rfl ?_))
 ·obtain ⟨b,cap⟩:=x
  conv=>whnf
  refine gq 19 5002000 (g := .row b cap) aI rfl ?_
  conv=>whnf
  have kp:KP fe := .mk
  repeat' first|refine QE [30] rfl hG af kp ?_|((conv=>whnf); first|refine cX ?_|refine cW ?_|refine fc ?_|refine ⟨fun h=>?_,fun h=>?_⟩|refine ak ?_)
  refine aJ.loop (X:=Unit) (fun _=>⟨[(xk 5000000,.me .box 5000000 a [[.clo 142 (sd c a)]]),(xk 5001000,.me .box 5001000 c [[.lit (.slice (some ⟨b,0,none⟩) 1 cap)]]),(xk 5002000,.me (.row b cap) 5002000 12 [hU s]),(24,.int .i64 0),(23,.int .i64 0)],[]⟩) (fun _=>True) (fun _=>0) () trivial (St.le.of ?_ ?_) (fun x hx=>?_)
  ·exact RF
  ·exact RF
  have kp:KP fe := .mk
  repeat' first|refine QE [30] rfl hG af kp ?_|((conv=>whnf); first|refine cX ?_|refine cW ?_|refine fc ?_|refine ⟨fun h=>?_,fun h=>?_⟩|refine ak ?_)
  all_goals refine gc.mk (bA rfl) (ae (.tup []) (ae (LT c a b cap s) (aa (ae b (ae cap (aa rfl rfl))) (aa (ak (ay rfl)) (aa aI aI)))))
theorem AL {q:Prop} (h:q:=by
 dsimp only [di,gA,ix,eL,mg];refine lP.ofB af Tryz.func142 rfl aI bh (ah rfl) ?_;intro F n' w0 m0 hG hro h1;have kp:KP fe := .mk
 repeat' first|refine QE [30] rfl hG af kp ?_|((conv=>whnf); first|refine cX ?_|refine cW ?_|refine fc ?_|refine ⟨fun h=>?_,fun h=>?_⟩|refine ak ?_)
 refine aJ.loop (X:=Option (Nat×Nat)) (fun x=>x.elim ⟨[(24,.int .i64 0),(23,.int .i64 1),(22,.sl .no 12 [hU s]),(xk 5000000,.me .box 5000000 bs [[.clo 142 (sd bo bs)]]),(xk 5001000,.me .box 5001000 bo [[.sl .full 0 []]]),(1,.pin 5001000 bo 0 []),(2,.pin 5000000 bs 0 [])],[]⟩ (fun p=>⟨[(24,.int .i64 1),(23,.int .i64 1),(xk 5000000,.me .box 5000000 bs [[.clo 142 (sd bo bs)]]),(xk 5001000,.me .box 5001000 bo [[.lit (.slice (some ⟨p.1,0,none⟩) 1 p.2)]]),(xk 5002000,.me (.row p.1 p.2) 5002000 12 [hU s])],[]⟩)) (fun _=>True) (fun x=>x.elim 1 (fun _=>0)) none trivial (LE) (fun x hx=>?_)
 ·cases x with
  | none=>
   have hx:[hU s][(0:Int).toNat]?=some (hU s):=rfl;have c1:=sN s hr bo bs
   conv=>whnf
   refine aJ.seq ?_
   repeat' first|refine du ?_|((conv=>whnf); first|refine ⟨fun h=>?_,fun h=>?_⟩|refine ak ?_)
   refine aJ.seq ?_
   repeat' first|refine du ?_|((conv=>whnf); first|refine ⟨fun h=>?_,fun h=>?_⟩|refine ak ?_)
   conv=>whnf
   refine aJ.seq ?_;refine aJ.block ?_;refine aJ.seq ?_;refine dH hG af fe [] aI ?_
   repeat' first|refine aJ.block ?_|refine aJ.skip hG af ?_|refine aJ.label hG af ?_|refine aJ.ret hG af ?_|refine aJ.exit hG af ?_|refine ck rfl ?_|refine cm rfl ?_|refine aJ.cond rfl (aa (fun h=>?_) (fun h=>?_))|((conv=>whnf); first|refine cX ?_|refine cW ?_|refine fc ?_|refine aa (qn 0) (ae _ (aa hx ?_))|refine aa (fun h=>?_) (fun h=>?_)|refine ak ?_)
   refine lJ hG af fe 2 aI ?_
   conv=>whnf
   refine aa aI ?_
   conv=>whnf
   refine ae _ (ae _ (ae _ (ae _ (aa (aa aI (aa aI (c1))) ?_))));rintro r L2 ⟨b,cap,rfl,rfl⟩
   conv=>whnf
   refine bz ?_
   all_goals refine ae (some (b,cap)) (aa trivial (aa AQ (LE)))
  | some p=>
   obtain ⟨b,cap⟩:=p
   conv=>whnf
   repeat' first|refine QE [30] rfl hG af kp ?_|((conv=>whnf); first|refine cX ?_|refine cW ?_|refine fc ?_|refine ⟨fun h=>?_,fun h=>?_⟩|refine ak ?_)
   all_goals refine gc.mk (bA rfl) (ae (.tup []) (ae (LT bo bs b cap s) (aa (ae b (ae cap (aa rfl rfl))) (aa (ak (ay rfl)) (aa aI aI)))))):q:=h
set_option maxHeartbeats 8000000 in
theorem Bx (w:Int) (s:gp) (hr:s.rows.length<=1000000) (bo bs:Nat):lP Tryz.prog 142 [5000000,5001000,5002000] [] (.agg (di (ix w s))::sd bo bs) (LS bo bs) (fun r L'=>∃ b cap,r = .tup []/\L'=LT bo bs b cap s):=by
 exact AL
set_option maxHeartbeats 8000000 in
theorem Bw (w:Int) (s:gp) (hr:s.rows.length<=1000000) (bo bs:Nat):lP Tryz.prog 142 [5000000,5001000,5002000] [] (.agg (di (eL w s))::sd bo bs) (LS bo bs) (fun r L'=>∃ b cap,r = .tup []/\L'=LT bo bs b cap s):=by
 exact AL
open Go Go.AI
set_option maxRecDepth 10000
def jv (g:qh):List gp:=if kc g then (if g.kind=1 then [g.see] else g.kids) else []
set_option maxHeartbeats 8000000 in
theorem Jj (s:gp) (d:s.rows.length<=1000000):aq Tryz.prog 69 [.agg (di (gA s))] (.sl .no 12 ((jv (gA s)).map hU)):=by
 have hv:=ja (gA s) (.S s d);have f:jv (gA s)=if kc (gA s) then [s] else []:=rfl
 rw [f];have c0:=fun (c a:Nat)=>sN s d c a;generalize kc (gA s)=ok at *;refine aM dY Tryz.func69 ?_;intro F j w0 m0 hG i h1 kp;refine aJ.seq ?_
 repeat' first|refine du ?_|((conv=>whnf); first|refine ⟨fun h=>?_,fun h=>?_⟩|refine ak ?_)
 refine aJ.seq ?_
 repeat' first|refine du ?_|((conv=>whnf); first|refine ae _ (aa (hv) ?_)|refine ⟨fun h=>?_,fun h=>?_⟩|refine ak ?_)
 refine aJ.seq ?_
 repeat' first|refine du ?_|((conv=>whnf); first|refine ae _ (aa (hv) ?_)|refine ⟨fun h=>?_,fun h=>?_⟩|refine ak ?_)
 ·have e:ok=false:=by simpa using ‹(!ok)=true›
  rw [e];refine bz ?_
  all_goals exact Ends.mk (ak rfl) bK
 ·have e:ok=true:=by simpa using ‹(!ok)=false›
  rw [e]
  conv=>whnf
  refine aJ.seq ?_;refine AB hG af dY 0 aI ?_
  conv=>whnf
  refine aJ.pin 3 5001000 rfl rfl rfl (fun c=>?_)
  conv=>whnf
  refine aJ.seq ?_;refine dH hG af dY [] aI ?_
  conv=>whnf
  refine aJ.pin 4 5000000 rfl rfl rfl (fun a=>?_)
  conv=>whnf
  have c1:=c0 c a;refine aJ.seq ?_
  repeat' first|refine du ?_|((conv=>whnf); first|refine ⟨fun h=>?_,fun h=>?_⟩|refine ak ?_)
  refine aJ.seq ?_;refine lJ hG af dY 2 aI ?_
  conv=>whnf
  refine aa aI ?_
  conv=>whnf
  refine ae _ (ae _ (ae _ (ae _ (aa (aa aI (aa aI (c1))) ?_))));rintro r l ⟨b,cap,rfl,rfl⟩
  conv=>whnf
  refine aJ.seq ?_;refine dH hG af dY [] aI ?_
  repeat' first|refine aJ.block ?_|refine aJ.skip hG af ?_|refine aJ.label hG af ?_|refine aJ.exit hG af ?_|refine ck rfl ?_|refine cm rfl ?_|refine aJ.cond rfl (aa (fun h=>?_) (fun h=>?_))|((conv=>whnf); first|refine cX ?_|refine cW ?_|refine fc ?_|refine aa (fun h=>?_) (fun h=>?_)|refine ak ?_)
  conv=>whnf
  refine rB hG 5002000 2 rfl rfl rfl ?_;refine aJ.ret hG af ?_;exact Ez
set_option maxHeartbeats 8000000 in
theorem Jl (w:Int) (s:gp) (d:s.rows.length<=1000000):aq Tryz.prog 69 [.agg (di (ix w s))] (.sl .no 12 ((jv (ix w s)).map hU)):=by
 have hv:=ja (ix w s) (.D w s d);have f:jv (ix w s)=if kc (ix w s) then [s] else []:=rfl
 rw [f];have c0:=fun (c a:Nat)=>Bx w s d c a;generalize kc (ix w s)=ok at *;refine aM dY Tryz.func69 ?_;intro F j w0 m0 hG i h1 kp;refine aJ.seq ?_
 repeat' first|refine du ?_|((conv=>whnf); first|refine ⟨fun h=>?_,fun h=>?_⟩|refine ak ?_)
 refine aJ.seq ?_
 repeat' first|refine du ?_|((conv=>whnf); first|refine ae _ (aa (hv) ?_)|refine ⟨fun h=>?_,fun h=>?_⟩|refine ak ?_)
 refine aJ.seq ?_
 repeat' first|refine du ?_|((conv=>whnf); first|refine ae _ (aa (hv) ?_)|refine ⟨fun h=>?_,fun h=>?_⟩|refine ak ?_)
 ·have e:ok=false:=by simpa using ‹(!ok)=true›
  rw [e];refine bz ?_
  all_goals exact Ends.mk (ak rfl) bK
 ·have e:ok=true:=by simpa using ‹(!ok)=false›
  rw [e]
  conv=>whnf
  refine aJ.seq ?_;refine AB hG af dY 0 aI ?_
  conv=>whnf
  refine aJ.pin 3 5001000 rfl rfl rfl (fun c=>?_)
  conv=>whnf
  refine aJ.seq ?_;refine dH hG af dY [] aI ?_
  conv=>whnf
  refine aJ.pin 4 5000000 rfl rfl rfl (fun a=>?_)
  conv=>whnf
  have c1:=c0 c a;refine aJ.seq ?_
  repeat' first|refine du ?_|((conv=>whnf); first|refine ⟨fun h=>?_,fun h=>?_⟩|refine ak ?_)
  refine aJ.seq ?_;refine lJ hG af dY 2 aI ?_
  conv=>whnf
  refine aa aI ?_
  conv=>whnf
  refine ae _ (ae _ (ae _ (ae _ (aa (aa aI (aa aI (c1))) ?_))));rintro r l ⟨b,cap,rfl,rfl⟩
  conv=>whnf
  refine aJ.seq ?_;refine dH hG af dY [] aI ?_
  repeat' first|refine aJ.block ?_|refine aJ.skip hG af ?_|refine aJ.label hG af ?_|refine aJ.exit hG af ?_|refine ck rfl ?_|refine cm rfl ?_|refine aJ.cond rfl (aa (fun h=>?_) (fun h=>?_))|((conv=>whnf); first|refine cX ?_|refine cW ?_|refine fc ?_|refine aa (fun h=>?_) (fun h=>?_)|refine ak ?_)
  conv=>whnf
  refine rB hG 5002000 2 rfl rfl rfl ?_;refine aJ.ret hG af ?_;exact Ez
set_option maxHeartbeats 8000000 in
theorem Jk (w:Int) (s:gp) (d:s.rows.length<=1000000):aq Tryz.prog 69 [.agg (di (eL w s))] (.sl .no 12 ((jv (eL w s)).map hU)):=by
 have hv:=ja (eL w s) (.P w s d);have f:jv (eL w s)=if kc (eL w s) then [s] else []:=rfl
 rw [f];have c0:=fun (c a:Nat)=>Bw w s d c a;generalize kc (eL w s)=ok at *;refine aM dY Tryz.func69 ?_;intro F j w0 m0 hG i h1 kp;refine aJ.seq ?_
 repeat' first|refine du ?_|((conv=>whnf); first|refine ⟨fun h=>?_,fun h=>?_⟩|refine ak ?_)
 refine aJ.seq ?_
 repeat' first|refine du ?_|((conv=>whnf); first|refine ae _ (aa (hv) ?_)|refine ⟨fun h=>?_,fun h=>?_⟩|refine ak ?_)
 refine aJ.seq ?_
 repeat' first|refine du ?_|((conv=>whnf); first|refine ae _ (aa (hv) ?_)|refine ⟨fun h=>?_,fun h=>?_⟩|refine ak ?_)
 ·have e:ok=false:=by simpa using ‹(!ok)=true›
  rw [e];refine bz ?_
  all_goals exact Ends.mk (ak rfl) bK
 ·have e:ok=true:=by simpa using ‹(!ok)=false›
  rw [e]
  conv=>whnf
  refine aJ.seq ?_;refine AB hG af dY 0 aI ?_
  conv=>whnf
  refine aJ.pin 3 5001000 rfl rfl rfl (fun c=>?_)
  conv=>whnf
  refine aJ.seq ?_;refine dH hG af dY [] aI ?_
  conv=>whnf
  refine aJ.pin 4 5000000 rfl rfl rfl (fun a=>?_)
  conv=>whnf
  have c1:=c0 c a;refine aJ.seq ?_
  repeat' first|refine du ?_|((conv=>whnf); first|refine ⟨fun h=>?_,fun h=>?_⟩|refine ak ?_)
  refine aJ.seq ?_;refine lJ hG af dY 2 aI ?_
  conv=>whnf
  refine aa aI ?_
  conv=>whnf
  refine ae _ (ae _ (ae _ (ae _ (aa (aa aI (aa aI (c1))) ?_))));rintro r l ⟨b,cap,rfl,rfl⟩
  conv=>whnf
  refine aJ.seq ?_;refine dH hG af dY [] aI ?_
  repeat' first|refine aJ.block ?_|refine aJ.skip hG af ?_|refine aJ.label hG af ?_|refine aJ.exit hG af ?_|refine ck rfl ?_|refine cm rfl ?_|refine aJ.cond rfl (aa (fun h=>?_) (fun h=>?_))|((conv=>whnf); first|refine cX ?_|refine cW ?_|refine fc ?_|refine aa (fun h=>?_) (fun h=>?_)|refine ak ?_)
  conv=>whnf
  refine rB hG 5002000 2 rfl rfl rfl ?_;refine aJ.ret hG af ?_;exact Ez
open Go Go.AI
set_option maxRecDepth 10000
theorem Aj (g:qh) (h:ma g):aq Tryz.prog 69 [.agg (di g)] (.sl .no 12 ((jv g).map hU)):=by
 cases h with
 | S s a=>exact Jj s a
 | D w s a=>exact Jl w s a
 | P w s a=>exact Jk w s a
def yb (s:Nat->Int) (o:d4) (ps:List bQ):Bool:=kP s&&jq ps&&js s o ps
theorem Ju (s:Nat->Int) (o:d4) (ps:List bQ) (hl:o.sl.length<=1000000) (a:ps.length<=1000000):aq Tryz.prog 110 [.agg (bM s),.agg (bO o),cZ ps] (.bool (yb s o ps)):=by
 refine aM GV Tryz.func110 ?_;intro F c w0 m0 hG b h1 kp
 repeat' first|refine aS ?_|((conv=>whnf); first|refine ae _ (aa (oD s) ?_)|refine ae _ (aa (iz ps a) ?_)|refine ae _ (aa (Ry s o ps hl a) ?_)|refine ⟨fun h=>?_,fun h=>?_⟩|refine ak ?_)
 all_goals refine Eb ?_
 all_goals simp_all [yb]
def dt:d4:=⟨0,0,0,0,0,0,0,0,[]⟩
def qI (l:List d4) (i:Int):d4:=l.getD i.toNat dt
theorem zi {l:List d4} {i:Int} (a:0<=i) (h:i<l.length):(l.map bO)[i.toNat]?=some (bO (qI l i)):=by
 have:i.toNat<l.length:=by omega
 simp [qI,ai this]
theorem SD {n:Nat} {l:List Int} (h:y7 n l=true) {i:Int} (hi:i∈l):0<=i/\i<n:=by
 obtain ⟨j,hj,e⟩:=cw hi;have:=aN.1 h j (bB.2 hj);simp only [zq,dW,aK,ai hj,lL,e,al,aP] at this;exact this.1
theorem Bn (b:Nat) (s:eo) (u:jY) (i:Int) (a:0<=i) (h:i<s.opts.length):aq Tryz.prog 111 [.int .i64 i,.ref [cA b s],.ref (fH u)] (.bool (decide ((qI s.opts i).ord≠u.ord))):=by
 have hx:=zi a h;refine aM GU Tryz.func111 ?_;intro F d w0 m0 hG c h1 kp
 repeat' first|refine aS ?_|((conv=>whnf); first|refine aa a (ae _ (aa hx ?_))|refine ⟨fun h=>?_,fun h=>?_⟩|refine ak ?_)
 all_goals exact Ends.mk (ak rfl) (ay (ax AV.bool (by simp [bne,BEq.beq])))
open Go Go.AI
set_option maxRecDepth 10000
def aaR (x:dZ):Int×Int:=(x.a,x.b)
def spL (s:eo) (id:Int) (l:List dZ):List (Int×Int):=(l.filter fun x=>(passAt s.passes x.p.toNat).st==id).map aaR
def Yc (s:eo) (id:Int) (l:List d4):List (Int×Int):=l.flatMap fun o=>spL s id o.sl
theorem Qj {α:Type} {l:List α} {c:Nat} {x:α} {r:List α} (h:l.drop c=x::r):l[c]?=some x/\l.drop (c+1)=r/\c+1<=l.length:=by
 have h1:c<l.length:=by
  have:=ax List.length h;simp at this; omega
 rw [dq h1] at h;simp only [gy] at h;exact ⟨by rw [ai h1,h.1],h.2,h1⟩
theorem OY {α:Type} {l:List α} {i:Nat} (d:α) (h:i<l.length):l.drop i=l.getD i d::l.drop (i+1):=by
 rw [dq h,aK,ai h]; rfl
def Zg:dZ:=⟨0,0,0⟩
open Go Go.AI
set_option maxRecDepth 10000
def Ip (o:d4):Int:=(o.sl.getD (o.sl.length - 1) ⟨0,0,0⟩).b
def Ou (s:eo) (i:Nat):Bool:=(jB s.sats (s.opts.getD i dt).sat).isSome&&(gW s.ords (s.opts.getD i dt).ord).isSome&&(decide (i=0)||decide ((s.opts.getD (i - 1) dt).id<(s.opts.getD i dt).id))&&yb ((jB s.sats (s.opts.getD i dt).sat).getD iM) (s.opts.getD i dt) s.passes
def Ot (s:eo) (i:Nat):Bool:=decide ((DO ((s.opts.map d4.sat).take (i+1)) (s.opts.getD i dt).sat:Int)<=8)&&decide (s.a<=(s.opts.getD i dt).a)&&decide (Ip (s.opts.getD i dt)<=s.b)&&decide ((s.opts.getD i dt).cl<((jv ((gW s.ords (s.opts.getD i dt).ord).getD jO).goal).length:Int))
def L0 (s:eo) (i:Nat):Bool:=Ou s i&&Ot s i
def MG (s:eo) (i:Nat):Bool:=(gW s.ords (s.buns.getD i h9).ord).isSome&&cQ ((s.buns.getD i h9).opts.length:Int) 1 6&&y7 s.opts.length (s.buns.getD i h9).opts && !((s.buns.getD i h9).opts.any fun j=>decide ((qI s.opts j).ord≠(s.buns.getD i h9).ord))
def tL (s:eo):Bool:=decide (s.opts.length<=24)&&decide (s.buns.length<=12)&&mq s.opts (L0 s)&&mq s.buns (MG s)
theorem Wa (l:List (Int×Int)):lA l=f8 false (l.map fun p=>([p.1],AV.int .i64 p.2)):=by simp [lA,f8,HT,keyE]
theorem Cp (x y:Int):∀ l:List (Int×Int),nj [x] ((oa x y l).map fun p=>([p.1],AV.int .i64 p.2))=some (.int .i64 y)
 | []=>by simp [oa,nj]
 |(u,v)::r=>by
  simp only [oa];split
  ·simp [nj]
  ·rename_i h;simp only [cp,nj];rw [aV (by simpa using h)];exact Cp x y r
theorem aa4 (l:List (Int×Int)):∀ p∈l.map (fun p=>([p.1],AV.int .i64 p.2)),p.1.length=1:=by
 intro p a;obtain ⟨q,_,rfl⟩:=bp.1 a;rfl
theorem PC {l:List kM} {i:Int} {q:kM} (h:gW l i=some q):q∈l:=Zs h
set_option maxHeartbeats 16000000 in
theorem QG (b:Nat) (s:eo) (l:s.Right) (J:∀ x∈s.opts,x.sl.length<=1000000):aq Tryz.prog 47 [cA b s] (.bool (tL s)):=by
 have hcl:=l.opts;have hcb:=l.buns;have hl1:((s.opts.map bO).length:Int)=s.opts.length:=by rw [az]
 have hl2:((s.buns.map fH).length:Int)=s.buns.length:=by rw [az]
 refine aM rp Tryz.func47 ?_;intro F n' w0 m0 hG hro h1 kp
 repeat' first|refine aS ?_|((conv=>whnf); first|refine fun m=>?_|refine ⟨fun h=>?_,fun h=>?_⟩|refine ak ?_)
 ·refine Ends.mk (ak rfl) (ay (ax AV.bool ?_));have:=aH ‹_›;rw [tL,eq ar]; rfl
 ·refine Ends.mk (ak rfl) (ay (ax AV.bool ?_));have:=aH ‹decide (((s.buns.map fH).length:Int)>12)=true›;rw [tL,eq (show ¬ s.buns.length<=12 by omega)]; simp
 have U:s.opts.length<=24:=by have:=aW ‹decide (((s.opts.map bO).length:Int)>24)=false›; omega
 have hn2:s.buns.length<=12:=by have:=aW ‹decide (((s.buns.map fH).length:Int)>12)=false›; omega
 refine ji [.tmp 1] ?_
 conv=>whnf
 refine aJ.loop (X:=Nat) (fun x=>⟨[(38,.int .i64 x),(xk 31,.me .ents 31 m (lA (lW (s.opts.map d4.sat) x))),(37,.int .i64 (s.opts.map bO).length),(36,cH s.opts),(3,.lit (.map (some m))),(1,.ref [cA b s]),(2,.bool false)],[]⟩) (fun x=>x<=s.opts.length/\(List.range x).all (L0 s)=true) (fun x=>s.opts.length - x) 0 ⟨aU _,rfl⟩ (St.le.of ?_ ?_) (fun x hx=>?_)
 ·exact RF
 ·repeat' (first | exact trivial | refine aa rfl ?_)
 ·rename Nat=>i
  obtain ⟨hi,r⟩:=hx;by_cases c:i<s.opts.length
  ·have f:decide ((i:Int)<((s.opts.map bO).length:Int))=false->False:=fun h=>by have:=aW h; simp at this; omega
   have hx:(s.opts.map bO)[(i:Int).toNat]?=some (bO (s.opts.getD i dt)):=by simp [ai c]
   have Z:(i:Int)>0->IntKind.i64.wrap ((i:Int) - 1)=((i - 1:Nat):Int):=fun h=>(aZ ar ar).trans ar;have N:decide ((i:Int)>0)=true->0<=IntKind.i64.wrap ((i:Int) - 1):=fun h=>by rw [Z (aH h)]; omega
   have hp:decide ((i:Int)>0)=true->(s.opts.map bO)[(IntKind.i64.wrap ((i:Int) - 1)).toNat]?=some (bO (s.opts.getD (i - 1) dt)):=fun h=>by rw [Z (aH h)]; simp [ai (show i - 1<s.opts.length by omega)]
   have d:s.opts.getD i dt∈s.opts:=by rw [aK,ai c]; exact bT c
   have Q:L0 s i=(Ou s i&&Ot s i):=rfl;have h1:Ou s i=((jB s.sats (s.opts.getD i dt).sat).isSome&&(gW s.ords (s.opts.getD i dt).ord).isSome&&(decide (i=0)||decide ((s.opts.getD (i - 1) dt).id<(s.opts.getD i dt).id))&&yb ((jB s.sats (s.opts.getD i dt).sat).getD iM) (s.opts.getD i dt) s.passes):=rfl;have h2:Ot s i=(decide ((DO ((s.opts.map d4.sat).take (i+1)) (s.opts.getD i dt).sat:Int)<=8)&&decide (s.a<=(s.opts.getD i dt).a)&&decide (Ip (s.opts.getD i dt)<=s.b)&&decide ((s.opts.getD i dt).cl<((jv ((gW s.ords (s.opts.getD i dt).ord).getD jO).goal).length:Int))):=rfl;have hdi:(s.opts.map d4.sat).getD i 0=(s.opts.getD i dt).sat:=by simp [ai c]
   have hdl:i<(s.opts.map d4.sat).length:=by simpa using c
   have p:=xA hdl;have hgi:=pn (s.opts.map d4.sat) (s.opts.getD i dt).sat i ar;have H:=pn (s.opts.map d4.sat) (s.opts.getD i dt).sat (i+1) ar;have P:=T2 ((s.opts.map d4.sat).take i) (s.opts.getD i dt).sat;rw [dA] at P;rw [hdi] at p;generalize s.opts.getD (i - 1) dt=v at hp h1;generalize s.opts.getD i dt=o at *;have w:IntKind.i64.wrap (mm (lW (s.opts.map d4.sat) i) o.sat+1)=mm (lW (s.opts.map d4.sat) i) o.sat+1:=aZ ar ar;have n:=Wa (oa o.sat (IntKind.i64.wrap (mm (lW (s.opts.map d4.sat) i) o.sat+1)) (lW (s.opts.map d4.sat) i));have y:IntKind.i64.wrap (mm (lW (s.opts.map d4.sat) i) o.sat+1)=(DO ((s.opts.map d4.sat).take (i+1)) o.sat:Int):=by rw [w,<- H,p,wA,aX rfl]
   have c1:=nX b s l.toSmall o.sat;have c2:=jG b s l.toSmall o.ord;have L:=Ju ((jB s.sats o.sat).getD iM) o s.passes (J o d) l.passes
   have D:yb ((jB s.sats o.sat).getD iM) o s.passes=true->1<=o.sl.length/\o.sl.length<=6:=fun h=>by
    simp only [yb,js,cQ,al,aP] at h;omega
   have A:(!yb ((jB s.sats o.sat).getD iM) o s.passes)=false->IntKind.i64.wrap (((o.sl.map dM).length:Int) - 1)=((o.sl.length - 1:Nat):Int):=fun h=>by
    have:=D (by simpa using h);rw [az]; exact (aZ ar ar).trans ar
   have G:(!yb ((jB s.sats o.sat).getD iM) o s.passes)=false->0<=IntKind.i64.wrap (((o.sl.map dM).length:Int) - 1):=fun h=>by rw [A h]; omega
   have B:(!yb ((jB s.sats o.sat).getD iM) o s.passes)=false->(o.sl.map dM)[(IntKind.i64.wrap (((o.sl.map dM).length:Int) - 1)).toNat]?=some (dM (o.sl.getD (o.sl.length - 1) ⟨0,0,0⟩)):=fun h=>by
    rw [A h];have:=D (by simpa using h);simp [ai (show o.sl.length - 1<o.sl.length by omega)]
   have hle:Ip o=(o.sl.getD (o.sl.length - 1) ⟨0,0,0⟩).b:=rfl;generalize o.sl.getD (o.sl.length - 1) ⟨0,0,0⟩=e at B hle
   have c4:(!(gW s.ords o.ord).isSome)=false->aq Tryz.prog 69 [.agg (di ((gW s.ords o.ord).getD jO).goal)] (.sl .no 12 ((jv ((gW s.ords o.ord).getD jO).goal).map hU)):=fun h=>by
    cases hq:gW s.ords o.ord with
    | none=>rw [hq] at h; cases h
    | some q=>exact Aj q.goal (l.goals q (PC hq))
   repeat' first|exact (f bf).elim|refine aJ.seq ?_|refine aJ.block ?_|refine oF hG af rp aI ?_|refine m9 hG af (M:=fun t=>t=150) gu rp aI ?_|refine aJ.skip hG af ?_|refine aJ.label hG af ?_|refine aJ.ret hG af ?_|refine aJ.exit hG af ?_|refine ck rfl ?_|refine cm rfl ?_|refine aJ.cond rfl (aa (fun h=>?_) (fun h=>?_))|((conv=>whnf); first|refine cX ?_|refine cW ?_|refine fc ?_|refine aa (au i) (ae _ (aa hx ?_))|refine aa (N bf) (ae _ (aa (hp bf) ?_))|refine aa (G bf) (ae _ (aa (B bf) ?_))|refine aa (show (150:Nat)=150 from rfl) ?_|refine ae 31 (ae _ (aa rfl ?_))|refine ae 31 (ae _ (ae [o.sat] (ae _ (aa (aa (ax (fun z=>some (AV.me .ents 31 m z)) n) (aa rfl (aa rfl (aa (aa4 _) (Cp _ _ _))))) ?_))))|refine ae _ (aa (c1) ?_)|refine ae _ (aa (c2) ?_)|refine ae _ (aa (L) ?_)|refine ae _ (aa (c4 bf) ?_)|refine aa (fun h=>?_) (fun h=>?_)|refine ak ?_)
   all_goals (clear hG hx Z N hp d c1 c2 L c4 D A G B hgi H P)
   all_goals (try (conv=>whnf))
   all_goals first
    |(refine Ends.mk (ak rfl) (ay (ax AV.bool ?_))
      have hf:mq s.opts (L0 s)=false:=ox c (by rw [Q,h1,h2,<- y,hle]; clear Q h1 h2 y hle p n w r l J; simp only [az] at *; grind);simp only [tL,hf,bJ,bP])
    | skip
   all_goals (refine ae (i+1) (aa ?_ (aa ar (St.le.of ?_ ?_))))
   all_goals first
    |(refine aa (ax some (bL ar)) (aa (ax (fun z=>some (AV.me .ents 31 m (lA z))) (by rw [w]; exact p.symm)) ?_)
      repeat' (first | exact trivial | refine aa rfl ?_))
    |((repeat' (first | exact trivial | refine aa rfl ?_)); done)
    |(exact ⟨c,by rw [ot,r,Q,h1,h2,<- y,hle]; clear Q h1 h2 y hle p n w r l J; simp only [az] at *; grind⟩)
  ·have f:decide ((i:Int)<((s.opts.map bO).length:Int))=true->False:=fun h=>by have:=aH h; simp at this; omega
   have hO:mq s.opts (L0 s)=true:=ov hi c r
   repeat' first|exact (f bf).elim|refine aS ?_|((conv=>whnf); first|refine ⟨fun h=>?_,fun h=>?_⟩|refine ak ?_)
   refine aJ.loop (X:=Nat) (fun x=>⟨[(150,.int .i64 x),(149,.int .i64 (s.buns.map fH).length),(148,uO s.buns),(1,.ref [cA b s]),(2,.bool false)],[]⟩) (fun x=>x<=s.buns.length/\(List.range x).all (MG s)=true) (fun x=>s.buns.length - x) 0 ⟨aU _,rfl⟩ (St.le.of ?_ ?_) (fun x hx=>?_)
   ·exact RF
   ·repeat' (first | exact trivial | refine aa rfl ?_)
   ·rename Nat=>i
    obtain ⟨hi,r⟩:=hx;by_cases c:i<s.buns.length
    ·have f:decide ((i:Int)<((s.buns.map fH).length:Int))=false->False:=fun h=>by have:=aW h; simp at this; omega
     have hx:(s.buns.map fH)[(i:Int).toNat]?=some (fH (s.buns.getD i h9)):=by simp [ai c]
     have d:s.buns.getD i h9∈s.buns:=by rw [aK,ai c]; exact bT c
     have h1:MG s i=((gW s.ords (s.buns.getD i h9).ord).isSome&&cQ ((s.buns.getD i h9).opts.length:Int) 1 6&&y7 s.opts.length (s.buns.getD i h9).opts && !((s.buns.getD i h9).opts.any fun j=>decide ((qI s.opts j).ord≠(s.buns.getD i h9).ord))):=rfl;generalize s.buns.getD i h9=u at *;have E:=l.bopts u d;have c1:=jG b s l.toSmall u.ord;have c2:=nH u.opts s.opts.length E hcl;rw [<- hl1] at c2
     have L:(!y7 s.opts.length u.opts)=false->aq Tryz.prog 109 [bu u.opts,.clo 111 [.ref [cA b s],.ref (fH u)]] (.bool (u.opts.any fun j=>decide ((qI s.opts j).ord≠u.ord))):=fun h=>
      rz u.opts (fun j=>decide ((qI s.opts j).ord≠u.ord)) 111 _ _ (ak rfl) E fun j hj=>by
       have:=SD (by simpa using h) hj;exact Bn b s u j this.1 this.2
     repeat' first|exact (f bf).elim|refine aS ?_|((conv=>whnf); first|refine aa (au i) (ae _ (aa hx ?_))|refine ae _ (aa (c1) ?_)|refine ae _ (aa (c2) ?_)|refine ae _ (aa (L bf) ?_)|refine ae _ (aa (oy _ _ _) ?_)|refine ⟨fun h=>?_,fun h=>?_⟩|refine ak ?_)
     all_goals (clear hG hx d c1 c2 L E)
     all_goals (try (conv=>whnf))
     all_goals first
      |(refine Ends.mk (ak rfl) (ay (ax AV.bool ?_))
        have hf:mq s.buns (MG s)=false:=ox c (by rw [h1]; clear h1 r l J; simp only [az] at *; grind);simp only [tL,hf,bP])
      | skip
     all_goals (refine ae (i+1) (aa ?_ (aa ar (St.le.of ?_ ?_))))
     all_goals first
      |(refine aa (ax some (bL ar)) ?_
        repeat' (first | exact trivial | refine aa rfl ?_))
      |((repeat' (first | exact trivial | refine aa rfl ?_)); done)
      |(exact ⟨c,by rw [ot,r,h1]; clear h1 r l J; simp only [az] at *; grind⟩)
    ·have f:decide ((i:Int)<((s.buns.map fH).length:Int))=true->False:=fun h=>by have:=aH h; simp at this; omega
     have hB:mq s.buns (MG s)=true:=ov hi c r
     repeat' first|exact (f bf).elim|refine aS ?_|((conv=>whnf); first|refine ⟨fun h=>?_,fun h=>?_⟩|refine ak ?_)
     all_goals refine Ends.mk (ak rfl) (ay (ax AV.bool ?_))
     all_goals (rw [tL,hO,hB,dQ U,dQ hn2]; rfl)
open Go Go.AI
set_option maxRecDepth 10000
structure eo.Fit (s:eo):Prop extends s.Right where
 sl:∀ x∈s.opts,x.sl.length<=1000000
def tX (s:eo):Bool:=Sw s&&oS s&&tL s
theorem jb (s:eo) (a:s.Fit):aq Tryz.prog 13 [.agg (gz s)] (.bool (tX s)):=by
 refine aM ru Tryz.func13 ?_;intro F d w0 m0 hG c h1 kp;refine aJ.seq ?_;refine aJ.reg hG af ru aI ?_
 conv=>whnf
 refine aJ.seq ?_;refine aJ.reg hG af ru aI ?_
 conv=>whnf
 refine aJ.pin 6 5000011 rfl rfl rfl (fun b=>?_)
 conv=>whnf
 repeat' first|refine aS ?_|((conv=>whnf); first|refine ae _ (aa (Uj b s a.toSmall) ?_)|refine ae _ (aa (Jb b s a.toRight) ?_)|refine ae _ (aa (QG b s a.toRight a.sl) ?_)|refine ⟨fun h=>?_,fun h=>?_⟩|refine ak ?_)
 all_goals refine Eb ?_
 all_goals (clear hG; simp_all [tX])
open Go Go.AI
set_option maxRecDepth 10000
def xp (s:eo) (l:List Int):List d4:=l.map (qI s.opts)
set_option maxHeartbeats 4000000 in
theorem jd (b:Nat) (s:eo) (o:s.Small) (u:jY) (hu:u.opts.length<=1000000) (m:∀ j∈u.opts,0<=j/\j<s.opts.length):aq Tryz.prog 22 [cA b s,.agg (fH u),.lit .nilFunc] (cH (xp s u.opts)):=by
 refine aM xS Tryz.func22 ?_;intro F n w0 m0 hG f h1 kp;refine bz ?_;refine aJ.loop (X:=Nat) (fun x=>⟨[(13,.int .i64 x),(12,.int .i64 (u.opts.map fun h=>[AV.int .i64 h]).length),(11,bu u.opts),(7,.sl (.id 7) 9 ((xp s (u.opts.take x)).map bO)),(0,cA b s),(2,.lit .nilFunc)],[]⟩) (fun x=>x<=u.opts.length) (fun x=>u.opts.length - x) 0 (aU _) (LE) (fun x hx=>?_)
 ·rename Nat=>i
  have hi:=hx;by_cases a:i<u.opts.length
  ·have c:=dF (show (i:Int)<((u.opts.map fun h=>[AV.int .i64 h]).length:Int) by simp; omega);have hx:=rK a;have hm:=m (dW u.opts i) (by rw [dW,aK,ai a]; exact bT a);have e:=hm.1;have hy:=zi hm.1 hm.2
   have d:(xp s (u.opts.take (i+1))).map bO=(xp s (u.opts.take i)).map bO++[bO (qI s.opts (dW u.opts i))]:=by
    rw [oT a]; simp [xp,dW]
   have l:((xp s (u.opts.take i)).map bO).length<=1000000:=by simp [xp]; omega
   generalize dW u.opts i=w at *;generalize qI s.opts w=y at *;generalize (xp s (u.opts.take i)).map bO=row at *
   repeat' first|exact (c bf).elim|refine aS ?_|((conv=>whnf); first|refine aa (au i) (ae _ (aa hx ?_))|refine aa e (ae _ (aa hy ?_))|refine aa (show (row.length+1)*88<=70368744177664 by omega) (aa (show row.length+1<=4611686018427387904 by omega) ?_)|refine ⟨fun h=>?_,fun h=>?_⟩|refine ak ?_)
   conv=>whnf
   refine ae (i+1) (aa a (aa ar (St.le.of ?_ ?_)))
   ·rw [d];refine aa (ax some (bL ar)) ?_;exact RF
   ·exact RF
  ·have c:=dT (show ¬((i:Int)<((u.opts.map fun h=>[AV.int .i64 h]).length:Int)) by simp; omega);have he:xp s (u.opts.take i)=xp s u.opts:=by rw [bE ar]
   rw [he];refine bz ?_
   all_goals exact Ends.mk (ak rfl) AV.weak.sl
open Go Go.AI
set_option maxRecDepth 10000
theorem Al (y:d4) (id:Int):aq Tryz.prog 159 [.agg (bO y),.ref [.int .i64 id]] (.bool (decide (y.sat=id))):=dK Gk Tryz.func159
theorem JD (id:Int):aq Tryz.prog 79 [.int .i64 id] (.clo 159 [.ref [.int .i64 id]]):=dK JY Tryz.func79
def qK (s:eo) (id:Int) (l:List Int):List d4:=(xp s l).filter fun y=>decide (y.sat=id)
set_option maxHeartbeats 4000000 in
theorem jc (b:Nat) (s:eo) (u:jY) (id:Int) (hu:u.opts.length<=1000000) (m:∀ j∈u.opts,0<=j/\j<s.opts.length):aq Tryz.prog 22 [cA b s,.agg (fH u),.clo 159 [.ref [.int .i64 id]]] (cH (qK s id u.opts)):=by
 refine aM xS Tryz.func22 ?_;intro F n w0 m0 hG l h1 kp;refine bz ?_;refine aJ.loop (X:=Nat) (fun x=>⟨[(13,.int .i64 x),(12,.int .i64 (u.opts.map fun h=>[AV.int .i64 h]).length),(11,bu u.opts),(7,.sl (.id 7) 9 ((qK s id (u.opts.take x)).map bO)),(0,cA b s),(2,.clo 159 [.ref [.int .i64 id]])],[]⟩) (fun x=>x<=u.opts.length) (fun x=>u.opts.length - x) 0 (aU _) (LE) (fun x hx=>?_)
 ·rename Nat=>i
  have hi:=hx;by_cases a:i<u.opts.length
  ·have d:=dF (show (i:Int)<((u.opts.map fun h=>[AV.int .i64 h]).length:Int) by simp; omega);have hx:=rK a;have hm:=m (dW u.opts i) (by rw [dW,aK,ai a]; exact bT a);have f:=hm.1;have hy:=zi hm.1 hm.2
   have c:(qK s id (u.opts.take (i+1))).map bO=(qK s id (u.opts.take i)).map bO++(if (qI s.opts (dW u.opts i)).sat=id then [bO (qI s.opts (dW u.opts i))] else []):=by
    rw [oT a]; simp only [qK,xp,c7,nf,cp,eU,Vu,List.filter_nil,dW]
    congr 1
    split <;> simp_all
   have e:((qK s id (u.opts.take i)).map bO).length<=1000000:=by
    have:=iu (fun y:d4=>decide (y.sat=id)) (xp s (u.opts.take i));simp only [qK,xp,az,dA] at *; omega
   generalize dW u.opts i=w at *;generalize qI s.opts w=y at *;generalize (qK s id (u.opts.take i)).map bO=row at *
   repeat' first|exact (d bf).elim|refine aS ?_|((conv=>whnf); first|refine aa (au i) (ae _ (aa hx ?_))|refine aa f (ae _ (aa hy ?_))|refine ae _ (aa (Al y id) ?_)|refine aa (show (row.length+1)*88<=70368744177664 by omega) (aa (show row.length+1<=4611686018427387904 by omega) ?_)|refine ⟨fun h=>?_,fun h=>?_⟩|refine ak ?_)
   all_goals (try (conv=>whnf))
   all_goals (refine ae (i+1) (aa a (aa ar (St.le.of ?_ ?_))))
   all_goals (try rw [c])
   all_goals first
    |(rw [aX (aH ‹_›)]
      refine aa (ax some (bL ar)) ?_
      repeat' (first | exact trivial | refine aa rfl ?_))
    |(rw [aV (aW ‹_›),bR]
      refine aa (ax some (bL ar)) ?_
      repeat' (first | exact trivial | refine aa rfl ?_))
    |(repeat' (first | exact trivial | refine aa rfl ?_))
  ·have d:=dT (show ¬((i:Int)<((u.opts.map fun h=>[AV.int .i64 h]).length:Int)) by simp; omega);have he:qK s id (u.opts.take i)=qK s id u.opts:=by rw [bE ar]
   rw [he];refine bz ?_
   all_goals exact Ends.mk (ak rfl) AV.weak.sl
open Go Go.AI
set_option maxRecDepth 10000
theorem tu (b:Nat) (s:eo) (l:List d4) (id:Int):aq Tryz.prog 65 [cA b s,cH l,.int .i64 id] (.clo 135 [.ref [cH l],.ref [cA b s],.ref [.int .i64 id]]):=dK J7 Tryz.func65
open Go Go.AI
set_option maxRecDepth 10000
def jC (l:List Int):List Int:=Lib.compact (sortI l)
theorem oc (l:List Int):(sortI l).length=l.length:=by unfold sortI; rw [BF]
theorem Ea (sz:Nat):aq Tryz.prog 23 [.sl .no sz []] (bu []):=by
 refine aM g8 Tryz.func23 ?_;intro F b w0 m0 hG a h1 kp
 repeat' first|refine aS ?_|((conv=>whnf); first|refine ae _ (aa (sM _) ?_)|refine ae _ (aa (oC _ 1) ?_)|refine ⟨fun h=>?_,fun h=>?_⟩|refine ak ?_)
 all_goals exact Ez
theorem Bo (sz:Nat):aq Tryz.prog 23 [.sl .full sz []] (bu []):=by
 refine aM g8 Tryz.func23 ?_;intro F b w0 m0 hG a h1 kp
 repeat' first|refine aS ?_|((conv=>whnf); first|refine ae _ (aa (sM _) ?_)|refine ae _ (aa (oC _ 1) ?_)|refine ⟨fun h=>?_,fun h=>?_⟩|refine ak ?_)
 all_goals exact Ez
theorem Pd {q:Prop} (h:q:=by
 subst hn;have hsl:(sortI l).length<=1000000:=by rw [oc]; exact hl
 refine lP.ofB af Tryz.func23 rfl aI bh (ah rfl) ?_;intro F n' w0 m0 hG hro h1;refine aJ.seq ?_;refine aJ.reg hG af g8 aI ?_
 conv=>whnf
 refine aJ.seq ?_;refine r9 hG af g8 1 aI ?_
 conv=>whnf
 refine aa rfl (ae _ (ae _ (aa (nE _ hl) (aa rfl (aa (mU _).symm ?_)))))
 conv=>whnf
 refine aJ.seq ?_;refine r8 hG af g8 1 aI ?_
 conv=>whnf
 refine ae _ (ae _ (aa (lz _ hsl) (aa rfl (aa (oi _) ?_))));rintro r rows' rfl hr1 hr2
 conv=>whnf
 refine aJ.ret hG af ?_;exact gc.mk (ak rfl) (ae _ (ae [] (aa (aa rfl rfl) (aa (ak (ay (ax (fun z=>AV.sl .no 1 z) (mU _)))) (aa rfl rfl)))))):q:=h
theorem tw (l:List Int) (n:Nat) (hn:n=l.length) (hl:l.length<=1000000):lP Tryz.prog 23 [5000000] [] [.me .sl 5000000 n []] [(5000000,.me .arr 5000000 1 (l.map fun h=>[AV.int .i64 h]))] (fun r L=>r=bu (jC l)/\L=[]):=by
 exact Pd
theorem Ni (l:List Int) (hl:l.length<=1000000):lZ Tryz.prog 23 1 (kk l) [] (fun r _=>r=bu (jC l)):=by
 have f:(sortI l).length<=1000000:=by rw [oc]; exact hl
 have b:(kk l).length=l.length:=by simp [kk]
 have d:(kk (sortI l)).length=l.length:=by simp [kk,oc]
 refine lZ.ofB af Tryz.func23 rfl aI bh (ah rfl) (oi l) rfl ?_;intro F i w0 m0 hG h h1;refine aJ.seq ?_;refine aJ.reg hG af g8 aI ?_
 conv=>whnf
 refine aJ.seq ?_;refine r9 hG af g8 1 aI ?_
 conv=>whnf
 refine aa rfl (ae _ (ae _ (aa (nE _ hl) (aa rfl (aa rfl ?_)))))
 conv=>whnf
 refine aJ.seq ?_;refine r8 hG af g8 1 aI ?_
 conv=>whnf
 refine ae _ (ae _ (aa (lz _ f) (aa rfl (aa (oi _) ?_))));rintro r a rfl e c
 conv=>whnf
 refine aJ.ret hG af ?_;refine aa (ak rfl) (ae _ (ae a (aa rfl (aa (ay (ax (fun z=>AV.sl .no 1 z) (mU _))) (aa rfl (aa ?_ c))))));rw [e,d,b]
def ZN (t:Int) (x:Int×Int):Bool:=decide (x.1<=t)&&decide (t<x.2)
def Sz (s:eo) (l:List d4) (id t:Int):Int:=(((Yc s id l).filter (ZN t)).length:Nat)
theorem Dy {α β:Type} (f:α->List β) (k:Nat):∀ (l:List α),(∀ x∈l,(f x).length<=k)->(l.flatMap f).length<=l.length*k
 | [],_=>by simp
 | x::r,h=>by
  have h1:=h x (a7 ..);have h2:=Dy f k r fun y hy=>h y (a6 _ hy);simp only [List.flatMap_cons,bY,bt,dk,ni];omega
open Go Go.AI
set_option maxRecDepth 10000
def Wk (s:eo) (o:d4):Int:=((gW s.ords o.ord).getD jO).own
theorem tv (b:Nat) (s:eo) (a:s.Small) (o:d4):aq Tryz.prog 67 [cA b s,.agg (bO o)] (.int .i64 (Wk s o)):=by
 refine aM J5 Tryz.func67 ?_;intro F d w0 m0 hG c h1 kp
 repeat' first|refine aS ?_|((conv=>whnf); first|refine ae _ (aa (jG b s a o.ord) ?_)|refine ⟨fun h=>?_,fun h=>?_⟩|refine ak ?_)
 all_goals exact Ez
def LP (b:Nat) (F:List yo):List (Nat×AV):=[(5000011,.me .box 5000011 b [[.sl (.id 5004000) 4 (F.map gQ),.sl .full 0 []]])]
set_option maxHeartbeats 4000000 in
theorem vt (b:Nat) (s:eo) (G:List yo) (i:G.length<=1000000) (kind x y at':Int):bX Tryz.prog 25 [5000011] [5004000] [cA b s,.int .i64 kind,.int .i64 x,.int .i64 y,.int .i64 at'] (LP b G) (.tup []) (LP b (G++[⟨kind,x,y,at'⟩])):=by
 have d:((G.map gQ).length+1)*32<=70368744177664:=by rw [az]; omega
 have c:(G.map gQ).length+1<=4611686018427387904:=by rw [az]; omega
 have a:(G++[(⟨kind,x,y,at'⟩:yo)]).map gQ=G.map gQ++[[.int .i64 kind,.int .i64 x,.int .i64 y,.int .i64 at']]:=by simp [gQ]
 refine lP.ofB af Tryz.func25 rfl aI bh (ah rfl) ?_;intro F f w0 m0 hG e h1;have kp:KP Kq := .mk
 repeat' first|refine aS ?_|((conv=>whnf); first|refine aa d (aa c ?_)|refine ⟨fun h=>?_,fun h=>?_⟩|refine ak ?_)
 refine gc.mk (bA rfl) (ae (.tup []) (ae [(5000011,.me .box 5000011 b [[.sl (.id 5004000) 4 (G.map gQ++[[.int .i64 kind,.int .i64 x,.int .i64 y,.int .i64 at']]),.sl .full 0 []]])] (aa (aa rfl (by unfold LP; rw [a])) (aa (ak (ay rfl)) (aa aI aI)))))
open Go Go.AI
set_option maxRecDepth 10000
theorem Lm {q:Prop} (h:q:=by
 have hne:l.map V3=[]->False:=fun h=>by
  have h2:(l.map V3).length=0:=by rw [h]; rfl
  rw [az] at h2; omega
 have hlt:0<(l.map V3).length:=by rw [az]; omega
 have hr1:(l.map V3).length*V0<=70368744177664:=by rw [az]; omega
 have hr2:(l.map V3).length<=4611686018427387904:=by rw [az]; omega
 refine lP.ofB af V1 rfl aI bh (ah rfl) ?_;intro F n' w0 m0 hG hro h1
 repeat' first|refine aJ.seq ?_|refine aJ.block ?_|refine dh hG af V2 [] aI ?_|refine m9 hG af (M:=fun t=>t=150) gu V2 aI ?_|refine dH hG af V2 [] aI ?_|refine aJ.skip hG af ?_|refine aJ.label hG af ?_|refine aJ.exit hG af ?_|refine ck rfl ?_|refine cm rfl ?_|refine aJ.cond rfl (aa (fun h=>?_) (fun h=>?_))|((conv=>whnf); first|refine cX ?_|refine cW ?_|refine fc ?_|refine aa (fun h=>(hne h).elim) ?_|refine bA (aa rfl (aa hlt (aa hr1 (aa hr2 ?_))))|refine aa (fun h=>?_) (fun h=>?_)|refine ak ?_)
 refine gq 7 5006000 aI rfl ?_
 conv=>whnf
 refine aJ.ret hG af ?_;exact gc.mk (ak rfl) (ae _ (ae _ (aa (aa (ax (fun z=>AV.me .sl 5006000 z []) (az _)) rfl) (aa (bA (aa rfl aI)) (aa aI aI)))))):q:=h
theorem KJ (l:List d4) (h1n:1<=l.length) (hn:l.length<=1000000):lP Tryz.prog 27 [5006000] [] [cH l] [] (fun r L'=>r = .me .sl 5006000 l.length []/\L'=[(5006000,.me .arr 5006000 9 (l.map bO))]):=by
 let V0:=88; have V1:=Tryz.func27; let V2:=xQ; let V3:=@bO; exact Lm
theorem Ll {q:Prop} (h:q:=by
 refine aq.ofB af V0 rfl aI bh (ah rfl) ?_;intro F n' w0 m0 hG hro h1
 repeat' first|refine aJ.seq ?_|refine aJ.block ?_|refine oF hG af V1 aI ?_|refine m9 hG af (M:=fun t=>t=150) gu V1 aI ?_|refine aJ.reg hG af V1 aI ?_|refine aJ.skip hG af ?_|refine aJ.label hG af ?_|refine aJ.ret hG af ?_|refine aJ.exit hG af ?_|refine ck rfl ?_|refine cm rfl ?_|refine aJ.cond rfl (aa (fun h=>?_) (fun h=>?_))|((conv=>whnf); first|refine cX ?_|refine cW ?_|refine fc ?_|refine aa (ah rfl) (aa (ah rfl) ?_)|refine aa (fun _=>?_) ?_|refine aa (fun h=>?_) (fun h=>?_)|refine ak ?_)
 all_goals (first | exact Ez | (dsimp only; exact Ez) | (show AI.Ends _ _ _ _ _; exact Ez))):q:=h
theorem At:aq Tryz.prog 27 [cH []] (cH []):=by
 have V0:=Tryz.func27; let V1:=xQ; exact Ll
open Go Go.AI
set_option maxRecDepth 10000
def R1 (f:Nat->Int):List AV:=(List.range 16).map fun g => .int .i64 (f g)
theorem yI (f:Nat->Int) {g:Nat} (h:g<16):(R1 f)[0+(g:Int).toNat*1]?=some (.int .i64 (f g)):=by
 rw [eK,bI,gO];simp [R1,h]
theorem Pb (f b:Nat->Int) {g:Nat} (x:Int) (hx:b g=x) (hf:∀ k,k≠g->b k=f k):dD (R1 f) (0+(g:Int).toNat*1) (.int .i64 x)=R1 b:=by
 rw [eK,bI,gO];refine vR fun k=>?_;rw [eh];simp only [R1,az,vQ,aQ];by_cases a:k<16
 ·by_cases he:g=k
  ·subst he; rw [aX ⟨rfl,a⟩]; simp [a,hx]
  ·rw [aV (fun h=>he h.1)]; simp [a,hf k (fun h=>he h.symm)]
 ·rw [aV (fun h=>a h.2)]; simp [a]
theorem dz {α:Type} {l:List α} {i:Nat} (d:α) (h:i<l.length):l.take (i+1)=l.take i++[l.getD i d]:=by
 rw [ef,ai h,aK,ai h]; rfl
theorem c8 {α:Type} {l:List α} {i:Nat} (d:α) (h:i<l.length):l.getD i d∈l:=by
 rw [aK,ai h]; exact bT h
theorem cG {α β:Type} (f:α->β) {l:List α} {i:Nat} (d:α) (h:i<l.length):(l.map f)[(i:Int).toNat]?=some (f (l.getD i d)):=by
 simp [ai h]
open Go Go.AI
set_option maxRecDepth 10000
theorem UZ (o:Nat->Int) (t late:Int) (h:sj o t late=true):aq Tryz.prog 228 [.agg (d8 o),.int .i64 t,.int .i64 late] (.tup [.agg (eM (kS o (bW (t - late)))),.int .i64 0]):=by
 have a:=Av o t late;rw [h] at a;refine aM Fw Tryz.func228 ?_;intro F c w0 m0 hG b h1 kp
 repeat' first|refine aS ?_|((conv=>whnf); first|refine ae _ (aa (a) ?_)|refine ae _ (aa (KY o (bW (t - late)) (Wm h)) ?_)|refine ⟨fun h=>?_,fun h=>?_⟩|refine ak ?_)
 all_goals exact Ez
open Go Go.AI
set_option maxRecDepth 10000
theorem KU (l:List Int) (p:Int->Bool) (g:FuncId) (fv:AV) (cap:List AV) (hf:fv = .clo g cap\/(fv = .fn g/\cap=[])) (hl:l.length<=1000000)
  (hp:∀ x∈l,aq Tryz.prog g ((.int .i64 x)::cap) (.bool (p x))):aq Tryz.prog 181 [.sl .no 1 (l.map ZM),fv] (.int .i64 (lR p l 0)):=by
 let E:=ZM; let D:=0; let K:=vm; let N:=1; have f:=Tryz.func181; exact Vy
open Go Go.AI
set_option maxRecDepth 10000
theorem UO (n:Int):aq Tryz.prog 215 [.int .i64 n] (.bool (decide (n<0))):=dK FG Tryz.func215
theorem UV (s:Nat->Int) (l:List dX) (a b:Int) (hl:l.length<=1000000) (hv:kY s l a b=true):aq Tryz.prog 132 [.agg (bM s),iY l,.agg (cj a b)] (.tup [.int .i64 (tj s l a b),.int .i64 0]):=by
 have d:=UW s l a b hl hv;obtain ⟨e,f,j,o⟩:=CU hv;have c:=KU (jw (s 11) (jD s l a b)).2 (fun n=>decide (n<0)) 215 _ [] (bA ⟨rfl,rfl⟩) (by rw [s9,um]; omega) (fun n _=>UO n);refine aM GE Tryz.func132 ?_;intro F m w0 m0 hG i h1 kp
 repeat' first|refine aS ?_|((conv=>whnf); first|refine ae _ (aa (d) ?_)|refine ae _ (aa (c) ?_)|refine ⟨fun h=>?_,fun h=>?_⟩|refine ak ?_)
 ·exact Ends.mk (ak rfl) (ay (ax (fun z=>AV.tup [.int .i64 z,.int .i64 0]) (aX (aH bf)).symm))
 ·exact Ends.mk (ak rfl) (ay (ax (fun z=>AV.tup [.int .i64 z,.int .i64 0]) (aV (aW bf)).symm))
open Go Go.AI
set_option maxRecDepth 10000
theorem KZ (n c:Int) (a:c≠0):aq Tryz.prog 297 [.int .i64 n,.int .i64 c] (.int .i64 (Y6 n c)):=by
 refine aM EQ Tryz.func297 ?_;intro F d w0 m0 hG b h1 kp
 repeat' first|refine aS ?_|((conv=>whnf); first|refine aa a ?_|refine ⟨fun h=>?_,fun h=>?_⟩|refine ak ?_)
 all_goals refine Ei ?_
 all_goals (unfold Y6; first | (rw [aX (aH bf)] <;> rfl) | (rw [aV (aW bf)] <;> rfl))
theorem K0 (o:Nat->Int) (t late:Int):aq Tryz.prog 296 [.agg (d8 o),.int .i64 t,.int .i64 late] (.bool (sj o t late)):=by
 refine aM ER Tryz.func296 ?_;intro F b w0 m0 hG a h1 kp
 repeat' first|refine aS ?_|((conv=>whnf); first|refine ae _ (aa (K2 _ _ _) ?_)|refine ae _ (aa (Aw o) ?_)|refine ⟨fun h=>?_,fun h=>?_⟩|refine ak ?_)
 all_goals refine Eb ?_
 all_goals simp only [sj, *,bG,cr,bJ,bP]
theorem Vb (o:Nat->Int) (t late:Int):aq Tryz.prog 252 [.agg (d8 o),.int .i64 t,.int .i64 late] (.tup [.int .i64 (LO o t late),.int .i64 (YY (sj o t late))]):=by
 have a:=K0 o t late;cases h:sj o t late
 ·rw [h] at a;rw [show LO o t late=0 by simp [LO,h]];refine aM vg Tryz.func252 ?_;intro F d w0 m0 hG c h1 kp;refine bz ?_
  all_goals exact Ez
 ·rw [h] at a;have b:=KZ (bW (bW (t - late)+o 1)) (o 0) (Wm h);rw [aaU h] at b;rw [show LO o t late=rowW o (bW (t - late)) by simp [LO,h]];refine aM vg Tryz.func252 ?_;intro F d w0 m0 hG c h1 kp
  repeat' first|refine aS ?_|((conv=>whnf); first|refine ae _ (aa (a) ?_)|refine ae _ (aa (b) ?_)|refine aa (Wm h) ?_|refine ⟨fun h=>?_,fun h=>?_⟩|refine ak ?_)
  all_goals exact Ez
theorem Va (o:Nat->Int) (t late:Int):aq Tryz.prog 253 [.agg (d8 o),.int .i64 t,.int .i64 late] (.tup [.int .i64 (MA o t late),.int .i64 (YY (sj o t late))]):=by
 have a:=K0 o t late;cases h:sj o t late
 ·rw [h] at a;rw [show MA o t late=0 by simp [MA,h]];refine aM vf Tryz.func253 ?_;intro F d w0 m0 hG b h1 kp;refine bz ?_
  all_goals exact Ez
 ·rw [h] at a;have c:=KZ (bW (o 4+bW (o 5*bW (t - late)))) 48000 bq;rw [abl h] at c;rw [show MA o t late=IS o (bW (t - late)) by simp [MA,h]];refine aM vf Tryz.func253 ?_;intro F d w0 m0 hG b h1 kp;refine bz ?_
  all_goals exact Ez
theorem UY (o:Nat->Int) (t late:Int):aq Tryz.prog 190 [.agg (d8 o),.int .i64 t,.int .i64 late] (.tup [.agg (eM (MD o t late)),.int .i64 (YY (sj o t late))]):=by
 have a:=Vb o t late;have b:=Va o t late;cases h:sj o t late
 ·rw [h] at a b;rw [show MD o t late=(0,0) by simp [MD,h]];refine aM vl Tryz.func190 ?_;intro F d w0 m0 hG c h1 kp;refine bz ?_
  all_goals exact Ez
 ·rw [h,show LO o t late=rowW o (bW (t - late)) by simp [LO,h]] at a;rw [h,show MA o t late=IS o (bW (t - late)) by simp [MA,h]] at b;rw [show MD o t late=kS o (bW (t - late)) by simp [MD,h]];refine aM vl Tryz.func190 ?_;intro F d w0 m0 hG c h1 kp
  repeat' first|refine aS ?_|((conv=>whnf); first|refine ae _ (aa (a) ?_)|refine ae _ (aa (b) ?_)|refine aa bq ?_|refine ⟨fun h=>?_,fun h=>?_⟩|refine ak ?_)
  all_goals exact Ez
open Go Go.AI
set_option maxRecDepth 10000
theorem CD (t:Int):aq Tryz.prog 250 [.int .i64 t] (.bool (cQ t 0 1000000)):=by
 refine aM Fl Tryz.func250 ?_;intro F b w0 m0 hG a h1 kp
 repeat' first|refine aS ?_|((conv=>whnf); first|refine ⟨fun h=>?_,fun h=>?_⟩|refine ak ?_)
 all_goals refine Eb ?_
 all_goals (simp_all [cQ] <;> omega)
theorem rY (n:Int) (h:small n):aq Tryz.prog 251 [.int .i64 n] (.int .i64 (iS n)):=by
 obtain ⟨h1,h2⟩:=h;obtain ⟨g1,g2⟩:=td3 n;obtain ⟨g3,g4⟩:=td3 (2 - n);have d:IntKind.i64.wrap (2 - n)=2 - n:=aZ ar ar;have c:IntKind.i64.wrap ((2 - n).tdiv 3)=(2 - n).tdiv 3:=aZ ar ar;have e:IntKind.i64.wrap (0 - (2 - n).tdiv 3)=0 - (2 - n).tdiv 3:=aZ ar ar;have f:IntKind.i64.wrap (n.tdiv 3)=n.tdiv 3:=aZ ar ar;have a:=tP (n:=n) ⟨h1,h2⟩;refine aM Fk Tryz.func251 ?_;intro F i w0 m0 hG b h1 kp
 repeat' first|refine aS ?_|((conv=>whnf); first|refine aa bq ?_|refine ⟨fun h=>?_,fun h=>?_⟩|refine ak ?_)
 ·have:=aH (by assumption:decide (n>=0)=true);exact Ends.mk (ak rfl) (ay (ax (AV.int .i64) (by rw [f,a]; omega)))
 ·have:=aW (by assumption:decide (n>=0)=false);exact Ends.mk (ak rfl) (ay (ax (AV.int .i64) (by rw [d,c,e,a]; omega)))
theorem CF (a b:Int) (l:small a) (e:small b):aq Tryz.prog 189 [.int .i64 a,.int .i64 b] (.int .i64 (qd a b)):=by
 obtain ⟨o,a2⟩:=l;obtain ⟨b1,n⟩:=e;have c:bW (a - b)=a - b:=aZ ar ar;have d:bW (b - a)=b - a:=aZ ar ar;have j:IntKind.i64.wrap (a - b)=a - b:=c;have i:IntKind.i64.wrap (b - a)=b - a:=d;refine aM FR Tryz.func189 ?_;intro F m w0 m0 hG f h1 kp
 repeat' first|refine aS ?_|((conv=>whnf); first|refine ⟨fun h=>?_,fun h=>?_⟩|refine ak ?_)
 ·have:=aH (by assumption:decide (a<b)=true);exact Ends.mk (ak rfl) (ay (ax (AV.int .i64) (by unfold qd; rw [i,c,d]; omega)))
 ·have:=aW (by assumption:decide (a<b)=false);exact Ends.mk (ak rfl) (ay (ax (AV.int .i64) (by unfold qd; rw [j,c,d]; omega)))
theorem Qz (t:Int) (h:cQ t 0 1000000=true):aq Tryz.prog 186 [.int .i64 t] (.tup [.int .i64 (sA t),.int .i64 0]):=by
 have k:=CD t;rw [h] at k;refine aM FV Tryz.func186 ?_;intro F b w0 m0 hG a h1 kp
 repeat' first|refine aS ?_|((conv=>whnf); first|refine ae _ (aa (k) ?_)|refine ae _ (aa (rY _ (SR h)) ?_)|refine aa bq ?_|refine ⟨fun h=>?_,fun h=>?_⟩|refine ak ?_)
 all_goals exact Ez
theorem Qy (t:Int) (h:cQ t 0 1000000=true):aq Tryz.prog 187 [.int .i64 t] (.tup [.int .i64 (jl t),.int .i64 0]):=by
 have k:=CD t;rw [h] at k;obtain ⟨h1,h2,c⟩:=Sv h;have k1:=rY _ h1;have k2:=rY _ h2;have k3:=rY _ c;have m1:bW (100*iy t)=bW (iy t*100):=by rw [n5]
 have m2:bW (100*bW (180 - iy t))=bW (bW (180 - iy t)*100):=by rw [n5]
 have m3:bW (100*bW (iy t - 360))=bW (bW (iy t - 360)*100):=by rw [n5]
 refine aM FU Tryz.func187 ?_;intro F e w0 m0 hG d h1 kp
 repeat' first|refine aS ?_|((conv=>whnf); first|refine ae _ (aa (k) ?_)|refine ae _ (aa (k1) ?_)|refine ae _ (aa (k2) ?_)|refine ae _ (aa (k3) ?_)|refine aa bq ?_|refine ⟨fun h=>?_,fun h=>?_⟩|refine ak ?_)
 ·have b:iy t<=90:=aH bf;exact Ends.mk (ak rfl) (ay (ax (fun z=>AV.tup [.int .i64 z,.int .i64 0]) (by rw [jl,aX b,m1]; rfl)))
 ·have b:¬ iy t<=90:=aW bf;have a:iy t<=270:=aH bf;exact Ends.mk (ak rfl) (ay (ax (fun z=>AV.tup [.int .i64 z,.int .i64 0]) (by rw [jl,aV b,aX a,m2]; rfl)))
 ·have b:¬ iy t<=90:=aW bf;have a:¬ iy t<=270:=aW bf;exact Ends.mk (ak rfl) (ay (ax (fun z=>AV.tup [.int .i64 z,.int .i64 0]) (by rw [jl,aV b,aV a,m3]; rfl)))
theorem Qx (c:Int×Int):aq Tryz.prog 188 [.agg (eM c)] (.bool (kC c)):=by
 refine aM FS Tryz.func188 ?_;intro F b w0 m0 hG a h1 kp
 repeat' first|refine aS ?_|((conv=>whnf); first|refine ⟨fun h=>?_,fun h=>?_⟩|refine ak ?_)
 all_goals refine Eb ?_
 all_goals (simp_all [kC,cQ] <;> omega)
theorem QC (c:Int×Int) (t:Int) (h:cQ t 0 1000000=true) (b:kC c=true):aq Tryz.prog 118 [.agg (eM c),.int .i64 t] (.tup [.int .i64 (ky c t),.int .i64 0]):=by
 have a:=Qx c;rw [b] at a;have f:=T4 b;have s1:small (bW (bW (1000*c.1)+500)):=by unfold small; rw [aZ (n:=1000*c.1) ar ar,aZ ar ar]; omega
 have s2:small (bW (bW (1000*c.2)+500)):=by unfold small; rw [aZ (n:=1000*c.2) ar ar,aZ ar ar]; omega
 have k1:=CF _ _ s1 (SQ t);have k2:=CF _ _ s2 (LK h);refine aM GO Tryz.func118 ?_;intro F e w0 m0 hG d h1 kp
 repeat' first|refine aS ?_|((conv=>whnf); first|refine ae _ (aa (Qz t h) ?_)|refine ae _ (aa (Qy t h) ?_)|refine ae _ (aa (a) ?_)|refine ae _ (aa (k1) ?_)|refine ae _ (aa (k2) ?_)|refine aa bq ?_|refine ⟨fun h=>?_,fun h=>?_⟩|refine ak ?_)
 all_goals exact Ends.mk (ak rfl) (ay (ax (fun z=>AV.tup [.int .i64 z,.int .i64 0]) (by unfold ky; simp only []; rw [n5 75]; rfl)))
open Go Go.AI
set_option maxRecDepth 10000
theorem QX (a b:Int):aq Tryz.prog 208 [.agg [.int .i64 a,.int .i64 b]] (.bool (wY a b)):=by
 refine aq.of af FL Tryz.func208 rfl aI bh aI (ah rfl) ?_;intro F n w0 m0 hG c h1
 repeat' first|refine cX ?_|refine cW ?_|refine aa (fun h=>?_) (fun h=>?_)
 all_goals refine Eb ?_
 all_goals (simp_all [wY,bW] <;> first | rfl | (intros; omega))
theorem QT (n a b:Int):aq Tryz.prog 287 [.int .i64 n,.int .i64 a,.int .i64 b] (.bool (decide (a<=n)&&decide (n<=b))):=by
 refine aq.of af EZ Tryz.func287 rfl aI bh aI (ah rfl) ?_;intro F n w0 m0 hG c h1
 repeat' first|refine cX ?_|refine cW ?_|refine aa (fun h=>?_) (fun h=>?_)
 all_goals refine Eb ?_
 all_goals simp_all <;> omega
theorem QU (s:Nat->Int) (l:List fJ) (a b:Int):aq Tryz.prog 263 [.agg (bM s),kG l,.agg (cj a b)] (.clo 300 (qV s l a b)):=by
 refine aq.of af Ff Tryz.func263 rfl aI bh aI (ah rfl) ?_;intro F n w0 m0 hG c h1;refine Ends.mk (ak rfl) (ay rfl)
theorem QO (s:Nat->Int) (l:List fJ) (a b:Int) (r:0<=a) (q:b<=1000000) (hl:l.length<=1000000):Lo Tryz.prog SG 300 (qV s l a b) (nT s l a b):=by
  refine Lo.of af pD Tryz.func300 rfl aI bh aI (ah rfl) rfl (fun l=>by kernel_rfl) ?_;intro F n m y J Jx hY
  refine YP.loop (X:=Nat) (fun i=>((false,i),⟨(5,.int .i64 (a+i))::params 0 (.lit (.func (.yield y) #[] #[])::qV s l a b),[]⟩)) (fun i=>i<=(b - a).toNat) (fun i=>(b - a).toNat - i) 0 (aU _) rfl
    (St.le.of ?_ ?_) (fun i hi=>?_)
  · refine aa (ax (fun z=>some (AV.int .i64 z)) (show a=a+((0:Nat):Int) by omega)) ?_;exact RF
  · exact trivial
  · refine fA (keep:=pD) hY af _ _ _ _ aI aI ?_;refine aa (fun h=>?_) (fun h=>?_)
    · refine Uf hY.round aI (fun p c=>SP.loop (X:=Nat) (fun j=>⟨(22,.int .i64 j)::(6,.int .i64 (qb (s 16) (s 17) (a+i) (l.take j)))::(20,kG l)::(21,.int .i64 (l.map lG).length)::(5,.int .i64 (a+i))::params 0 (.lit (.func (.yield y) #[] #[])::qV s l a b),[]⟩)
        (fun j=>j<=l.length) (fun j=>l.length - j) 0 (aU _) (St.le.of ?_ ?_) (fun j hj=>?_))
      · exact RF
      · exact trivial
      · refine eI (keep:=pD) (hY.base p c) af _ _ _ aI ?_;refine aa (fun h=>?_) (fun h=>?_)
        · have f:j<l.length:=by have:=aH h; simp at this; omega
          have hx:(l.map lG)[(j:Int).toNat]?=some (lG l[j]):=by simp [ai f]
          have d:l.take (j+1)=l.take j++[l[j]]:=by rw [ef,ai f]; rfl
          refine aa ar (ae (lG l[j]) (aa hx ?_))
          repeat' (conv=>whnf
                   first
                   | refine cX ?_
                   | refine cW ?_
                   | refine aa (fun h=>?_) (fun h=>?_))
          all_goals refine ae (j+1) (aa f (aa ar (St.le.of ?_ trivial)))
          all_goals refine aa (ax (fun z=>some (AV.int .i64 z)) ((aZ ar ar).trans ar)) ?_
          · refine aa (ax (fun z=>some (AV.int .i64 z)) ?_) ?_
            · rw [d,pc];simp only [Mo, *];rfl
            · exact RF
          · refine aa (ax (fun z=>some (AV.int .i64 z)) ?_) ?_
            · rw [d,pc];simp only [Mo, *];rfl
            · exact RF
          · refine aa (ax (fun z=>some (AV.int .i64 z)) ?_) ?_
            · rw [d,pc];simp only [Mo, *];rfl
            · exact RF
        · have e:l.take j=l:=bE (by have:=aW h; simp at this; omega);have o:i<(b - a).toNat:=by have:=aH (by assumption:decide (a+(i:Int)<b)=true); omega
          refine aa rfl (ae (a+(i:Int),qb (s 16) (s 17) (a+i) (l.take j)) (aa ?_ (aa rfl (aa ?_ ?_))))
          · rw [e]; simp [nT,aQ,l9 o]
          · refine cX ?_;refine ae (i+1) (aa o (aa ar (aa rfl (St.le.of ?_ trivial))));refine aa (ax (fun z=>some (AV.int .i64 z)) ((aZ ar ar).trans ar)) ?_;exact RF
          · refine cW ?_;exact iL.mk (ak rfl) (bA rfl)
    · refine iL.mk (bA rfl) (ak ?_);simp [nT];have:=aW h;omega
theorem QW (s:Nat->Int) (l:List fJ) (a b:Int) (u:0<=a) (q:a<=b) (r:b<=1000000) (hl:l.length<=1000000) :
  aq Tryz.prog 209 [.agg (bM s),kG l,.agg (cj a b)] (bu (jm (nT s l a b)).2):=by
 refine aq.of af pM Tryz.func209 rfl aI bh aI (ah rfl) ?_;intro F n w0 m0 hG t h1;have d:bW (b - a)=b - a:=aZ ar ar;have d:IntKind.i64.wrap (b - a)=b - a:=d;refine aa ar ?_
 conv=>whnf
 rw [d];refine aa ar (aa (show (b - a).toNat*8<=70368744177664 by omega) (aa ar ?_));refine ae _ (aa (QU s l a b) ?_)
 refine oG hG h1 (α:=Int×Int) (fun p=>[.int .i64 p.1,.int .i64 p.2]) (f:=300) (cap:=qV s l a b) (items:=nT s l a b) rfl (vG (QO s l a b u r hl) (fun _=>rfl) ?_) (fun _=>rfl)
  (fun _=>[(7,.loc 7 0),(8,.loc 8 0)]) [7,8] (fun _=>rfl) Yv (St.le.of ?_ ?_) aI bq ?_ ?_
 ·intro m x i c v h1 h2
  match i,h1,h2 with
  | 0,h1,h2=>cases h1; cases h2; exact .int _ _
  | 1,h1,h2=>cases h1; cases h2; exact .int _ _
 ·exact RF
 ·exact RF
 ·intro y w m' e _ _ pre x rest Mo;refine eI (keep:=pM) e af _ _ _ aI ?_;have hlen:(nT s l a b).length<=1000000:=by simp [nT]; omega
  have o:pre.length<1000000:=by rw [Mo] at hlen; simp at hlen; omega
  have j:((jm pre).2.map fun h=>[AV.int .i64 h]).length=pre.length:=by rw [az,xt]
  refine aa rfl (aa (LE) (eI (keep:=pM) e af _ _ _ aI ?_))
  ·refine aa (show (_+1)*8<=70368744177664 by rw [j]; omega) (aa (show _+1<=4611686018427387904 by rw [j]; omega) ?_);refine St.le.of ?_ ?_
   ·exact RF
   ·refine aa ?_ (aa ?_ trivial)
    ·rw [o7]; rfl
    ·rw [o7,c7]; rfl
 ·exact Ez
theorem QR (x:fJ):aq Tryz.prog 284 [.agg (lG x)] (.bool (decide (0<=x.a)&&decide (x.a<x.b)&&decide (x.b<=1000000))):=by
  refine aq.of af E3 Tryz.func284 rfl aI bh aI (ah rfl) ?_;intro F d w0 m0 hG c h1
  repeat' (conv=>whnf
           first
           | refine cX ?_
           | refine cW ?_
           | refine aa (fun h=>?_) (fun h=>?_))
  all_goals refine Eb ?_
  all_goals (simp_all <;> first | rfl | (intros; omega) | (intros; simp_all; done) | (intros; simp_all; omega))
theorem QQ (x:fJ):aq Tryz.prog 285 [.agg (lG x)] (.bool (decide (bW (x.b - x.a)<=60))):=by
  refine aq.of af E2 Tryz.func285 rfl aI bh aI (ah rfl) ?_;intro F d w0 m0 hG c h1
  repeat' (conv=>whnf
           first
           | refine cX ?_
           | refine cW ?_
           | refine aa (fun h=>?_) (fun h=>?_))
  all_goals refine Eb ?_
  all_goals rfl
theorem QP (s:Nat->Int) (x:fJ):aq Tryz.prog 286 [.agg (lG x),.ref (bM s)] (.bool (cQ x.k (bW (0 - s 9)) (s 9))):=by
  refine aq.of af E1 Tryz.func286 rfl aI bh aI (ah rfl) ?_;intro F b w0 m0 hG a h1
  repeat' (conv=>whnf
           first
           | refine cX ?_
           | refine cW ?_
           | refine ae _ (aa (QT _ _ _) ?_)
           | refine aa (fun h=>?_) (fun h=>?_))
  all_goals refine Eb ?_
  all_goals rfl
open Go Go.AI
set_option maxRecDepth 10000
theorem QZ (s:Nat->Int) (l:List fJ) (hl:l.length<=1000000):aq Tryz.prog 242 [.agg (bM s),kG l] (.bool (Qt s l)):=by
 refine aq.of af pK Tryz.func242 rfl aI bh aI (ah rfl) ?_;intro F r w0 m0 hG o h1
 refine SP.loop (X:=Nat) (fun i=>⟨[(14,.int .i64 i),(13,.int .i64 (l.map lG).length),(12,kG l),(1,kG l),(5,.loc 5 0)],[(5,[.fn 284,.fn 285,.clo 286 [.ref (bM s)]])]⟩)
  (fun i=>i<=l.length/\(l.take i).all (Ue s)=true) (fun i=>l.length - i) 0 ⟨aU _,rfl⟩ (St.le.of ?_ ?_) (fun i hi=>?_)
 ·exact RF
 ·exact RF
 ·obtain ⟨hi,b⟩:=hi;refine eI (keep:=pK) hG af _ _ _ aI ?_;refine aa (fun h=>?_) (fun h=>?_)
  ·have c:i<l.length:=by have:=aH h; simp at this; omega
   have hx:(l.map lG)[(i:Int).toNat]?=some (lG l[i]):=by simp [ai c]
   have d:∀ j,j<3->XA s l[i] j=false->false=Qt s l:=fun j hj hf=>by
    have:Ue s l[i]=false:=by
     rw [NN];obtain rfl | rfl | rfl:j=0\/j=1\/j=2:=by omega
     ·rw [hf]; rfl
     ·grind
     ·rw [hf,bP]
    rw [Qt,Xh c this]; rfl
   refine aa ar (ae (lG l[i]) (aa hx ?_))
   refine SP.loop (X:=Nat) (fun j=>⟨[(19,.int .i64 j),(18,.agg [.fn 284,.fn 285,.clo 286 [.ref (bM s)]]),(7,.loc 7 0),(14,.int .i64 i),(13,.int .i64 (l.map lG).length),(12,kG l),(1,kG l),(5,.loc 5 0)],
     [(7,lG l[i]),(5,[.fn 284,.fn 285,.clo 286 [.ref (bM s)]])]⟩)
    (fun j=>j<=3/\∀ k,k<j->XA s l[i] k=true) (fun j=>3 - j) 0 ⟨aU _,fun k f=>absurd f (mE _)⟩ (St.le.of ?_ ?_) (fun j hj=>?_)
   ·exact RF
   ·exact RF
   ·obtain ⟨hj,a⟩:=hj;refine eI (keep:=pK) hG af _ _ _ aI ?_;refine aa (fun h=>?_) (fun h=>?_)
    ·have p:j<3:=by have:=aH h; omega
     have step:∀ {k:Nat},k<3->(∀ q,q<k->XA s l[i] q=true)->XA s l[i] k=true->∀ q,q<k+1->XA s l[i] q=true:=fun f m t q n=>by
      grind
     obtain rfl | rfl | rfl:j=0\/j=1\/j=2:=by omega
     ·refine aa (qo cU) (aa cU (aa (ah rfl) ?_));refine ae _ (aa (QR l[i]) ?_);refine aa (fun h2=>?_) (fun h2=>?_)
      ·exact Ends.mk (ak rfl) (ay (ax AV.bool (d 0 ar (Dg h2))))
      ·refine ae 1 (aa ⟨by omega,step ar a (zl h2)⟩ (aa ar (LE)))
     ·refine aa (qo cU) (aa cU (aa (ah rfl) ?_));refine ae _ (aa (QQ l[i]) ?_);refine aa (fun h2=>?_) (fun h2=>?_)
      ·exact Ends.mk (ak rfl) (ay (ax AV.bool (d 1 ar (Dg h2))))
      ·refine ae 2 (aa ⟨by omega,step ar a (zl h2)⟩ (aa ar (LE)))
     ·refine aa (qo cU) (aa cU (aa (ah rfl) ?_));refine ae _ (aa (QP s l[i]) ?_);refine aa (fun h2=>?_) (fun h2=>?_)
      ·exact Ends.mk (ak rfl) (ay (ax AV.bool (d 2 ar (Dg h2))))
      ·refine ae 3 (aa ⟨by omega,step ar a (zl h2)⟩ (aa ar (LE)))
    ·have e:j=3:=by have:=aW h; omega
     subst e;have m:Ue s l[i]=true:=by rw [NN,a 0 ar,a 1 ar,a 2 ar]; rfl
     refine ae (i+1) (aa ⟨c,Ud c b m⟩ (aa ar (LE)))
  ·have e:l.take i=l:=bE (by grind);rw [e] at b;refine Eb ?_;simp only [Qt,b,bG,az];grind
theorem wO (s:Nat->Int) (l:List fJ) (hl:l.length<=1000000):aq Tryz.prog 162 [.agg (bM s),kG l] (.bool (Qt s l&&kP s)):=by
  refine aq.of af Gi Tryz.func162 rfl aI bh aI (ah rfl) ?_;intro F b w0 m0 hG a h1
  repeat' (conv=>whnf
           first
           | refine cX ?_
           | refine cW ?_
           | refine ae _ (aa (QZ s l hl) ?_)
           | refine ae _ (aa (oD s) ?_)
           | refine aa (fun h=>?_) (fun h=>?_))
  all_goals refine Eb ?_
  all_goals grind
theorem QY (s:Nat->Int) (x y:fJ):aq Tryz.prog 163 [.agg (bM s),.agg (lG x),.agg (lG y)] (.bool (WO s x y)):=by
  refine aq.of af Gh Tryz.func163 rfl aI bh aI (ah rfl) ?_;intro F b w0 m0 hG a h1
  repeat' (conv=>whnf
           first
           | refine cX ?_
           | refine cW ?_
           | refine aa (fun h=>?_) (fun h=>?_))
  all_goals refine Eb ?_
  · rw [WO,aX (aH bf)]; rfl
  · rw [WO,aV (aW bf)]; rfl
theorem CI (s:Nat->Int) (l:List fJ) (hl:l.length<=1000000) (hv:tM s l=true):aq Tryz.prog 82 [.agg (bM s),kG l] (.tup (XF (xa s l))):=by
 refine aq.of af kf Tryz.func82 rfl aI bh aI (ah rfl) ?_;intro F q w0 m0 hG p h1;refine SP.scopeEnds (eI (keep:=kf) hG af _ _ _ aI ?_);refine ae _ (aa (wO s l hl) ?_);refine aa (fun o=>?_) (fun o=>?_)
 ·grind [Dg,tM]
 ·refine SP.loop (X:=Nat) (fun k=>⟨[(16,.int .i64 k),(15,.int .i64 (l.map lG).length),(1,kG l),(2,.loc 2 0),(4,.int .i64 0),(5,.int .i64 0),(6,.bool false)],[(2,bM s)]⟩)
   (fun k=>k<=l.length/\∀ j,j<k->XE s l j=none) (fun k=>l.length - k) 0 ⟨aU _,fun k f=>absurd f (mE _)⟩ (St.le.of ?_ ?_) (fun k f=>?_)
  ·exact RF
  ·exact RF
  ·obtain ⟨f,c⟩:=f;refine eI (keep:=kf) hG af _ _ _ aI ?_;refine aa (fun h=>?_) (fun h=>?_)
   ·have b:k<l.length:=by have:=aH h; simp at this; omega
    have m:(l.map lG)[(k:Int).toNat]?=some (lG (xD l k)):=by simp [Ja b,ai b]
    refine SP.loop (X:=Nat) (fun i=>⟨[(20,.int .i64 i),(19,.int .i64 k),(8,.int .i64 k),(16,.int .i64 k),(15,.int .i64 (l.map lG).length),(1,kG l),(2,.loc 2 0),(4,.int .i64 0),(5,.int .i64 0),(6,.bool false)],[(2,bM s)]⟩)
     (fun i=>i<=k/\∀ j,j<i->NR s l k j=none) (fun i=>k - i) 0 ⟨aU _,fun k f=>absurd f (mE _)⟩ (St.le.of ?_ ?_) (fun i hi=>?_)
    ·exact RF
    ·exact RF
    ·obtain ⟨hi,a⟩:=hi;refine eI (keep:=kf) hG af _ _ _ aI ?_;refine aa (fun h=>?_) (fun h=>?_)
     ·have d:i<k:=by have:=aH h; simp at this; omega
      have n:(l.map lG)[(i:Int).toNat]?=some (lG (xD l i)):=by simp [Ja (Nat.lt_trans d b),ai (Nat.lt_trans d b)]
      refine aa ar (ae _ (aa n ?_));refine aa ar (ae _ (aa m ?_));refine ae _ (aa (QY s (xD l i) (xD l k)) ?_);refine aa aI ?_;refine aa (fun h2=>?_) (fun h2=>?_)
      ·have e:xa s l=some (i,k):=Cr b c (Cr d a (by rw [NR,Dg h2]; rfl));refine Ends.mk (ak rfl) (ay ?_);rw [e]; rfl
      ·refine ae (i+1) (aa ⟨d,fun j hj=>?_⟩ (aa ar (LE)))
       ·rcases aaz.1 hj with h | rfl
        ·exact a j h
        ·rw [NR,zl h2]; rfl
     ·have e:i=k:=by have:=aW h; simp at this; omega
      subst e;refine ae (i+1) (aa ⟨b,fun j hj=>?_⟩ (aa ar (LE)))
      ·rcases aaz.1 hj with h | rfl
       ·exact c j h
       ·exact Cs a
   ·have e:k=l.length:=by have:=aW h; simp at this; omega
    refine Ends.mk (ak rfl) (ay ?_);rw [show xa s l=none from Cs (e ▸ c)]; rfl
theorem QV (s:Nat->Int) (h:Int):aq Tryz.prog 210 [.int .i64 h,.ref (bM s)] (.bool (decide (h>s 18))):=by
  refine aq.of af FK Tryz.func210 rfl aI bh aI (ah rfl) ?_;intro F b w0 m0 hG a h1
  repeat' (conv=>whnf
           first
           | refine cX ?_
           | refine cW ?_
           | refine aa (fun h=>?_) (fun h=>?_))
  all_goals exact Ez
theorem Q0 (s:Nat->Int) (l:List fJ) (a b:Int) (hl:l.length<=1000000) (d:wY a b=true) (hv:tM s l=true):aq Tryz.prog 129 [.agg (bM s),kG l,.agg (cj a b)] (.tup [.int .i64 (Dr s l a b),.int .i64 0]):=by
 obtain ⟨i,c,e⟩:=Yb d;refine aq.of af GH Tryz.func129 rfl aI bh aI (ah rfl) ?_;intro F j w0 m0 hG f h1;refine ae _ (aa (QX a b) (aa (fun h=>aat h d) (fun h=>?_)));refine ae _ (aa (wO s l hl) (aa (fun h=>aat h hv) (fun h=>?_)));refine ae _ (aa (QW s l a b i (Int.le_of_lt c) e hl) ?_);refine ae _ (aa (KU (qS s l a b) (fun h=>decide (h>s 18)) 210 _ [.ref (bM s)] (ak rfl) (by rw [Mq]; omega) (fun h _=>QV s h)) ?_);refine aa (fun h=>?_) (fun h=>?_)
 ·refine Ends.mk (ak rfl) (ay ?_);rw [Dr,aX (aH h)]; rfl
 ·refine Ends.mk (ak rfl) (ay ?_);rw [Dr,aV (aW h)]; rfl
open Go Go.AI
set_option maxRecDepth 10000
theorem QK (s:Nat->Int) (l:List fJ) (hl:l.length<=1000000):aq Tryz.prog 162 [.agg (bM s),kG l] (.bool (tM s l)):=wO s l hl
theorem Q6 (s:Nat->Int) (l:List fJ) (hl:l.length<=1000000) (h:tM s l=false):aq Tryz.prog 82 [.agg (bM s),kG l] (.tup [.int .i64 0,.int .i64 0,.bool false,.int .i64 120]):=by
 refine aq.of af kf Tryz.func82 rfl aI bh aI (ah rfl) ?_;intro F c w0 m0 hG b h1;refine SP.scopeEnds (eI (keep:=kf) hG af _ _ _ aI ?_);refine ae _ (aa (QK s l hl) ?_);refine aa (fun a=>?_) (fun a=>?_)
 ·exact Ez
 grind
theorem QL (s:Nat->Int) (l:List fJ) (hl:l.length<=1000000):aq Tryz.prog 82 [.agg (bM s),kG l] (NS s l):=by
 cases h:tM s l with
 | true=>rw [NS,aX h]; exact CI s l hl h
 | false=>rw [NS,aV (by grind)]; exact Q6 s l hl h
open Go Go.AI
set_option maxRecDepth 10000
set_option maxHeartbeats 4000000 in
theorem RL (l:List d4) (hl:l.length<=1000000):aq Tryz.prog 83 [cH l] (kG (fI l)):=by
 refine aM xG Tryz.func83 ?_;intro F f w0 m0 hG e h1 kp;refine bz ?_;refine aJ.loop (X:=Nat) (fun i=>⟨[(8,.int .i64 i),(3,.sl (.id 3) 3 ((fI (l.take i)).map lG)),(7,.int .i64 (l.map bO).length),(6,cH l)],[]⟩) (fun i=>i<=l.length) (fun i=>l.length - i) 0 (aU _) (LE) (fun i hi=>?_)
 ·by_cases a:i<l.length
  ·have b:=dF (show (i:Int)<((l.map bO).length:Int) by simp; omega);have hx:=Yk a;have d:=Qv a;have c:((fI (l.take i)).map lG).length=i:=by simp [fI]; omega
   generalize xm l i=x at hx d
   repeat' first|exact (b bf).elim|refine aS ?_|((conv=>whnf); first|refine aa (au i) (ae _ (aa hx ?_))|refine aa (show (((fI (l.take i)).map lG).length+1)*24<=70368744177664 by rw [c]; omega) (aa (show ((fI (l.take i)).map lG).length+1<=4611686018427387904 by rw [c]; omega) ?_)|refine ⟨fun h=>?_,fun h=>?_⟩|refine ak ?_)
   refine ae (i+1) (aa a (aa ar (St.le.of ?_ ?_)))
   ·refine aa (ax some (bL ar)) (aa (ax (fun z=>some (AV.sl (.id 3) 3 z)) ?_) ?_)
    ·rw [d,c7]; rfl
    ·exact RF
   ·exact RF
  ·have b:=dT (show ¬((i:Int)<((l.map bO).length:Int)) by simp; omega);have he:l.take i=l:=bE ar;rw [he];refine bz ?_;exact Ez
open Go Go.AI
set_option maxRecDepth 10000
theorem G7 (g:FuncId) (cap:List AV):aq Tryz.prog 58 [cH [],.clo g cap] (.int .i64 (-1)):=by
 have a:=dT (show ¬((0:Int)<0) by omega);refine aM lH Tryz.func58 ?_;intro F c w0 m0 hG b h1 kp;refine bz ?_;refine aJ.loop (X:=Unit) (fun _=>⟨[(8,.int .i64 0),(7,.int .i64 0),(0,cH []),(1,.clo g cap)],[]⟩) (fun _=>True) (fun _=>0) () trivial (LE) (fun x hx=>?_)
 ·skip;refine bz ?_
  all_goals exact Ez
theorem G8 (g:FuncId) (cap:List AV):aq Tryz.prog 26 [cH [],.clo g cap] (cH []):=by
 refine aM xR Tryz.func26 ?_;intro F b w0 m0 hG a h1 kp
 repeat' first|refine aS ?_|((conv=>whnf); first|refine ae _ (aa (G7 g cap) ?_)|refine ⟨fun h=>?_,fun h=>?_⟩|refine ak ?_)
 all_goals exact Ez
end Go.Proofs
