/- Part 6 of the proof: an abstract interpreter for the code, contracts of the functions, and plain facts; the conditions are those typed. -/
import Derived.Test.YthjhnnmcdhokcaaGreatDoorNE
import Derived.Shelf.Small.Bits
set_option linter.unusedSectionVars false
set_option linter.unusedVariables false
set_option linter.unusedSimpArgs false
namespace Go.AI
open Go
abbrev jy:=@List.length_zipWith
abbrev pW:=@List.length_drop
abbrev qp:=@Int.le_refl
abbrev vU:=@List.mem_of_find?_eq_some
abbrev On:=@List.set_cons_succ
abbrev SF:=@List.getElem?_set
abbrev Yo:=@Nat.zero_lt_one
abbrev Yq:=@List.length_set
end Go.AI
namespace Go.Proofs
open Go Go.AI
set_option maxRecDepth 10000
abbrev gP (s:fi):oK:=⟨1,s,0,[]⟩
abbrev iz (w:Int) (s:fi):oK:=⟨4,lA,w,[s]⟩
abbrev eP (w:Int) (s:fi):oK:=⟨2,⟨[],0,0,1,0,false⟩,w,[s]⟩
theorem oI (n a b:Int):ar Tryz.prog 187 [.int .i64 n,.int .i64 a,.int .i64 b] (.bool (cT n a b)):=by
 refine aM Gs Tryz.func187 ?_;intro F d w0 m0 hG c h1 kp
 repeat' first|refine aQ ?_|((conv=>whnf); first|refine ⟨fun h=>?_,fun h=>?_⟩|refine aj ?_)
 all_goals refine Eb ?_
 all_goals (simp_all [cT] <;> omega)
theorem AS (l:List fi) (p:fi->Bool) (g:FuncId) (fv:AV) (cap:List AV) (hf:fv = .clo g cap\/(fv = .fn g/\cap=[])) (hl:l.length<=1000000)
  (hp:∀ x∈l,ar Tryz.prog g ((.agg (gQ x))::cap) (.bool (p x))):ar Tryz.prog 327 [.sl .no 12 (l.map gQ),fv] (.int .i64 (lV p l 0)):=by
 let E:=gQ; let D:=lA; let K:=E4; let N:=12; have f:=Tryz.func327; exact Wk
theorem kO (l:List fi) (p:fi->Bool) (g:FuncId) (fv:AV) (cap:List AV) (hf:fv = .clo g cap\/(fv = .fn g/\cap=[])) (hl:l.length<=1000000)
  (hp:∀ x∈l,ar Tryz.prog g ((.agg (gQ x))::cap) (.bool (p x))):ar Tryz.prog 307 [.sl .no 12 (l.map gQ),fv] (.bool (l.any p)):=by
 have I:=AS l p g fv cap hf hl hp; let K:=Fj; have f:=Tryz.func307; exact Y2
def fX (s:fi):Bool:=mi s.rows&&decide (Aw s.rows>0)&&cT s.a 0 1000000&&cT s.b (s.a+1) 1000000&&cT s.lo 0 90&&cT s.hi s.lo 90
theorem NL (s:fi):ar Tryz.prog 262 [.agg (dp (gP s))] (.agg (dp (gP { s with rows:=[] }))):=by
 dsimp only [dp,gP,iz,eP,lA];refine aM pK Tryz.func262 ?_;intro F b w0 m0 hG a h1 kp;refine bv ?_
 all_goals refine Ends.mk (aj rfl) (AV.weak.agg ?_ (by simp [dp,bB,AV.isCell]))
 all_goals (repeat (first | exact bF.nil | exact bF.cons (.refl _) ?_ | refine bF.cons ?_ ?_ | exact bI | exact az rfl))
set_option maxHeartbeats 4000000 in
theorem J4 (s:fi):ar Tryz.prog 261 [.agg (dp (gP s)),.agg (dp (gP { s with rows:=[] }))] (.bool true):=by
 dsimp only [dp,gP,iz,eP,lA];refine aM pL Tryz.func261 ?_;intro F b w0 m0 hG a h1 kp
 repeat' first|refine aQ ?_|((conv=>whnf); first|refine ⟨fun h=>?_,fun h=>?_⟩|refine aj ?_)
 all_goals refine Eb ?_
 all_goals simp_all
theorem EQ (s:fi) (b:s.rows.length<=1000000):ar Tryz.prog 263 [.agg (dp (gP s))] (.bool (fX s)):=by
 dsimp only [dp,gP,iz,eP,lA];have c:cT s.a 0 1000000=true->IntKind.i64.wrap (s.a+1)=s.a+1:=fun h=>by simp only [cT,al,aO] at h; exact a6 am am
 refine aM pJ Tryz.func263 ?_;intro F e w0 m0 hG d h1 kp
 repeat' first|refine aQ ?_|((conv=>whnf); first|refine ae _ (aa (oI _ _ _) ?_)|refine ae _ (aa (nW s.rows b) ?_)|refine ae _ (aa (Of s.rows b) ?_)|refine ⟨fun h=>?_,fun h=>?_⟩|refine aj ?_)
 all_goals refine Eb ?_
 all_goals (clear hG; (try rw [c a8] at *); simp_all [fX]; try (intros; omega))
theorem NN (w:Int) (s:fi):ar Tryz.prog 262 [.agg (dp (iz w s))] (.agg (dp (({ iz w s with kids:=[] })))):=by
 dsimp only [dp,gP,iz,eP,lA];refine aM pK Tryz.func262 ?_;intro F b w0 m0 hG a h1 kp;refine bv ?_
 all_goals refine Ends.mk (aj rfl) (AV.weak.agg ?_ (by simp [dp,bB,AV.isCell]))
 all_goals (repeat (first | exact bF.nil | exact bF.cons (.refl _) ?_ | refine bF.cons ?_ ?_ | exact bI | exact az rfl))
set_option maxHeartbeats 4000000 in
theorem J6 (w:Int) (s:fi):ar Tryz.prog 261 [.agg (dp (iz w s)),.agg (dp (({ iz w s with kids:=[] })))] (.bool true):=by
 dsimp only [dp,gP,iz,eP,lA];refine aM pL Tryz.func261 ?_;intro F b w0 m0 hG a h1 kp;refine bv ?_
 all_goals refine Eb ?_
 all_goals simp_all
theorem ES (w:Int) (s:fi):ar Tryz.prog 263 [.agg (dp (iz w s))] (.bool (cT w 0 1000000)):=by
 dsimp only [dp,gP,iz,eP,lA];refine aM pJ Tryz.func263 ?_;intro F b w0 m0 hG a h1 kp
 repeat' first|refine aQ ?_|((conv=>whnf); first|refine ae _ (aa (oI _ _ _) ?_)|refine ⟨fun h=>?_,fun h=>?_⟩|refine aj ?_)
 all_goals refine Eb ?_
 all_goals (clear hG; grind [cT])
theorem NM (w:Int) (s:fi):ar Tryz.prog 262 [.agg (dp (eP w s))] (.agg (dp (({ eP w s with kids:=[] })))):=by
 dsimp only [dp,gP,iz,eP,lA];refine aM pK Tryz.func262 ?_;intro F b w0 m0 hG a h1 kp;refine bv ?_
 all_goals refine Ends.mk (aj rfl) (AV.weak.agg ?_ (by simp [dp,bB,AV.isCell]))
 all_goals (repeat (first | exact bF.nil | exact bF.cons (.refl _) ?_ | refine bF.cons ?_ ?_ | exact bI | exact az rfl))
set_option maxHeartbeats 4000000 in
theorem J5 (w:Int) (s:fi):ar Tryz.prog 261 [.agg (dp (eP w s)),.agg (dp (({ eP w s with kids:=[] })))] (.bool true):=by
 dsimp only [dp,gP,iz,eP,lA];refine aM pL Tryz.func261 ?_;intro F b w0 m0 hG a h1 kp;refine bv ?_
 all_goals refine Eb ?_
 all_goals simp_all
theorem ER (w:Int) (s:fi):ar Tryz.prog 263 [.agg (dp (eP w s))] (.bool (cT w 1 1000000)):=by
 dsimp only [dp,gP,iz,eP,lA];refine aM pJ Tryz.func263 ?_;intro F b w0 m0 hG a h1 kp
 repeat' first|refine aQ ?_|((conv=>whnf); first|refine ae _ (aa (oI _ _ _) ?_)|refine ⟨fun h=>?_,fun h=>?_⟩|refine aj ?_)
 all_goals refine Eb ?_
 all_goals (clear hG; grind [cT])
theorem NY:ar Tryz.prog 306 [.int .i64 4] (.int .i64 3):=dP vr Tryz.func306
theorem NX:ar Tryz.prog 306 [.int .i64 2] (.int .i64 1):=dP vr Tryz.func306
theorem J8 (s:fi):ar Tryz.prog 264 [.agg (dp (gP s))] (.bool true):=by
 have c:=kO [] (fun _=>false) 305 _ [.ref (dp (gP s))] (aj rfl) (ah rfl) (fun _ h=>absurd h yL);dsimp only [dp,gP,iz,eP,lA] at *;refine aM pH Tryz.func264 ?_;intro F b w0 m0 hG a h1 kp;refine bv ?_
 all_goals exact Ez
theorem RT (w:Int) (s:fi) (k:fi):ar Tryz.prog 305 [.agg (gQ k),.ref (dp (iz w s))] (.bool false):=by
 dsimp only [dp,gP,iz,eP,lA];refine aM vt Tryz.func305 ?_;intro F b w0 m0 hG a h1 kp
 repeat' first|refine aQ ?_|((conv=>whnf); first|refine ae _ (aa (NY) ?_)|refine ⟨fun h=>?_,fun h=>?_⟩|refine aj ?_)
 all_goals exact Ez
theorem Ka (w:Int) (s:fi):ar Tryz.prog 264 [.agg (dp (iz w s))] (.bool true):=by
 have c:=kO [s] (fun _=>false) 305 _ [.ref (dp (iz w s))] (aj rfl) (ah rfl) (fun k _=>RT w s k);dsimp only [dp,gP,iz,eP,lA] at *;refine aM pH Tryz.func264 ?_;intro F b w0 m0 hG a h1 kp;refine bv ?_
 all_goals exact Ez
theorem RS (w:Int) (s:fi) (k:fi):ar Tryz.prog 305 [.agg (gQ k),.ref (dp (eP w s))] (.bool false):=by
 dsimp only [dp,gP,iz,eP,lA];refine aM vt Tryz.func305 ?_;intro F b w0 m0 hG a h1 kp
 repeat' first|refine aQ ?_|((conv=>whnf); first|refine ae _ (aa (NX) ?_)|refine ⟨fun h=>?_,fun h=>?_⟩|refine aj ?_)
 all_goals exact Ez
theorem J9 (w:Int) (s:fi):ar Tryz.prog 264 [.agg (dp (eP w s))] (.bool true):=by
 have c:=kO [s] (fun _=>false) 305 _ [.ref (dp (eP w s))] (aj rfl) (ah rfl) (fun k _=>RS w s k);dsimp only [dp,gP,iz,eP,lA] at *;refine aM pH Tryz.func264 ?_;intro F b w0 m0 hG a h1 kp;refine bv ?_
 all_goals exact Ez
set_option maxHeartbeats 4000000 in
theorem AK (s:fi) (d:Nat) (b:s.rows.length<=1000000) (i:d<=4):ar Tryz.prog 198 [.agg (dp (gP s)),.int .i64 d] (.tup [.int .i64 (if fX s then 1 else 0),.bool (fX s)]):=by
 have c1:=NL s;have c2:=J4 s;have c:=EQ s b;have f:=J8 s;have a:decide ((d:Int)>4)=true->False:=fun h=>by have:=aF h; omega
 dsimp only [dp,gP,iz,eP,lA] at *;refine aM vG Tryz.func198 ?_;intro F j w0 m0 hG e h1 kp
 repeat' first|exact (a a8).elim|refine aQ ?_|((conv=>whnf); first|refine ae _ (aa (oI _ _ _) ?_)|refine ae _ (aa (c1) ?_)|refine ae _ (aa (c2) ?_)|refine ae _ (aa (c) ?_)|refine ae _ (aa (f) ?_)|refine ⟨fun h=>?_,fun h=>?_⟩|refine aj ?_)
 ·refine Ends.mk (aj rfl) (az ?_);have:fX s=false:=by simpa using ‹(!fX s)=true›
  rw [this]; rfl
 ·have hk:fX s=true:=by simpa using ‹(!fX s)=false›
  rw [hk];refine aI.loop (X:=Unit) (fun _=>⟨[(39,.int .i64 0),(38,.int .i64 0),(6,.int .i64 1)],[]⟩) (fun _=>True) (fun _=>0) () trivial (LE) (fun x hx=>?_);refine bv ?_
  all_goals exact Ez
theorem PO {q:Prop} (h:q:=by
 have c1:=W0 w s;have c2:=W1 w s;have c3:=W2 w s;have c4:=W3 w s;dsimp only [dp,gP,iz,eP,lA] at *;refine aM vG Tryz.func198 ?_;intro F n' w0 m0 hG hro h1 kp
 repeat' first|refine aQ ?_|((conv=>whnf); first|refine ae _ (aa (oI _ _ _) ?_)|refine ae _ (aa (c1) ?_)|refine ae _ (aa (c2) ?_)|refine ae _ (aa (c3) ?_)|refine ae _ (aa (c4) ?_)|refine ⟨fun h=>?_,fun h=>?_⟩|refine aj ?_)
 ·refine Ends.mk (aj rfl) (az ?_);have:(cT w W4 1000000)=false:=by simpa using ‹(!cT w W4 1000000)=true›
  rw [this]; rfl
 ·have hk:(cT w W4 1000000)=true:=by simpa using ‹(!cT w W4 1000000)=false›
  rw [hk,bG];refine aI.loop (X:=Bool) (fun i=>⟨[(39,.int .i64 (cond i 1 0)),(38,.int .i64 1),(37,.sl .no 12 [gQ s]),(6,.int .i64 (cond i 2 1)),(1,.int .i64 1)],[]⟩) (fun i=>i=true->fX s=true) (fun i=>cond i 0 1) false (fun h=>Bool.noConfusion h) (LE) (fun x hx=>?_)
  ·cases x with
   | false=>
    clear hx;have hx:[gQ s][(0:Int).toNat]?=some (gQ s):=rfl
    repeat' first|refine aQ ?_|((conv=>whnf); first|refine aa (qp 0) (ae _ (aa hx ?_))|refine ae _ (aa (AK s 2 hr (ah rfl)) ?_)|refine ⟨fun h=>?_,fun h=>?_⟩|refine aj ?_)
    ·refine Ends.mk (aj rfl) (az ?_);have:fX s=false:=by simpa using ‹(!fX s)=true›
     rw [this]; rfl
    ·have hk:fX s=true:=by simpa using ‹(!fX s)=false›
     refine ae true (aa (fun _=>hk) (aa Yo (St.le.of ?_ ?_)))
     ·refine aa (ax (fun z=>some (AV.int .i64 z)) (by rfl)) ?_;rw [hk];exact RF
     ·exact RF
   | true=>
    rw [hx rfl];refine bv ?_
    all_goals exact Ez):q:=h
set_option maxHeartbeats 4000000 in
theorem NF (w:Int) (s:fi) (hr:s.rows.length<=1000000):ar Tryz.prog 198 [.agg (dp (iz w s)),.int .i64 1] (.tup [.int .i64 (if cT w 0 1000000&&fX s then 2 else 0),.bool (cT w 0 1000000&&fX s)]):=by
 have W0:=@NN; have W1:=@J6; have W2:=@ES; have W3:=@Ka; let W4:Int:=0; exact PO
set_option maxHeartbeats 4000000 in
theorem NE (w:Int) (s:fi) (hr:s.rows.length<=1000000):ar Tryz.prog 198 [.agg (dp (eP w s)),.int .i64 1] (.tup [.int .i64 (if cT w 1 1000000&&fX s then 2 else 0),.bool (cT w 1 1000000&&fX s)]):=by
 have W0:=@NM; have W1:=@J5; have W2:=@ER; have W3:=@J9; let W4:Int:=1; exact PO
open Go Go.AI
set_option maxRecDepth 10000
inductive j4:oK->Prop
 | S (s:fi) (a:s.rows.length<=1000000):j4 (gP s)
 | D (w:Int) (s:fi) (a:s.rows.length<=1000000):j4 (iz w s)
 | P (w:Int) (s:fi) (a:s.rows.length<=1000000):j4 (eP w s)
def kd (g:oK):Bool:=if g.kind=1 then fX g.see else if g.kind=4 then cT g.within 0 1000000&&fX (g.kids.headD lA) else cT g.within 1 1000000&&fX (g.kids.headD lA)
theorem jd (g:oK) (h:j4 g):ar Tryz.prog 127 [.agg (dp g)] (.bool (kd g)):=by
 cases h with
 | S s b=>
  have a:=AK s 1 b (ah rfl);have hv:kd _=(fX s):=show kd (gP s)=_ from aV rfl
  rw [hv];generalize (fX s)=ok at a;refine aM pS Tryz.func127 ?_;intro F d w0 m0 hG c h1 kp
  repeat' first|refine aQ ?_|((conv=>whnf); first|refine ae _ (aa (a) ?_)|refine ⟨fun h=>?_,fun h=>?_⟩|refine aj ?_)
  all_goals refine Eb ?_
  all_goals (clear a hG; cases ok <;> simp_all)
 | D w s b=>
  have a:=NF w s b;have hv:kd _=(cT w 0 1000000&&fX s):=show kd (iz w s)=_ from rfl
  rw [hv];generalize (cT w 0 1000000&&fX s)=ok at a;refine aM pS Tryz.func127 ?_;intro F d w0 m0 hG c h1 kp
  repeat' first|refine aQ ?_|((conv=>whnf); first|refine ae _ (aa (a) ?_)|refine ⟨fun h=>?_,fun h=>?_⟩|refine aj ?_)
  all_goals refine Eb ?_
  all_goals (clear a hG; cases ok <;> simp_all)
 | P w s b=>
  have a:=NE w s b;have hv:kd _=(cT w 1 1000000&&fX s):=show kd (eP w s)=_ from rfl
  rw [hv];generalize (cT w 1 1000000&&fX s)=ok at a;refine aM pS Tryz.func127 ?_;intro F d w0 m0 hG c h1 kp
  repeat' first|refine aQ ?_|((conv=>whnf); first|refine ae _ (aa (a) ?_)|refine ⟨fun h=>?_,fun h=>?_⟩|refine aj ?_)
  all_goals refine Eb ?_
  all_goals (clear a hG; cases ok <;> simp_all)
def xL (o:kQ):Bool:=cT o.id 0 63&&cT o.own 0 15&&cT o.price 0 1000000000&&cT o.group (-1) 15&&cT o.known 0 1000000&&cT o.due (o.known+1) 1000000&&kd o.goal
set_option maxHeartbeats 4000000 in
theorem BG (o:kQ) (h:j4 o.goal):ar Tryz.prog 112 [.agg (fL o)] (.bool (xL o)):=by
 have a:=jd o.goal h;have b:cT o.known 0 1000000=true->IntKind.i64.wrap (o.known+1)=o.known+1:=fun h=>by simp only [cT,al,aO] at h; exact a6 am am
 refine aM Hp Tryz.func112 ?_;intro F d w0 m0 hG c h1 kp
 repeat' first|refine aQ ?_|((conv=>whnf); first|refine ae _ (aa (oI _ _ _) ?_)|refine ae _ (aa (a) ?_)|refine ⟨fun h=>?_,fun h=>?_⟩|refine aj ?_)
 all_goals refine Eb ?_
 all_goals (clear hG a; (try rw [b a8] at *); simp_all [xL])
theorem LI (n:Int):ar Tryz.prog 113 [.int .i64 n] (.bool (!cT n 0 1000000)):=by
 refine aM Ho Tryz.func113 ?_;intro F b w0 m0 hG a h1 kp
 repeat' first|refine aQ ?_|((conv=>whnf); first|refine ae _ (aa (ni _ _ _) ?_)|refine ⟨fun h=>?_,fun h=>?_⟩|refine aj ?_)
 all_goals exact Ez
structure dY.Right (s:dY):Prop extends s.Small where
 goals:∀ o∈s.ords,j4 o.goal
def O1 (l:List kQ):Bool:=kH l (wG jB xL kQ.id l)
def Xk (ords:List kQ) (l:List Int) (i:Nat):Bool:=(fK ords (d4 l i)).isSome&&(decide (i=0)||decide (d4 l (i - 1)<d4 l i))
def IB (ords:List kQ) (l:List Int):Bool:=kH l (Xk ords l)
def OP (s:dY):Bool:=decide (s.ords.length<=12)&&decide (s.quo.length=16) && !(s.quo.any fun n => !cT n 0 1000000)&&cT s.loss 0 3
def oU (s:dY):Bool:=O1 s.ords&&IB s.ords s.prom&&OP s
set_option maxHeartbeats 4000000 in
theorem JI (b:Nat) (s:dY) (f:s.Right):ar Tryz.prog 49 [cK b s] (.bool (oU s)):=by
 have p:=f.ords;have o:=f.prom;refine aM KO Tryz.func49 ?_;intro F w w0 m0 hG t h1 kp;refine bv ?_;refine aI.loop (X:=Nat) (fun x=>⟨[(16,.int .i64 x),(15,.int .i64 (s.ords.map fL).length),(14,CK s.ords),(0,cK b s),(2,.bool false)],[]⟩) (fun x=>x<=s.ords.length/\(List.range x).all (wG jB xL kQ.id s.ords)=true) (fun x=>s.ords.length - x) 0 ⟨aZ _,rfl⟩ (LE) (fun x hx=>?_)
 ·rename Nat=>i
  obtain ⟨hi,m⟩:=hx;by_cases a:i<s.ords.length
  ·have e:=dF (show (i:Int)<((s.ords.map fL).length:Int) by simp; omega);have hx:(s.ords.map fL)[(i:Int).toNat]?=some (fL (s.ords.getD i jB)):=by simp [ai a]
   have j:(i:Int)>0->IntKind.i64.wrap ((i:Int) - 1)=((i - 1:Nat):Int):=fun h=>(a6 am am).trans am;have d:decide ((i:Int)>0)=true->0<=IntKind.i64.wrap ((i:Int) - 1):=fun h=>by rw [j (aF h)]; omega
   have l:decide ((i:Int)>0)=true->(s.ords.map fL)[(IntKind.i64.wrap ((i:Int) - 1)).toNat]?=some (fL (s.ords.getD (i - 1) jB)):=fun h=>by rw [j (aF h)]; simp [ai (show i - 1<s.ords.length by omega)]
   have c:wG jB xL kQ.id s.ords i=(xL (s.ords.getD i jB)&&(decide (i=0)||decide ((s.ords.getD (i - 1) jB).id<(s.ords.getD i jB).id))):=rfl;have hv:=BG (s.ords.getD i jB) (f.goals _ (by rw [aG,ai a]; exact bX a));generalize s.ords.getD (i - 1) jB=v at l c;generalize s.ords.getD i jB=u at hx c hv
   repeat' first|exact (e a8).elim|refine aQ ?_|((conv=>whnf); first|refine aa (au i) (ae _ (aa hx ?_))|refine aa (d a8) (ae _ (aa (l a8) ?_))|refine ae _ (aa (hv) ?_)|refine ⟨fun h=>?_,fun h=>?_⟩|refine aj ?_)
   all_goals first
    |(refine Eb ?_
      have hf:O1 s.ords=false:=lJ a (by rw [c]; clear hG hx l d j f hv m hi p o; grind);simp only [oU,hf,bE])
    | skip
   all_goals (refine ae (i+1) (aa ?_ (aa am (St.le.of ?_ ?_))))
   all_goals first
    |(refine aa (ax some (bK am)) ?_
      repeat' (first | exact trivial | refine aa rfl ?_))
    |((repeat' (first | exact trivial | refine aa rfl ?_)); done)
    |(exact ⟨a,by rw [lI,m,c]; clear hG hx l d j f hv; grind⟩)
  ·have e:=dT (show ¬((i:Int)<((s.ords.map fL).length:Int)) by simp; omega);have hO:O1 s.ords=true:=nh hi a m;refine bv ?_;refine aI.loop (X:=Nat) (fun x=>⟨[(50,.int .i64 x),(49,.int .i64 (s.prom.map fun h=>[AV.int .i64 h]).length),(48,bB s.prom),(0,cK b s),(2,.bool false)],[]⟩) (fun x=>x<=s.prom.length/\(List.range x).all (Xk s.ords s.prom)=true) (fun x=>s.prom.length - x) 0 ⟨aZ _,rfl⟩ (LE) (fun x hx=>?_)
   ·rename Nat=>i
    obtain ⟨hi,m⟩:=hx;by_cases a:i<s.prom.length
    ·have e:=dF (show (i:Int)<((s.prom.map fun h=>[AV.int .i64 h]).length:Int) by simp; omega);have hx:=rN a;have j:(i:Int)>0->IntKind.i64.wrap ((i:Int) - 1)=((i - 1:Nat):Int):=fun h=>(a6 am am).trans am;have d:decide ((i:Int)>0)=true->0<=IntKind.i64.wrap ((i:Int) - 1):=fun h=>by rw [j (aF h)]; omega
     have l:decide ((i:Int)>0)=true->(s.prom.map fun h=>[AV.int .i64 h])[(IntKind.i64.wrap ((i:Int) - 1)).toNat]?=some [.int .i64 (d4 s.prom (i - 1))]:=fun h=>by rw [j (aF h)]; exact rN am
     have c:Xk s.ords s.prom i=((fK s.ords (d4 s.prom i)).isSome&&(decide (i=0)||decide (d4 s.prom (i - 1)<d4 s.prom i))):=rfl;generalize d4 s.prom (i - 1)=v at l c;generalize d4 s.prom i=u at hx c
     repeat' first|exact (e a8).elim|refine aQ ?_|((conv=>whnf); first|refine aa (au i) (ae _ (aa hx ?_))|refine aa (d a8) (ae _ (aa (l a8) ?_))|refine ae _ (aa (iC b s f.toSmall _) ?_)|refine ⟨fun h=>?_,fun h=>?_⟩|refine aj ?_)
     all_goals first
      |(refine Eb ?_
        have hf:IB s.ords s.prom=false:=lJ a (by rw [c]; clear hG hx l d j f hO m hi p o; grind);simp only [oU,hf,bE,bN])
      | skip
     all_goals (refine ae (i+1) (aa ?_ (aa am (St.le.of ?_ ?_))))
     all_goals first
      |(refine aa (ax some (bK am)) ?_
        repeat' (first | exact trivial | refine aa rfl ?_))
      |((repeat' (first | exact trivial | refine aa rfl ?_)); done)
      |(exact ⟨a,by rw [lI,m,c]; clear hG hx l d j f hO; grind⟩)
    ·have e:=dT (show ¬((i:Int)<((s.prom.map fun h=>[AV.int .i64 h]).length:Int)) by simp; omega);have q:IB s.ords s.prom=true:=nh hi a m
     repeat' first|exact (e a8).elim|refine aQ ?_|((conv=>whnf); first|refine ae _ (aa (rB s.quo (fun n => !cT n 0 1000000) _ _ _ (bw ⟨rfl,rfl⟩) f.quo fun n _=>LI n) ?_)|refine ae _ (aa (ni _ _ _) ?_)|refine ⟨fun h=>?_,fun h=>?_⟩|refine aj ?_)
     all_goals refine Eb ?_
     all_goals (simp only [oU,hO,q,bG,OP]; generalize (s.quo.any fun n => !cT n 0 1000000)=r at *; clear hG f m hi hO q; simp_all <;> (try (intros; first | omega | exact ⟨by omega,by omega⟩ | (cases r <;> simp_all <;> omega))))
open Go Go.AI
set_option maxRecDepth 10000
def se (b a:Nat):List AV:=[.pin 5001000 b 0 [],.pin 5000000 a 0 []]
def LS (b a:Nat):List (Nat×AV):=[(5000000,.me .box 5000000 a [[.clo 128 (se b a)]]),(5001000,.me .box 5001000 b [[.sl .full 0 []]])]
def LT (c a b cap:Nat) (s:fi):List (Nat×AV):=[(5000000,.me .box 5000000 a [[.clo 128 (se c a)]]),(5001000,.me .box 5001000 c [[.lit (.slice (some ⟨b,0,none⟩) 1 cap)]]),(5002000,.me (.row b cap) 5002000 12 [gQ s])]
set_option maxHeartbeats 8000000 in
theorem sX (s:fi) (d:s.rows.length<=1000000) (c a:Nat):lR Tryz.prog 128 [5000000,5001000,5002000] [] (.agg (gQ s)::se c a) (LS c a) (fun r e=>∃ b cap,r = .tup []/\e=LT c a b cap s):=by
 refine lR.ofB af Tryz.func128 rfl aK bj (ah rfl) ?_;intro F i w0 m0 hG f h1;refine aI.seq ?_;have kp:KP fh := .mk
 repeat' first|refine dz ?_|((conv=>whnf); first|refine ⟨fun h=>?_,fun h=>?_⟩|refine aj ?_)
 refine aI.seq ?_;have kp:KP fh := .mk
 repeat' first|refine dz ?_|((conv=>whnf); first|refine ⟨fun h=>?_,fun h=>?_⟩|refine aj ?_)
 refine aI.seq ?_;have kp:KP fh := .mk
 repeat' first|refine dz ?_|((conv=>whnf); first|refine ⟨fun h=>?_,fun h=>?_⟩|refine aj ?_)
 refine aI.seq ?_
 repeat' first|refine aI.block ?_|refine dJ hG af fh [] aK ?_|refine aI.skip hG af ?_|refine aI.label hG af ?_|refine aI.ret hG af ?_|refine aI.exit hG af ?_|refine cc rfl ?_|refine ce rfl ?_|refine aI.cond rfl (aa (fun h=>?_) (fun h=>?_))|((conv=>whnf); first|refine cZ ?_|refine cY ?_|refine ed ?_|refine ae _ (aa (Ln s.rows d) ?_)|refine aa (fun h=>?_) (fun h=>?_)|refine aj ?_)
 refine aI.cut (X:=Nat×Nat) (fun x=>⟨[(xk 5000000,.me .box 5000000 a [[.clo 128 (se c a)]]),(xk 5001000,.me .box 5001000 c [[.lit (.slice (some ⟨x.1,0,none⟩) 1 x.2)]]),(xk 19,.me (.row x.1 x.2) 19 12 [gQ s]),(3,.loc 3 0)],[(3,gQ s)]⟩) (fun _=>True) ?_ (fun x _=>?_)
 ·refine xp hG af fh aK ?_
  repeat' first
   | refine TB.done rfl ?_
   | refine TB.step hG af [7000000019] ?_
   |(conv=>whnf
     first
      | refine SJ.intro ?_ ?_
      | refine ae 19 (ae _ (ae _ (ae _ (aa (aa rfl (aa rfl rfl)) ?_))))
      | refine aa aK ?_
      | refine bw (aa rfl ?_)
      | refine aa Yo (aa (ah rfl) (aa (ah rfl) ?_))
      | refine aa (qp 0) (aa (show (0:Int)<1 by decide) ?_)
      | refine ae _ (aa rfl ?_)
      | refine fun b cap=>?_)
  all_goals refine ae (b,cap) (aa trivial (St.le.of ?_ ?_))
  all_goals (repeat' (first | exact trivial | refine aa rfl ?_))
 ·obtain ⟨b,cap⟩:=x
  conv=>whnf
  refine gf 19 5002000 (g := .row b cap) aK rfl ?_
  conv=>whnf
  have kp:KP fh := .mk
  repeat' first|refine QE [30] rfl hG af kp ?_|((conv=>whnf); first|refine cZ ?_|refine cY ?_|refine ed ?_|refine ⟨fun h=>?_,fun h=>?_⟩|refine aj ?_)
  refine aI.loop (X:=Unit) (fun _=>⟨[(xk 5000000,.me .box 5000000 a [[.clo 128 (se c a)]]),(xk 5001000,.me .box 5001000 c [[.lit (.slice (some ⟨b,0,none⟩) 1 cap)]]),(xk 5002000,.me (.row b cap) 5002000 12 [gQ s]),(24,.int .i64 0),(23,.int .i64 0)],[]⟩) (fun _=>True) (fun _=>0) () trivial (St.le.of ?_ ?_) (fun x hx=>?_)
  ·exact RF
  ·exact RF
  have kp:KP fh := .mk
  repeat' first|refine QE [30] rfl hG af kp ?_|((conv=>whnf); first|refine cZ ?_|refine cY ?_|refine ed ?_|refine ⟨fun h=>?_,fun h=>?_⟩|refine aj ?_)
  all_goals refine gj.mk (bw rfl) (ae (.tup []) (ae (LT c a b cap s) (aa (ae b (ae cap (aa rfl rfl))) (aa (aj (az rfl)) (aa aK aK)))))
theorem Bd {q:Prop} (h:q:=by
 dsimp only [dp,gP,iz,eP,lA];refine lR.ofB af Tryz.func128 rfl aK bj (ah rfl) ?_;intro F n' w0 m0 hG hro h1;have kp:KP fh := .mk
 repeat' first|refine QE [30] rfl hG af kp ?_|((conv=>whnf); first|refine cZ ?_|refine cY ?_|refine ed ?_|refine ⟨fun h=>?_,fun h=>?_⟩|refine aj ?_)
 refine aI.loop (X:=Option (Nat×Nat)) (fun x=>x.elim ⟨[(24,.int .i64 0),(23,.int .i64 1),(22,.sl .no 12 [gQ s]),(xk 5000000,.me .box 5000000 bs [[.clo 128 (se bo bs)]]),(xk 5001000,.me .box 5001000 bo [[.sl .full 0 []]]),(1,.pin 5001000 bo 0 []),(2,.pin 5000000 bs 0 [])],[]⟩ (fun p=>⟨[(24,.int .i64 1),(23,.int .i64 1),(xk 5000000,.me .box 5000000 bs [[.clo 128 (se bo bs)]]),(xk 5001000,.me .box 5001000 bo [[.lit (.slice (some ⟨p.1,0,none⟩) 1 p.2)]]),(xk 5002000,.me (.row p.1 p.2) 5002000 12 [gQ s])],[]⟩)) (fun _=>True) (fun x=>x.elim 1 (fun _=>0)) none trivial (LE) (fun x hx=>?_)
 ·cases x with
  | none=>
   have hx:[gQ s][(0:Int).toNat]?=some (gQ s):=rfl;have c1:=sX s hr bo bs
   conv=>whnf
   refine aI.seq ?_
   repeat' first|refine dz ?_|((conv=>whnf); first|refine ⟨fun h=>?_,fun h=>?_⟩|refine aj ?_)
   refine aI.seq ?_
   repeat' first|refine dz ?_|((conv=>whnf); first|refine ⟨fun h=>?_,fun h=>?_⟩|refine aj ?_)
   conv=>whnf
   refine aI.seq ?_;refine aI.block ?_;refine aI.seq ?_;refine dJ hG af fh [] aK ?_
   repeat' first|refine aI.block ?_|refine aI.skip hG af ?_|refine aI.label hG af ?_|refine aI.ret hG af ?_|refine aI.exit hG af ?_|refine cc rfl ?_|refine ce rfl ?_|refine aI.cond rfl (aa (fun h=>?_) (fun h=>?_))|((conv=>whnf); first|refine cZ ?_|refine cY ?_|refine ed ?_|refine aa (qp 0) (ae _ (aa hx ?_))|refine aa (fun h=>?_) (fun h=>?_)|refine aj ?_)
   refine kj hG af fh 2 aK ?_
   conv=>whnf
   refine aa aK ?_
   conv=>whnf
   refine ae _ (ae _ (ae _ (ae _ (aa (aa aK (aa aK (c1))) ?_))));rintro r L2 ⟨b,cap,rfl,rfl⟩
   conv=>whnf
   refine bv ?_
   all_goals refine ae (some (b,cap)) (aa trivial (aa Yo (LE)))
  | some p=>
   obtain ⟨b,cap⟩:=p
   conv=>whnf
   repeat' first|refine QE [30] rfl hG af kp ?_|((conv=>whnf); first|refine cZ ?_|refine cY ?_|refine ed ?_|refine ⟨fun h=>?_,fun h=>?_⟩|refine aj ?_)
   all_goals refine gj.mk (bw rfl) (ae (.tup []) (ae (LT bo bs b cap s) (aa (ae b (ae cap (aa rfl rfl))) (aa (aj (az rfl)) (aa aK aK)))))):q:=h
set_option maxHeartbeats 8000000 in
theorem BY (w:Int) (s:fi) (hr:s.rows.length<=1000000) (bo bs:Nat):lR Tryz.prog 128 [5000000,5001000,5002000] [] (.agg (dp (iz w s))::se bo bs) (LS bo bs) (fun r L'=>∃ b cap,r = .tup []/\L'=LT bo bs b cap s):=by
 exact Bd
set_option maxHeartbeats 8000000 in
theorem BX (w:Int) (s:fi) (hr:s.rows.length<=1000000) (bo bs:Nat):lR Tryz.prog 128 [5000000,5001000,5002000] [] (.agg (dp (eP w s))::se bo bs) (LS bo bs) (fun r L'=>∃ b cap,r = .tup []/\L'=LT bo bs b cap s):=by
 exact Bd
open Go Go.AI
set_option maxRecDepth 10000
def ep (g:oK):List fi:=if kd g then (if g.kind=1 then [g.see] else g.kids) else []
set_option maxHeartbeats 8000000 in
theorem JR (s:fi) (d:s.rows.length<=1000000):ar Tryz.prog 59 [.agg (dp (gP s))] (.sl .no 12 ((ep (gP s)).map gQ)):=by
 have hv:=jd (gP s) (.S s d);have f:ep (gP s)=if kd (gP s) then [s] else []:=rfl
 rw [f];have c0:=fun (c a:Nat)=>sX s d c a;generalize kd (gP s)=ok at *;refine aM d9 Tryz.func59 ?_;intro F j w0 m0 hG i h1 kp;refine aI.seq ?_
 repeat' first|refine dz ?_|((conv=>whnf); first|refine ⟨fun h=>?_,fun h=>?_⟩|refine aj ?_)
 refine aI.seq ?_
 repeat' first|refine dz ?_|((conv=>whnf); first|refine ae _ (aa (hv) ?_)|refine ⟨fun h=>?_,fun h=>?_⟩|refine aj ?_)
 refine aI.seq ?_
 repeat' first|refine dz ?_|((conv=>whnf); first|refine ae _ (aa (hv) ?_)|refine ⟨fun h=>?_,fun h=>?_⟩|refine aj ?_)
 ·have e:ok=false:=by simpa using ‹(!ok)=true›
  rw [e];refine bv ?_
  all_goals exact Ends.mk (aj rfl) bI
 ·have e:ok=true:=by simpa using ‹(!ok)=false›
  rw [e]
  conv=>whnf
  refine aI.seq ?_;refine A3 hG af d9 0 aK ?_
  conv=>whnf
  refine aI.pin 3 5001000 rfl rfl rfl (fun c=>?_)
  conv=>whnf
  refine aI.seq ?_;refine dJ hG af d9 [] aK ?_
  conv=>whnf
  refine aI.pin 4 5000000 rfl rfl rfl (fun a=>?_)
  conv=>whnf
  have c1:=c0 c a;refine aI.seq ?_
  repeat' first|refine dz ?_|((conv=>whnf); first|refine ⟨fun h=>?_,fun h=>?_⟩|refine aj ?_)
  refine aI.seq ?_;refine kj hG af d9 2 aK ?_
  conv=>whnf
  refine aa aK ?_
  conv=>whnf
  refine ae _ (ae _ (ae _ (ae _ (aa (aa aK (aa aK (c1))) ?_))));rintro r l ⟨b,cap,rfl,rfl⟩
  conv=>whnf
  refine aI.seq ?_;refine dJ hG af d9 [] aK ?_
  repeat' first|refine aI.block ?_|refine aI.skip hG af ?_|refine aI.label hG af ?_|refine aI.exit hG af ?_|refine cc rfl ?_|refine ce rfl ?_|refine aI.cond rfl (aa (fun h=>?_) (fun h=>?_))|((conv=>whnf); first|refine cZ ?_|refine cY ?_|refine ed ?_|refine aa (fun h=>?_) (fun h=>?_)|refine aj ?_)
  conv=>whnf
  refine nY hG 5002000 2 rfl rfl rfl ?_;refine aI.ret hG af ?_;exact Ez
set_option maxHeartbeats 8000000 in
theorem JT (w:Int) (s:fi) (d:s.rows.length<=1000000):ar Tryz.prog 59 [.agg (dp (iz w s))] (.sl .no 12 ((ep (iz w s)).map gQ)):=by
 have hv:=jd (iz w s) (.D w s d);have f:ep (iz w s)=if kd (iz w s) then [s] else []:=rfl
 rw [f];have c0:=fun (c a:Nat)=>BY w s d c a;generalize kd (iz w s)=ok at *;refine aM d9 Tryz.func59 ?_;intro F j w0 m0 hG i h1 kp;refine aI.seq ?_
 repeat' first|refine dz ?_|((conv=>whnf); first|refine ⟨fun h=>?_,fun h=>?_⟩|refine aj ?_)
 refine aI.seq ?_
 repeat' first|refine dz ?_|((conv=>whnf); first|refine ae _ (aa (hv) ?_)|refine ⟨fun h=>?_,fun h=>?_⟩|refine aj ?_)
 refine aI.seq ?_
 repeat' first|refine dz ?_|((conv=>whnf); first|refine ae _ (aa (hv) ?_)|refine ⟨fun h=>?_,fun h=>?_⟩|refine aj ?_)
 ·have e:ok=false:=by simpa using ‹(!ok)=true›
  rw [e];refine bv ?_
  all_goals exact Ends.mk (aj rfl) bI
 ·have e:ok=true:=by simpa using ‹(!ok)=false›
  rw [e]
  conv=>whnf
  refine aI.seq ?_;refine A3 hG af d9 0 aK ?_
  conv=>whnf
  refine aI.pin 3 5001000 rfl rfl rfl (fun c=>?_)
  conv=>whnf
  refine aI.seq ?_;refine dJ hG af d9 [] aK ?_
  conv=>whnf
  refine aI.pin 4 5000000 rfl rfl rfl (fun a=>?_)
  conv=>whnf
  have c1:=c0 c a;refine aI.seq ?_
  repeat' first|refine dz ?_|((conv=>whnf); first|refine ⟨fun h=>?_,fun h=>?_⟩|refine aj ?_)
  refine aI.seq ?_;refine kj hG af d9 2 aK ?_
  conv=>whnf
  refine aa aK ?_
  conv=>whnf
  refine ae _ (ae _ (ae _ (ae _ (aa (aa aK (aa aK (c1))) ?_))));rintro r l ⟨b,cap,rfl,rfl⟩
  conv=>whnf
  refine aI.seq ?_;refine dJ hG af d9 [] aK ?_
  repeat' first|refine aI.block ?_|refine aI.skip hG af ?_|refine aI.label hG af ?_|refine aI.exit hG af ?_|refine cc rfl ?_|refine ce rfl ?_|refine aI.cond rfl (aa (fun h=>?_) (fun h=>?_))|((conv=>whnf); first|refine cZ ?_|refine cY ?_|refine ed ?_|refine aa (fun h=>?_) (fun h=>?_)|refine aj ?_)
  conv=>whnf
  refine nY hG 5002000 2 rfl rfl rfl ?_;refine aI.ret hG af ?_;exact Ez
set_option maxHeartbeats 8000000 in
theorem JS (w:Int) (s:fi) (d:s.rows.length<=1000000):ar Tryz.prog 59 [.agg (dp (eP w s))] (.sl .no 12 ((ep (eP w s)).map gQ)):=by
 have hv:=jd (eP w s) (.P w s d);have f:ep (eP w s)=if kd (eP w s) then [s] else []:=rfl
 rw [f];have c0:=fun (c a:Nat)=>BX w s d c a;generalize kd (eP w s)=ok at *;refine aM d9 Tryz.func59 ?_;intro F j w0 m0 hG i h1 kp;refine aI.seq ?_
 repeat' first|refine dz ?_|((conv=>whnf); first|refine ⟨fun h=>?_,fun h=>?_⟩|refine aj ?_)
 refine aI.seq ?_
 repeat' first|refine dz ?_|((conv=>whnf); first|refine ae _ (aa (hv) ?_)|refine ⟨fun h=>?_,fun h=>?_⟩|refine aj ?_)
 refine aI.seq ?_
 repeat' first|refine dz ?_|((conv=>whnf); first|refine ae _ (aa (hv) ?_)|refine ⟨fun h=>?_,fun h=>?_⟩|refine aj ?_)
 ·have e:ok=false:=by simpa using ‹(!ok)=true›
  rw [e];refine bv ?_
  all_goals exact Ends.mk (aj rfl) bI
 ·have e:ok=true:=by simpa using ‹(!ok)=false›
  rw [e]
  conv=>whnf
  refine aI.seq ?_;refine A3 hG af d9 0 aK ?_
  conv=>whnf
  refine aI.pin 3 5001000 rfl rfl rfl (fun c=>?_)
  conv=>whnf
  refine aI.seq ?_;refine dJ hG af d9 [] aK ?_
  conv=>whnf
  refine aI.pin 4 5000000 rfl rfl rfl (fun a=>?_)
  conv=>whnf
  have c1:=c0 c a;refine aI.seq ?_
  repeat' first|refine dz ?_|((conv=>whnf); first|refine ⟨fun h=>?_,fun h=>?_⟩|refine aj ?_)
  refine aI.seq ?_;refine kj hG af d9 2 aK ?_
  conv=>whnf
  refine aa aK ?_
  conv=>whnf
  refine ae _ (ae _ (ae _ (ae _ (aa (aa aK (aa aK (c1))) ?_))));rintro r l ⟨b,cap,rfl,rfl⟩
  conv=>whnf
  refine aI.seq ?_;refine dJ hG af d9 [] aK ?_
  repeat' first|refine aI.block ?_|refine aI.skip hG af ?_|refine aI.label hG af ?_|refine aI.exit hG af ?_|refine cc rfl ?_|refine ce rfl ?_|refine aI.cond rfl (aa (fun h=>?_) (fun h=>?_))|((conv=>whnf); first|refine cZ ?_|refine cY ?_|refine ed ?_|refine aa (fun h=>?_) (fun h=>?_)|refine aj ?_)
  conv=>whnf
  refine nY hG 5002000 2 rfl rfl rfl ?_;refine aI.ret hG af ?_;exact Ez
open Go Go.AI
set_option maxRecDepth 10000
theorem AM (g:oK) (h:j4 g):ar Tryz.prog 59 [.agg (dp g)] (.sl .no 12 ((ep g).map gQ)):=by
 cases h with
 | S s a=>exact JR s a
 | D w s a=>exact JT w s a
 | P w s a=>exact JS w s a
def yy (s:Nat->Int) (o:dZ) (ps:List bU):Bool:=ny s&&j9 ps&&jI s o ps
theorem J3 (s:Nat->Int) (o:dZ) (ps:List bU) (hl:o.sl.length<=1000000) (a:ps.length<=1000000):ar Tryz.prog 115 [.agg (bR s),.agg (bL o),dt ps] (.bool (yy s o ps)):=by
 refine aM Hm Tryz.func115 ?_;intro F c w0 m0 hG b h1 kp
 repeat' first|refine aQ ?_|((conv=>whnf); first|refine ae _ (aa (rz s) ?_)|refine ae _ (aa (jS ps a) ?_)|refine ae _ (aa (Sl s o ps hl a) ?_)|refine ⟨fun h=>?_,fun h=>?_⟩|refine aj ?_)
 all_goals refine Eb ?_
 all_goals simp_all [yy]
def de:dZ:=⟨0,0,0,0,0,0,0,0,[]⟩
def eR (l:List dZ) (i:Int):dZ:=l.getD i.toNat de
theorem zL {l:List dZ} {i:Int} (a:0<=i) (h:i<l.length):(l.map bL)[i.toNat]?=some (bL (eR l i)):=by
 have:i.toNat<l.length:=by omega
 simp [eR,ai this]
theorem Tx {n:Nat} {l:List Int} (h:Bw n l=true) {i:Int} (hi:i∈l):0<=i/\i<n:=by
 obtain ⟨j,hj,e⟩:=cI hi;have:=aN.1 h j (bz.2 hj);simp only [zV,d4,aG,ai hj,pU,e,al,aO] at this;exact this.1
theorem BN (b:Nat) (s:dY) (u:iu) (i:Int) (a:0<=i) (h:i<s.opts.length):ar Tryz.prog 116 [.int .i64 i,.ref [cK b s],.ref (eO u)] (.bool (decide ((eR s.opts i).ord≠u.ord))):=by
 have hx:=zL a h;refine aM Hl Tryz.func116 ?_;intro F d w0 m0 hG c h1 kp
 repeat' first|refine aQ ?_|((conv=>whnf); first|refine aa a (ae _ (aa hx ?_))|refine ⟨fun h=>?_,fun h=>?_⟩|refine aj ?_)
 all_goals exact Ends.mk (aj rfl) (az (ax AV.bool (by simp [bne,BEq.beq])))
open Go Go.AI
set_option maxRecDepth 10000
theorem VP (o:Nat->Int) (t late:Int) (h:sS o t late=true):ar Tryz.prog 205 [.agg (d7 o),.int .i64 t,.int .i64 late] (.tup [.agg (fg (kV o (cm (t - late)))),.int .i64 0]):=by
 have a:=AY o t late;rw [h] at a;refine aM Gc Tryz.func205 ?_;intro F c w0 m0 hG b h1 kp
 repeat' first|refine aQ ?_|((conv=>whnf); first|refine ae _ (aa (a) ?_)|refine ae _ (aa (LB o (cm (t - late)) (Xg h)) ?_)|refine ⟨fun h=>?_,fun h=>?_⟩|refine aj ?_)
 all_goals exact Ez
open Go Go.AI
set_option maxRecDepth 10000
structure rD (o:Nat->Int) (a b k late:Int):Prop where
 pv:PV o
 a0:0<=a
 ab:a<b
 b1:b<=1000001
 m:b - a<=60
 k0:-4<=k
 k1:k<=4
 s1:o 6<=10
 l0:-(o 6)<=late
 l1:late<=o 6
def Be (o:Nat->Int) (k late t:Int):Int×Int×Int:=((((kV o (t - late)).1+k)+48).tmod 48,(kV o (t - late)).2,t)
def Bp (o:Nat->Int) (a b k late:Int):List (Int×Int×Int):=(List.range (b - a).toNat).map fun (i:Nat)=>Be o k late (a+i)
def sh3 (p:Int×Int×Int):List AV:=[.agg [.int .i64 p.1,.int .i64 p.2.1,.int .i64 p.2.2]]
theorem rD.cell {o:Nat->Int} {a b k late:Int} (h:rD o a b k late) {t:Int} (h1:a<=t) (h2:t<b):sS o t late=true/\0<=(kV o (t - late)).1/\(kV o (t - late)).1<=47/\0<=(kV o (t - late)).2/\(kV o (t - late)).2<=23:=by
 obtain ⟨pv,a0,ab,b1,m,k0,k1,s1,l0,l1⟩:=h;have c:=UL pv (d:=t - late) am am;simp only [kE,cT,al,aO] at c;exact ⟨aaa pv am am am am,c.1.1,c.1.2,c.2.1,c.2.2⟩
theorem rD.rng {o:Nat->Int} {a b k late:Int} (h:rD o a b k late):∀ p∈Bp o a b k late,0<=p.1/\p.1<=47/\0<=p.2.1/\p.2.1<=23/\a<=p.2.2/\p.2.2<b:=by
 intro p c;obtain ⟨i,hi,rfl⟩:=bp.1 c;have hi:=bz.1 hi;obtain ⟨_,c1,c2,e,f⟩:=h.cell (t:=a+i) am am;have d:=h.k0;have h1:=h.k1;simp only [Be];rw [fG am];omega
theorem DB (o:Nat->Int) (a b k late:Int) {i:Nat} (h:i<(b - a).toNat):(Bp o a b k late)[i]?=some (Be o k late (a+i)):=by
 simp [Bp,h]
theorem yT (o:Nat->Int) (a b k late:Int):(Bp o a b k late).length=(b - a).toNat:=by simp [Bp]
theorem AL (o:Nat->Int) (a b k late:Int):ar Tryz.prog 138 [.agg (d7 o),.agg (cA a b),.int .i64 k,.int .i64 late] (.clo 204 [.ref (cA a b),.ref (d7 o),.ref [.int .i64 late],.ref [.int .i64 k]]):=dP G6 Tryz.func138
theorem yk (o:Nat->Int):ar Tryz.prog 203 [.agg (d7 o)] (.clo 266 [.ref (d7 o)]):=dP Gd Tryz.func203
set_option maxHeartbeats 4000000 in
theorem sU (o:Nat->Int) (a b k late:Int) (h:rD o a b k late):jA Tryz.prog sh3 204 [.ref (cA a b),.ref (d7 o),.ref [.int .i64 late],.ref [.int .i64 k]] (Bp o a b k late):=by
 refine jA.of Tryz.func204 rfl aK bj (ah rfl) rfl ?_;intro F n m y J Jx hY
 repeat' first|refine QM rfl hY af (.mk:KP kL) ?_|((conv=>whnf); first|refine cZ ?_|refine cY ?_|refine ed ?_|refine aa (fun h=>?_) (fun h=>?_)|refine aj ?_)
 refine ir.loop (X:=Nat) (fun i=>((false,i),⟨[(6,.int .i64 (a+i)),(0,.lit (.func (.yield y) #[] #[])),(1,.ref (cA a b)),(2,.ref (d7 o)),(3,.ref [.int .i64 late]),(4,.ref [.int .i64 k])],[]⟩)) (fun i=>i<=(b - a).toNat) (fun i=>(b - a).toNat - i) 0 (aZ _) rfl (St.le.of ?_ ?_) (fun i hi=>?_)
 ·refine aa (ax (fun z=>some (AV.int .i64 z)) (show a=a+((0:Nat):Int) by omega)) ?_;exact RF
 ·exact RF
 ·by_cases e:i<(b - a).toNat
  ·have d:=dF (show a+(i:Int)<b by omega);obtain ⟨q,G,A,w,H⟩:=h.cell (t:=a+i) am am;have f:=DB o a b k late e;have x:cm (a+(i:Int) - late)=a+i - late:=a6 (by have:=h.a0; have:=h.s1; have:=h.l1; omega) (by have:=h.b1; have:=h.s1; have:=h.l0; omega);have c1:=VP o (a+i) late q;rw [x] at c1;have E:=h.k0;have B:=h.k1;have L:=h.a0;have M:=h.b1;unfold Be at f;generalize kV o (a+i - late)=D at *;obtain ⟨c,u⟩:=D;simp only at G A w H f;have p:(48:Int)≠0:=by decide
   have l:IntKind.i64.wrap (c+k)=c+k:=a6 am am;have j:IntKind.i64.wrap (c+k+48)=c+k+48:=a6 am am;have v:IntKind.i64.wrap ((c+k+48).tmod 48)=(c+k+48).tmod 48:=by rw [fG am]; exact a6 am am
   repeat' first|exact (d a8).elim|refine QM rfl hY af (.mk:KP kL) ?_|((conv=>whnf); first|refine cZ ?_|refine cY ?_|refine ed ?_|refine ae _ (aa (c1) ?_)|refine aa p ?_|refine aa (fun h=>?_) (fun h=>?_)|refine aj ?_)
   have hv:(IntKind.i64.wrap (IntKind.i64.wrap (c+k)+48)).tmod 48=(c+k+48).tmod 48:=by rw [l,j]
   rw [<- hv] at f;refine ae ((IntKind.i64.wrap (IntKind.i64.wrap (c+k)+48)).tmod 48,u,a+i) (aa f (aa rfl (fun t r=>?_)));subst r;refine aa ?_ ?_
   ·repeat' first|refine QM rfl hY af (.mk:KP kL) ?_|((conv=>whnf); first|refine cZ ?_|refine cY ?_|refine ed ?_|refine aa (fun h=>?_) (fun h=>?_)|refine aj ?_)
    refine ae (i+1) (aa e (aa am (aa rfl (LE))))
   ·repeat' first|refine QM rfl hY af (.mk:KP kL) ?_|((conv=>whnf); first|refine cZ ?_|refine cY ?_|refine ed ?_|refine aa (fun h=>?_) (fun h=>?_)|refine aj ?_)
    exact iL.mk (aj rfl) (bw rfl)
  ·have d:=dT (show ¬(a+(i:Int)<b) by omega)
   repeat' first|exact (d a8).elim|refine QM rfl hY af (.mk:KP kL) ?_|((conv=>whnf); first|refine cZ ?_|refine cY ?_|refine ed ?_|refine aa (fun h=>?_) (fun h=>?_)|refine aj ?_)
   exact iL.mk (bw rfl) (aj (ax (Prod.mk false) (by rw [yT]; omega)))
def iy (s:Int):List Int:=(List.range (2*s+1).toNat).map fun (i:Nat) => -s+i
theorem wJ (s:Int) {i:Nat} (h:i<(2*s+1).toNat):(iy s)[i]?=some (-s+i):=by simp [iy,h]
theorem mH (s:Int):(iy s).length=(2*s+1).toNat:=by simp [iy]
def TX (z:Int):List AV:=[.int .i64 z]
set_option maxHeartbeats 4000000 in
theorem rx (o:Nat->Int) (e:0<=o 6) (h1:o 6<=10):jA Tryz.prog TX 266 [.ref (d7 o)] (iy (o 6)):=by
 refine jA.of Tryz.func266 rfl aK bj (ah rfl) rfl ?_;intro F n m y J Jx hY
 repeat' first|refine QM rfl hY af (.mk:KP kK) ?_|((conv=>whnf); first|refine cZ ?_|refine cY ?_|refine ed ?_|refine aa (fun h=>?_) (fun h=>?_)|refine aj ?_)
 refine ir.loop (X:=Nat) (fun i=>((false,i),⟨[(3,.int .i64 (-(o 6)+i)),(0,.lit (.func (.yield y) #[] #[])),(1,.ref (d7 o))],[]⟩)) (fun i=>i<=(2*o 6+1).toNat) (fun i=>(2*o 6+1).toNat - i) 0 (aZ _) rfl (LE) (fun i hi=>?_)
 ·by_cases b:i<(2*o 6+1).toNat
  ·have a:=dF (show -(o 6)+(i:Int)<=o 6 by omega);have d:=wJ (o 6) b
   repeat' first|exact (a a8).elim|refine QM rfl hY af (.mk:KP kK) ?_|((conv=>whnf); first|refine cZ ?_|refine cY ?_|refine ed ?_|refine aa (fun h=>?_) (fun h=>?_)|refine aj ?_)
   refine ae (-(o 6)+i) (aa d (aa rfl (fun t c=>?_)));subst c;refine aa ?_ ?_
   ·repeat' first|refine QM rfl hY af (.mk:KP kK) ?_|((conv=>whnf); first|refine cZ ?_|refine cY ?_|refine ed ?_|refine aa (fun h=>?_) (fun h=>?_)|refine aj ?_)
    refine ae (i+1) (aa b (aa am (aa rfl (LE))))
   ·repeat' first|refine QM rfl hY af (.mk:KP kK) ?_|((conv=>whnf); first|refine cZ ?_|refine cY ?_|refine ed ?_|refine aa (fun h=>?_) (fun h=>?_)|refine aj ?_)
    exact iL.mk (aj rfl) (bw rfl)
  ·have a:=dT (show ¬(-(o 6)+(i:Int)<=o 6) by omega)
   repeat' first|exact (a a8).elim|refine QM rfl hY af (.mk:KP kK) ?_|((conv=>whnf); first|refine cZ ?_|refine cY ?_|refine ed ?_|refine aa (fun h=>?_) (fun h=>?_)|refine aj ?_)
   exact iL.mk (bw rfl) (aj (ax (Prod.mk false) (by rw [mH]; omega)))
open Go Go.AI
set_option maxRecDepth 10000
def TD (r x:Int):Int:=nf .or .i64 r (cm (1*2 ^ (min x.toNat 64)))
def o4 (a:List Int) (l:List (Int×Int×Int)):List Int:=l.foldl (fun a p=>a.set p.2.1.toNat (TD (a.getD p.2.1.toNat 0) p.1)) a
def nA:List Int:=List.replicate 24 0
def gx (o:Nat->Int) (a b k late:Int):List Int:=o4 nA (Bp o a b k late)
theorem uv:∀ (l:List (Int×Int×Int)) (a:List Int),(o4 a l).length=a.length
 | [],_=>rfl
 | p::r,a=>by
  have:=uv r (a.set p.2.1.toNat (TD (a.getD p.2.1.toNat 0) p.1));rw [Yq] at this;exact this
theorem CG (a:List Int) (l:List (Int×Int×Int)) (p:Int×Int×Int):o4 a (l++[p])=(o4 a l).set p.2.1.toNat (TD ((o4 a l).getD p.2.1.toNat 0) p.1):=by simp [o4]
theorem iV (l:List Int) (i:Nat) (x:Int):dB (l.map fun h=>[AV.int .i64 h]) i [AV.int .i64 x]=(l.set i x).map fun h=>[AV.int .i64 h]:=by
 refine wl fun j=>?_;rw [ez,ay,aT,aT,SF];by_cases h1:i=j
 ·subst h1;by_cases h2:i<l.length
  ·rw [aV ⟨rfl,h2⟩,aV rfl,aV h2]; rfl
  ·rw [aY (fun h=>h2 h.2),aV rfl,aY h2,fW am]
 ·rw [aY (fun h=>h1 h.1),aY h1]
def iP (b n cap:Nat):AV := .lit (.slice (some ⟨b,0,none⟩) n cap)
set_option maxHeartbeats 8000000 in
theorem Sx (o:Nat->Int) (a b k late:Int) (h:rD o a b k late):lR Tryz.prog 133 [5000000] [] [.agg (d7 o),.agg (cA a b),.int .i64 k,.int .i64 late] [] (fun r B=>∃ c cap,r = .agg [iP c 24 cap]/\B=[(5000000,.me (.row c cap) 5000000 1 ((gx o a b k late).map fun h=>[AV.int .i64 h]))]):=by
 have d:=sU o a b k late h;have u:=h.rng;have G:gx o a b k late=o4 nA (Bp o a b k late):=rfl;rw [G];generalize Bp o a b k late=items at *;refine lR.ofB af Tryz.func133 rfl aK bj (ah rfl) ?_;intro F H w0 m0 hG D h1;refine aI.seq ?_
 repeat' first|refine QF [] rfl hG af (.mk:KP jt) ?_|((conv=>whnf); first|refine cZ ?_|refine cY ?_|refine ed ?_|refine aa (fun h=>?_) (fun h=>?_)|refine aj ?_)
 refine aI.seq ?_;refine ji hG af jt 0 aK ?_
 conv=>whnf
 refine ae _ (ae _ (ae _ (ae _ (aa (aa aK (aa aK (yi))) ?_))));rintro r N ⟨c,cap,rfl,rfl⟩
 conv=>whnf
 repeat' first|refine QE [] rfl hG af (.mk:KP jt) ?_|((conv=>whnf); first|refine cZ ?_|refine cY ?_|refine ed ?_|refine ae _ (aa (AL o a b k late) ?_)|refine aa (fun h=>?_) (fun h=>?_)|refine aj ?_)
 refine ⟨kk hG (bH bt h1) (α:=Int×Int×Int) sh3 (f:=204) (cap:=[.ref (cA a b),.ref (d7 o),.ref [.int .i64 late],.ref [.int .i64 k]]) (items:=items) rfl d (fun _=>rfl)
  (fun p=>[(9,.loc 9 0),(8,.loc 8 0),(xk 5000000,.me (.row c cap) 5000000 1 ((o4 nA p).map fun h=>[AV.int .i64 h]))]) [9,8,xk 5000000] (fun _=>rfl) (fun _=>[(9,[iP c 24 cap]),(8,[.sl (.id 1008000) 0 []])]) (St.le.of ?_ ?_) aK bt ?_ ?_⟩
 ·exact RF
 ·exact RF
 ·intro M A m' t _ _ pre x rest hx;clear hG;have hG:=t;obtain ⟨l,w,m,q,_,_⟩:=u x (by rw [hx]; simp);have i:=CG nA pre x;have v:(o4 nA pre).length=24:=by rw [uv]; rfl
  generalize o4 nA pre=e at *;obtain ⟨J,j,L⟩:=x;dsimp only at l w m q i;have E:(e.map fun h=>[AV.int .i64 h]).length=24:=by rw [ay]; exact v
  have n:j<((24:Nat):Int):=by omega
  have y:(e.map fun h=>[AV.int .i64 h])[j.toNat]?=some [AV.int .i64 (e.getD j.toNat 0)]:=by simp [ai (show j.toNat<e.length by omega)]
  refine aI.out (aI.reg hG af jt aK ?_)
  conv=>whnf
  refine aa rfl (aa (LE) ?_);refine aI.out ?_
  repeat' first|refine QE [] rfl hG af (.mk:KP jt) ?_|((conv=>whnf); first|refine cZ ?_|refine cY ?_|refine ed ?_|refine ae 5000000 (ae _ (ae _ (ae _ (aa (aa rfl (aa rfl E)) ?_))))|refine aa m (aa n ?_)|refine ae _ (aa y ?_)|refine aa l ?_|refine aa (fun h=>?_) (fun h=>?_)|refine aj ?_)
  refine St.le.of ?_ ?_
  ·refine aa rfl (aa rfl (aa (ax (fun z=>some (AV.me (.row c cap) 5000000 1 z)) ?_) trivial));rw [i];exact iV e j.toNat _
  ·exact RF
 ·conv=>whnf
  repeat' first|refine QE [] rfl hG af (.mk:KP jt) ?_|((conv=>whnf); first|refine cZ ?_|refine cY ?_|refine ed ?_|refine aa (fun h=>?_) (fun h=>?_)|refine aj ?_)
  exact gj.mk (aj rfl) (ae _ (ae _ (aa (ae c (ae cap (aa rfl rfl))) (aa (aj (az rfl)) (aa aK aK)))))
open Go Go.AI
set_option maxRecDepth 10000
def yw (k b cap:Nat) (l:List Int):Nat×AV:=(k,.me (.row b cap) k 1 (l.map fun h=>[AV.int .i64 h]))
def Za (o:Nat->Int) (a b k late:Int):AV->List (Nat×AV)->Prop:=fun r d=>∃ b1 c1 c c2,r = .agg [iP b1 24 c1,iP c 24 c2]/\d=[yw 5000000 b1 c1 (gx o a b k late),yw 5001000 c c2 (gx o a b k late)]
theorem oF (o:Nat->Int) (a b k late:Int):(gx o a b k late).length=24:=by unfold gx; rw [uv]; rfl
set_option maxHeartbeats 8000000 in
theorem JO (o:Nat->Int) (a b k late:Int) (h:rD o a b k late):lR Tryz.prog 132 [5000000,5001000] [] [.int .i64 late,.ref (d7 o),.ref (cA a b),.ref [.int .i64 k]] [] (Za o a b k late):=by
 have l:=Sx o a b k late h;have hl:=oF o a b k late;unfold Za;generalize gx o a b k late=d at *;have e:24=(d.map fun h=>[AV.int .i64 h]).length:=by rw [ay]; exact hl.symm
 have i:0<(d.map fun h=>[AV.int .i64 h]).length:=by rw [<- e]; exact ah rfl
 have m:(d.map fun h=>[AV.int .i64 h]).length*8<=70368744177664:=by rw [<- e]; exact ah rfl
 have hm:(d.map fun h=>[AV.int .i64 h]).length<=4611686018427387904:=by rw [<- e]; exact ah rfl
 refine lR.ofB af Tryz.func132 rfl aK bj (ah rfl) ?_;intro F n w0 m0 hG j h1;refine aI.seq ?_;have kp:KP pR := .mk
 repeat' first|refine dz ?_|((conv=>whnf); first|refine ⟨fun h=>?_,fun h=>?_⟩|refine aj ?_)
 refine aI.seq ?_;refine ji hG af pR 4 aK ?_
 conv=>whnf
 refine ae _ (ae _ (ae _ (ae _ (aa (aa aK (aa aK (l))) ?_))));rintro r p ⟨b1,c1,rfl,rfl⟩
 conv=>whnf
 refine aI.seq ?_;refine aI.cut (X:=Nat×Nat) (fun x=>⟨[(xk 5000000,.me (.row b1 c1) 5000000 1 (d.map fun h=>[AV.int .i64 h])),(xk 16,.me (.row x.1 x.2) 16 1 (d.map fun h=>[AV.int .i64 h])),(5,.loc 5 0)],[(5,[iP b1 24 c1,iP x.1 24 x.2])]⟩) (fun _=>True) ?_ (fun x _=>?_)
 ·refine xp hG af pR aK ?_
  repeat' first
   | refine TB.done rfl ?_
   | refine VX hG af [] ?_
   |(conv=>whnf
     first
      | refine SJ.intro ?_ ?_
      | refine ae 5000000 (aa rfl (aa e (aa i (aa m (aa hm (fun f c=>?_))))))
      | refine aa aK ?_)
  all_goals refine ae (f,c) (aa trivial (St.le.of ?_ ?_))
  all_goals first
   |((repeat' (first | exact trivial | refine aa rfl ?_)); done)
   |(refine aa (ax (fun z=>some [iP b1 24 c1,iP f z c]) e.symm) ?_
     repeat' (first | exact trivial | refine aa rfl ?_))
 ·obtain ⟨f,c⟩:=x
  conv=>whnf
  refine gf 16 5001000 (g := .row f c) aK rfl ?_;refine aI.ret hG af ?_
  conv=>whnf
  exact gj.mk (aj rfl) (ae _ (ae _ (aa (ae b1 (ae c1 (ae f (ae c (aa rfl rfl))))) (aa (aj (az rfl)) (aa aK aK)))))
open Go Go.AI
set_option maxRecDepth 10000
theorem zS (l:List Int) {i:Nat} (h:i<l.length):(l.map fun h=>[AV.int .i64 h])[(i:Int).toNat]?=some [AV.int .i64 (l.getD i 0)]:=by simp [ai h]
def MV (f:Int->Int->Int) (a b:List Int) (i:Nat):List Int:=(List.zipWith f a b).take i++a.drop i
theorem DY (f:Int->Int->Int) {a b:List Int} (d:a.length=24) (c:b.length=24) {i:Nat} (hi:i<=24):(MV f a b i).length=24:=by
 unfold MV;rw [cj,di,jy,pW,d,c]; omega
theorem I3 (f:Int->Int->Int) (a b:List Int):MV f a b 0=a:=by simp [MV]
theorem Pg (f:Int->Int->Int) {a b:List Int} (d:a.length=24) (c:b.length=24):MV f a b 24=List.zipWith f a b:=by
 unfold MV;rw [bA (by rw [jy,d,c]; omega),c7 am,bV]
theorem Pf (f:Int->Int->Int) {a b:List Int} (d:a.length=24) (c:b.length=24) {i:Nat} (hi:i<24):(MV f a b i)[i]?=some (a.getD i 0):=by
 have hl:((List.zipWith f a b).take i).length=i:=by rw [di,jy,d,c]; omega
 unfold MV;rw [bM am,hl,Nat.sub_self,cB,eb,aG,ai (show i<a.length by omega)]; rfl
theorem I4 (f:Int->Int->Int) {a b:List Int} (e:a.length=24) (c:b.length=24) {i:Nat} (hi:i<24):(MV f a b i).set i (f (a.getD i 0) (b.getD i 0))=MV f a b (i+1):=by
 refine wl fun j=>?_;have hl:((List.zipWith f a b).take i).length=i:=by rw [di,jy,e,c]; omega
 have d:((List.zipWith f a b).take (i+1)).length=i+1:=by rw [di,jy,e,c]; omega
 rw [SF,DY f e c am];unfold MV;by_cases h1:i=j
 ·subst h1;rw [aV rfl,aV hi,cL am,dj,aV am,Cg,aG,aG,ai (show i<a.length by omega),ai (show i<b.length by omega)]; rfl
 ·rw [aY h1];by_cases h2:j<i
  ·rw [cL am,cL am,dj,dj,aV h2,aV am]
  ·rw [bM am,bM am,hl,d,cB,cB]
   congr 1; omega
def oG (x y:Int):Int:=nf .and .i64 x y
def Mx (x y:Int):Int:=nf .or .i64 x y
theorem JM (u v:AV) (b1 c1 a c2:Nat):ar Tryz.prog 136 [.agg [iP b1 24 c1,iP a 24 c2]] (.agg [iP b1 24 c1,iP a 24 c2]):=dP G7 Tryz.func136
set_option maxHeartbeats 16000000 in
theorem JN (m a a2 b b1 e q d:Nat) (l n f j:List Int) (h1:l.length=24) (h2:n.length=24) (t:f.length=24) (p:j.length=24):lR Tryz.prog 134 [5004000,5005000,5000000,5001000] [] [.agg [iP m 24 a,iP a2 24 b],.agg [iP b1 24 e,iP q 24 d]] [yw 5004000 m a (l),yw 5005000 a2 b (n),yw 5000000 b1 e f,yw 5001000 q d j] (fun r E=>r = .agg [iP m 24 a,iP a2 24 b]/\E=[yw 5004000 m a (List.zipWith oG l f),yw 5005000 a2 b (List.zipWith Mx n j),yw 5000000 b1 e f,yw 5001000 q d j]):=by
 have L:(l.map fun h=>[AV.int .i64 h]).length=24:=by rw [ay]; exact h1
 refine lR.ofB af Tryz.func134 rfl aK bj (ah rfl) ?_;intro F n' w0 m0 hG H h9;have kp:KP G8 := .mk;refine bv ?_;refine aI.loop (X:=Nat) (fun i=>⟨[(10,.int .i64 i),(9,.int .i64 24),(2,.loc 2 0),(3,.loc 3 0),(4,.loc 4 0),(xk 5004000,.me (.row m a) 5004000 1 ((MV oG l f i).map fun h=>[AV.int .i64 h])),(xk 5005000,.me (.row a2 b) 5005000 1 ((MV Mx n j i).map fun h=>[AV.int .i64 h])),(xk 5000000,.me (.row b1 e) 5000000 1 (f.map fun h=>[AV.int .i64 h])),(xk 5001000,.me (.row q d) 5001000 1 (j.map fun h=>[AV.int .i64 h]))],[(2,[iP m 24 a,iP a2 24 b]),(3,[iP b1 24 e,iP q 24 d]),(4,[.sl (.id 1004000) 0 [],.sl (.id 1004001) 0 []])]⟩) (fun i=>i<=24) (fun i=>24 - i) 0 (aZ _) (St.le.of ?_ ?_) (fun i hi=>?_)
 ·rw [I3,I3];exact RF
 ·exact RF
 ·by_cases c:i<24
  ·have o:=dF (show (i:Int)<24 by omega);have Q:(0:Int)<=(i:Int):=au i;have pI:(i:Int)<((24:Nat):Int):=by omega
   have g1:=Pf oG h1 t c;have g2:=Pf Mx h2 p c;have U:=I4 oG h1 t c;have N:=I4 Mx h2 p c;have l1:=DY oG h1 t hi;have l2:=DY Mx h2 p hi;generalize M:MV oG l f i=v at *;generalize J:MV Mx n j i=B at *;have x:(v.map fun h=>[AV.int .i64 h]).length=24:=by rw [ay]; exact l1
   have u:(B.map fun h=>[AV.int .i64 h]).length=24:=by rw [ay]; exact l2
   have A:(f.map fun h=>[AV.int .i64 h]).length=24:=by rw [ay]; exact t
   have w:(j.map fun h=>[AV.int .i64 h]).length=24:=by rw [ay]; exact p
   have Z:(v.map fun h=>[AV.int .i64 h])[(i:Int).toNat]?=some [AV.int .i64 (l.getD i 0)]:=by rw [aT,du,g1]; rfl
   have P:(B.map fun h=>[AV.int .i64 h])[(i:Int).toNat]?=some [AV.int .i64 (n.getD i 0)]:=by rw [aT,du,g2]; rfl
   have G:=zS f (i:=i) am;have D:=zS j (i:=i) am
   repeat' first|exact (o a8).elim|refine aQ ?_|((conv=>whnf); first|refine ae 5004000 (ae _ (ae _ (ae _ (aa (aa rfl (aa rfl x)) ?_))))|refine ae 5005000 (ae _ (ae _ (ae _ (aa (aa rfl (aa rfl u)) ?_))))|refine ae 5000000 (ae _ (ae _ (ae _ (aa (aa rfl (aa rfl A)) ?_))))|refine ae 5001000 (ae _ (ae _ (ae _ (aa (aa rfl (aa rfl w)) ?_))))|refine aa Q (aa pI ?_)|refine ae _ (aa Z ?_)|refine ae _ (aa P ?_)|refine ae _ (aa G ?_)|refine ae _ (aa D ?_)|refine ⟨fun h=>?_,fun h=>?_⟩|refine aj ?_)
   refine ae (i+1) (aa c (aa am (St.le.of ?_ ?_)))
   ·refine aa (ax (fun z=>some (AV.int .i64 z)) ((a6 am am).trans am)) ?_
    repeat' (first | exact trivial | refine aa rfl ?_)
    refine aa (ax (fun z=>some (AV.me (.row m a) 5004000 1 z)) ?_) (aa (ax (fun z=>some (AV.me (.row a2 b) 5005000 1 z)) ?_) ?_)
    ·rw [<- U]; exact iV v i _
    ·rw [<- N]; exact iV B i _
    ·exact RF
   ·exact RF
  ·have o:=dT (show ¬((i:Int)<24) by omega);have y:i=24:=by omega
   subst y;rw [Pg oG h1 t,Pg Mx h2 p];refine bv ?_;exact gj.mk (aj rfl) (ae _ (ae _ (aa (aa rfl rfl) (aa (aj (az rfl)) (aa aK aK)))))
open Go Go.AI
set_option maxRecDepth 10000
def s9 (f:Int->Int->Int) (R:Int->List Int):List Int->List Int
 | []=>[]
 | x::r=>r.foldl (fun z t=>List.zipWith f z (R t)) (R x)
theorem Cw (f:Int->Int->Int) (R:Int->List Int) {p:List Int} (h:p≠[]) (x:Int):s9 f R (p++[x])=List.zipWith f (s9 f R p) (R x):=by
 cases p with
 | nil=>exact absurd rfl h
 | cons y r=>simp [s9]
theorem qB (f:Int->Int->Int) {R:Int->List Int} (a:∀ t,(R t).length=24) {p:List Int} (b:p≠[]):(s9 f R p).length=24:=by
 have key:∀ (r:List Int) (z:List Int),z.length=24->(r.foldl (fun z t=>List.zipWith f z (R t)) z).length=24:=by
  intro r
  induction r with
  | nil=>intro z hz; exact hz
  | cons y r c=>intro z hz; exact c _ (by rw [jy,hz,a]; rfl)
 cases p with
 | nil=>exact absurd rfl b
 | cons x r=>exact key r _ (a x)
def abG (p:List Int) (q:Option (Nat×Nat×Nat×Nat)):Prop:=(p=[]/\q=none)\/(p≠[]/\∃ x,q=some x)
def X0 (o:Nat->Int) (a b k:Int):List AV:=[.ref (d7 o),.ref (cA a b),.ref [.int .i64 k]]
set_option maxHeartbeats 16000000 in
theorem Lj (o:Nat->Int) (a b k:Int) (U:0<=o 6) (h:∀ late,-(o 6)<=late->late<=o 6->rD o a b k late):lR Tryz.prog 135 [5000000,5001000,5004000,5005000] [] [.agg (d7 o),.clo 132 (X0 o a b k),.fn 136,.fn 134] [] (fun r M=>∃ b1 c1 m c2,r = .agg [iP b1 24 c1,iP m 24 c2]/\M=[yw 5004000 b1 c1 (s9 oG (gx o a b k) (iy (o 6))),yw 5005000 m c2 (s9 Mx (gx o a b k) (iy (o 6)))]):=by
 have H:o 6<=10:=(h (-(o 6)) am am).s1;have t:=rx o U H;have v:=oF o a b k
 have z:iy (o 6)≠[]:=fun e=>by
  have:=ax List.length e;rw [mH] at this; simp at this; omega
 have n:∀ pre x rest,iy (o 6)=pre++x::rest->x = -(o 6)+(pre.length:Int)/\-(o 6)<=x/\x<=o 6:=fun pre x rest hx=>by
  have hl:pre.length<(2*o 6+1).toNat:=by
   have:=ax List.length hx;rw [mH] at this; simp at this; omega
  have:=wJ (o 6) hl;rw [hx,bM (ba _),Nat.sub_self] at this;simp at this;omega
 have l:=fun late (g1:-(o 6)<=late) (g2:late<=o 6)=>JO o a b k late (h late g1 g2);unfold Za at l;obtain ⟨R,w⟩:∃ R,gx o a b k=R:=⟨_,rfl⟩;rw [w] at v l ⊢;generalize L7:iy (o 6)=items at *;refine lR.ofB af Tryz.func135 rfl aK bj (ah rfl) ?_;intro F n' w0 m0 hG Z h9;have kp:KP ii := .mk
 repeat' first|refine aQ ?_|((conv=>whnf); first|refine ae _ (aa (yk o) ?_)|refine ⟨fun h=>?_,fun h=>?_⟩|refine aj ?_)
 refine LN 2005004000 rfl ?_;refine LN 2005005000 rfl ?_;refine ⟨xr hG (bH bt h9) (α:=Int) TX (f:=266) (cap:=[.ref (d7 o)]) rfl t (fun _=>rfl) (X:=Option (Nat×Nat×Nat×Nat)) abG (fun p q=>[(9,.loc 9 0),(8,.loc 8 0),(4,.loc 4 0),(5,.loc 5 0),(6,.loc 6 0),(7,.loc 7 0),(xk 5004000,q.elim .junk (fun x => .me (.row x.1 x.2.1) 5004000 1 ((s9 oG R p).map fun h=>[AV.int .i64 h]))),(xk 5005000,q.elim .junk (fun x => .me (.row x.2.2.1 x.2.2.2) 5005000 1 ((s9 Mx R p).map fun h=>[AV.int .i64 h])))]) [9,8,4,5,6,7,xk 5004000,xk 5005000] (fun _ _=>rfl) (fun _ q=>[(9,q.elim [.sl (.id 1009000) 0 [],.sl (.id 1009001) 0 []] (fun x=>[iP x.1 24 x.2.1,iP x.2.2.1 24 x.2.2.2])),(8,[.sl (.id 1008000) 0 [],.sl (.id 1008001) 0 []]),(4,d7 o),(5,[.clo 132 (X0 o a b k)]),(6,[.fn 136]),(7,[.fn 134])]) none (aj ⟨rfl,rfl⟩) (LE) aK bt ?_ ?_⟩
 ·rintro F' Q m' J L hn' pre x q ⟨rest,hx⟩ hI;clear hG;have hG:=J;obtain ⟨u,y,D⟩:=n pre x rest hx;have c1:=l x y D;rcases hI with ⟨rfl,rfl⟩ | ⟨c,⟨b1,d,m,i⟩,rfl⟩
  ·have E:(x==IntKind.i64.wrap (0 - o 6))=true:=by rw [show IntKind.i64.wrap (0 - o 6) = -(o 6) from (a6 am am).trans am]; simp at u; simp [u]
   have j:(x==IntKind.i64.wrap (0 - o 6))=false->False:=fun h=>by rw [E] at h; cases h
   refine aI.out (aI.reg hG af ii aK ?_)
   conv=>whnf
   refine aa rfl (aa (LE) ?_);refine aI.out ?_;refine aI.block ?_;refine aI.seq ?_;refine kj hG af ii 2 aK ?_
   conv=>whnf
   refine ae _ (ae _ (ae _ (ae _ (aa (aa aK (aa aK (c1))) ?_))));rintro r L2 ⟨n1,d1,n2,d2,rfl,rfl⟩
   conv=>whnf
   refine aI.seq ?_;refine dJ hG af ii [] aK ?_
   conv=>whnf
   refine gf 5000000 5004000 (g := .row n1 d1) aK rfl ?_
   conv=>whnf
   refine gf 5001000 5005000 (g := .row n2 d2) aK rfl ?_
   conv=>whnf
   repeat' first|exact (j a8).elim|refine aQ ?_|((conv=>whnf); first|refine ae _ (aa (JM .junk .junk _ _ _ _) ?_)|refine ⟨fun h=>?_,fun h=>?_⟩|refine aj ?_)
   refine ae (some (n1,d1,n2,d2)) (aa (bw ⟨by simp,_,rfl⟩) (LE))
  ·have j:(x==IntKind.i64.wrap (0 - o 6))=true->False:=fun h=>by
    rw [show IntKind.i64.wrap (0 - o 6) = -(o 6) from (a6 am am).trans am] at h;have h1:=eq_of_beq h;have h2:=sc.2 c;omega
   have B:=qB oG v c;have A:=qB Mx v c;have P:=Cw oG R c x;have N:=Cw Mx R c x;generalize s9 oG R pre=P1 at *;generalize s9 Mx R pre=P2 at *;refine aI.out (aI.reg hG af ii aK ?_)
   conv=>whnf
   refine aa rfl (aa (LE) ?_);refine aI.out ?_;refine aI.block ?_;refine aI.seq ?_;refine kj hG af ii 2 aK ?_
   conv=>whnf
   refine ae _ (ae _ (ae _ (ae _ (aa (aa aK (aa aK (c1))) ?_))));rintro r L2 ⟨n1,d1,n2,d2,rfl,rfl⟩
   conv=>whnf
   refine aI.seq ?_;refine dJ hG af ii [] aK ?_
   conv=>whnf
   have k2:=JN b1 d m i n1 d1 n2 d2 P1 P2 (R x) (R x) B A (v x) (v x)
   repeat' first|exact (j a8).elim|refine QE [29] rfl hG af kp ?_|((conv=>whnf); first|refine cZ ?_|refine cY ?_|refine ed ?_|refine xE k2 ?_|refine ⟨fun h=>?_,fun h=>?_⟩|refine aj ?_)
   refine ae (some (b1,d,m,i)) (aa (bw ⟨by simp,_,rfl⟩) (St.le.of ?_ ?_))
   ·dsimp only;rw [P,N];exact RF
   ·exact RF
 ·rintro _ q rfl G;rcases G with ⟨G,_⟩ | ⟨_,⟨b1,d,m,i⟩,rfl⟩
  ·exact absurd G z
  ·conv=>whnf
   refine bv ?_;exact gj.mk (aj rfl) (ae _ (ae _ (aa (ae b1 (ae d (ae m (ae i (aa rfl rfl))))) (aa (aj (az rfl)) (aa aK aK)))))
open Go Go.AI
set_option maxRecDepth 10000
theorem rD.of {o:Nat->Int} {a b k:Int} (h:eG o a b k=true) {late:Int} (h1:-(o 6)<=late) (h2:late<=o 6):rD o a b k late:=by
 simp only [eG,CV,wM,cT,al,aO] at h;obtain ⟨⟨g1,⟨⟨g2,g3⟩,g4⟩,g5⟩,g6,g7⟩:=h;have pv:=(iY o).1 g1;have:=pv.s2;rw [a6 am am] at g5;exact ⟨pv,by omega,by omega,by omega,by omega,g6,g7,by omega,h1,h2⟩
def Cs (o:Nat->Int) (a b k:Int):List Int:=s9 oG (gx o a b k) (iy (o 6))
def Z6 (o:Nat->Int) (a b k:Int):List Int:=s9 Mx (gx o a b k) (iy (o 6))
set_option maxHeartbeats 16000000 in
theorem Nx (o:Nat->Int) (a b k:Int) (h:eG o a b k=true):ar Tryz.prog 61 [.agg (d7 o),.agg (cA a b),.int .i64 k] (.tup [.agg [bB (Cs o a b k),bB (Z6 o a b k)],.int .i64 0]):=by
 have pv:=((iY o).1 (by simp only [eG,al] at h; exact h.1.1));have q:=pv.s1;have u:=Lj o a b k q (fun late h1 h2=>rD.of h h1 h2);have hv:=r7 o a b k;rw [h] at hv;have l:=oF o a b k
 have c:iy (o 6)≠[]:=fun e=>by
  have:=ax List.length e;rw [mH] at this; simp at this; omega
 have i:=qB oG l c;have d:=qB Mx l c;unfold Cs Z6;generalize s9 oG (gx o a b k) (iy (o 6))=f at *;generalize s9 Mx (gx o a b k) (iy (o 6))=j at *;have t:24=(f.map fun h=>[AV.int .i64 h]).length:=by rw [ay]; exact i.symm
 have n:24=(j.map fun h=>[AV.int .i64 h]).length:=by rw [ay]; exact d.symm
 refine aM x8 Tryz.func61 ?_;intro F v w0 m0 hG m h1 kp
 repeat' first|refine aQ ?_|((conv=>whnf); first|refine ⟨fun h=>?_,fun h=>?_⟩|refine aj ?_)
 conv=>whnf
 refine ae _ (aa (hv) ?_)
 repeat' first|refine dz ?_|((conv=>whnf); first|refine ⟨fun h=>?_,fun h=>?_⟩|refine aj ?_)
 refine aI.seq ?_
 repeat' first|refine dz ?_|((conv=>whnf); first|refine ⟨fun h=>?_,fun h=>?_⟩|refine aj ?_)
 refine aI.seq ?_
 repeat' first|refine dz ?_|((conv=>whnf); first|refine ⟨fun h=>?_,fun h=>?_⟩|refine aj ?_)
 refine aI.seq ?_;refine ji hG af x8 3 aK ?_
 conv=>whnf
 refine ae _ (ae _ (ae _ (ae _ (aa (aa aK (aa aK (u))) ?_))));rintro r w ⟨b1,c1,p,c2,rfl,rfl⟩
 conv=>whnf
 refine iq 5004000 6 [bB f,iP p 24 c2] rfl rfl (aa (bw ⟨by rw [t],rfl⟩) (aa (aj rfl) trivial)) ?_;refine iq 5005000 6 [bB f,bB j] rfl rfl (aa (aj rfl) (aa (bw ⟨by rw [n]; rfl,rfl⟩) trivial)) ?_;refine bv ?_
 all_goals exact Ez
open Go Go.AI
set_option maxRecDepth 10000
def Ie (z:Int×Int) (p:Int×Int×Int):Int×Int:=(min z.1 (jO (p.1,p.2.1) p.2.2),max z.2 (jO (p.1,p.2.1) p.2.2))
def PY (o:Nat->Int) (a b k late:Int):Int×Int:=(Bp o a b k late).foldl Ie (90,-90)
def WH (x y:Int×Int):Int×Int:=(min x.1 y.1,max x.2 y.2)
def P3 (R:Int->Int×Int):List Int->Int×Int
 | []=>(0,0)
 | x::r=>r.foldl (fun z t=>WH z (R t)) (R x)
theorem PZ (R:Int->Int×Int) {p:List Int} (h:p≠[]) (x:Int):P3 R (p++[x])=WH (P3 R p) (R x):=by
 cases p with
 | nil=>exact absurd rfl h
 | cons y r=>simp [P3]
def p9 (o:Nat->Int) (a b k:Int):Int×Int:=P3 (PY o a b k) (iy (o 6))
theorem i00:(0:Int)<=0:=qp 0
theorem i02:(0:Int)<2:=by decide
theorem i01:(0:Int)<=1:=by decide
theorem i12:(1:Int)<2:=by decide
def uy (z:Int×Int):List AV:=[.int .i64 z.1,.int .i64 z.2]
theorem Nu (z:Int×Int):ar Tryz.prog 142 [.agg (uy z)] (.agg (uy z)):=by
 obtain ⟨x,y⟩:=z;refine aM G3 Tryz.func142 ?_;intro F b w0 m0 hG a h1 kp;refine bv ?_
 all_goals exact Ez
theorem Nv (z y:Int×Int):ar Tryz.prog 140 [.agg (uy z),.agg (uy y)] (.agg (uy (WH z y))):=by
 obtain ⟨d,z2⟩:=z;obtain ⟨c,e⟩:=y;refine aM G4 Tryz.func140 ?_;intro F b w0 m0 hG a h1 kp
 repeat' first|refine aQ ?_|((conv=>whnf); first|refine aa i00 (aa i02 ?_)|refine aa i01 (aa i12 ?_)|refine ⟨fun h=>?_,fun h=>?_⟩|refine aj ?_)
 all_goals exact Ez
set_option maxHeartbeats 8000000 in
theorem Nw (o:Nat->Int) (a b k late:Int) (h:rD o a b k late):ar Tryz.prog 137 [.int .i64 late,.ref (d7 o),.ref (cA a b),.ref [.int .i64 k]] (.agg (uy (PY o a b k late))):=by
 have c:=sU o a b k late h;have j:=h.rng;have z:=h.a0;have B:=h.b1;unfold PY;generalize Bp o a b k late=items at *;refine ar.ofB af Tryz.func137 rfl aK bj (ah rfl) ?_;intro F E w0 m0 hG y h1
 repeat' first|refine QE [] rfl hG af (.mk:KP mD) ?_|((conv=>whnf); first|refine cZ ?_|refine cY ?_|refine ed ?_|refine ae _ (aa (AL o a b k late) ?_)|refine aa (fun h=>?_) (fun h=>?_)|refine aj ?_)
 refine ⟨kk hG (bH bt h1) (α:=Int×Int×Int) sh3 (f:=204) (cap:=[.ref (cA a b),.ref (d7 o),.ref [.int .i64 late],.ref [.int .i64 k]]) (items:=items) rfl c (fun _=>rfl)
  (fun _=>[(5,.loc 5 0),(6,.loc 6 0)]) [5,6] (fun _=>rfl) (fun p=>[(6,uy (p.foldl Ie (90,-90))),(5,[.int .i64 0,.int .i64 0])]) (St.le.of ?_ ?_) aK bt ?_ ?_⟩
 ·exact RF
 ·exact RF
 ·intro G u m' i _ _ pre x rest hx;clear hG;have hG:=i;obtain ⟨n,l,r,e,q,m⟩:=j x (by rw [hx]; simp);have d:(pre++[x]).foldl Ie (90,-90)=Ie (pre.foldl Ie (90,-90)) x:=by rw [cJ]; rfl
  generalize pre.foldl Ie (90,-90)=v at *;obtain ⟨t,D,w⟩:=x;obtain ⟨H,z2⟩:=v;dsimp only [Ie] at n l r e q m d;have A:=Lw (t,D) w (by simp [cT]; omega) (by simp [kE,cT]; omega);refine aI.out (aI.reg hG af mD aK ?_)
  conv=>whnf
  refine aa rfl (aa (LE) ?_);refine aI.out ?_
  repeat' first|refine QE [] rfl hG af (.mk:KP mD) ?_|((conv=>whnf); first|refine cZ ?_|refine cY ?_|refine ed ?_|refine ae _ (aa (A) ?_)|refine aa i00 (aa i02 ?_)|refine aa i01 (aa i12 ?_)|refine aa (fun h=>?_) (fun h=>?_)|refine aj ?_)
  refine St.le.of ?_ ?_
  ·exact RF
  ·dsimp only;rw [d];exact RF
 ·conv=>whnf
  repeat' first|refine QE [] rfl hG af (.mk:KP mD) ?_|((conv=>whnf); first|refine cZ ?_|refine cY ?_|refine ed ?_|refine aa (fun h=>?_) (fun h=>?_)|refine aj ?_)
  exact Ez
set_option maxHeartbeats 8000000 in
theorem HD (o:Nat->Int) (a b k:Int) (y:0<=o 6) (h:∀ late,-(o 6)<=late->late<=o 6->rD o a b k late):ar Tryz.prog 141 [.agg (d7 o),.clo 137 (X0 o a b k),.fn 142,.fn 140] (.agg (uy (p9 o a b k))):=by
 have r:o 6<=10:=(h (-(o 6)) am am).s1;have i:=rx o y r
 have e:∀ pre x rest,iy (o 6)=pre++x::rest->x = -(o 6)+(pre.length:Int)/\-(o 6)<=x/\x<=o 6:=fun pre x rest hx=>by
  have hl:pre.length<(2*o 6+1).toNat:=by
   have:=ax List.length hx;rw [mH] at this; simp at this; omega
  have:=wJ (o 6) hl;rw [hx,bM (ba _),Nat.sub_self] at this;simp at this;omega
 have m:=fun late (g1:-(o 6)<=late) (g2:late<=o 6)=>Nw o a b k late (h late g1 g2);unfold p9;generalize PY o a b k=R at *;generalize L7:iy (o 6)=items at *;refine ar.ofB af Tryz.func141 rfl aK bj (ah rfl) ?_;intro F A w0 m0 hG z h1
 repeat' first|refine QE [] rfl hG af (.mk:KP kN) ?_|((conv=>whnf); first|refine cZ ?_|refine cY ?_|refine ed ?_|refine ae _ (aa (yk o) ?_)|refine aa (fun h=>?_) (fun h=>?_)|refine aj ?_)
 refine ⟨kk hG (bH bt h1) (α:=Int) TX (f:=266) (cap:=[.ref (d7 o)]) (items:=items) rfl i (fun _=>rfl)
  (fun _=>[(9,.loc 9 0),(8,.loc 8 0),(4,.loc 4 0),(5,.loc 5 0),(6,.loc 6 0),(7,.loc 7 0)]) [9,8,4,5,6,7] (fun _=>rfl) (fun p=>[(9,uy (P3 R p)),(8,[.int .i64 0,.int .i64 0]),(4,d7 o),(5,[.clo 137 (X0 o a b k)]),(6,[.fn 142]),(7,[.fn 140])]) (St.le.of ?_ ?_) aK bt ?_ ?_⟩
 ·exact RF
 ·exact RF
 ·intro B w m' t _ _ pre x rest hx;clear hG;have hG:=t;obtain ⟨j,l,n⟩:=e pre x rest hx;have c1:=m x l n;refine aI.out (aI.reg hG af kN aK ?_)
  conv=>whnf
  refine aa rfl (aa (LE) ?_);refine aI.out ?_;have u:IntKind.i64.wrap (0 - o 6) = -(o 6):=(a6 am am).trans am;by_cases c:pre=[]
  ·subst c;have q:(x==IntKind.i64.wrap (0 - o 6))=true:=by rw [u]; simp at j; simp [j]
   have d:(x==IntKind.i64.wrap (0 - o 6))=false->False:=fun h=>by rw [q] at h; cases h
   repeat' first|exact (d a8).elim|refine QE [] rfl hG af (.mk:KP kN) ?_|((conv=>whnf); first|refine cZ ?_|refine cY ?_|refine ed ?_|refine ae _ (aa (c1) ?_)|refine ae _ (aa (Nu _) ?_)|refine aa (fun h=>?_) (fun h=>?_)|refine aj ?_)
   refine LE
  ·have d:(x==IntKind.i64.wrap (0 - o 6))=true->False:=fun h=>by
    rw [u] at h;have h1:=eq_of_beq h;have h2:=sc.2 c;omega
   have v:=PZ R c x
   repeat' first|exact (d a8).elim|refine QE [] rfl hG af (.mk:KP kN) ?_|((conv=>whnf); first|refine cZ ?_|refine cY ?_|refine ed ?_|refine ae _ (aa (c1) ?_)|refine ae _ (aa (Nv (P3 R pre) (R x)) ?_)|refine aa (fun h=>?_) (fun h=>?_)|refine aj ?_)
   refine St.le.of ?_ ?_
   ·exact RF
   ·dsimp only;rw [v];exact RF
 ·conv=>whnf
  repeat' first|refine QE [] rfl hG af (.mk:KP kN) ?_|((conv=>whnf); first|refine cZ ?_|refine cY ?_|refine ed ?_|refine aa (fun h=>?_) (fun h=>?_)|refine aj ?_)
  exact Ez
set_option maxHeartbeats 8000000 in
theorem Rq (o:Nat->Int) (a b k:Int) (h:eG o a b k=true):ar Tryz.prog 62 [.agg (d7 o),.agg (cA a b),.int .i64 k] (.tup [.int .i64 (p9 o a b k).1,.int .i64 (p9 o a b k).2,.int .i64 0]):=by
 have pv:=((iY o).1 (by simp only [eG,al] at h; exact h.1.1));have d:=HD o a b k pv.s1 (fun late h1 h2=>rD.of h h1 h2);have hv:=r7 o a b k;rw [h] at hv;generalize p9 o a b k=P at *;refine aM KH Tryz.func62 ?_;intro F e w0 m0 hG c h1 kp
 repeat' first|refine aQ ?_|((conv=>whnf); first|refine ae _ (aa (hv) ?_)|refine ae _ (aa (d) ?_)|refine aa i00 (aa i02 ?_)|refine aa i01 (aa i12 ?_)|refine ⟨fun h=>?_,fun h=>?_⟩|refine aj ?_)
 all_goals exact Ez
open Go Go.AI
set_option maxRecDepth 10000
structure jl where
 kind:Int
 at':Int
 img:Int
 rows:List Int
 sun:Int
 look:Int
 clear:Bool
deriving DecidableEq,Inhabited
def pm (e:jl):List AV:=[.int .i64 e.kind,.int .i64 e.at',.int .i64 e.img,bB e.rows,.int .i64 e.sun,.int .i64 e.look,.bool e.clear]
def mv (l:List jl):AV := .sl .no 7 (l.map pm)
def lG (e f:jl):Int:=O2 [gT e.at' f.at',gT e.kind f.kind,gT e.img f.img]
theorem ij (x:Int) (b:0<=x) (h1:x<=18446744073709551615):ar Tryz.prog 144 [.int .u64 x] (.int .i64 (Lib.bitLen x.toNat)):=by
 refine ⟨YV Tryz.func144 aK rfl,fun m w vs c d hl a=>?_⟩
 obtain ⟨v,rfl⟩:∃ v,vs=[v]:=by
  match vs,hl with
  | [v],_=>exact ⟨v,rfl⟩
 have hv:v = .int .u64 x:=by
  have:=a 0 _ v rfl rfl;cases this; rfl
 subst hv;refine (Any.bits_Len { Dg with } x w b h1).mono ?_;rintro e w' ⟨rfl,rfl⟩;exact ⟨_,m,rfl,.int _ _,.refl m,c,.refl _ _,⟨fun _ _ _ h => .inl h,fun _ _ h => .inl h⟩,.refl _⟩
theorem Oe (e f:jl):ar Tryz.prog 64 [.agg (pm e),.agg (pm f)] (.int .i64 (lG e f)):=by
 refine aM KF Tryz.func64 ?_;intro F b w0 m0 hG a h1 kp
 repeat' first|refine aQ ?_|((conv=>whnf); first|refine ae _ (aa (nj _ _) ?_)|refine ae _ (aa (rA [gT e.at' f.at',gT e.kind f.kind,gT e.img f.img] (ah rfl)) ?_)|refine ⟨fun h=>?_,fun h=>?_⟩|refine aj ?_)
 all_goals exact Ez
theorem Ll (e f:jl):ar Tryz.prog 25 [.agg (pm e),.agg (pm f)] (.int .i64 (lG e f)):=by
 refine aM K2 Tryz.func25 ?_;intro F b w0 m0 hG a h1 kp
 repeat' first|refine aQ ?_|((conv=>whnf); first|refine ae _ (aa (nj _ _) ?_)|refine ae _ (aa (rA [gT e.at' f.at',gT e.kind f.kind,gT e.img f.img] (ah rfl)) ?_)|refine ⟨fun h=>?_,fun h=>?_⟩|refine aj ?_)
 all_goals exact Ez
def zq (l:List jl) (j:Nat):List jl:=(l.set (j+1) (l.getD j default)).set j (l.getD (j+1) default)
def uh:Nat->List jl->List jl
 | 0,l=>l
 | j+1,l=>if lG (l.getD (j+1) default) (l.getD j default)<0 then uh j (zq l j) else l
def jH:Nat->List jl->List jl
 | 0,l=>l
 | n+1,l=>uh n (jH n l)
theorem Cr (l:List jl) (j:Nat):(zq l j).length=l.length:=by simp [zq]
theorem CA:∀ (j:Nat) (l:List jl),(uh j l).length=l.length
 | 0,_=>rfl
 | j+1,l=>by
  unfold uh;split
  ·rw [CA j,Cr]
  ·rfl
theorem uK:∀ (n:Nat) (l:List jl),(jH n l).length=l.length
 | 0,_=>rfl
 | n+1,l=>by rw [jH,CA,uK n]
def lU (l:List jl):List (List AV):=l.map pm
theorem o3 (p:jl):∀ (l:List jl) (j:Nat),dB (lU l) j (pm p)=lU (l.set j p)
 | [],j=>by cases j <;> rfl
 | x::r,0=>rfl
 | x::r,j+1=>by
  have a:=o3 p r j;simp only [lU,cp,dB,On] at a ⊢;rw [a]
theorem DG {l:List jl} {j:Nat} (h:j<l.length):(lU l)[(j:Int).toNat]?=some (pm (l.getD j default)):=by
 simp [lU,ai h]
set_option maxHeartbeats 8000000 in
theorem BS (l:List jl) (n:Nat) (hl:l.length=n) (v:1<=n) (M:n<=1000):bW Tryz.prog 211 [7000000] [] [.me .sl 7000000 n [],.int .i64 0,.int .i64 n,.fn 64] [(7000000,.me .arr 7000000 7 (lU l))] (.tup []) [(7000000,.me .arr 7000000 7 (lU (jH n l)))]:=by
 refine lR.ofB af Tryz.func211 rfl aK bj (ah rfl) ?_;intro F L w0 m0 hG D h1;have kp:KP F6 := .mk;refine bv ?_;refine aI.loop (X:=Nat) (fun x=>⟨[(8,.int .i64 x),(0,.me .sl 7000000 n []),(1,.int .i64 0),(2,.int .i64 n),(3,.fn 64),(xk 7000000,.me .arr 7000000 7 (lU (jH x l)))],[]⟩) (fun x=>1<=x/\x<=n) (fun x=>n - x) 1 ⟨ba _,v⟩ (LE) (fun x hx=>?_)
 ·by_cases A:x<n
  ·have t:=dF (show (x:Int)<(n:Int) by omega);have J:IntKind.i64.wrap ((x:Int)+1)=((x+1:Nat):Int):=(a6 am am).trans am;refine bv ?_;refine aI.loop (X:=Nat×List jl) (fun y=>⟨[(9,.int .i64 y.1),(8,.int .i64 x),(0,.me .sl 7000000 n []),(1,.int .i64 0),(2,.int .i64 n),(3,.fn 64),(xk 7000000,.me .arr 7000000 7 (lU y.2))],[]⟩) (fun y=>y.1<=x/\y.2.length=n/\uh y.1 y.2=jH (x+1) l) (fun y=>y.1) (x,jH x l) ⟨ba _,by rw [uK,hl],rfl⟩ (LE) (fun y hy=>?_)
   ·obtain ⟨j,r⟩:=y;obtain ⟨hj,w,b⟩:=hy;simp only at hj w b;dsimp only;rcases j with _ | j
    ·have c:=dT (show ¬((0:Int)>0) by omega);have q:=dT (show ¬(((0:Nat):Int)>((0:Nat):Int)) by omega);have f:=dT (show ¬(((0:Nat):Int)>0) by omega);simp only [uh] at b
     repeat' first|exact (c a8).elim|exact (q a8).elim|exact (f a8).elim|refine aQ ?_|((conv=>whnf); first|refine ⟨fun h=>?_,fun h=>?_⟩|refine aj ?_)
     all_goals refine ae (x+1) (aa ⟨by omega,by omega⟩ (aa am (St.le.of ?_ ?_)))
     ·refine aa (ax some (bK am)) ?_
      repeat' (refine aa rfl ?_)
      exact aa (ax (fun z=>some (AV.me .arr 7000000 7 (lU z))) b) trivial
     ·exact RF
    ·have i:j+1<r.length:=by omega
     have u:(lU r)[((j+1:Nat):Int).toNat]?=some (pm (r.getD (j+1) default)):=DG i;have a:IntKind.i64.wrap (((j+1:Nat):Int) - 1)=((j:Nat):Int):=(a6 am am).trans am;have p:(lU r)[(IntKind.i64.wrap (((j+1:Nat):Int) - 1)).toNat]?=some (pm (r.getD j default)):=by rw [a]; exact DG am
     have G:(0:Int)<=((j+1:Nat):Int):=au _;have p1:((j+1:Nat):Int)<(n:Int):=by omega
     have B:(0:Int)<=IntKind.i64.wrap (((j+1:Nat):Int) - 1):=by rw [a]; exact au _
     have E:IntKind.i64.wrap (((j+1:Nat):Int) - 1)<(n:Int):=by rw [a]; omega
     have c:=dF (show ((j+1:Nat):Int)>0 by omega);have d:=Oe (r.getD (j+1) default) (r.getD j default)
     have H:dB (dB (lU r) ((j+1:Nat):Int).toNat (pm (r.getD j default))) (IntKind.i64.wrap (((j+1:Nat):Int) - 1)).toNat (pm (r.getD (j+1) default))=lU (zq r j):=by
      rw [a,du,du,o3,o3]; rfl
     have e:(dB (lU r) ((j+1:Nat):Int).toNat (pm (r.getD j default)))[(IntKind.i64.wrap (((j+1:Nat):Int) - 1)).toNat]?=some (pm (r.getD j default)):=by
      rw [a,du,du,o3];have:=DG (l:=r.set (j+1) (r.getD j default)) (j:=j) (by rw [Yq]; omega);rw [du] at this;rw [this];simp [aG,SF]
     simp only [uh] at b
     repeat' first|exact (c a8).elim|refine aQ ?_|((conv=>whnf); first|refine ae _ (aa (d) ?_)|refine aa G (aa p1 ?_)|refine aa B (aa E ?_)|refine ae _ (aa u ?_)|refine ae _ (aa p ?_)|refine ae _ (aa e ?_)|refine ⟨fun h=>?_,fun h=>?_⟩|refine aj ?_)
     ·refine ae (j,zq r j) (aa ⟨by omega,by rw [Cr]; exact w,?_⟩ (aa dc (St.le.of ?_ ?_)))
      ·have o:=(by assumption:decide (lG (r.getD (j+1) default) (r.getD j default)<0)=true);rw [aV (aF o)] at b;exact b
      ·refine aa (ax (fun z=>some (AV.int .i64 z)) a) ?_
       repeat' (refine aa rfl ?_)
       exact aa (ax (fun z=>some (AV.me .arr 7000000 7 z)) H) trivial
      ·exact RF
     ·have o:=(by assumption:decide (lG (r.getD (j+1) default) (r.getD j default)<0)=false);rw [aY (aR o)] at b;refine ae (x+1) (aa ⟨by omega,by omega⟩ (aa am (St.le.of ?_ ?_)))
      ·refine aa (ax some (bK am)) ?_
       repeat' (refine aa rfl ?_)
       exact aa (ax (fun z=>some (AV.me .arr 7000000 7 (lU z))) b) trivial
      ·exact RF
  ·have m:x=n:=by omega
   have t:=dT (show ¬((x:Int)<(n:Int)) by omega);subst m;refine bv ?_
   all_goals refine gj.mk (bw rfl) (ae _ (ae _ (aa (aa rfl rfl) (aa (aj (az rfl)) (aa aK aK)))))
set_option maxHeartbeats 8000000 in
theorem Rw (l:List jl) (n:Nat) (q:Int) (hl:l.length=n) (b:1<=n) (e:n<=12):bW Tryz.prog 143 [7000000] [] [.me .sl 7000000 n [],.int .i64 0,.int .i64 n,.int .i64 q,.fn 64] [(7000000,.me .arr 7000000 7 (lU l))] (.tup []) [(7000000,.me .arr 7000000 7 (lU (jH n l)))]:=by
 have c1:=BS l n hl b am
 have a:decide (IntKind.i64.wrap ((n:Int) - 0)<=12)=false->False:=fun h=>by
  have:=aR h;rw [show IntKind.i64.wrap ((n:Int) - 0)=n from (a6 am am).trans am] at this;omega
 generalize jH n l=f at *;refine lR.ofB af Tryz.func143 rfl aK bj (ah rfl) ?_;intro F d w0 m0 hG c h1;have kp:KP G2 := .mk
 repeat' first|refine QE [30] rfl hG af kp ?_|((conv=>whnf); first|refine cZ ?_|refine cY ?_|refine ed ?_|refine ⟨fun h=>?_,fun h=>?_⟩|refine aj ?_)
 refine aI.loop (X:=Unit) (fun _=>⟨[(11,.bool true),(10,.bool true),(0,.me .sl 7000000 n []),(1,.int .i64 0),(2,.int .i64 n),(3,.int .i64 q),(4,.fn 64),(xk 7000000,.me .arr 7000000 7 (lU l))],[]⟩) (fun _=>True) (fun _=>0) () trivial (LE) (fun x hx=>?_)
 ·skip
  repeat' first|exact (a a8).elim|refine QE [30] rfl hG af kp ?_|((conv=>whnf); first|refine cZ ?_|refine cY ?_|refine ed ?_|refine xE c1 ?_|refine ⟨fun h=>?_,fun h=>?_⟩|refine aj ?_)
  all_goals refine gj.mk (aj rfl) (ae _ (ae _ (aa (aa rfl rfl) (aa (aj (az rfl)) (aa aK aK)))))
theorem Nz (l:List jl) (n:Nat) (hl:l.length=n) (a:1<=n) (d:n<=12):bW Tryz.prog 63 [7000000] [] [.me .sl 7000000 n [],.fn 64] [(7000000,.me .arr 7000000 7 (lU l))] (.tup []) [(7000000,.me .arr 7000000 7 (lU (jH n l)))]:=by
 have f:IntKind.u64.wrap (n:Int)=n:=by simp [IntKind.wrap,IntKind.bits,IntKind.signed]; omega
 have b:=ij (IntKind.u64.wrap (n:Int)) am am;have c1:=fun q=>Rw l n q hl a d;generalize jH n l=i at *;refine lR.ofB af Tryz.func63 rfl aK bj (ah rfl) ?_;intro F e w0 m0 hG c h1;have kp:KP KG := .mk
 repeat' first|refine QE [13] rfl hG af kp ?_|((conv=>whnf); first|refine cZ ?_|refine cY ?_|refine ed ?_|refine ae _ (aa (b) ?_)|refine xE (c1 _) ?_|refine ⟨fun h=>?_,fun h=>?_⟩|refine aj ?_)
 all_goals refine gj.mk (bw rfl) (ae _ (ae _ (aa (aa rfl rfl) (aa (aj (az rfl)) (aa aK aK)))))
open Go Go.AI
set_option maxRecDepth 10000
def abH (x:ea):Int×Int:=(x.a,x.b)
def spL (s:dY) (id:Int) (l:List ea):List (Int×Int):=(l.filter fun x=>(passAt s.passes x.p.toNat).st==id).map abH
def Zc (s:dY) (id:Int) (l:List dZ):List (Int×Int):=l.flatMap fun o=>spL s id o.sl
theorem QZ {α:Type} {l:List α} {c:Nat} {x:α} {r:List α} (h:l.drop c=x::r):l[c]?=some x/\l.drop (c+1)=r/\c+1<=l.length:=by
 have h1:c<l.length:=by
  have:=ax List.length h;simp at this; omega
 rw [dy h1] at h;simp only [gG] at h;exact ⟨by rw [ai h1,h.1],h.2,h1⟩
theorem PB {α:Type} {l:List α} {i:Nat} (d:α) (h:i<l.length):l.drop i=l.getD i d::l.drop (i+1):=by
 rw [dy h,aG,ai h]; rfl
def slZ:ea:=⟨0,0,0⟩
open Go Go.AI
set_option maxRecDepth 10000
def mh (o:dZ):Int:=(o.sl.getD (o.sl.length - 1) ⟨0,0,0⟩).b
def O5 (s:dY) (i:Nat):Bool:=(iJ s.sats (s.opts.getD i de).sat).isSome&&(fK s.ords (s.opts.getD i de).ord).isSome&&(decide (i=0)||decide ((s.opts.getD (i - 1) de).id<(s.opts.getD i de).id))&&yy ((iJ s.sats (s.opts.getD i de).sat).getD jp) (s.opts.getD i de) s.passes
def O4 (s:dY) (i:Nat):Bool:=decide ((Eu ((s.opts.map dZ.sat).take (i+1)) (s.opts.getD i de).sat:Int)<=8)&&decide (s.a<=(s.opts.getD i de).a)&&decide (mh (s.opts.getD i de)<=s.b)&&decide ((s.opts.getD i de).cl<((ep ((fK s.ords (s.opts.getD i de).ord).getD jB).goal).length:Int))
def My (s:dY) (i:Nat):Bool:=O5 s i&&O4 s i
def Ni (s:dY) (i:Nat):Bool:=(fK s.ords (s.buns.getD i fA).ord).isSome&&cT ((s.buns.getD i fA).opts.length:Int) 1 6&&Bw s.opts.length (s.buns.getD i fA).opts && !((s.buns.getD i fA).opts.any fun j=>decide ((eR s.opts j).ord≠(s.buns.getD i fA).ord))
def tZ (s:dY):Bool:=decide (s.opts.length<=24)&&decide (s.buns.length<=12)&&kH s.opts (My s)&&kH s.buns (Ni s)
theorem WY (l:List (Int×Int)):lB l=gp false (l.map fun p=>([p.1],AV.int .i64 p.2)):=by simp [lB,gp,Iu,keyE]
theorem CZ (x y:Int):∀ l:List (Int×Int),mr [x] ((om x y l).map fun p=>([p.1],AV.int .i64 p.2))=some (.int .i64 y)
 | []=>by simp [om,mr]
 |(u,v)::r=>by
  simp only [om];split
  ·simp [mr]
  ·rename_i h;simp only [cp,mr];rw [aY (by simpa using h)];exact CZ x y r
theorem abU (l:List (Int×Int)):∀ p∈l.map (fun p=>([p.1],AV.int .i64 p.2)),p.1.length=1:=by
 intro p a;obtain ⟨q,_,rfl⟩:=bp.1 a;rfl
theorem Qj {l:List kQ} {i:Int} {q:kQ} (h:fK l i=some q):q∈l:=vU h
set_option maxHeartbeats 16000000 in
theorem Rp (b:Nat) (s:dY) (l:s.Right) (J:∀ x∈s.opts,x.sl.length<=1000000):ar Tryz.prog 50 [cK b s] (.bool (tZ s)):=by
 have hcl:=l.opts;have hcb:=l.buns;have hl1:((s.opts.map bL).length:Int)=s.opts.length:=by rw [ay]
 have hl2:((s.buns.map eO).length:Int)=s.buns.length:=by rw [ay]
 refine aM rr Tryz.func50 ?_;intro F n' w0 m0 hG hro h1 kp
 repeat' first|refine aQ ?_|((conv=>whnf); first|refine fun m=>?_|refine ⟨fun h=>?_,fun h=>?_⟩|refine aj ?_)
 ·refine Ends.mk (aj rfl) (az (ax AV.bool ?_));have:=aF ‹_›;rw [tZ,dR am]; rfl
 ·refine Ends.mk (aj rfl) (az (ax AV.bool ?_));have:=aF ‹decide (((s.buns.map eO).length:Int)>12)=true›;rw [tZ,dR (show ¬ s.buns.length<=12 by omega)]; simp
 have U:s.opts.length<=24:=by have:=aR ‹decide (((s.opts.map bL).length:Int)>24)=false›; omega
 have hn2:s.buns.length<=12:=by have:=aR ‹decide (((s.buns.map eO).length:Int)>12)=false›; omega
 refine jj [.tmp 1] ?_
 conv=>whnf
 refine aI.loop (X:=Nat) (fun x=>⟨[(38,.int .i64 x),(xk 31,.me .ents 31 m (lB (l9 (s.opts.map dZ.sat) x))),(37,.int .i64 (s.opts.map bL).length),(36,dl s.opts),(3,.lit (.map (some m))),(1,.ref [cK b s]),(2,.bool false)],[]⟩) (fun x=>x<=s.opts.length/\(List.range x).all (My s)=true) (fun x=>s.opts.length - x) 0 ⟨aZ _,rfl⟩ (St.le.of ?_ ?_) (fun x hx=>?_)
 ·exact RF
 ·repeat' (first | exact trivial | refine aa rfl ?_)
 ·rename Nat=>i
  obtain ⟨hi,r⟩:=hx;by_cases c:i<s.opts.length
  ·have f:decide ((i:Int)<((s.opts.map bL).length:Int))=false->False:=fun h=>by have:=aR h; simp at this; omega
   have hx:(s.opts.map bL)[(i:Int).toNat]?=some (bL (s.opts.getD i de)):=by simp [ai c]
   have Z:(i:Int)>0->IntKind.i64.wrap ((i:Int) - 1)=((i - 1:Nat):Int):=fun h=>(a6 am am).trans am;have N:decide ((i:Int)>0)=true->0<=IntKind.i64.wrap ((i:Int) - 1):=fun h=>by rw [Z (aF h)]; omega
   have hp:decide ((i:Int)>0)=true->(s.opts.map bL)[(IntKind.i64.wrap ((i:Int) - 1)).toNat]?=some (bL (s.opts.getD (i - 1) de)):=fun h=>by rw [Z (aF h)]; simp [ai (show i - 1<s.opts.length by omega)]
   have d:s.opts.getD i de∈s.opts:=by rw [aG,ai c]; exact bX c
   have Q:My s i=(O5 s i&&O4 s i):=rfl;have h1:O5 s i=((iJ s.sats (s.opts.getD i de).sat).isSome&&(fK s.ords (s.opts.getD i de).ord).isSome&&(decide (i=0)||decide ((s.opts.getD (i - 1) de).id<(s.opts.getD i de).id))&&yy ((iJ s.sats (s.opts.getD i de).sat).getD jp) (s.opts.getD i de) s.passes):=rfl;have h2:O4 s i=(decide ((Eu ((s.opts.map dZ.sat).take (i+1)) (s.opts.getD i de).sat:Int)<=8)&&decide (s.a<=(s.opts.getD i de).a)&&decide (mh (s.opts.getD i de)<=s.b)&&decide ((s.opts.getD i de).cl<((ep ((fK s.ords (s.opts.getD i de).ord).getD jB).goal).length:Int))):=rfl;have hdi:(s.opts.map dZ.sat).getD i 0=(s.opts.getD i de).sat:=by simp [ai c]
   have hdl:i<(s.opts.map dZ.sat).length:=by simpa using c
   have p:=xW hdl;have hgi:=pr (s.opts.map dZ.sat) (s.opts.getD i de).sat i am;have H:=pr (s.opts.map dZ.sat) (s.opts.getD i de).sat (i+1) am;have P:=UI ((s.opts.map dZ.sat).take i) (s.opts.getD i de).sat;rw [di] at P;rw [hdi] at p;generalize s.opts.getD (i - 1) de=v at hp h1;generalize s.opts.getD i de=o at *;have w:IntKind.i64.wrap (ms (l9 (s.opts.map dZ.sat) i) o.sat+1)=ms (l9 (s.opts.map dZ.sat) i) o.sat+1:=a6 am am;have n:=WY (om o.sat (IntKind.i64.wrap (ms (l9 (s.opts.map dZ.sat) i) o.sat+1)) (l9 (s.opts.map dZ.sat) i));have y:IntKind.i64.wrap (ms (l9 (s.opts.map dZ.sat) i) o.sat+1)=(Eu ((s.opts.map dZ.sat).take (i+1)) o.sat:Int):=by rw [w,<- H,p,wT,aV rfl]
   have c1:=n9 b s l.toSmall o.sat;have c2:=iC b s l.toSmall o.ord;have L:=J3 ((iJ s.sats o.sat).getD jp) o s.passes (J o d) l.passes
   have D:yy ((iJ s.sats o.sat).getD jp) o s.passes=true->1<=o.sl.length/\o.sl.length<=6:=fun h=>by
    simp only [yy,jI,cT,al,aO] at h;omega
   have A:(!yy ((iJ s.sats o.sat).getD jp) o s.passes)=false->IntKind.i64.wrap (((o.sl.map dA).length:Int) - 1)=((o.sl.length - 1:Nat):Int):=fun h=>by
    have:=D (by simpa using h);rw [ay]; exact (a6 am am).trans am
   have G:(!yy ((iJ s.sats o.sat).getD jp) o s.passes)=false->0<=IntKind.i64.wrap (((o.sl.map dA).length:Int) - 1):=fun h=>by rw [A h]; omega
   have B:(!yy ((iJ s.sats o.sat).getD jp) o s.passes)=false->(o.sl.map dA)[(IntKind.i64.wrap (((o.sl.map dA).length:Int) - 1)).toNat]?=some (dA (o.sl.getD (o.sl.length - 1) ⟨0,0,0⟩)):=fun h=>by
    rw [A h];have:=D (by simpa using h);simp [ai (show o.sl.length - 1<o.sl.length by omega)]
   have hle:mh o=(o.sl.getD (o.sl.length - 1) ⟨0,0,0⟩).b:=rfl;generalize o.sl.getD (o.sl.length - 1) ⟨0,0,0⟩=e at B hle
   have c4:(!(fK s.ords o.ord).isSome)=false->ar Tryz.prog 59 [.agg (dp ((fK s.ords o.ord).getD jB).goal)] (.sl .no 12 ((ep ((fK s.ords o.ord).getD jB).goal).map gQ)):=fun h=>by
    cases hq:fK s.ords o.ord with
    | none=>rw [hq] at h; cases h
    | some q=>exact AM q.goal (l.goals q (Qj hq))
   repeat' first|exact (f a8).elim|refine aI.seq ?_|refine aI.block ?_|refine oJ hG af rr aK ?_|refine nl hG af (M:=fun t=>t=162) gE rr aK ?_|refine aI.skip hG af ?_|refine aI.label hG af ?_|refine aI.ret hG af ?_|refine aI.exit hG af ?_|refine cc rfl ?_|refine ce rfl ?_|refine aI.cond rfl (aa (fun h=>?_) (fun h=>?_))|((conv=>whnf); first|refine cZ ?_|refine cY ?_|refine ed ?_|refine aa (au i) (ae _ (aa hx ?_))|refine aa (N a8) (ae _ (aa (hp a8) ?_))|refine aa (G a8) (ae _ (aa (B a8) ?_))|refine aa (show (162:Nat)=162 from rfl) ?_|refine ae 31 (ae _ (aa rfl ?_))|refine ae 31 (ae _ (ae [o.sat] (ae _ (aa (aa (ax (fun z=>some (AV.me .ents 31 m z)) n) (aa rfl (aa rfl (aa (abU _) (CZ _ _ _))))) ?_))))|refine ae _ (aa (c1) ?_)|refine ae _ (aa (c2) ?_)|refine ae _ (aa (L) ?_)|refine ae _ (aa (c4 a8) ?_)|refine aa (fun h=>?_) (fun h=>?_)|refine aj ?_)
   all_goals (clear hG hx Z N hp d c1 c2 L c4 D A G B hgi H P)
   all_goals (try (conv=>whnf))
   all_goals first
    |(refine Ends.mk (aj rfl) (az (ax AV.bool ?_))
      have hf:kH s.opts (My s)=false:=lJ c (by rw [Q,h1,h2,<- y,hle]; clear Q h1 h2 y hle p n w r l J; simp only [ay] at *; grind);simp only [tZ,hf,bE,bN])
    | skip
   all_goals (refine ae (i+1) (aa ?_ (aa am (St.le.of ?_ ?_))))
   all_goals first
    |(refine aa (ax some (bK am)) (aa (ax (fun z=>some (AV.me .ents 31 m (lB z))) (by rw [w]; exact p.symm)) ?_)
      repeat' (first | exact trivial | refine aa rfl ?_))
    |((repeat' (first | exact trivial | refine aa rfl ?_)); done)
    |(exact ⟨c,by rw [lI,r,Q,h1,h2,<- y,hle]; clear Q h1 h2 y hle p n w r l J; simp only [ay] at *; grind⟩)
  ·have f:decide ((i:Int)<((s.opts.map bL).length:Int))=true->False:=fun h=>by have:=aF h; simp at this; omega
   have hO:kH s.opts (My s)=true:=nh hi c r
   repeat' first|exact (f a8).elim|refine aQ ?_|((conv=>whnf); first|refine ⟨fun h=>?_,fun h=>?_⟩|refine aj ?_)
   refine aI.loop (X:=Nat) (fun x=>⟨[(150,.int .i64 x),(149,.int .i64 (s.buns.map eO).length),(148,vf s.buns),(1,.ref [cK b s]),(2,.bool false)],[]⟩) (fun x=>x<=s.buns.length/\(List.range x).all (Ni s)=true) (fun x=>s.buns.length - x) 0 ⟨aZ _,rfl⟩ (St.le.of ?_ ?_) (fun x hx=>?_)
   ·exact RF
   ·repeat' (first | exact trivial | refine aa rfl ?_)
   ·rename Nat=>i
    obtain ⟨hi,r⟩:=hx;by_cases c:i<s.buns.length
    ·have f:decide ((i:Int)<((s.buns.map eO).length:Int))=false->False:=fun h=>by have:=aR h; simp at this; omega
     have hx:(s.buns.map eO)[(i:Int).toNat]?=some (eO (s.buns.getD i fA)):=by simp [ai c]
     have d:s.buns.getD i fA∈s.buns:=by rw [aG,ai c]; exact bX c
     have h1:Ni s i=((fK s.ords (s.buns.getD i fA).ord).isSome&&cT ((s.buns.getD i fA).opts.length:Int) 1 6&&Bw s.opts.length (s.buns.getD i fA).opts && !((s.buns.getD i fA).opts.any fun j=>decide ((eR s.opts j).ord≠(s.buns.getD i fA).ord))):=rfl;generalize s.buns.getD i fA=u at *;have E:=l.bopts u d;have c1:=iC b s l.toSmall u.ord;have c2:=nR u.opts s.opts.length E hcl;rw [<- hl1] at c2
     have L:(!Bw s.opts.length u.opts)=false->ar Tryz.prog 114 [bB u.opts,.clo 116 [.ref [cK b s],.ref (eO u)]] (.bool (u.opts.any fun j=>decide ((eR s.opts j).ord≠u.ord))):=fun h=>
      rB u.opts (fun j=>decide ((eR s.opts j).ord≠u.ord)) 116 _ _ (aj rfl) E fun j hj=>by
       have:=Tx (by simpa using h) hj;exact BN b s u j this.1 this.2
     repeat' first|exact (f a8).elim|refine aQ ?_|((conv=>whnf); first|refine aa (au i) (ae _ (aa hx ?_))|refine ae _ (aa (c1) ?_)|refine ae _ (aa (c2) ?_)|refine ae _ (aa (L a8) ?_)|refine ae _ (aa (ni _ _ _) ?_)|refine ⟨fun h=>?_,fun h=>?_⟩|refine aj ?_)
     all_goals (clear hG hx d c1 c2 L E)
     all_goals (try (conv=>whnf))
     all_goals first
      |(refine Ends.mk (aj rfl) (az (ax AV.bool ?_))
        have hf:kH s.buns (Ni s)=false:=lJ c (by rw [h1]; clear h1 r l J; simp only [ay] at *; grind);simp only [tZ,hf,bN])
      | skip
     all_goals (refine ae (i+1) (aa ?_ (aa am (St.le.of ?_ ?_))))
     all_goals first
      |(refine aa (ax some (bK am)) ?_
        repeat' (first | exact trivial | refine aa rfl ?_))
      |((repeat' (first | exact trivial | refine aa rfl ?_)); done)
      |(exact ⟨c,by rw [lI,r,h1]; clear h1 r l J; simp only [ay] at *; grind⟩)
    ·have f:decide ((i:Int)<((s.buns.map eO).length:Int))=true->False:=fun h=>by have:=aF h; simp at this; omega
     have hB:kH s.buns (Ni s)=true:=nh hi c r
     repeat' first|exact (f a8).elim|refine aQ ?_|((conv=>whnf); first|refine ⟨fun h=>?_,fun h=>?_⟩|refine aj ?_)
     all_goals refine Ends.mk (aj rfl) (az (ax AV.bool ?_))
     all_goals (rw [tZ,hO,hB,bP U,bP hn2]; rfl)
open Go Go.AI
set_option maxRecDepth 10000
structure dY.Fit (s:dY):Prop extends s.Right where
 sl:∀ x∈s.opts,x.sl.length<=1000000
def su (s:dY):Bool:=To s&&oU s&&tZ s
theorem gU (s:dY) (a:s.Fit):ar Tryz.prog 14 [.agg (gC s)] (.bool (su s)):=by
 refine aM rv Tryz.func14 ?_;intro F d w0 m0 hG c h1 kp;refine aI.seq ?_;refine aI.reg hG af rv aK ?_
 conv=>whnf
 refine aI.seq ?_;refine aI.reg hG af rv aK ?_
 conv=>whnf
 refine aI.pin 6 5000011 rfl rfl rfl (fun b=>?_)
 conv=>whnf
 repeat' first|refine aQ ?_|((conv=>whnf); first|refine ae _ (aa (Va b s a.toSmall) ?_)|refine ae _ (aa (JI b s a.toRight) ?_)|refine ae _ (aa (Rp b s a.toRight a.sl) ?_)|refine ⟨fun h=>?_,fun h=>?_⟩|refine aj ?_)
 all_goals refine Eb ?_
 all_goals (clear hG; simp_all [su])
open Go Go.AI
set_option maxRecDepth 10000
def kU (s:dY) (l:List Int):List dZ:=l.map (eR s.opts)
set_option maxHeartbeats 4000000 in
theorem kg (b:Nat) (s:dY) (o:s.Small) (u:iu) (hu:u.opts.length<=1000000) (m:∀ j∈u.opts,0<=j/\j<s.opts.length):ar Tryz.prog 28 [cK b s,.agg (eO u),.lit .nilFunc] (dl (kU s u.opts)):=by
 refine aM yg Tryz.func28 ?_;intro F n w0 m0 hG f h1 kp;refine bv ?_;refine aI.loop (X:=Nat) (fun x=>⟨[(13,.int .i64 x),(12,.int .i64 (u.opts.map fun h=>[AV.int .i64 h]).length),(11,bB u.opts),(7,.sl (.id 7) 9 ((kU s (u.opts.take x)).map bL)),(0,cK b s),(2,.lit .nilFunc)],[]⟩) (fun x=>x<=u.opts.length) (fun x=>u.opts.length - x) 0 (aZ _) (LE) (fun x hx=>?_)
 ·rename Nat=>i
  have hi:=hx;by_cases a:i<u.opts.length
  ·have c:=dF (show (i:Int)<((u.opts.map fun h=>[AV.int .i64 h]).length:Int) by simp; omega);have hx:=rN a;have hm:=m (d4 u.opts i) (by rw [d4,aG,ai a]; exact bX a);have e:=hm.1;have hy:=zL hm.1 hm.2
   have d:(kU s (u.opts.take (i+1))).map bL=(kU s (u.opts.take i)).map bL++[bL (eR s.opts (d4 u.opts i))]:=by
    rw [oV a]; simp [kU,d4]
   have l:((kU s (u.opts.take i)).map bL).length<=1000000:=by simp [kU]; omega
   generalize d4 u.opts i=w at *;generalize eR s.opts w=y at *;generalize (kU s (u.opts.take i)).map bL=row at *
   repeat' first|exact (c a8).elim|refine aQ ?_|((conv=>whnf); first|refine aa (au i) (ae _ (aa hx ?_))|refine aa e (ae _ (aa hy ?_))|refine aa (show (row.length+1)*88<=70368744177664 by omega) (aa (show row.length+1<=4611686018427387904 by omega) ?_)|refine ⟨fun h=>?_,fun h=>?_⟩|refine aj ?_)
   conv=>whnf
   refine ae (i+1) (aa a (aa am (St.le.of ?_ ?_)))
   ·rw [d];refine aa (ax some (bK am)) ?_;exact RF
   ·exact RF
  ·have c:=dT (show ¬((i:Int)<((u.opts.map fun h=>[AV.int .i64 h]).length:Int)) by simp; omega);have he:kU s (u.opts.take i)=kU s u.opts:=by rw [bA am]
   rw [he];refine bv ?_
   all_goals exact Ends.mk (aj rfl) AV.weak.sl
open Go Go.AI
set_option maxRecDepth 10000
theorem AO (y:dZ) (id:Int):ar Tryz.prog 166 [.agg (bL y),.ref [.int .i64 id]] (.bool (decide (y.sat=id))):=dP GL Tryz.func166
theorem Kb (id:Int):ar Tryz.prog 84 [.int .i64 id] (.clo 166 [.ref [.int .i64 id]]):=dP Ks Tryz.func84
def qL (s:dY) (id:Int) (l:List Int):List dZ:=(kU s l).filter fun y=>decide (y.sat=id)
set_option maxHeartbeats 4000000 in
theorem je (b:Nat) (s:dY) (u:iu) (id:Int) (hu:u.opts.length<=1000000) (m:∀ j∈u.opts,0<=j/\j<s.opts.length):ar Tryz.prog 28 [cK b s,.agg (eO u),.clo 166 [.ref [.int .i64 id]]] (dl (qL s id u.opts)):=by
 refine aM yg Tryz.func28 ?_;intro F n w0 m0 hG l h1 kp;refine bv ?_;refine aI.loop (X:=Nat) (fun x=>⟨[(13,.int .i64 x),(12,.int .i64 (u.opts.map fun h=>[AV.int .i64 h]).length),(11,bB u.opts),(7,.sl (.id 7) 9 ((qL s id (u.opts.take x)).map bL)),(0,cK b s),(2,.clo 166 [.ref [.int .i64 id]])],[]⟩) (fun x=>x<=u.opts.length) (fun x=>u.opts.length - x) 0 (aZ _) (LE) (fun x hx=>?_)
 ·rename Nat=>i
  have hi:=hx;by_cases a:i<u.opts.length
  ·have d:=dF (show (i:Int)<((u.opts.map fun h=>[AV.int .i64 h]).length:Int) by simp; omega);have hx:=rN a;have hm:=m (d4 u.opts i) (by rw [d4,aG,ai a]; exact bX a);have f:=hm.1;have hy:=zL hm.1 hm.2
   have c:(qL s id (u.opts.take (i+1))).map bL=(qL s id (u.opts.take i)).map bL++(if (eR s.opts (d4 u.opts i)).sat=id then [bL (eR s.opts (d4 u.opts i))] else []):=by
    rw [oV a]; simp only [qL,kU,dw,tQ,cp,eZ,List.filter_cons,List.filter_nil,d4]
    congr 1
    split <;> simp_all
   have e:((qL s id (u.opts.take i)).map bL).length<=1000000:=by
    have:=kT (fun y:dZ=>decide (y.sat=id)) (kU s (u.opts.take i));simp only [qL,kU,ay,di] at *; omega
   generalize d4 u.opts i=w at *;generalize eR s.opts w=y at *;generalize (qL s id (u.opts.take i)).map bL=row at *
   repeat' first|exact (d a8).elim|refine aQ ?_|((conv=>whnf); first|refine aa (au i) (ae _ (aa hx ?_))|refine aa f (ae _ (aa hy ?_))|refine ae _ (aa (AO y id) ?_)|refine aa (show (row.length+1)*88<=70368744177664 by omega) (aa (show row.length+1<=4611686018427387904 by omega) ?_)|refine ⟨fun h=>?_,fun h=>?_⟩|refine aj ?_)
   all_goals (try (conv=>whnf))
   all_goals (refine ae (i+1) (aa a (aa am (St.le.of ?_ ?_))))
   all_goals (try rw [c])
   all_goals first
    |(rw [aV (aF ‹_›)]
      refine aa (ax some (bK am)) ?_
      repeat' (first | exact trivial | refine aa rfl ?_))
    |(rw [aY (aR ‹_›),bV]
      refine aa (ax some (bK am)) ?_
      repeat' (first | exact trivial | refine aa rfl ?_))
    |(repeat' (first | exact trivial | refine aa rfl ?_))
  ·have d:=dT (show ¬((i:Int)<((u.opts.map fun h=>[AV.int .i64 h]).length:Int)) by simp; omega);have he:qL s id (u.opts.take i)=qL s id u.opts:=by rw [bA am]
   rw [he];refine bv ?_
   all_goals exact Ends.mk (aj rfl) AV.weak.sl
open Go Go.AI
set_option maxRecDepth 10000
theorem tK (b:Nat) (s:dY) (l:List dZ) (id:Int):ar Tryz.prog 79 [cK b s,dl l,.int .i64 id] (.clo 162 [.ref [dl l],.ref [cK b s],.ref [.int .i64 id]]):=dP Kv Tryz.func79
open Go Go.AI
set_option maxRecDepth 10000
def nG (l:List Int):List Int:=Lib.compact (sortI l)
theorem wu (l:List Int):(sortI l).length=l.length:=by unfold sortI; rw [Cf]
theorem PP {q:Prop} (h:q:=by
 subst hn;have hsl:(sortI l).length<=1000000:=by rw [wu]; exact hl
 refine lR.ofB af Tryz.func29 rfl aK bj (ah rfl) ?_;intro F n' w0 m0 hG hro h1;refine aI.seq ?_;refine aI.reg hG af lM aK ?_
 conv=>whnf
 refine aI.seq ?_;refine xm hG af lM 1 aK ?_
 conv=>whnf
 refine aa rfl (ae _ (ae _ (aa (ro _ hl) (aa rfl (aa (oy _).symm ?_)))))
 conv=>whnf
 refine aI.seq ?_;refine xl hG af lM 1 aK ?_
 conv=>whnf
 refine ae _ (ae _ (aa (oa _ hsl) (aa rfl (aa (Ab _) ?_))));rintro r rows' rfl hr1 hr2
 conv=>whnf
 refine aI.ret hG af ?_;exact gj.mk (aj rfl) (ae _ (ae [] (aa (aa rfl rfl) (aa (aj (az (ax (fun z=>AV.sl .no 1 z) (oy _)))) (aa rfl rfl)))))):q:=h
theorem tM (l:List Int) (n:Nat) (hn:n=l.length) (hl:l.length<=1000000):lR Tryz.prog 29 [5000000] [] [.me .sl 5000000 n []] [(5000000,.me .arr 5000000 1 (l.map fun h=>[AV.int .i64 h]))] (fun r L=>r=bB (nG l)/\L=[]):=by
 exact PP
def aaK (t:Int) (x:Int×Int):Bool:=decide (x.1<=t)&&decide (t<x.2)
def Ts (s:dY) (l:List dZ) (id t:Int):Int:=(((Zc s id l).filter (aaK t)).length:Nat)
open Go Go.AI
set_option maxRecDepth 10000
def Xe (s:dY) (o:dZ):Int:=((fK s.ords o.ord).getD jB).own
theorem tL (b:Nat) (s:dY) (a:s.Small) (o:dZ):ar Tryz.prog 81 [cK b s,.agg (bL o)] (.int .i64 (Xe s o)):=by
 refine aM Kt Tryz.func81 ?_;intro F d w0 m0 hG c h1 kp
 repeat' first|refine aQ ?_|((conv=>whnf); first|refine ae _ (aa (iC b s a o.ord) ?_)|refine ⟨fun h=>?_,fun h=>?_⟩|refine aj ?_)
 all_goals exact Ez
def LP (b:Nat) (F:List Wl):List (Nat×AV):=[(5000011,.me .box 5000011 b [[.sl (.id 5004000) 4 (F.map lZ),.sl .full 0 []]])]
set_option maxHeartbeats 4000000 in
theorem vP (b:Nat) (s:dY) (G:List Wl) (i:G.length<=1000000) (kind x y at':Int):bW Tryz.prog 31 [5000011] [5004000] [cK b s,.int .i64 kind,.int .i64 x,.int .i64 y,.int .i64 at'] (LP b G) (.tup []) (LP b (G++[⟨kind,x,y,at'⟩])):=by
 have d:((G.map lZ).length+1)*32<=70368744177664:=by rw [ay]; omega
 have c:(G.map lZ).length+1<=4611686018427387904:=by rw [ay]; omega
 have a:(G++[(⟨kind,x,y,at'⟩:Wl)]).map lZ=G.map lZ++[[.int .i64 kind,.int .i64 x,.int .i64 y,.int .i64 at']]:=by simp [lZ]
 refine lR.ofB af Tryz.func31 rfl aK bj (ah rfl) ?_;intro F f w0 m0 hG e h1;have kp:KP KX := .mk
 repeat' first|refine aQ ?_|((conv=>whnf); first|refine aa d (aa c ?_)|refine ⟨fun h=>?_,fun h=>?_⟩|refine aj ?_)
 refine gj.mk (bw rfl) (ae (.tup []) (ae [(5000011,.me .box 5000011 b [[.sl (.id 5004000) 4 (G.map lZ++[[.int .i64 kind,.int .i64 x,.int .i64 y,.int .i64 at']]),.sl .full 0 []]])] (aa (aa rfl (by unfold LP; rw [a])) (aa (aj (az rfl)) (aa aK aK)))))
open Go Go.AI
set_option maxRecDepth 10000
theorem L0 {q:Prop} (h:q:=by
 have hne:l.map V3=[]->False:=fun h=>by
  have h2:(l.map V3).length=0:=by rw [h]; rfl
  rw [ay] at h2; omega
 have hlt:0<(l.map V3).length:=by rw [ay]; omega
 have hr1:(l.map V3).length*V0<=70368744177664:=by rw [ay]; omega
 have hr2:(l.map V3).length<=4611686018427387904:=by rw [ay]; omega
 refine lR.ofB af V1 rfl aK bj (ah rfl) ?_;intro F n' w0 m0 hG hro h1
 repeat' first|refine aI.seq ?_|refine aI.block ?_|refine dh hG af V2 [] aK ?_|refine nl hG af (M:=fun t=>t=162) gE V2 aK ?_|refine dJ hG af V2 [] aK ?_|refine aI.skip hG af ?_|refine aI.label hG af ?_|refine aI.exit hG af ?_|refine cc rfl ?_|refine ce rfl ?_|refine aI.cond rfl (aa (fun h=>?_) (fun h=>?_))|((conv=>whnf); first|refine cZ ?_|refine cY ?_|refine ed ?_|refine aa (fun h=>(hne h).elim) ?_|refine bw (aa rfl (aa hlt (aa hr1 (aa hr2 ?_))))|refine aa (fun h=>?_) (fun h=>?_)|refine aj ?_)
 refine gf 7 5006000 aK rfl ?_
 conv=>whnf
 refine aI.ret hG af ?_;exact gj.mk (aj rfl) (ae _ (ae _ (aa (aa (ax (fun z=>AV.me .sl 5006000 z []) (ay _)) rfl) (aa (bw (aa rfl aK)) (aa aK aK)))))):q:=h
theorem Lm (l:List dZ) (h1n:1<=l.length) (hn:l.length<=1000000):lR Tryz.prog 33 [5006000] [] [dl l] [] (fun r L'=>r = .me .sl 5006000 l.length []/\L'=[(5006000,.me .arr 5006000 9 (l.map bL))]):=by
 let V0:=88; have V1:=Tryz.func33; let V2:=ye; let V3:=@bL; exact L0
theorem LZ {q:Prop} (h:q:=by
 refine ar.ofB af V0 rfl aK bj (ah rfl) ?_;intro F n' w0 m0 hG hro h1
 repeat' first|refine aI.seq ?_|refine aI.block ?_|refine oJ hG af V1 aK ?_|refine nl hG af (M:=fun t=>t=162) gE V1 aK ?_|refine aI.reg hG af V1 aK ?_|refine aI.skip hG af ?_|refine aI.label hG af ?_|refine aI.ret hG af ?_|refine aI.exit hG af ?_|refine cc rfl ?_|refine ce rfl ?_|refine aI.cond rfl (aa (fun h=>?_) (fun h=>?_))|((conv=>whnf); first|refine cZ ?_|refine cY ?_|refine ed ?_|refine aa (ah rfl) (aa (ah rfl) ?_)|refine aa (fun _=>?_) ?_|refine aa (fun h=>?_) (fun h=>?_)|refine aj ?_)
 all_goals (first | exact Ez | (dsimp only; exact Ez) | (show AI.Ends _ _ _ _ _; exact Ez))):q:=h
theorem AW:ar Tryz.prog 33 [dl []] (dl []):=by
 have V0:=Tryz.func33; let V1:=ye; exact LZ
open Go Go.AI
set_option maxRecDepth 10000
theorem dG {α:Type} {l:List α} {i:Nat} (d:α) (h:i<l.length):l.take (i+1)=l.take i++[l.getD i d]:=by
 rw [eN,ai h,aG,ai h]; rfl
theorem cF {α:Type} {l:List α} {i:Nat} (d:α) (h:i<l.length):l.getD i d∈l:=by
 rw [aG,ai h]; exact bX h
theorem cQ {α β:Type} (f:α->β) {l:List α} {i:Nat} (d:α) (h:i<l.length):(l.map f)[(i:Int).toNat]?=some (f (l.getD i d)):=by
 simp [ai h]
open Go Go.AI
set_option maxRecDepth 10000
theorem Lx (l:List Int) (p:Int->Bool) (g:FuncId) (fv:AV) (cap:List AV) (hf:fv = .clo g cap\/(fv = .fn g/\cap=[])) (hl:l.length<=1000000)
  (hp:∀ x∈l,ar Tryz.prog g ((.int .i64 x)::cap) (.bool (p x))):ar Tryz.prog 188 [.sl .no 1 (l.map aaJ),fv] (.int .i64 (lV p l 0)):=by
 let E:=aaJ; let D:=0; let K:=vI; let N:=1; have f:=Tryz.func188; exact Wk
open Go Go.AI
set_option maxRecDepth 10000
theorem VE (n:Int):ar Tryz.prog 242 [.int .i64 n] (.bool (decide (n<0))):=dP FU Tryz.func242
theorem VL (s:Nat->Int) (l:List d6) (a b:Int) (hl:l.length<=1000000) (hv:mN s l a b=true):ar Tryz.prog 159 [.agg (bR s),i6 l,.agg (cA a b)] (.tup [.int .i64 (En s l a b),.int .i64 0]):=by
 have d:=VM s l a b hl hv;obtain ⟨e,f,j,o⟩:=Dq hv;have c:=Lx (jD (s 11) (jG s l a b)).2 (fun n=>decide (n<0)) 242 _ [] (bw ⟨rfl,rfl⟩) (by rw [tq,uC]; omega) (fun n _=>VE n);refine aM GQ Tryz.func159 ?_;intro F m w0 m0 hG i h1 kp
 repeat' first|refine aQ ?_|((conv=>whnf); first|refine ae _ (aa (d) ?_)|refine ae _ (aa (c) ?_)|refine ⟨fun h=>?_,fun h=>?_⟩|refine aj ?_)
 ·exact Ends.mk (aj rfl) (az (ax (fun z=>AV.tup [.int .i64 z,.int .i64 0]) (aV (aF a8)).symm))
 ·exact Ends.mk (aj rfl) (az (ax (fun z=>AV.tup [.int .i64 z,.int .i64 0]) (aY (aR a8)).symm))
end Go.Proofs
