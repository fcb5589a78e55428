/- Part 4 of the proof: an abstract interpreter for the code, contracts of the functions, and plain facts; the conditions are those typed. -/
import Derived.Test.YtapmehbkgihgaaaGreatDoorNC
import Derived.Shelf.SlLaysF0
import Derived.Tactics2
set_option linter.unusedSectionVars false
set_option linter.unusedVariables false
set_option linter.unusedSimpArgs false
namespace Go.AI
open Go
abbrev aK:=@List.getD_eq_getElem?_getD
theorem bA {a b:Prop} (h:b):a∨b:=Or.inr h
abbrev bJ:=@Bool.false_and
abbrev bP:=@Bool.and_false
abbrev cr:=@Bool.and_true
abbrev cv:=@List.mem_singleton
abbrev cV:=@List.foldl_append
abbrev c7:=@List.map_append
abbrev dS:=@Int.tdiv_eq_ediv_of_nonneg
abbrev e7:=@Int.tmod_lt_of_pos
abbrev ip:=@Int.tmod_eq_emod_of_nonneg
abbrev iq:=@Bool.not_eq_false'
abbrev l9:=@List.getElem?_range
abbrev mF:=@Int.tmod_nonneg
abbrev pS:=@List.not_mem_nil
abbrev qo:=@Int.le_of_sub_nonneg
abbrev tA:=@List.pairwise_cons
abbrev tB:=@Int.emod_lt_of_pos
abbrev AO:=@Go.Proofs.enters_of
abbrev AT:=@Int.emod_nonneg
abbrev Lv:=@List.map_take
abbrev Vw:=@Int.mul_le_mul_of_nonpos_right
abbrev Vx:=@Int.mul_le_mul_of_nonneg_right
abbrev Zd:=@Int.mul_nonneg
abbrev Ze:=@Int.mul_le_mul
abbrev aaH:=@false_iff
end Go.AI
namespace Go.Proofs
open Go Go.AI
open Go.RowKit (Below)
set_option maxRecDepth 10000
theorem wn {α:Type} [DecidableEq α]:∀ {p k:List α},p.Nodup->(∀ x∈p,x∈k)->p.length<=k.length
 | [],_,_,_=>aU _
 | x::p,k,b,a=>by
  obtain ⟨h1,h2⟩:=Xu.1 b;have hx:=a x a7;have:=wn (k:=k.erase x) h2 fun y hy=>(List.mem_erase_of_ne (fun e=>by subst e; exact h1 hy)).2 (a y (a6 _ hy));grind
theorem A7 {α:Type} [DecidableEq α]:∀ {p k:List α},p.Nodup->k.Nodup->(∀ x,x∈p↔x∈k)->p.Perm k:=fun a b h=>(List.perm_ext_iff_of_nodup a b).2 h
theorem Bp (l:List (List Int×AV)) (hl:∀ p∈l,p.1.length=2) :
  sR Tryz.prog (fun k:List Int=>#[d9 k]) 354 [.ref [.mapv (j6 l)]] (fun p x=>x∈l.map (·.1)/\x ∉ p/\p.length<l.length) (fun p=>p.Perm (l.map (·.1))):=by
 refine ⟨AO Tryz.func354 aI rfl,fun m lb hlen hr F n hfn hdep hal hro lp J Jx W hs L hab habx hyld hJ0=>?_⟩
 obtain ⟨pb,po,b,es,clock,hlb,hm1,hm2,D,hsz,B⟩:∃ pb po b es clock,lb=#[.pointer (some ⟨pb,po,none⟩)]/\m pb po=some (.map (some b))/\m.maps b=some (es,clock)/\li es clock/\l.length=es.size /\
   ∀ (i:Nat) (e:MapEntry),es[i]?=some e->∃ p,l[i]?=some p/\e.key=d9 p.1:=by
  have h1:lb.size=1:=by simpa using hlen.symm
  obtain ⟨v,hv⟩:∃ v,lb=#[v]:=Array.size_eq_one_iff.1 h1;subst hv;have h2:=hr 0 _ v rfl rfl
  cases h2 with
  | ref cs pb po z g hg hr'=>
   have h3:=hr' 0 _ rfl;have h4:=hg 0 _ rfl;generalize g 0=u at h3 h4
   cases h3 with
   | mapv xs b es clock hm hb hl' h2' hk hv=>
    refine ⟨pb,po,b,es,clock,rfl,by simpa using h4,hm,hb,by simpa [j6] using hl',fun i e he=>?_⟩
    have hi:i<l.length:=by
     have:=(aO.1 he).1;have:(j6 l).length=es.size:=hl';simp [j6] at this; omega
    exact ⟨l[i],ai hi,(hk i _ e _ (by simp [j6,hi]:(j6 l)[i]?=some [keyA l[i].1,l[i].2]) he rfl).keyA⟩
 subst hlb
 have hnd:(l.map (·.1)).Nodup:=by
  rw [List.Nodup,fO];intro i j hi hj hij z;simp only [az] at hi hj;simp only [List.getElem_map] at z;have hi':i<es.size:=by omega
  have hj':j<es.size:=by omega
  obtain ⟨p,p1,p2⟩:=B i _ (aE hi');obtain ⟨q,q1,q2⟩:=B j _ (aE hj')
  have:=D.2.2 i j _ _ (aE hi') (aE hj') (by
   rw [p2,q2];rw [ai hi] at p1;rw [ai hj] at q1;cases p1; cases q1;rw [z])
  omega
 have A:∀ e∈es.toList,∃ i,es[i]?=some e:=fun e he=>by
  obtain ⟨i,hi,rfl⟩:=cw he;exact ⟨i,by rw [<- cL]; exact ai hi⟩
 have hbl:∀ e∈es.toList,e.born<clock:=fun e he=>let ⟨i,hi⟩:=A e he; D.1 i e hi
 have hbu:∀ e∈es.toList,∀ f∈es.toList,f.born=e.born->f=e:=fun e he f hf h=>by
  obtain ⟨i,hi⟩:=A e he;obtain ⟨j,hj⟩:=A f hf;have:=D.2.1 j i f e hj hi h;subst this;rw [hi] at hj; cases hj; rfl
 have hkm:∀ e∈es.toList,∃ x,e.key=d9 x/\x∈l.map (·.1):=fun e he=>by
  obtain ⟨i,hi⟩:=A e he;obtain ⟨p,p1,p2⟩:=B i e hi;exact ⟨p.1,p2,Lf (aC p1)⟩
 -- what goes over the map
 obtain ⟨r,hrr⟩:∃ r,W.heap.size=r:=⟨_,rfl⟩
 let rel:Array Nat->List (List Int)->Prop:=fun seen p=>∀ e∈es.toList,∀ x,e.key=d9 x->(seen.contains e.born=true↔x∈p)
 let J2:List (List Int)×Option (List Int)->World->Prop:=fun q w=>J q.1 w/\∃ seen,w.heap[r]?=some (.mapIter (some b) clock seen clock) /\
  match q.2 with
  | none=>rel seen q.1
  | some x=>(x∈l.map (·.1)/\x ∉ q.1/\q.1.length<l.length)/\rel seen (q.1++[x])/\∃ e∈es.toList,e.key=d9 x/\seen.back?=some e.born
 let Y:YB (List (List Int)×Option (List Int)) (List Int):=⟨Tryz.prog,F,n,14,m,lp,J2,fun _=>Jx,fun q x=>q.2=some x,fun q x=>(q.1++[x],none),fun k=>#[d9 k],[(0,.lit (.func (.yield lp) #[] #[])),(5,.lit (.pointer (some ⟨r,0,none⟩)))]⟩
 have hY:Y.OK:=by
  refine ⟨fun W hgs=>⟨hfn,hdep,hal,bh,L,hgs⟩,hro,fun q W1 W2 h1 h2=>?_,fun _ W1 W2 h1 h2=>habx W1 W2 h1 h2.toI,fun q x W1 hq hJ hm=>?_⟩
  ·obtain ⟨g1,seen,g2,g3⟩:=h1;exact ⟨hab _ W1 W2 g1 h2.toI,seen,(h2.below.block _ (aO.1 g2).1).trans g2,g3⟩
  ·obtain ⟨g1,seen,g2,g3⟩:=hJ;have hq':q.2=some x:=hq;rw [hq'] at g3;obtain ⟨g3,g5,_⟩:=g3;obtain ⟨fn,tmps,asg,bd,q1,q2⟩:=hyld q.1 x W1 g3 g1 hm;refine ⟨fn,tmps,asg,bd,q1,q2.mono fun e W' h=>h.imp (fun ⟨h1,h2,h3,h4⟩=>⟨h1,⟨h2,seen,h4 _ _ g2 rfl,g5⟩,h3⟩) id⟩
 have hwb:∀ w,m.sub w->w.heap[b]?=some (.map es clock):=fun w h=>h.map b _ hm2
 have hrN:∀ (w:World) (d:Nat) (seen:Array Nat) (o:Obj),tS o->w.heap[r]?=some (.mapIter (some b) clock seen clock)->Lw W.heap.size w ((i7 w d).putObj r o):=fun w d seen o ho h=>
  ⟨rfl,rfl,rfl,(by simp [World.putObj,i7]),(fun c z hc2=>c9 (fun e=>by
   subst e;rcases hc2 with h1 | h1
   ·omega
   ·rw [h] at h1; cases h1)),⟨(by show w.drawn<=w.drawn+d; omega)⟩⟩
 have Z:∀ (w:World) (d:Nat) (seen:Array Nat) (o:Obj),m.sub w->w.heap[r]?=some (.mapIter (some b) clock seen clock)->m.sub ((i7 w d).putObj r o):=fun w d seen o h hr=>
  ⟨fun c q v hv=>by
   have h1:=h.cell c q v hv;simp only [World.cell?] at h1 ⊢;rw [c9 (fun e=>by subst e; rw [hr] at h1; cases h1)]; exact h1,
   fun c x hx=>by
   have h1:=h.map c x hx;rw [c9 (fun e=>by subst e; rw [hr] at h1; cases h1)]; exact h1⟩
 refine callsIn_of_wp Tryz.func354 rfl (hfn 354) ?_ hro;refine wpIn_seq (fP ?_);have hΓ:ce.OK ⟨Tryz.prog,F,n,W,m,14⟩:=⟨hfn,hdep,hal,bh,L,L.sub hs⟩
 -- the first region
 obtain ⟨a0,Q⟩:∃ a0:Act,a0={ tmps:=#[Value.func (.yield lp) #[] #[]]++#[Value.pointer (some ⟨pb,po,none⟩)]++Array.replicate (Tryz.f354.ntmps - (#[Value.func (.yield lp) #[] #[]]++#[Value.pointer (some ⟨pb,po,none⟩)]).size) Go.undef,defers:=[] }:=⟨_,rfl⟩;rw [<- Q];have hz0:a0.tmps.size=14:=by rw [Q]; simp [Tryz.ntmps354]
 have hd0:a0.defers=[]:=by rw [Q]
 have e00:a0.tmps.getD 0 Go.undef = .func (.yield lp) #[] #[]:=by rw [Q]; simp [aG]
 have e01:a0.eval (.tmp 1) = .pointer (some ⟨pb,po,none⟩):=by
  show a0.tmps.getD 1 Go.undef=_;rw [Q]; simp [aG,Array.getElem?_append]
 clear Q
 have hrun0:(load ⟨pb,po,none⟩).run Tryz.prog W = .ok (.map (some b)) W:=by
  have z:=hs.cell pb po _ hm1;simp [load,Sem.run,z]
 refine mQ (i:=0) (l:=[1]) (o:={ dst:=some 4,op := .load 375 (.tmp 1),type:=375,pos:=_,after:=_,guard:=none }) rfl rfl ?_;refine cT (Γ:=⟨Tryz.prog,F,n,W,m,14⟩) hΓ (fun c z=>by cases z) (v := .map (some b)) (w':=W) ?_ ?_
 ·simp only [execOp,e01,Instr.loadAt,Instr.sureAddr,loadVar,aD,aL,aw,Tryz.isAgg375,bv,cu,hrun0]
 have e04:(a0.put (some 4) (.map (some b))).eval (.tmp 4) = .map (some b):=by
  show (a0.put (some 4) (.map (some b))).tmps.getD 4 Go.undef=_;rw [fD _ _ _ _ ar,aX rfl]
 refine mQ (i:=1) (l:=[]) (o:={ dst:=some 5,op := .range 375 (.tmp 4),type:=0,pos:=_,after:=_,guard:=none }) rfl rfl ?_;refine cT (Γ:=⟨Tryz.prog,F,n,W,m,14⟩) hΓ (fun c z=>by cases z) (v := .pointer (some ⟨W.heap.size,0,none⟩)) (w':=W.alloc (.mapIter (some b) clock #[] clock)) ?_ ?_
 ·simp only [execOp,e04,aD,Go.AI.run_range_map Tryz.underlying375 (hwb W hs),aw,aL]
 simp only [wpOpsIn];obtain ⟨a1,ha1⟩:∃ a1:Act,a1=(a0.put (some 4) (.map (some b))).put (some 5) (.pointer (some ⟨W.heap.size,0,none⟩)):=⟨_,rfl⟩;show Code.wpIn _ _ _ _ _ ((a0.put (some 4) (.map (some b))).put (some 5) (.pointer (some ⟨W.heap.size,0,none⟩))) _;rw [<- ha1];have hG:Gr W (W.alloc (.mapIter (some b) clock #[] clock)):=⟨(aaB _ W).alloc (ba _) _,.alloc W (fun _ _ _ h=>nomatch h)⟩
 have U:m.sub (W.alloc (.mapIter (some b) clock #[] clock)):=⟨fun c q v hv=>by
   have h1:=hs.cell c q v hv
   have z:c<W.heap.size:=by
    unfold World.cell? at h1;split at h1
    ·exact (aO.1 ‹_›).1
    ·cases h1
   rw [lO _ _ _ (show (⟨c,q,none⟩:Addr).block<_ from z)]; exact h1,
   fun c x hx=>by
   have h1:=hs.map c x hx;exact (gD _ _ _ (aO.1 h1).1).trans h1⟩
 have hYI:YI Y (false,([],none)) ⟨Y.tm,[]⟩ a1 (W.alloc (.mapIter (some b) clock #[] clock)):=by
  have E:∀ (d:Nat) (x:AV),get Y.tm d=some x->RD m x (a1.tmps.getD d Go.undef):=fun d x hx=>by
   have hx:get [(0,AV.lit (.func (.yield lp) #[] #[])),(5,AV.lit (.pointer (some ⟨r,0,none⟩)))] d=some x:=hx;simp only [a8] at hx;rw [ha1,fD _ _ _ _ (by rw [fC]; omega)];split at hx
   ·rename_i hd;cases hx;subst hd;rw [aV ar,fD _ _ _ _ ar,aV ar,e00];exact .lit _ rfl rfl
   ·split at hx
    ·rename_i hd;cases hx;rw [aX hd,hrr];exact .lit _ rfl rfl
    ·cases hx
  refine rW (Y:=Y) ?_ U (by rw [ha1,fC,fC]; exact hz0) E (by rw [ha1,el,el]; exact hd0) E rfl (L.sub U);refine ⟨hab [] W _ hJ0 hG.toI,#[],by rw [<- hrr]; exact fq _ _,fun e he x hx=>?_⟩;simp
 -- the loop
 have hyp:YP Y (false,([],none)) ⟨Y.tm,[]⟩ (match Tryz.f354.body with | some (.seq _ c)=>c | _ => .skip) (fun e g' s'=>(e = .ret\/e = .normal)/\((∃ p,p.Perm (l.map (·.1))/\g'=(false,(p,none)))\/g'.1=true)):=by
  refine YP.block (YP.loop (X:=List (List Int)) (fun p=>((false,(p,none)),⟨Y.tm,[]⟩)) (fun p=>p.Nodup/\∀ x∈p,x∈l.map (·.1)) (fun p=>l.length - p.length) [] ⟨eP,by simp⟩ rfl (.refl _) (fun p hp=>?_));obtain ⟨hpn,hpk⟩:=hp;refine YP.seq (K1:=fun e g s=>e = .normal/\((g=(false,(p,none))/\s=⟨(7,.bool false)::Y.tm,[]⟩/\∀ x∈l.map (·.1),x∈p)\/∃ x,g=(false,(p,some x))/\s=⟨(7,.bool true)::Y.tm,[]⟩/\x∈l.map (·.1)/\x ∉ p)) ?_ ?_ ?_
  ·-- one step
   intro a w M;have hJ:=M.now hY;obtain ⟨gJ,seen,gr,G⟩:=hJ;have t:=M.sub;have hnt:a.tmps.size=14:=M.nt
   have e5:a.eval (.tmp 5) = .pointer (some ⟨r,0,none⟩):=by
    have h1:=M.tm 5 (.lit (.pointer (some ⟨r,0,none⟩))) rfl;show a.tmps.getD 5 Go.undef=_;generalize a.tmps.getD 5 Go.undef=u at h1;cases h1; rfl
   have E:∀ (v6 v7:Value) (d:Nat) (x:AV),get Y.tm d=some x->RD m x (((a.put (some 6) v6).put (some 7) v7).tmps.getD d Go.undef):=fun v6 v7 d x hx=>by
    have h1:=M.tm d x hx;have hx:get [(0,AV.lit (.func (.yield lp) #[] #[])),(5,AV.lit (.pointer (some ⟨r,0,none⟩)))] d=some x:=hx
    have hd:d=0\/d=5:=by
     simp only [a8] at hx;split at hx
     ·left; assumption
     ·split at hx
      ·right; assumption
      ·cases hx
    rw [fD _ _ _ _ (by rw [fC]; omega),aV ar,fD _ _ _ _ ar,aV ar];exact h1
   have htm7:∀ (v6:Value) (bo:Bool) (d:Nat) (x:AV),get ((7,AV.bool bo)::Y.tm) d=some x->RD m x (((a.put (some 6) v6).put (some 7) (.bool bo)).tmps.getD d Go.undef):=fun v6 bo d x hx=>by
    rw [a8] at hx;split at hx
    ·rename_i hd;cases hx;rw [fD _ _ _ _ (by rw [fC]; omega),aX hd];exact .bool bo
    ·exact E _ _ d x hx
   have e6:∀ v6:Value,(a.put (some 6) v6).eval (.tmp 6)=v6:=fun v6=>by
    show (a.put (some 6) v6).tmps.getD 6 Go.undef=_;rw [fD _ _ _ _ ar,aX rfl]
   refine fP ?_;refine mQ (i:=0) (l:=[1]) (o:={ dst:=some 6,op := .next (.tmp 5) false,type:=0,pos:=_,after:=_,guard:=none }) rfl rfl ?_;rcases Go.AI.run_next_map (P:=Tryz.prog) 0 gr (hwb w t) hbl with ⟨d,h1,h2⟩ | ⟨e,d,h1,h2,h3⟩
   ·refine cT (Γ:=⟨Tryz.prog,F,n,W,m,14⟩) hΓ (fun c z=>by cases z) (v := .tuple #[.bool false]) (w':=i7 w d) ?_ ?_
    ·simp only [execOp,e5,aD,h1,aw,aL]
    refine mQ (i:=1) (l:=[]) (o:={ dst:=some 7,op := .extract (.tmp 6) 0,type:=4,pos:=_,after:=_,guard:=none }) rfl rfl ?_;refine cT (Γ:=⟨Tryz.prog,F,n,W,m,14⟩) hΓ (fun c z=>by cases z) (v := .bool false) (w':=i7 w d) ?_ ?_
    ·simp only [execOp,e6,Instr.extract,aD,aL,aw];rfl
    simp only [wpOpsIn];refine ⟨(false,(p,none)),⟨(7,.bool false)::Y.tm,[]⟩,rW (Y:=Y) ?_ ⟨t.cell,t.map⟩ (by rw [fC,fC]; exact hnt) (E _ _) (by rw [el,el]; exact M.df) (htm7 _ _) rfl (L.sub ⟨t.cell,t.map⟩),(by trivial),.inl ⟨rfl,rfl,fun x hx=>?_⟩⟩
    ·exact ⟨hab p w _ gJ (Gr.toI ⟨⟨rfl,rfl,rfl,ba _,fun _ _=>rfl⟩,⟨Vs _ _⟩⟩),seen,gr,G⟩
    ·obtain ⟨q,hq,rfl⟩:=bp.1 hx;obtain ⟨i,hi,rfl⟩:=cw hq;have hi':i<es.size:=by omega
     obtain ⟨q',q1,q2⟩:=B i _ (aE hi');rw [ai hi] at q1;cases q1;have hme:es[i]∈es.toList:=by simp
     exact (G _ hme _ q2).1 (h2 _ hme)
   ·obtain ⟨x,H,N⟩:=hkm e h1
    have hxp:x ∉ p:=fun z=>by
     have:=(G e h1 x H).2 z;rw [h2] at this; cases this
    refine cT (Γ:=⟨Tryz.prog,F,n,W,m,14⟩) hΓ (fun c z=>by cases z) (v := .tuple #[.bool true,e.key,e.val]) (w':=(i7 w d).putObj r (.mapIter (some b) clock (seen.push e.born) clock)) ?_ ?_
    ·simp only [execOp,e5,aD,h3,aw,aL]
    refine mQ (i:=1) (l:=[]) (o:={ dst:=some 7,op := .extract (.tmp 6) 0,type:=4,pos:=_,after:=_,guard:=none }) rfl rfl ?_;refine cT (Γ:=⟨Tryz.prog,F,n,W,m,14⟩) hΓ (fun c z=>by cases z) (v := .bool true) (w':=(i7 w d).putObj r (.mapIter (some b) clock (seen.push e.born) clock)) ?_ ?_
    ·simp only [execOp,e6,Instr.extract,aD,aL,aw];rfl
    simp only [wpOpsIn];refine ⟨(false,(p,some x)),⟨(7,.bool true)::Y.tm,[]⟩,rW (Y:=Y) ?_ (Z w d seen _ t gr) (by rw [fC,fC]; exact hnt) (E _ _) (by rw [el,el]; exact M.df) (htm7 _ _) rfl (L.sub (Z w d seen _ t gr)),(by trivial),.inr ⟨x,rfl,rfl,N,hxp⟩⟩;refine ⟨hab p w _ gJ (hrN w d seen _ (fun _ _ _ h=>nomatch h) gr),seen.push e.born,oK (aO.1 gr).1,⟨N,hxp,?_⟩,fun f hf y hy=>?_,e,h1,H,by simp⟩
    ·have:=wn (p:=p++[x]) (k:=l.map (·.1)) (by
      rw [vP];refine ⟨hpn,by simp,fun a ha b hb=>?_⟩;simp only [cv] at hb;subst hb;intro e; subst e; exact hxp ha) (fun y hy=>by
      rcases eT.1 hy with hy | hy
      ·exact hpk y hy
      ·simp only [cv] at hy; subst hy; exact N)
     simp at this;show p.length<l.length;omega
    rw [Array.contains_push];simp only [cq,tn,eT,cv];rw [G f hf y hy];refine or_congr Iff.rfl ⟨fun h=>?_,fun h=>?_⟩
    ·have:=hbu e h1 f hf h;subst this;rw [H] at hy;exact (ur hy)
    ·subst h;have:f.key=e.key:=by rw [hy,H]
     obtain ⟨i,hi⟩:=A e h1;obtain ⟨j,hj⟩:=A f hf;have:=D.2.2 j i f e hj hi this;subst this;rw [hi] at hj; cases hj; rfl
  ·rintro g s ⟨_,⟨rfl,rfl,hall⟩ | ⟨x,rfl,rfl,H,N⟩⟩
   ·refine YP.seq (K1:=fun e g s=>e = .exit 0/\g=(false,(p,none))) ?_ (by rintro g s ⟨h,_⟩; cases h) ?_
    ·refine fA (keep:=[]) hY af _ _ _ _ aI aI ?_;exact aa (fun h=>Bool.noConfusion h) (fun _=>⟨rfl,rfl⟩)
    ·rintro e g s _ ⟨rfl,rfl⟩;exact ⟨.inr rfl,.inl ⟨p,A7 hpn hnd fun x=>⟨hpk x,hall x⟩,rfl⟩⟩
   ·obtain ⟨q,hq,hqx⟩:=bp.1 H;have hlx:=hl q hq;rw [hqx] at hlx
    obtain ⟨u,v,rfl⟩:∃ u v,x=[u,v]:=by
     match x,hlx with
     | [u,v],_=>exact ⟨u,v,rfl⟩
    refine YP.seq (K1:=fun e g' s'=>e = .normal/\g'=(false,(p,some [u,v]))/\s'=⟨(7,.bool true)::Y.tm,[]⟩) ?_ ?_ (by rintro e g s h ⟨rfl,_⟩; exact absurd rfl h)
    ·refine fA (keep:=[]) hY af _ _ _ _ aI aI ?_;exact aa (fun _=>⟨rfl,rfl,rfl⟩) (fun h=>Bool.noConfusion h)
    rintro g s ⟨_,rfl,rfl⟩;refine YP.block (YP.seq (K1:=fun e g' s'=>e = .normal/\g'=(false,(p,some [u,v]))/\s'=⟨(3,.loc 3 0)::(9,.agg [.int .i64 u,.int .i64 v])::Y.tm,[(3,[.int .i64 u,.int .i64 v]),(3,[.int .i64 0,.int .i64 0])]⟩) ?_ ?_ (by rintro e g s h ⟨rfl,_⟩; exact absurd rfl h))
    ·intro a w M;obtain ⟨gJ,seen,gr,hx1',G,e,he,hek,hback⟩:=M.now hY;have t:=M.sub;have hnt:a.tmps.size=14:=M.nt
     have e5:a.eval (.tmp 5) = .pointer (some ⟨r,0,none⟩):=by
      have h1:=M.tm 5 (.lit (.pointer (some ⟨r,0,none⟩))) rfl;show a.tmps.getD 5 Go.undef=_;generalize a.tmps.getD 5 Go.undef=u at h1;cases h1; rfl
     have e8:∀ v6:Value,(a.put (some 8) v6).eval (.tmp 8)=v6:=fun v6=>by
      show (a.put (some 8) v6).tmps.getD 8 Go.undef=_;rw [fD _ _ _ _ ar,aX rfl]
     have E:∀ (v6 v7:Value) (d:Nat) (x:AV),get Y.tm d=some x->RD m x (((a.put (some 8) v6).put (some 9) v7).tmps.getD d Go.undef):=fun v6 v7 d x hx=>by
      have h1:=M.tm d x hx;have hx:get [(0,AV.lit (.func (.yield lp) #[] #[])),(5,AV.lit (.pointer (some ⟨r,0,none⟩)))] d=some x:=hx
      have hd:d=0\/d=5:=by
       simp only [a8] at hx;split at hx
       ·left; assumption
       ·split at hx
        ·right; assumption
        ·cases hx
      rw [fD _ _ _ _ (by rw [fC]; omega),aV ar,fD _ _ _ _ ar,aV ar];exact h1
     refine fP ?_;refine mQ (i:=0) (l:=[1,2,3]) (o:={ dst:=some 8,op := .entry (.tmp 5),type:=0,pos:=_,after:=_,guard:=none }) rfl rfl ?_;refine cT (Γ:=⟨Tryz.prog,F,n,W,m,14⟩) hΓ (fun c z=>by cases z) (v := .tuple #[e.key,e.val]) (w':=w) ?_ ?_
     ·simp only [execOp,e5,aD,Go.AI.run_entry_map gr (hwb w t) hback he (hbu e he),aw,aL]
     refine mQ (i:=1) (l:=[2,3]) (o:={ dst:=some 9,op := .extract (.tmp 8) 0,type:=68,pos:=_,after:=_,guard:=none }) rfl rfl ?_;refine cT (Γ:=⟨Tryz.prog,F,n,W,m,14⟩) hΓ (fun c z=>by cases z) (v:=e.key) (w':=w) ?_ ?_
     ·simp only [execOp,e8,Instr.extract,aD,aL,aw];rfl
     have hI2:YI Y (false,(p,some [u,v])) ⟨(9,.agg [.int .i64 u,.int .i64 v])::Y.tm,[]⟩ ((a.put (some 8) (.tuple #[e.key,e.val])).put (some 9) e.key) w:=by
      refine rW (Y:=Y) (M.now hY) t (by rw [fC,fC]; exact hnt) (E _ _) (by rw [el,el]; exact M.df) (fun d x hx=>?_) rfl (L.sub t);rw [a8] at hx;split at hx
      ·rename_i hd;cases hx;rw [fD _ _ _ _ (by rw [fC]; omega),aX hd,hek];exact vx m [u,v]
      ·exact E _ _ d x hx
     refine jF (T:=jK) (guards:=[]) hY af (ew aI) aI [{ dst:=some 3,op := .alloc 68,type:=0,pos := "iter.go:27",after:=#[],guard:=none },{ dst:=none,op := .store 68 (.tmp 3) (.tmp 9),type:=0,pos := "iter.go:27",after:=#[{ on:=2,ground := .data },{ on:=1,ground := .data },{ on:=0,ground := .phase },{ on:=1,ground := .phase },{ on:=2,ground := .phase }],guard:=none }] 2 (false,(p,some [u,v])) ⟨(9,.agg [.int .i64 u,.int .i64 v])::Y.tm,[]⟩ _ _ (fun g s=>g=(false,(p,some [u,v]))/\s=⟨(3,.loc 3 0)::(9,.agg [.int .i64 u,.int .i64 v])::Y.tm,[(3,[.int .i64 u,.int .i64 v]),(3,[.int .i64 0,.int .i64 0])]⟩) (fun j=>?_) ?_ hI2 (fun g' s' a' w' h1 h2=>⟨g',s',h2,rfl,h1⟩)
     ·match j with
      | 0=>rfl
      | 1=>rfl
      | j+2=>rw [fR cU,fR (by simp; omega)]
     ·conv=>whnf
      exact aa rfl rfl
    ·rintro g s ⟨_,rfl,rfl⟩;refine fA (keep:=[0,5,13]) hY af _ _ _ _ aI aI ?_;refine aa rfl (ae [u,v] (aa rfl (aa rfl (aa ?_ ?_))))
     ·refine cX ?_;refine ae (p++[[u,v]]) (aa ⟨?_,?_⟩ (aa ?_ (aa rfl (LE))))
      ·rw [vP];refine ⟨hpn,by simp,fun a ha b hb=>?_⟩;simp only [cv] at hb;subst hb;intro e; subst e; exact N ha
      ·intro y hy;rcases eT.1 hy with hy | hy
       ·exact hpk y hy
       ·simp only [cv] at hy; subst hy; exact H
      ·have h1:(p++[[u,v]]).length<=(l.map (·.1)).length:=by
        refine wn ?_ ?_
        ·rw [vP];refine ⟨hpn,by simp,fun a ha b hb=>?_⟩;simp only [cv] at hb;subst hb;intro e; subst e; exact N ha
        ·intro y hy;rcases eT.1 hy with hy | hy
         ·exact hpk y hy
         ·simp only [cv] at hy; subst hy; exact H
       simp at h1 ⊢;omega
     ·refine cW ?_;exact ⟨.inl rfl,.inr rfl⟩
  ·rintro e g s h ⟨rfl,_⟩; exact absurd rfl h
 refine db (hyp a1 _ hYI) ?_;rintro e a' w' ⟨g',s',hI',he,hg⟩
 have hpost:a'.defers=[]/\∃ v,(results Tryz.f354 a'.tmps).run Tryz.prog w' = .ok v w'/\((∃ u,Ending.returned v = .returned u)/\((∃ p,p.Perm (l.map (·.1))/\J p w')\/Jx w')):=by
  refine ⟨hI'.df,.tuple #[],by simp [results,Tryz.f354],⟨_,rfl⟩,?_⟩;rcases hg with ⟨p,hp,rfl⟩ | hg
  ·exact .inl ⟨p,hp,(hI'.now hY).1⟩
  ·right;obtain ⟨⟨W0,h1,h2,h3,_⟩,_⟩:=hI';rw [hg] at h1;obtain ⟨⟨cx,hW,_⟩,_⟩:=h2;exact habx W0 w' h1 (Gr.toI ⟨hW.ext.toBelow h3,h3.more⟩)
 rcases he with rfl | rfl <;> exact hpost
open Go Go.AI
set_option maxRecDepth 10000
def c2 (p:Int×Int):List Int:=[p.1,p.2]
def c2i (k:List Int):Int×Int:=(k.getD 0 0,k.getD 1 0)
def iF (l:List (Int×Int)):List (List Int×AV):=l.map fun p=>(c2 p,.bool true)
def eM (p:Int×Int):List AV:=[.int .i64 p.1,.int .i64 p.2]
theorem An (l:List (Int×Int)):sR Tryz.prog (fun p:Int×Int=>#[d9 (c2 p)]) 354 [.ref [.mapv (j6 (iF l))]] (fun p x=>x∈l/\x ∉ p/\p.length<l.length) (fun p=>p.Perm l):=by
 have A:(iF l).map (·.1)=l.map c2:=by simp [iF]
 have h:=Bp (iF l) (fun p o=>by
  obtain ⟨q,_,rfl⟩:=bp.1 o;rfl)
 refine ⟨h.1,fun m Q hlen M F n u c v i G J Jx W P z D a b r=>?_⟩
 refine CallsIn.mono (h.2 m Q hlen M F n u c v i G (fun q w=>∃ p,q=p.map c2/\J p w) Jx W P z (fun q B Z h X=>by
  grind) a ?_ ⟨[],rfl,r⟩) ?_
 ·rintro q x B ⟨hx,d,f⟩ ⟨p,rfl,t⟩ hm;rw [A] at hx;obtain ⟨y,hy,rfl⟩:=bp.1 hx;obtain ⟨fn,tmps,j,L,E,U⟩:=b p y B ⟨hy,fun H=>d (Lf H),by simpa [iF] using f⟩ t hm;exact ⟨fn,tmps,j,L,E,U.mono fun e W' h=>h.imp (fun ⟨h1,h2,N⟩=>⟨h1,⟨p++[y],by simp,h2⟩,N⟩) id⟩
 ·rintro e w' ⟨h1,h2⟩;refine ⟨h1,h2.imp (fun ⟨q,d,p,o,t⟩=>⟨p,?_,t⟩) id⟩;rw [A,o] at d;have:=d.map c2i;simpa [Function.comp_def,c2i,c2] using this
theorem Ys (m:dI) (x:Int×Int) (i:Nat) (c:AV) (v:Value) (h1:[AV.agg (eM x)][i]?=some c) (h2:(#[d9 (c2 x)])[i]?=some v):RD m c v:=by
 match i,h1,h2 with
 | 0,h1,h2=>cases h1; cases h2; exact vx m (c2 x)
def zY (l:List (Int×Int)):AV := .sl .no 2 (l.map eM)
def aaT:List (Int×Int)->AV
 | [] => .sl .full 0 []
 | x::r => .sl (.id 11) 2 (eM x::r.map eM)
set_option maxHeartbeats 1000000 in
theorem Uq (l:List (Int×Int)) (hl:l.length<=1000000):jW Tryz.prog 372 [.sl .full 0 [],.clo 354 [.ref [.mapv (j6 (iF l))]]] (fun r=>∃ p:List (Int×Int),p.Perm l/\r=zY p):=by
 refine jW.ofB af Tryz.func372 rfl aI bh (ah rfl) ?_;intro F h w0 m0 hG d h1;refine aJ.seq ?_;refine aJ.reg hG af gl aI ?_
 conv=>whnf
 refine aJ.seq ?_;refine aJ.seq ?_;refine aJ.reg hG af gl aI ?_
 conv=>whnf
 refine aJ.block ?_
 refine ⟨wU hG h1 (α:=Int×Int) (fun x=>[.agg (eM x)]) (f:=354) (cap:=[.ref [.mapv (j6 (iF l))]]) (nx:=fun p x=>x∈l/\x ∉ p/\p.length<l.length) (fin:=fun p=>p.Perm l) rfl (vG (An l) (fun _=>rfl) Ys) (fun _=>rfl)
  (fun _=>[(2,.loc 2 0)]) [2] (fun _=>rfl) (fun pre=>[(2,[aaT pre])]) (St.le.of ?_ ?_) aI bq ?_ ?_⟩
 ·exact RF
 ·exact RF
 ·intro i c m' a _ _ pre x hx;have hlen:pre.length<1000000:=by omega
  cases pre with
  | nil=>
   refine aJ.out (aJ.reg a af (2::5::gl) aI ?_)
   conv=>whnf
   refine aa rfl (aa (LE) ?_)
   ·refine aJ.out (aJ.block ?_);refine aJ.reg a af (2::5::gl) aI ?_
    conv=>whnf
    refine ak ?_
    conv=>whnf
    refine aa (show (0+1)*16<=70368744177664 by omega) ?_
    conv=>whnf
    refine aa (show 0+1<=4611686018427387904 by omega) ?_
    conv=>whnf
    refine LE
  | cons y pre=>
   refine aJ.out (aJ.reg a af (2::5::gl) aI ?_)
   conv=>whnf
   refine aa rfl (aa (LE) ?_)
   ·refine aJ.out (aJ.block ?_);refine aJ.reg a af (2::5::gl) aI ?_
    conv=>whnf
    have e:(eM y::pre.map eM).length+1<=1000001:=by simp at hlen ⊢; omega
    refine aa (show ((eM y::pre.map eM).length+1)*16<=70368744177664 by omega) ?_
    conv=>whnf
    refine aa (show (eM y::pre.map eM).length+1<=4611686018427387904 by omega) ?_
    conv=>whnf
    refine St.le.of ?_ ?_
    ·exact RF
    ·refine aa (ax some (ax (fun z=>[AV.sl (.id 11) 2 z]) ?_)) trivial;simp [eM]
 ·intro p b
  conv=>whnf
  refine aJ.seq ?_
  cases p with
  | nil=>
   refine aJ.reg hG af gl aI ?_
   conv=>whnf
   refine aJ.ret hG af ?_;refine ⟨_,⟨[],b,rfl⟩,Ends.mk (ak rfl) bK⟩
  | cons y pre=>
   refine aJ.reg hG af gl aI ?_
   conv=>whnf
   refine aJ.ret hG af ?_;exact ⟨_,⟨y::pre,b,rfl⟩,Ends.mk (ak rfl) (ay rfl)⟩
open Go Go.AI
set_option maxRecDepth 10000
theorem Dg {b:Bool} (h:(!b)=true):b=false:=by cases b <;> simp_all
theorem zl {b:Bool} (h:(!b)=false):b=true:=by cases b <;> simp_all
def bW (n:Int):Int:=IntKind.i64.wrap n
theorem aZ {n:Int} (h1:-9223372036854775808<=n) (h2:n<=9223372036854775807):bW n=n:=by unfold bW; rw [qu]; omega
theorem bL {n:Nat} (h:n<9000000000000000000):AV.int .i64 (IntKind.i64.wrap ((n:Int)+1))=AV.int .i64 ((n+1:Nat):Int):=ax _ ((aZ ar ar).trans ar)
def bu (l:List Int):AV := .sl .no 1 (l.map fun h=>[.int .i64 h])
def jT (x y:Int):Int:=if x<y then -1 else if x>y then 1 else 0
def RZ:List Int->Int
 | []=>0
 | x::r=>if x≠0 then x else RZ r
theorem UL (x:Int):aq Tryz.prog 158 [.int .i64 x] (.bool false):=by
 refine aM Gl Tryz.func158 ?_;intro F b w0 m0 hG a h1 kp;refine bz ?_
 all_goals refine Eb ?_
 all_goals simp
theorem fZ (x y:Int):aq Tryz.prog 76 [.int .i64 x,.int .i64 y] (.int .i64 (jT x y)):=by
 refine aM JZ Tryz.func76 ?_;intro F b w0 m0 hG a h1 kp
 repeat' first|refine aS ?_|((conv=>whnf); first|refine ae _ (aa (UL _) ?_)|refine ⟨fun h=>?_,fun h=>?_⟩|refine ak ?_)
 all_goals refine Ei ?_
 all_goals (unfold jT; simp only [aP,jx] at *; split <;> first | omega | (split <;> omega))
theorem ry (l:List Int) (hl:l.length<=1000000):aq Tryz.prog 75 [.sl .full 1 (l.map fun h=>[.int .i64 h])] (.int .i64 (RZ l)):=by
 refine aM J0 Tryz.func75 ?_;intro F d w0 m0 hG c h1 kp;refine bz ?_
 refine aJ.loop (X:=Nat) (fun i=>⟨[(8,.int .i64 i),(7,.int .i64 (l.map fun h=>[AV.int .i64 h]).length),(6,.sl .full 1 (l.map fun h=>[.int .i64 h])),(3,.int .i64 0)],[]⟩)
  (fun i=>i<=l.length/\RZ l=RZ (l.drop i)) (fun i=>l.length - i) 0 ⟨aU _,rfl⟩ (St.le.of ?_ ?_) (fun i hi=>?_)
 ·exact RF
 ·exact RF
 ·obtain ⟨hi,a⟩:=hi
  have hx:decide ((i:Int)<((l.map fun h=>[AV.int .i64 h]).length:Int))=true->(l.map fun h=>[AV.int .i64 h])[(i:Int).toNat]?=some [AV.int .i64 (l.getD i 0)]:=fun h=>by
   grind
  have b:decide ((i:Int)<((l.map fun h=>[AV.int .i64 h]).length:Int))=true->i<l.length/\RZ l=if l.getD i 0≠0 then l.getD i 0 else RZ (l.drop (i+1)):=fun h=>by
   have h2:i<l.length:=by have:=aH h; simp at this; omega
   grind [List.drop_eq_getElem_cons,RZ,List.getElem?_eq_getElem]
  repeat' first|refine aS ?_|((conv=>whnf); first|refine aa (au i) (ae [AV.int .i64 (l.getD i 0)] (aa (hx bf) ?_))|refine ⟨fun h=>?_,fun h=>?_⟩|refine ak ?_)
  ·have h1:=b bf;refine Ei ?_;grind
  ·have h1:=b bf;refine ae (i+1) (aa ⟨h1.1,?_⟩ (aa ar (LE)));grind
  ·have:l.length<=i:=by have:=aW (by assumption:decide ((i:Int)<((l.map fun h=>[AV.int .i64 h]).length:Int))=false); simp at this; omega
   refine Ei ?_;rw [a,dg this]; rfl
def cmpC (a b:Int×Int):Int:=RZ [jT a.2 b.2,jT a.1 b.1]
theorem KX (a b:Int×Int):aq Tryz.prog 320 [.agg [.int .i64 a.1,.int .i64 a.2],.agg [.int .i64 b.1,.int .i64 b.2]] (.int .i64 (cmpC a b)):=by
 refine aM Ey Tryz.func320 ?_;intro F d w0 m0 hG c h1 kp;refine bz ?_
 conv=>whnf
 refine ae _ (aa (fZ _ _) ?_)
 repeat' first|refine aS ?_|((conv=>whnf); first|refine ⟨fun h=>?_,fun h=>?_⟩|refine ak ?_)
 conv=>whnf
 refine ae _ (aa (fZ _ _) ?_)
 repeat' first|refine aS ?_|((conv=>whnf); first|refine ⟨fun h=>?_,fun h=>?_⟩|refine ak ?_)
 conv=>whnf
 refine ae _ (aa (ry [jT a.2 b.2,jT a.1 b.1] (ah rfl)) ?_);refine bz ?_
 all_goals exact Ez
open Go Go.Shelf
def Ag:Go.Shelf.Ren:=⟨fun | 6=>353 | 15=>121 | 14=>373 | 28=>200 | 29=>201 | 20=>384 | 21=>385 | 22=>386 | 23=>387 | 24=>388 | 25=>389 | 26=>390 | 27=>391 | 46=>394 | 47=>255 | 48=>256 | 49=>395 | 50=>396 | 57=>398 | n=>n,fun | 22=>352 | 24=>68 | 25=>379 | 3=>3 | 39=>206 | 0=>0 | 53=>272 | 55=>274 | 4=>4 | 46=>265 | 45=>264 | 50=>181 | 5=>5 | 9=>9 | 66=>312 | 70=>316 | 76=>358 | 77=>359 | n=>n,fun | n=>n⟩
theorem MX:Go.Proofs.SlLaysF0.n6 Tryz.prog Ag where
 mixed:=by kernel_rfl
 f6:=⟨Tryz.f353.name,by kernel_rfl,Tryz.func353.trans (ax some aI)⟩
 f14:=⟨Tryz.f373.name,by kernel_rfl,Tryz.func373.trans (ax some aI)⟩
 f15:=Tryz.func121.trans (ax some aI)
 f20:=⟨Tryz.f384.name,by kernel_rfl,Tryz.func384.trans (ax some aI)⟩
 f21:=⟨Tryz.f385.name,by kernel_rfl,Tryz.func385.trans (ax some aI)⟩
 f22:=⟨Tryz.f386.name,by kernel_rfl,Tryz.func386.trans (ax some aI)⟩
 f23:=⟨Tryz.f387.name,by kernel_rfl,Tryz.func387.trans (ax some aI)⟩
 f24:=⟨Tryz.f388.name,by kernel_rfl,Tryz.func388.trans (ax some aI)⟩
 f25:=⟨Tryz.f389.name,by kernel_rfl,Tryz.func389.trans (ax some aI)⟩
 f26:=⟨Tryz.f390.name,by kernel_rfl,Tryz.func390.trans (ax some aI)⟩
 f27:=⟨Tryz.f391.name,by kernel_rfl,Tryz.func391.trans (ax some aI)⟩
 f28:=Tryz.func200.trans (ax some aI)
 f29:=Tryz.func201.trans (ax some aI)
 f46:=⟨Tryz.f394.name,by kernel_rfl,Tryz.func394.trans (ax some aI)⟩
 f47:=Tryz.func255.trans (ax some aI)
 f48:=Tryz.func256.trans (ax some aI)
 f49:=⟨Tryz.f395.name,by kernel_rfl,Tryz.func395.trans (ax some aI)⟩
 f50:=⟨Tryz.f396.name,by kernel_rfl,Tryz.func396.trans (ax some aI)⟩
 f57:=⟨Tryz.f398.name,by kernel_rfl,Tryz.func398.trans (ax some aI)⟩
 t0:=Tryz.underlying0
 a0:=Tryz.isAgg0
 z0:=Tryz.sizeOf0
 v0:=Tryz.zeroValue0
 t3:=Tryz.underlying3
 a3:=Tryz.isAgg3
 z3:=Tryz.sizeOf3
 v3:=Tryz.zeroValue3
 t4:=Tryz.underlying4
 a4:=Tryz.isAgg4
 z4:=Tryz.sizeOf4
 v4:=Tryz.zeroValue4
 t5:=Tryz.underlying5
 a5:=Tryz.isAgg5
 z5:=Tryz.sizeOf5
 v5:=Tryz.zeroValue5
 t9:=Tryz.underlying9
 a9:=Tryz.isAgg9
 z9:=Tryz.sizeOf9
 v9:=Tryz.zeroValue9
 t22:=Tryz.underlying352
 a22:=Tryz.isAgg352
 z22:=Tryz.sizeOf352
 v22:=Tryz.zeroValue352
 t25:=Tryz.underlying379
 a25:=Tryz.isAgg379
 z25:=Tryz.sizeOf379
 v25:=Tryz.zeroValue379
 t39:=Tryz.underlying206
 a39:=Tryz.isAgg206
 z39:=Tryz.sizeOf206
 v39:=Tryz.zeroValue206
 t45:=Tryz.underlying264
 a45:=Tryz.isAgg264
 z45:=Tryz.sizeOf264
 v45:=Tryz.zeroValue264
 t46:=Tryz.underlying265
 a46:=Tryz.isAgg265
 z46:=Tryz.sizeOf265
 v46:=Tryz.zeroValue265
 t50:=Tryz.underlying181
 a50:=Tryz.isAgg181
 z50:=Tryz.sizeOf181
 v50:=Tryz.zeroValue181
 t53:=Tryz.underlying272
 a53:=Tryz.isAgg272
 z53:=Tryz.sizeOf272
 v53:=Tryz.zeroValue272
 t55:=Tryz.underlying274
 a55:=Tryz.isAgg274
 z55:=Tryz.sizeOf274
 v55:=Tryz.zeroValue274
 t66:=Tryz.underlying312
 a66:=Tryz.isAgg312
 z66:=Tryz.sizeOf312
 v66:=Tryz.zeroValue312
 t70:=Tryz.underlying316
 a70:=Tryz.isAgg316
 z70:=Tryz.sizeOf316
 v70:=Tryz.zeroValue316
 t76:=Tryz.underlying358
 a76:=Tryz.isAgg358
 z76:=Tryz.sizeOf358
 v76:=Tryz.zeroValue358
 t77:=Tryz.underlying359
 a77:=Tryz.isAgg359
 z77:=Tryz.sizeOf359
 v77:=Tryz.zeroValue359
open Go Go.AI
open Go.RowKit (Below)
set_option maxRecDepth 10000
def Hm (a b:Int×Int):Bool:=decide (a.2<b.2)||(decide (a.2=b.2)&&decide (a.1<b.1))
theorem yE (a b:Int×Int):ltOf cmpC a b=Hm a b:=by
 unfold ltOf Hm cmpC;rw [fE];simp only [RZ,jT,cq,al,aP];grind
theorem Wx:Sort.SWO (ltOf cmpC) where
 irrefl x:=by rw [yE]; simp [Hm]
 trans x y z h1 h2:=by rw [yE] at *; simp only [Hm,cq,al,aP] at *; omega
 ntrans x y z h1 h2:=by
  grind [yE,Hm,Bool.or_eq_false_iff,Bool.and_eq_false_iff,decide_eq_false_iff_not]
theorem PR {a b:Int×Int} (h1:Hm a b=false) (h2:Hm b a=false):a=b:=by
 grind [Hm,Bool.or_eq_false_iff,Bool.and_eq_false_iff,decide_eq_false_iff_not,Prod.ext]
def H7 (l:List (Int×Int)):List (Int×Int):=l.mergeSort fun a b => !Hm b a
theorem so:∀ {l k:List (Int×Int)},l.Perm k->l.Pairwise (fun a b=>Hm b a=false)->k.Pairwise (fun a b=>Hm b a=false)->l=k
 | [],k,c,_,_=>(List.nil_perm.1 c).symm
 | a::l,[],c,_,_=>by have:=c.length_eq; simp at this
 | a::l,b::k,c,h1,h2=>by
  obtain ⟨p1,p2⟩:=tA.1 h1;obtain ⟨i,j⟩:=tA.1 h2
  have d:a=b:=by
   have f:a∈b::k:=c.mem_iff.1 a7;have e:b∈a::l:=c.mem_iff.2 a7;rcases bF.1 f with h | f
   ·exact h
   rcases bF.1 e with h | e
   ·exact h.symm
   exact PR (i a f) (p1 b e)
  subst d;rw [so ((List.perm_cons a).1 c) p2 j]
theorem H6 (l:List (Int×Int)):(H7 l).Pairwise fun a b=>Hm b a=false:=by
 have h:=List.pairwise_mergeSort (le:=fun a b => !Hm b a) (fun a b c h1 h2=>by
  grind [Bool.not_eq_true',Hm,Bool.or_eq_false_iff,Bool.and_eq_false_iff,decide_eq_false_iff_not]) (fun a b=>by
  simp only [cq,cI];grind [Hm,Bool.or_eq_false_iff,Bool.and_eq_false_iff,decide_eq_false_iff_not]) l
 exact h.imp fun h=>by simpa using h
theorem Wl {l k:List (Int×Int)} (c:k.Perm l) (h:k.Pairwise fun a b=>Hm b a=false):k=H7 l:=
 so (c.trans (List.mergeSort_perm l _).symm) h (H6 l)
theorem YA {P:Program} {b o:Nat} {n:Int} (h:gf P b o=some (.int .i64 n)):False:=by
 simp only [gf] at h;grind
theorem Yz {P:Program} {w:World} (h:(gf P).sub w) {b:Nat} (a:w.heap.size<=b) (o:Nat):gf P b o=none:=by
 cases c:gf P b o with
 | none=>rfl
 | some v=>have:=h.cell b o v c; simp [World.cell?,jZ a] at this
theorem Uo (l:List (Int×Int)) (hl:l.length<=1000000) {m:dI} {w:World} {v:Value} (hm:m.sub w) (c:(gf Tryz.prog).le m) (hv:RD m (.clo 354 [.ref [.mapv (j6 (iF l))]]) v) :
  Calls Tryz.prog 352 #[v] w fun e w'=>∃ p:List (Int×Int),p.Perm l/\∃ u m',e = .returned u/\RD m' (zY p) u/\m.le m'/\dI.sub m' w'/\Below w.heap.size w w'/\m.News (w.heap.size<=·) m' w'/\iG w w':=by
 have f:Calls Tryz.prog 372 #[.slice none 0 0,v] w fun e w'=>∃ u,e = .returned u/\∃ p:List (Int×Int),p.Perm l/\∃ m',RD m' (zY p) u/\m.le m'/\dI.sub m' w'/\Below w.heap.size w w'/\m.News (w.heap.size<=·) m' w'/\iG w w':=by
  have h:=(Uq l hl).runs m w [.slice none 0 0,v] hm c rfl (fun i a u h1 h2=>by
   match i,h1,h2 with
   | 0,h1,h2=>cases h1; cases h2; exact .sl _ _ _ _ _ _ (by intro k d; cases d) (fun _=>rfl) rfl (ba _) cU cU 0 0 ar (fun _ _=>Go.undef) cU cU
   | 1,h1,h2=>grind)
  refine nO h ?_;rintro e w' ⟨r,⟨p,b,rfl⟩,u,m',h1,h2⟩;exact ⟨u,h1,p,b,m',h2⟩
 go_enter Tryz.func352,Tryz.ntmps352
 go_wp2_with (go_at_call 372; refine f.mono ?_; rintro e w' ⟨u,rfl,p,b,m',h1⟩)
 go_ret
 exact ⟨p,b,u,m',rfl,h1⟩
theorem aal (x:Int×Int) (j:Nat) (hj:j<2):∃ n,(ol c2 x)[j]! = .int .i64 n/\(eM x)[j]?=some (.int .i64 n):=by
 match j,hj with
 | 0,_=>exact ⟨x.1,rfl,rfl⟩
 | 1,_=>exact ⟨x.2,rfl,rfl⟩
theorem Un (l:List (Int×Int)) (blk off cap:Nat) (w:World) (a:∀ (i:Nat) (x:Int×Int) (j:Nat),l[i]?=some x->j<2->w.cell? ⟨blk,off+(i*2+j),none⟩=some ((ol c2 x)[j]!)) (m:ej w blk) (n:l.length<=1000000) (c:(gf Tryz.prog).sub w) (b:∀ o,gf Tryz.prog blk o=none) :
  Calls Tryz.prog 353 #[.slice (some ⟨blk,off,none⟩) l.length cap,.func (.func 320) #[] #[]] w fun e f=>e = .returned (.tuple #[])/\∃ d,Ny c2 2 Hm l d blk off w f:=by
 have h:=Ss c2 2 cmpC MX (fun _=>rfl) Tryz.isAgg68 Tryz.sizeOf68 Wx (g:=320) (fun x y=>KX x y) (KX (0,0) (0,0)).enters l blk off cap w a m ar c b;refine nO h ?_;rintro e f ⟨h1,d,h2⟩;refine ⟨h1,d,h2.perm,h2.sorted.imp fun {x y} h=>by rw [yE] at h; exact h,h2.cell,h2.other,h2.soft,h2.os,h2.tape,h2.output,h2.size,h2.more⟩
set_option maxHeartbeats 1000000 in
theorem UQ (l:List (Int×Int)) (h0:l≠[]) (hl:l.length<=1000000):aq Tryz.prog 321 [.clo 354 [.ref [.mapv (j6 (iF l))]],.fn 320] (zY (H7 l)):=by
 refine ⟨AO Tryz.func321 aI rfl,fun m w vs hm hgm hlen hr=>?_⟩
 obtain ⟨v,u0,rfl⟩:∃ v u0,vs=[v,u0]:=by
  match vs,hlen with
  | [v,u0],_=>exact ⟨v,u0,rfl⟩
 have hv:=hr 0 _ v rfl rfl;have hu:=hr 1 _ u0 rfl rfl;have hu0:u0 = .func (.func 320) #[] #[]:=by cases hu; rfl
 subst hu0
 -- the least memory that is read
 obtain ⟨m0,hm0,hg0,hv0,hints⟩:∃ m0:dI,m0.sub w/\(gf Tryz.prog).le m0/\RD m0 (.clo 354 [.ref [.mapv (j6 (iF l))]]) v/\∀ b o n,m0 b o≠some (.int .i64 n):=by
  cases hv with
  | clo _ _ us L hr1=>
   have h1:us.size=1:=by simpa using L.symm
   obtain ⟨p,F⟩:∃ p,us=#[p]:=Array.size_eq_one_iff.1 h1;subst F;have h2:=hr1 0 _ p rfl rfl
   cases h2 with
   | ref cs pb po hc g hg J=>
    have U:=J 0 _ rfl;have h4:=hg 0 _ rfl;generalize g 0=z at U h4
    cases U with
    | mapv xs b es clock hmb H hl' h2' hk hv'=>
     refine ⟨⟨fun M o=>if M=pb/\o=po then some (.map (some b)) else gf Tryz.prog M o,fun M=>if M=b then some (es,clock) else none⟩,⟨fun M o x hx=>?_,fun M x hx=>?_⟩,⟨fun M o x hx=>?_,fun M x hx=>nomatch hx⟩,?_,fun M o n h=>?_⟩
     ·simp only at hx;split at hx
      ·rename_i h;cases hx;rw [h.1,h.2];exact hm.cell pb po _ (by simpa using h4)
      ·exact (hgm.sub hm).cell _ _ _ hx
     ·simp only at hx;split at hx
      ·rename_i h;cases hx;rw [h];exact hm.map b _ hmb
      ·cases hx
     ·simp only;split
      ·rename_i h;have Z:=hgm.cell _ _ _ hx;grind
      ·exact hx
     ·refine .clo _ _ _ rfl fun i a z h5 h6=>?_
      match i,h5,h6 with
      | 0,h5,h6=>
       cases h5; cases h6;refine .ref _ pb po (by simp [AV.isCell]) (fun _ => .map (some b)) (fun i c hi=>?_) (fun i c hi=>?_)
       ·grind
       ·match i,hi with
        | 0,hi=>
         cases hi;refine .mapv _ b es clock (aX rfl) H hl' h2' (fun i x e k q1 q2 P=>?_) (fun i x e k q1 q2 P=>?_)
         ·have Z:=hk i x e k q1 q2 P;obtain ⟨p,p1,rfl⟩:=v8 q1;simp only [bw,aB] at P;subst P;rw [Z.keyA];exact vx _ _
         ·have Z:=hv' i x e k q1 q2 P;obtain ⟨p,p1,rfl⟩:=v8 q1;simp only [fg,bw,aB] at P;subst P;simp only [iF,aQ,aA] at p1;obtain ⟨_,_,rfl⟩:=p1
          have h8:e.val = .bool true:=by
           have Z:RD m (.bool true) e.val:=Z;generalize e.val=z at Z;cases Z; rfl
          rw [h8];exact .bool true
     grind [YA]
 have hc:=Uo l hl hm0 hg0 hv0
 have hcol:Calls Tryz.prog 352 #[v] w fun e w1=>∃ (p:List (Int×Int)) (f off cap:Nat),p.Perm l/\e = .returned (.slice (some ⟨f,off,none⟩) p.length cap)/\p.length<=cap/\(∀ (i:Nat) (x:Int×Int) (j:Nat),p[i]?=some x->j<2->w1.cell? ⟨f,off+(i*2+j),none⟩=some ((ol c2 x)[j]!))/\ej w1 f/\w.heap.size<=f/\Below w.heap.size w w1/\iG w w1/\(gf Tryz.prog).sub w1:=by
  refine nO hc ?_;rintro e w1 ⟨p,F,u,m',rfl,h1,h2,U,h4,h5,h6⟩
  cases h1 with
  | sl _ _ _ base len cap ho hf L q hsz E f off H g hg J=>
   simp only [az] at L;subst L
   have N:0<p.length:=by
    rw [F.length_eq];exact Lh.2 h0
   have X:=H N;subst X;have hx0:(p.map eM)[0]?=some (eM p[0]):=by simp [ai N]
   have g0:=hg 0 _ 0 _ hx0 rfl;have r0:=J 0 _ 0 _ hx0 rfl
   have A:w.heap.size<=f/\ej w1 f:=by
    rcases h5.cell _ _ _ g0 with h | h
    ·exact absurd (by rw [h,r0.int_eq]) (hints _ _ (p[0]).1)
    ·exact h
   refine ⟨p,f,off,cap,F,rfl,q,fun i x j hx hj=>?_,A.2,A.1,h4,h6,(hg0.trans h2).sub U⟩;have hxi:(p.map eM)[i]?=some (eM x):=by rw [aQ,hx]; rfl
   obtain ⟨n,e1,e2⟩:=aal x j hj;have g1:=hg i _ j _ hxi e2;rw [(J i _ j _ hxi e2).int_eq] at g1;rw [e1,<- U.cell _ _ _ g1,dV]
 have Q:=fun (p:List (Int×Int)) (f off cap:Nat) (w1:World) (F:p.Perm l) h hs (D:w.heap.size<=f) hgs=>Un p f off cap w1 h hs (by rw [F.length_eq]; exact hl) hgs fun o=>Yz (hgm.sub hm) D o
 have hgo:Calls Tryz.prog 321 #[v,.func (.func 320) #[] #[]] w fun e w2=>∃ (w1:World) (p:List (Int×Int)) (f off cap:Nat),p.Perm l/\e = .returned (.slice (some ⟨f,off,none⟩) p.length cap)/\p.length<=cap/\w.heap.size<=f/\Below w.heap.size w w1/\iG w w1/\ej w1 f/\∃ l',Ny c2 2 Hm p l' f off w1 w2:=by
  clear hr hlen hc hv hv0
  go_enter Tryz.func321,Tryz.ntmps321
  go_wp2_with (first | (go_at_call 352; refine hcol.mono ?_; rintro e w1 ⟨p,f,off,cap,F,rfl,q,E,y,D,d,t,hgs1⟩) | (go_at_call 353; refine (Q p f off cap _ F E y D hgs1).mono ?_; rintro e w2 ⟨rfl,l',B⟩))
  go_ret
  exact ⟨_,p,f,off,cap,F,rfl,q,D,d,t,y,l',B⟩
 refine nO hgo ?_;rintro e w2 ⟨w1,p,f,off,cap,F,rfl,q,D,d,t,y,l',B⟩;have hl':l'=H7 l:=Wl (B.perm.trans F) B.sorted;subst hl';have hlen':(H7 l).length=p.length:=B.perm.length_eq
 have hblt:∀ b o x,m b o=some x->b<w.heap.size:=fun b o x h=>by
  have h1:=hm.cell b o x h;grind [World.cell?]
 have G:∀ b,b<w.heap.size->w2.heap[b]?=w.heap[b]?:=fun b H=>
  (B.other b ar (dm H d.size)).trans (d.block b H)
 refine ⟨_,⟨fun b o=>if b=f then w2.cell? ⟨f,o,none⟩ else m b o,m.maps⟩,rfl,?_,⟨fun b o x h=>?_,fun _ _ h=>h⟩,⟨fun b o x h=>?_,fun b x h=>(G b (aO.1 (hm.map b x h)).1).trans (hm.map b x h)⟩,⟨B.os.trans d.os,B.tape.trans d.tape,B.output.trans d.output,bC d.size B.size,fun b H=>G b H⟩,⟨fun b o x h=>?_,fun b x h => .inl h⟩,t.trans B.more⟩
 ·have hget:∀ (i:Nat) (r:List AV) (j:Nat) (c:AV),((H7 l).map eM)[i]?=some r->r[j]?=some c->∃ n,c = .int .i64 n/\w2.cell? ⟨f,off+i*2+j,none⟩=some (.int .i64 n):=fun i r j c h1 h2=>by
   rw [aQ,aA] at h1;obtain ⟨x,hx,rfl⟩:=h1;have hj:j<2:=by have:=(am.1 h2).1; simpa [eM] using this
   obtain ⟨n,e1,e2⟩:=aal x j hj;rw [h2] at e2;cases e2;exact ⟨n,rfl,by rw [dV,B.cell i x j hx hj,e1]⟩
  refine .sl _ _ _ _ _ _ (by intro k hk; cases hk) (by intro hk; cases hk) (by simpa using hlen') q (fun r hr=>?_) (fun r hr c hc=>?_) f off (fun _=>rfl) (fun i j=>(w2.cell? ⟨f,off+i*2+j,none⟩).getD Go.undef) (fun i r j c h1 h2=>?_) (fun i r j c h1 h2=>?_)
  ·obtain ⟨x,_,rfl⟩:=bp.1 hr; rfl
  ·obtain ⟨x,_,rfl⟩:=bp.1 hr;simp only [eM,bF,pS,or_false] at hc;rcases hc with rfl | rfl <;> rfl
  ·grind
  ·obtain ⟨n,rfl,U⟩:=hget i r j c h1 h2;rw [U];exact .int _ _
 ·grind
 ·simp only at h;split at h
  ·grind
  ·have:=hblt b o x h;have h1:=hm.cell b o x h;grind [World.cell?]
 ·simp only at h;split at h
  ·rename_i H; exact .inr ⟨by omega,by rw [H]; exact B.soft⟩
  ·exact .inl h
open Go Go.AI
set_option maxRecDepth 10000
def cQ (n a b:Int):Bool:=decide (a<=n)&&decide (n<=b)
def d8 (o:Nat->Int):List AV:=[.int .i64 (o 0),.int .i64 (o 1),.int .i64 (o 2),.int .i64 (o 3),.int .i64 (o 4),.int .i64 (o 5),.int .i64 (o 6)]
def Mc (o:Nat->Int) (t:Int):List AV:=[.int .i64 (o 0),.int .i64 (o 1),.int .i64 (o 2),.int .i64 (o 3),.int .i64 (o 4),.int .i64 (o 5),.int .i64 (o 6),.int .i64 t]
def s4 (o:Nat->Int):Bool:=cQ (o 0) 20 2000&&decide ((o 0).tmod 2=0)&&cQ (o 1) 0 (bW (o 0 - 1))&&(cQ (o 2) 0 23999&&cQ (o 3) 0 23999&&decide (o 2<o 3))&&cQ (o 4) 0 47999&&cQ (o 5) (-2000) 2000&&cQ (o 6) 0 10
def Uc (n c:Int):Int:=(bW (n.tmod c+c)).tmod c
def rowW (o:Nat->Int) (t:Int):Int:=bW (o 2+bW ((bW (bW (bW (o 3 - o 2)*2)*min (Uc (bW (t+o 1)) (o 0)) (bW (o 0 - Uc (bW (t+o 1)) (o 0))))).tdiv (o 0)))
def IS (o:Nat->Int) (t:Int):Int:=Uc (bW (o 4+bW (o 5*t))) 48000
def kS (o:Nat->Int) (t:Int):Int×Int:=(bW ((IS o t).tdiv 1000),bW ((rowW o t).tdiv 1000))
def sj (o:Nat->Int) (t late:Int):Bool:=cQ t 0 1000000&&cQ late (-10) 10&&s4 o
theorem K3 (n a b:Int):aq Tryz.prog 262 [.int .i64 n,.int .i64 a,.int .i64 b] (.bool (cQ n a b)):=by
 refine aM Fg Tryz.func262 ?_;intro F d w0 m0 hG c h1 kp
 repeat' first|refine aS ?_|((conv=>whnf); first|refine ⟨fun h=>?_,fun h=>?_⟩|refine ak ?_)
 all_goals refine Eb ?_
 all_goals (simp_all [cQ] <;> omega)
theorem KS (n c:Int) (a:c≠0):aq Tryz.prog 350 [.int .i64 n,.int .i64 c] (.int .i64 (Uc n c)):=by
 refine aM Ep Tryz.func350 ?_;intro F d w0 m0 hG b h1 kp
 repeat' first|refine aS ?_|((conv=>whnf); first|refine aa a ?_|refine ⟨fun h=>?_,fun h=>?_⟩|refine ak ?_)
 all_goals exact Ez
set_option maxHeartbeats 4000000 in
theorem Ax (o:Nat->Int):aq Tryz.prog 207 [.agg (d8 o)] (.bool (s4 o)):=by
 refine aM FM Tryz.func207 ?_;intro F b w0 m0 hG a h1 kp
 repeat' first|refine aS ?_|((conv=>whnf); first|refine ae _ (aa (K3 _ _ _) ?_)|refine aa bq ?_|refine ⟨fun h=>?_,fun h=>?_⟩|refine ak ?_)
 all_goals refine Eb ?_
 all_goals (dsimp only [s4,cQ,bW]; rw [fE]; simp only [cQ,al,Bool.and_eq_false_iff,aP,jx,tn,IZ,bne_iff_ne,bne_eq_false_iff_eq,cI,iq,bv,aaH] at *; generalize IntKind.i64.wrap (o 0 - 1)=q at *; generalize (o 0).tmod 2=r at *; omega)
theorem Av (o:Nat->Int) (t late:Int):aq Tryz.prog 276 [.agg (d8 o),.int .i64 t,.int .i64 late] (.tup [.agg (Mc o (bW (t - late))),.bool (sj o t late)]):=by
 refine aM E8 Tryz.func276 ?_;intro F c w0 m0 hG a h1 kp
 repeat' first|refine aS ?_|((conv=>whnf); first|refine ae _ (aa (K3 _ _ _) ?_)|refine ae _ (aa (Ax o) ?_)|refine ⟨fun h=>?_,fun h=>?_⟩|refine ak ?_)
 all_goals refine Ends.mk (ak rfl) (ay (ax (fun b=>AV.tup [.agg (Mc o (bW (t - late))),.bool b]) ?_))
 all_goals simp only [sj, *,bG,cr,bJ,bP]
theorem UT (o:Nat->Int) (t:Int) (a:o 0≠0):aq Tryz.prog 313 [.agg (Mc o t)] (.int .i64 (rowW o t)):=by
 refine aM EF Tryz.func313 ?_;intro F c w0 m0 hG b h1 kp
 repeat' first|refine aS ?_|((conv=>whnf); first|refine ae _ (aa (KS _ _ a) ?_)|refine aa a ?_|refine ⟨fun h=>?_,fun h=>?_⟩|refine ak ?_)
 all_goals exact Ez
theorem US (o:Nat->Int) (t:Int):aq Tryz.prog 312 [.agg (Mc o t)] (.int .i64 (IS o t)):=by
 refine aM EG Tryz.func312 ?_;intro F b w0 m0 hG a h1 kp
 repeat' first|refine aS ?_|((conv=>whnf); first|refine ae _ (aa (KS _ _ bq) ?_)|refine ⟨fun h=>?_,fun h=>?_⟩|refine ak ?_)
 all_goals exact Ez
theorem KY (o:Nat->Int) (t:Int) (a:o 0≠0):aq Tryz.prog 277 [.agg (Mc o t)] (.agg (eM (kS o t))):=by
 refine aM E7 Tryz.func277 ?_;intro F c w0 m0 hG b h1 kp
 repeat' first|refine aS ?_|((conv=>whnf); first|refine ae _ (aa (US o t) ?_)|refine ae _ (aa (UT o t a) ?_)|refine aa bq ?_|refine ⟨fun h=>?_,fun h=>?_⟩|refine ak ?_)
 all_goals exact Ez
theorem Wm {o:Nat->Int} {t late:Int} (h:sj o t late=true):o 0≠0:=by
 simp only [sj,s4,cQ,al,aP] at h; omega
open Go Go.AI
set_option maxRecDepth 10000
theorem UR (o:Nat->Int) (t:Int):aq Tryz.prog 319 [.agg (d8 o),.int .i64 t] (.clo 351 [.ref (d8 o),.ref [.int .i64 t]]):=dK EA Tryz.func319
def ZJ (o:Nat->Int) (x:Int):Array Value:=#[.agg #[.int .i64 (o 0),.int .i64 (o 1),.int .i64 (o 2),.int .i64 (o 3),.int .i64 (o 4),.int .i64 (o 5),.int .i64 (o 6),.int .i64 x]]
def si (o:Nat->Int) (t:Int):List Int:=(List.range (2*o 6+1).toNat).map fun (i:Nat)=>bW (t - ((i:Int) - o 6))
theorem Ul (o:Nat->Int) (t:Int) (b:0<=o 6) (h1:o 6<=10):Lo Tryz.prog (ZJ o) 351 [.ref (d8 o),.ref [.int .i64 t]] (si o t):=by
 refine Lo.of af uV Tryz.func351 rfl aI bh aI (ah rfl) rfl (fun l=>by kernel_rfl) ?_;intro F n m y J Jx hY
 refine YP.loop (X:=Nat) (fun i=>((false,i),⟨(4,.int .i64 ((i:Int) - o 6))::params 0 (.lit (.func (.yield y) #[] #[])::[.ref (d8 o),.ref [.int .i64 t]]),[]⟩)) (fun i=>i<=(2*o 6+1).toNat) (fun i=>(2*o 6+1).toNat - i) 0 (aU _) rfl
  (St.le.of ?_ ?_) (fun i hi=>?_)
 ·refine aa (ax (fun z=>some (AV.int .i64 z)) ((aZ ar ar).trans ar)) ?_;exact RF
 ·exact trivial
 ·refine fA (keep:=uV) hY af _ _ _ _ aI aI ?_;refine aa (fun h=>?_) (fun h=>?_)
  ·have a:i<(2*o 6+1).toNat:=by have:=aH h; omega
   refine aa rfl (ae (bW (t - ((i:Int) - o 6))) (aa ?_ (aa rfl (aa ?_ ?_))))
   ·simp [si,aQ,l9 a]
   ·refine cX ?_;refine ae (i+1) (aa a (aa ar (aa rfl (St.le.of ?_ trivial))));refine aa (ax (fun z=>some (AV.int .i64 z)) ((aZ ar ar).trans ar)) ?_;exact RF
   ·refine cW ?_;exact iL.mk (ak rfl) (bA rfl)
  ·refine iL.mk (bA rfl) (ak ?_);grind [si,of_decide_eq_false]
theorem UP (rows:List (List AV)):aq Tryz.prog 322 [.mapv rows] (.clo 354 [.ref [.mapv rows]]):=dK Ex Tryz.func322
open Go Go.AI
set_option maxRecDepth 10000
def qk (l:List (Int×Int)) (x:Int×Int):List (Int×Int):=if x∈l then l else l++[x]
def kw (o:Nat->Int) (pre:List Int):List (Int×Int):=pre.foldl (fun l x=>qk l (kS o x)) []
theorem xr (o:Nat->Int) (pre:List Int) (x:Int):kw o (pre++[x])=qk (kw o pre) (kS o x):=by simp [kw,cV]
theorem Y0 {x y:Int×Int} (h:c2 x=c2 y):x=y:=by
 simp only [c2,gy,tq] at h;exact Prod.ext h.1 h.2
theorem yQ (x:Int×Int):∀ l:List (Int×Int),jM (c2 x) (.bool true) (iF l)=iF (qk l x)
 | []=>rfl
 | y::r=>by
  have b:=yQ x r;show jM (c2 x) (.bool true) ((c2 y,.bool true)::iF r)=_;rw [jM];by_cases h:c2 y=c2 x
  ·rw [aX h];have:=Y0 h;subst this;rw [qk,aX a7]; rfl
  ·rw [aV h,b];have a:x≠y:=fun e=>h (by rw [e]);unfold qk;by_cases hx:x∈r
   ·rw [aX hx,aX (a6 _ hx)]; rfl
   ·rw [aV hx,aV (by simp [a,hx])]; rfl
theorem zw (o:Nat->Int) (pre:List Int):(kw o pre).length<=pre.length:=by
 suffices h:∀ (l:List (Int×Int)),(pre.foldl (fun l x=>qk l (kS o x)) l).length<=l.length+pre.length by simpa [kw] using h []
 induction pre with
 | nil=>intro l; simp
 | cons x r a=>
  intro l;have:=a (qk l (kS o x));have h2:(qk l (kS o x)).length<=l.length+1:=by unfold qk; split <;> simp
  simp only [rE,bt];omega
theorem WA (l:List (Int×Int)) (x:Int×Int):qk l x≠[]:=by
 unfold qk;split
 ·rename_i h; intro e; rw [e] at h; cases h
 ·simp
theorem zV (o:Nat->Int) (t:Int):(si o t).length=(2*o 6+1).toNat:=by simp [si]
theorem PT (o:Nat->Int) (t:Int) (a:0<=o 6):kw o (si o t)≠[]:=by
 have hl:(si o t).length≠0:=by rw [zV]; omega
 rcases List.eq_nil_or_concat (si o t) with h | ⟨l,x,h⟩
 ·rw [h] at hl; exact absurd rfl hl
 ·rw [h,List.concat_eq_append,xr]; exact WA _ _
theorem Yp (o:Nat->Int) (m:dI) (x:Int) (i:Nat) (c:AV) (v:Value) (h1:[AV.agg (Mc o x)][i]?=some c) (h2:(ZJ o x)[i]?=some v):RD m c v:=by
 match i,h1,h2 with
 | 0,h1,h2=>cases h1; cases h2; exact vx m [o 0,o 1,o 2,o 3,o 4,o 5,o 6,x]
def mX (o:Nat->Int) (t:Int):List (Int×Int):=H7 (kw o (si o t))
set_option maxHeartbeats 4000000 in
theorem UX (o:Nat->Int) (t:Int) (h:sj o t 0=true):aq Tryz.prog 292 [.agg (d8 o),.int .i64 t] (.tup [zY (mX o t),.int .i64 0]):=by
 have a:=Av o t 0;rw [h] at a;have c:=Wm h;have e:0<=o 6/\o 6<=10:=by simp only [sj,s4,cQ,al,aP] at h; omega
 refine aM ms Tryz.func292 ?_;intro F l w0 m0 hG j h1 kp
 repeat' first|refine aS ?_|((conv=>whnf); first|refine ae _ (aa (a) ?_)|refine ae _ (aa (UR o t) ?_)|refine fun b=>?_|refine ⟨fun h=>?_,fun h=>?_⟩|refine ak ?_)
 refine ⟨wU hG h1 (α:=Int) (fun x=>[.agg (Mc o x)]) (f:=351) (cap:=[.ref (d8 o),.ref [.int .i64 t]]) (nx:=fun p x=>∃ r,si o t=p++x::r) (fin:=fun p=>p=si o t) rfl (vG (Ul o t e.1 e.2) (fun _=>rfl) (Yp o)) (fun _=>rfl)
  (fun pre=>[(8,.loc 8 0),(xk 19,.me .ents 19 b (j6 (iF (kw o pre))))]) [8,xk 19] (fun _=>rfl) (fun _=>[(8,[.lit (.map (some b))])]) (St.le.of ?_ ?_) aI bq ?_ ?_⟩
 ·exact RF
 ·exact RF
 ·intro m i m' hG _ _ pre x hx
  have hlen:∀ p∈iF (kw o pre),p.1.length=2:=fun p d=>by
   obtain ⟨q,_,rfl⟩:=bp.1 d; rfl
  refine aJ.out (aJ.reg hG af ms aI ?_)
  conv=>whnf
  refine aa rfl (aa (St.le.of ?_ ?_) ?_)
  ·exact RF
  ·exact RF
  ·refine aJ.out ?_
   repeat' first|refine QE [] rfl hG af (.mk:KP ms) ?_|((conv=>whnf); first|refine cX ?_|refine cW ?_|refine fc ?_|refine ae _ (aa (KY o x c) ?_)|refine ae 19 (ae (iF (kw o pre)) (ae (c2 (kS o x)) (aa (aa rfl (aa rfl (aa rfl hlen))) ?_)))|refine aa (fun h=>?_) (fun h=>?_)|refine ak ?_)
   refine St.le.of ?_ ?_
   ·refine aa rfl (aa (ax (fun z=>some (AV.me .ents 19 b (j6 z))) ?_) trivial);rw [xr];exact yQ _ _
   ·exact RF
 ·intro p d;subst d
  conv=>whnf
  refine Nz 19 8 (b:=b) (rows:=j6 (iF (kw o (si o t)))) rfl rfl ?_
  repeat' first|refine aS ?_|((conv=>whnf); first|refine ae _ (aa (UP _) ?_)|refine ae _ (aa (UQ (kw o (si o t)) (PT o t e.1) (bC (zw _ _) (by rw [zV]; omega))) ?_)|refine ⟨fun h=>?_,fun h=>?_⟩|refine ak ?_)
  exact Ends.mk (ak rfl) (ay rfl)
open Go Go.AI
set_option maxRecDepth 10000
def aF (c n:Int):Int:=if c<0 then (bW (0 - bW (c+1))).tmod n else c.tmod n
theorem K4 (c n:Int) (a:n≠0):aq Tryz.prog 182 [.int .i64 c,.int .i64 n] (.int .i64 (aF c n)):=by
 refine aM FZ Tryz.func182 ?_;intro F d w0 m0 hG b h1 kp
 repeat' first|refine aS ?_|((conv=>whnf); first|refine aa a ?_|refine ⟨fun h=>?_,fun h=>?_⟩|refine ak ?_)
 all_goals refine Ei ?_
 all_goals (simp_all [aF,bW] <;> omega)
def Y6 (n c:Int):Int:=if n.tmod c<0 then bW (n.tmod c+c) else n.tmod c
theorem Ve (o:Nat->Int) (t:Int) (h:sj o t 0=false):aq Tryz.prog 292 [.agg (d8 o),.int .i64 t] (.tup [.sl .no 2 [],.int .i64 70]):=by
 have a:=Av o t 0;rw [h] at a;refine aM ms Tryz.func292 ?_;intro F c w0 m0 hG b h1 kp;refine bz ?_
 all_goals exact Ez
def gY (x:Nat->Int):Nat->Int
 | 0=>bW (2*bW (10+aF (x 0) 90))
 | 1=>aF (x 1) (bW (2*bW (10+aF (x 0) 90)))
 | 2=>aF (x 2) 10000
 | 3=>bW (bW (aF (x 2) 10000+4000)+aF (x 3) 10000)
 | 4=>aF (x 4) 48000
 | 5=>bW (aF (x 5) 1601 - 800)
 | _=>aF (x 6) 4
theorem Vc (x:Nat->Int) (a:bW (2*bW (10+aF (x 0) 90))≠0):aq Tryz.prog 112 [.agg (d8 x)] (.agg (d8 (gY x))):=by
 refine aM GT Tryz.func112 ?_;intro F c w0 m0 hG b h1 kp
 repeat' first|refine aS ?_|((conv=>whnf); first|refine ae _ (aa (K4 _ _ a) ?_)|refine ae _ (aa (K4 _ _ bq) ?_)|refine aa (qo bq) ?_|refine ⟨fun h=>?_,fun h=>?_⟩|refine ak ?_)
 all_goals exact Ez
open Go Go.AI
set_option maxRecDepth 10000
def nR (z:Int):Prop := -9223372036854775808<=z/\z<=9223372036854775807
theorem bN {c n:Int} (b:nR c) (a:0<n):0<=aF c n/\aF c n<n:=by
 obtain ⟨h1,h2⟩:=b;unfold aF;split
 ·rename_i h;rw [aZ (n:=c+1) ar ar,aZ ar ar];exact ⟨mF _ ar,e7 _ a⟩
 ·exact ⟨mF _ ar,e7 _ a⟩
structure PV (o:Nat->Int):Prop where
 p1:20<=o 0
 p2:o 0<=2000
 ev:o 0 % 2=0
 h1:0<=o 1
 h2:o 1<=o 0 - 1
 l1:0<=o 2
 l2:o 2<o 3
 l3:o 3<=23999
 n1:0<=o 4
 n2:o 4<=47999
 t1:-2000<=o 5
 t2:o 5<=2000
 s1:0<=o 6
 s2:o 6<=10
theorem lE (o:Nat->Int):s4 o=true↔PV o:=by
 have hm:(o 0).tmod 2=0↔o 0 % 2=0:=by
  rw [<- Int.dvd_iff_emod_eq_zero,<- Int.dvd_iff_tmod_eq_zero]
 simp only [s4,cQ,al,aP,hm];constructor
 ·rintro ⟨⟨⟨⟨⟨⟨h1,h2⟩,p⟩,r⟩,u⟩,q⟩,t⟩;rw [aZ ar ar] at p;exact ⟨by omega,by omega,by omega,by omega,by omega,by omega,by omega,by omega,by omega,by omega,by omega,by omega,by omega,by omega⟩
 ·rintro ⟨a,b,c,d,e,f,g,h,i,j,k,l,m,n⟩;grind [aZ]
theorem Ww {x:Nat->Int} (h:∀ i,nR (x i)):PV (gY x)/\(gY x 0<=198/\gY x 3>=gY x 2+4000/\gY x 6<=3/\-800<=gY x 5/\gY x 5<=800):=by
 have a0:=bN (h 0) (n:=90) ar;have a2:=bN (h 2) (n:=10000) ar;have a3:=bN (h 3) (n:=10000) ar;have a4:=bN (h 4) (n:=48000) ar;have a5:=bN (h 5) (n:=1601) ar;have m:=bN (h 6) (n:=4) ar
 have a:gY x 0=2*(10+aF (x 0) 90):=by
  rw [show gY x 0=bW (2*bW (10+aF (x 0) 90)) from rfl];rw [aZ (n:=10+aF (x 0) 90) ar ar,aZ ar ar]
 have e:=bN (h 1) (n:=gY x 0) ar;have c:gY x 1=aF (x 1) (gY x 0):=rfl;have l:gY x 2=aF (x 2) 10000:=rfl
 have d:gY x 3=aF (x 2) 10000+4000+aF (x 3) 10000:=by
  show bW (bW (aF (x 2) 10000+4000)+aF (x 3) 10000)=_;rw [aZ (n:=aF (x 2) 10000+4000) ar ar,aZ ar ar]
 have j:gY x 4=aF (x 4) 48000:=rfl;have b:gY x 5=aF (x 5) 1601 - 800:=aZ ar ar;have f:gY x 6=aF (x 6) 4:=rfl;refine ⟨⟨by omega,by omega,by omega,by omega,by omega,by omega,by omega,by omega,by omega,by omega,by omega,by omega,by omega,by omega⟩,by omega,by omega,by omega,by omega,by omega⟩
theorem Y3 {o:Nat->Int} (h:PV o) {t late:Int} (h1:0<=t) (h2:t<=1000000) (a:-10<=late) (b:late<=10):sj o t late=true:=by
 simp only [sj,cQ,al,aP,(lE o).2 h,tq];omega
theorem bZ {α β:Type} {R:α->β->Prop} {a:α} {l:List α} {r:List β} (h:Fa R (a::l) r):∃ b q,r=b::q/\R a b/\Fa R l q:=by
 cases r with
 | nil=>exact h.elim
 | cons b q=>exact ⟨b,q,rfl,h.1,h.2⟩
theorem jX {α β:Type} {R:α->β->Prop} {r:List β} (h:Fa R ([]:List α) r):r=[]:=by
 cases r with
 | nil=>rfl
 | cons b q=>exact h.elim
theorem WC:IntKind.i64.min = -9223372036854775808:=by decide
theorem WD:IntKind.i64.max=9223372036854775807:=by decide
theorem eC {n:Nat} {a:AV} (h:kK (n+1) (.int .i64) a):∃ z,a = .int .i64 z/\nR z:=by
 obtain ⟨z,h1,h2,b⟩:=h;rw [WC] at h2; rw [WD] at b;exact ⟨z,h1,h2,b⟩
open Go Go.AI
theorem DX {n c:Int} (a:0<c) (b:c<=1000000) (h1:-1000000000000<=n) (h2:n<=1000000000000):Uc n c=n % c:=by
 unfold Uc;have d:n.tmod c=n - c*n.tdiv c:=by have:=Int.tmod_def n c; exact this
 have e:-c<n.tmod c/\n.tmod c<c:=by
  constructor
  ·have:=Int.lt_tmod_of_pos n a; exact this
  ·exact e7 n a
 rw [aZ ar ar,ip ar,d];have:n - c*n.tdiv c+c=n+c*(1 - n.tdiv c):=by rw [Int.mul_sub,Int.mul_one]; omega
 rw [this,Int.add_mul_emod_self_left]
theorem Y5 {n c:Int} (b:0<c) (a:c<=1000000) (h1:-1000000000000<=n) (h2:n<=1000000000000):Y6 n c=n % c:=by
 have h:=DX b a h1 h2;unfold Y6;have d:-c<n.tmod c/\n.tmod c<c:=⟨Int.lt_tmod_of_pos n b,e7 n b⟩;unfold Uc at h;rw [aZ ar ar] at h;generalize n.tmod c=q at *;split
 ·rw [aZ ar ar];rw [Int.tmod_eq_of_lt ar ar] at h;exact h
 ·have e:(q+c).tmod c=q:=by
   rw [ip ar,Int.add_emod_right,Int.emod_eq_of_lt ar ar]
  rw [e] at h;exact h
def uM (o:Nat->Int) (t:Int):Int:=(t+o 1) % o 0
def vM (o:Nat->Int) (t:Int):Int:=min (uM o t) (o 0 - uM o t)
def Po (o:Nat->Int) (t:Int):Int:=o 2+(o 3 - o 2)*2*vM o t / o 0
def TZ (o:Nat->Int) (t:Int):Int:=(o 4+o 5*t) % 48000
section
variable {o:Nat->Int} (h:PV o)
include h
theorem Sm (t:Int):0<=uM o t/\uM o t<o 0:=⟨AT _ (by have:=h.p1; omega),tB _ (by have:=h.p1; omega)⟩
theorem Sj (t:Int):0<=vM o t/\2*vM o t<=o 0:=by have:=Sm h t; unfold vM; omega
theorem TU (t:Int):0<=(o 3 - o 2)*2*vM o t/\(o 3 - o 2)*2*vM o t<=(o 3 - o 2)*o 0:=by
 have hv:=Sj h t;have:=h.l2;rw [Int.mul_assoc];exact ⟨Zd ar ar,Int.mul_le_mul_of_nonneg_left hv.2 ar⟩
theorem Yd {t:Int} (h1:-1000<=t) (h2:t<=2000000):rowW o t=Po o t:=by
 obtain ⟨p1,p2,ev,g1,g2,l1,l2,l3,n1,n2,t1,t2,s1,s2⟩:=h;have h:PV o:=⟨p1,p2,ev,g1,g2,l1,l2,l3,n1,n2,t1,t2,s1,s2⟩;have hu:=Sm h t;have hv:=Sj h t;have a:=TU h t;have b:(o 3 - o 2)*o 0<=23999*2000:=Ze ar p2 ar ar
 have c:Uc (bW (t+o 1)) (o 0)=uM o t:=by
  rw [aZ ar ar];exact DX ar ar ar ar
 unfold rowW Po
 rw [c,aZ (n:=o 0 - uM o t) ar ar,show min (uM o t) (o 0 - uM o t)=vM o t from rfl,aZ (n:=o 3 - o 2) ar ar,aZ (n:=(o 3 - o 2)*2) ar ar,aZ (n:=(o 3 - o 2)*2*vM o t) ar ar,
  dS a.1]
 have d:0<=(o 3 - o 2)*2*vM o t / o 0/\(o 3 - o 2)*2*vM o t / o 0<=23999*2000:=
  ⟨Int.ediv_nonneg a.1 ar,Int.le_trans (Int.ediv_le_self _ a.1) ar⟩
 grind [aZ,vM]
theorem Ow {t:Int} (h1:-1000<=t) (h2:t<=2000000):-4000000000<=o 5*t/\o 5*t<=4000000000:=by
 have a:=h.t1;have b:=h.t2;constructor
 ·by_cases c:0<=t
  ·have:=Vx a c; omega
  ·have:=Vw b (show t<=0 by omega); omega
 ·by_cases c:0<=t
  ·have:=Vx b c; omega
  ·have:=Vw a (show t<=0 by omega); omega
theorem YZ {t:Int} (h1:-1000<=t) (h2:t<=2000000):IS o t=TZ o t:=by
 have hm:=Ow h h1 h2;have a:=h.n1;have b:=h.n2;grind [IS,TZ,aZ,DX]
theorem Wb (t:Int):o 2<=Po o t/\Po o t<=o 3:=by
 have a:=TU h t;have p:=h.p1;unfold Po;have h1:0<=(o 3 - o 2)*2*vM o t / o 0:=Int.ediv_nonneg a.1 ar;have h2:(o 3 - o 2)*2*vM o t / o 0<=o 3 - o 2:=Int.ediv_le_of_le_mul ar a.2;omega
end
open Go Go.AI
set_option maxRecDepth 10000
theorem Tc (l:List (Int×Int)) (x y:Int×Int):y∈qk l x↔y∈l\/y=x:=by
 unfold qk;grind
theorem Mn (l:List (Int×Int)) (x:Int×Int) (h:l.Nodup):(qk l x).Nodup:=by
 grind [qk,List.nodup_append]
theorem XP (o:Nat->Int):∀ (pre:List Int) (l:List (Int×Int)),l.Nodup ->
  (pre.foldl (fun l x=>qk l (kS o x)) l).Nodup/\∀ y,y∈pre.foldl (fun l x=>qk l (kS o x)) l↔y∈l\/∃ x∈pre,kS o x=y
 | [],l,h=>⟨h,by simp⟩
 | x::r,l,h=>by
  have a:=XP o r (qk l (kS o x)) (Mn _ _ h);refine ⟨a.1,fun y=>?_⟩;show y∈r.foldl _ _↔_;rw [a.2,Tc];grind
theorem Ml (o:Nat->Int) (pre:List Int) (y:Int×Int):y∈kw o pre↔∃ x∈pre,kS o x=y:=by
 have:=(XP o pre [] eP).2 y;simpa [kw] using this
theorem Cc (l:List (Int×Int)):(H7 l).Perm l:=List.mergeSort_perm _ _
theorem Qk (o:Nat->Int) (t:Int) (y:Int×Int):y∈mX o t↔∃ x∈si o t,kS o x=y:=by
 rw [mX,(Cc _).mem_iff,Ml]
theorem Ql (o:Nat->Int) (t:Int):(mX o t).length<=(2*o 6+1).toNat:=by
 rw [mX,(Cc _).length_eq,<- zV o t]; exact zw _ _
theorem W7 {o:Nat->Int} {t d:Int} (b:0<=t/\t<=2000000) (a:0<=o 6/\o 6<=10):d∈si o t↔t - o 6<=d/\d<=t+o 6:=by
 unfold si;rw [bp];constructor
 ·rintro ⟨i,hi,rfl⟩;grind [aZ]
 ·intro h;refine ⟨(t+o 6 - d).toNat,bB.2 ar,?_⟩;grind [aZ]
theorem Mz {o:Nat->Int} {t:Int} (b:0<=t/\t<=2000000) (a:0<=o 6/\o 6<=10) (y:Int×Int):y∈mX o t↔∃ d,t - o 6<=d/\d<=t+o 6/\kS o d=y:=by
 grind [Qk,W7]
open Go Go.AI
set_option maxRecDepth 10000
theorem KQ (c n:Int) (a:n≠0):aq Tryz.prog 48 [.int .i64 c,.int .i64 n] (.int .i64 (aF c n)):=by
 refine aM Kh Tryz.func48 ?_;intro F d w0 m0 hG b h1 kp
 repeat' first|refine aS ?_|((conv=>whnf); first|refine aa a ?_|refine ⟨fun h=>?_,fun h=>?_⟩|refine ak ?_)
 all_goals refine Ei ?_
 all_goals (simp_all [aF,bW] <;> omega)
theorem KN (n a b:Int):aq Tryz.prog 288 [.int .i64 n,.int .i64 a,.int .i64 b] (.bool (cQ n a b)):=by
 refine aM EY Tryz.func288 ?_;intro F d w0 m0 hG c h1 kp
 repeat' first|refine aS ?_|((conv=>whnf); first|refine ⟨fun h=>?_,fun h=>?_⟩|refine ak ?_)
 all_goals refine Eb ?_
 all_goals (simp_all [cQ] <;> omega)
theorem KL (n a b:Int):aq Tryz.prog 278 [.int .i64 n,.int .i64 a,.int .i64 b] (.bool (cQ n a b)):=by
 refine aM E6 Tryz.func278 ?_;intro F d w0 m0 hG c h1 kp
 repeat' first|refine aS ?_|((conv=>whnf); first|refine ⟨fun h=>?_,fun h=>?_⟩|refine ak ?_)
 all_goals refine Eb ?_
 all_goals (simp_all [cQ] <;> omega)
theorem RI (n a b:Int):aq Tryz.prog 261 [.int .i64 n,.int .i64 a,.int .i64 b] (.bool (cQ n a b)):=by
 refine aM Fh Tryz.func261 ?_;intro F d w0 m0 hG c h1 kp
 repeat' first|refine aS ?_|((conv=>whnf); first|refine ⟨fun h=>?_,fun h=>?_⟩|refine ak ?_)
 all_goals refine Eb ?_
 all_goals (simp_all [cQ] <;> omega)
theorem Au (t:Int):aq Tryz.prog 229 [.int .i64 t] (.bool (cQ t 0 1000000)):=by
 refine aM Fv Tryz.func229 ?_;intro F b w0 m0 hG a h1 kp
 repeat' first|refine aS ?_|((conv=>whnf); first|refine ⟨fun h=>?_,fun h=>?_⟩|refine ak ?_)
 all_goals refine Eb ?_
 all_goals (simp_all [cQ] <;> omega)
def iS (n:Int):Int:=if n<bW (3*bW (n.tdiv 3)) then bW (bW (n.tdiv 3) - 1) else bW (n.tdiv 3)
theorem vr (n:Int):aq Tryz.prog 279 [.int .i64 n] (.int .i64 (iS n)):=by
 refine aM E5 Tryz.func279 ?_;intro F b w0 m0 hG a h1 kp
 repeat' first|refine aS ?_|((conv=>whnf); first|refine aa bq ?_|refine ⟨fun h=>?_,fun h=>?_⟩|refine ak ?_)
 ·exact Ends.mk (ak rfl) (ay (ax (AV.int .i64) (aX (aH h)).symm))
 ·exact Ends.mk (ak rfl) (ay (ax (AV.int .i64) (aV (aW h)).symm))
def qd (a b:Int):Int:=max (bW (a - b)) (bW (b - a))
theorem UH (a b:Int):aq Tryz.prog 233 [.int .i64 a,.int .i64 b] (.int .i64 (qd a b)):=dK Fr Tryz.func233
def kC (c:Int×Int):Bool:=cQ c.1 0 47&&cQ c.2 0 23
theorem KO (c:Int×Int):aq Tryz.prog 230 [.agg (eM c)] (.bool (kC c)):=by
 refine aM Fu Tryz.func230 ?_;intro F b w0 m0 hG a h1 kp
 repeat' first|refine aS ?_|((conv=>whnf); first|refine ae _ (aa (KL _ _ _) ?_)|refine ⟨fun h=>?_,fun h=>?_⟩|refine ak ?_)
 all_goals refine Eb ?_
 all_goals simp only [kC, *,bG,cr,bJ,bP]
def SF:List AV:=[.int .i64 90,.fn 314,.int .i64 270,.fn 315,.int .i64 360,.fn 316]
theorem UC:aq Tryz.prog 280 [] (.agg SF):=dK E4 Tryz.func280
theorem RG (d:Int):aq Tryz.prog 314 [.int .i64 d] (.int .i64 (bW (100*d))):=dK EE Tryz.func314
theorem RE (d:Int):aq Tryz.prog 315 [.int .i64 d] (.int .i64 (bW (100*bW (180 - d)))):=dK ED Tryz.func315
theorem RB (d:Int):aq Tryz.prog 316 [.int .i64 d] (.int .i64 (bW (100*bW (d - 360)))):=dK EC Tryz.func316
def sA (t:Int):Int:=(iS (bW (bW (1440 - t.tmod 1440)*100))).tmod 48000
theorem nq (n:Int):nR (bW n):=by unfold bW nR; rw [qu]; omega
theorem UJ (t:Int) (h:cQ t 0 1000000=true):aq Tryz.prog 231 [.int .i64 t] (.tup [.int .i64 (sA t),.int .i64 0]):=by
 have a:=Au t;rw [h] at a;refine aM Ft Tryz.func231 ?_;intro F c w0 m0 hG b h1 kp
 repeat' first|refine aS ?_|((conv=>whnf); first|refine ae _ (aa (a) ?_)|refine ae _ (aa (vr _) ?_)|refine aa bq ?_|refine ⟨fun h=>?_,fun h=>?_⟩|refine ak ?_)
 all_goals exact Ez
def iy (t:Int):Int:=(bW (t.tdiv 1440)).tmod 360
def jl (t:Int):Int:=if iy t<=90 then bW (12000+iS (bW (100*iy t))) else if iy t<=270 then bW (12000+iS (bW (100*bW (180 - iy t)))) else bW (12000+iS (bW (100*bW (iy t - 360))))
theorem tf {b:Bool} (h:b=true) (h2:b=false):False:=by rw [h] at h2; cases h2
theorem UI (t:Int) (h:cQ t 0 1000000=true):aq Tryz.prog 232 [.int .i64 t] (.tup [.int .i64 (jl t),.int .i64 0]):=by
 have a:=Au t;rw [h] at a;have f:iy t<360:=e7 _ bq;refine aM Fs Tryz.func232 ?_;intro F j w0 m0 hG e h1 kp
 repeat' first|refine aS ?_|((conv=>whnf); first|refine ae _ (aa (a) ?_)|refine ae _ (aa (UC) ?_)|refine aa bq ?_|refine ⟨fun h=>?_,fun h=>?_⟩|refine ak ?_)
 refine aJ.loop (X:=Nat) (fun i=>⟨[(14,.int .i64 i),(13,.agg SF),(4,.int .i64 (iy t)),(0,.int .i64 t)],[]⟩)
  (fun i=>i<3/\(1<=i->90<iy t)/\(2<=i->270<iy t)) (fun i=>3 - i) 0 ⟨by omega,fun h=>absurd h ar,fun h=>absurd h ar⟩ (St.le.of ?_ ?_) (fun i hi=>?_)
 ·exact RF
 ·exact RF
 ·obtain ⟨hi,b,d⟩:=hi;obtain rfl | rfl | rfl:i=0\/i=1\/i=2:=by omega
  ·repeat' first|refine aS ?_|((conv=>whnf); first|refine ae _ (aa (RG _) ?_)|refine ae _ (aa (vr _) ?_)|refine aa (aH (Eq.refl true)) ?_|refine ⟨fun h=>?_,fun h=>?_⟩|refine ak ?_)
   ·exact Ends.mk (ak rfl) (ay (ax (fun z=>AV.tup [.int .i64 z,.int .i64 0]) (aX (aH bf)).symm))
   ·have c:=aW (by assumption:decide (iy t<=90)=false);refine ae 1 (aa ⟨by omega,fun _=>by omega,fun h=>by first | omega | exact absurd h ar⟩ (aa ar (LE)))
  ·repeat' first|refine aS ?_|((conv=>whnf); first|refine ae _ (aa (RE _) ?_)|refine ae _ (aa (vr _) ?_)|refine aa (aH (Eq.refl true)) ?_|refine ⟨fun h=>?_,fun h=>?_⟩|refine ak ?_)
   ·exact Ends.mk (ak rfl) (ay (ax (fun z=>AV.tup [.int .i64 z,.int .i64 0]) ((aV (by have:=b ar; omega)).trans (aX (aH bf))).symm))
   ·have c:=aW (by assumption:decide (iy t<=270)=false);refine ae 2 (aa ⟨by omega,fun _=>by have:=b ar; omega,fun h=>by first | omega | exact absurd h ar⟩ (aa ar (LE)))
  ·repeat' first|refine aS ?_|((conv=>whnf); first|refine ae _ (aa (RB _) ?_)|refine ae _ (aa (vr _) ?_)|refine aa (aH (Eq.refl true)) ?_|refine ⟨fun h=>?_,fun h=>?_⟩|refine ak ?_)
   ·exact Ends.mk (ak rfl) (ay (ax (fun z=>AV.tup [.int .i64 z,.int .i64 0]) ((aV (by have:=b ar; omega)).trans (aV (by have:=d ar; omega))).symm))
   ·have c:=aW (by assumption:decide (iy t<=360)=false);omega
def ky (c:Int×Int) (t:Int):Int:=
 let a:=qd (bW (bW (1000*c.1)+500)) (sA t)
 max (-90) (bW (90 - bW ((bW (75*bW (min a (bW (48000 - a))+qd (bW (bW (1000*c.2)+500)) (jl t)))).tdiv 10000)))
def O2 (c:Int×Int) (t:Int):Bool:=decide (ky c t < -20)
theorem KT (c:Int×Int) (t:Int) (h:cQ t 0 1000000=true) (d:kC c=true):aq Tryz.prog 153 [.agg (eM c),.int .i64 t] (.tup [.int .i64 (ky c t),.int .i64 0]):=by
 have b:=Au t;rw [h] at b;have a:=KO c;rw [d] at a;refine aM Gq Tryz.func153 ?_;intro F f w0 m0 hG e h1 kp
 repeat' first|refine aS ?_|((conv=>whnf); first|refine ae _ (aa (b) ?_)|refine ae _ (aa (a) ?_)|refine ae _ (aa (UJ t h) ?_)|refine ae _ (aa (UI t h) ?_)|refine ae _ (aa (UH _ _) ?_)|refine aa bq ?_|refine ⟨fun h=>?_,fun h=>?_⟩|refine ak ?_)
 all_goals exact Ez
theorem UU (c:Int×Int) (t:Int) (h:cQ t 0 1000000=true) (a:kC c=true):aq Tryz.prog 295 [.agg (eM c),.int .i64 t] (.bool (O2 c t)):=by
 refine aM ES Tryz.func295 ?_;intro F d w0 m0 hG b h1 kp
 repeat' first|refine aS ?_|((conv=>whnf); first|refine ae _ (aa (KT c t h a) ?_)|refine ⟨fun h=>?_,fun h=>?_⟩|refine ak ?_)
 all_goals exact Ez
open Go Go.AI
set_option maxRecDepth 10000
def lR {α:Type} (p:α->Bool):List α->Nat->Int
 | [],_ => -1
 | x::r,k=>if p x then k else lR p r (k+1)
theorem PY {α:Type} {p:α->Bool} {l:List α} {j:Nat} {d:α} (hj:j<l.length):lR p (l.drop j) j=if p (l.getD j d) then (j:Int) else lR p (l.drop (j+1)) (j+1):=by
 rw [dq hj,aK,ai hj]; rfl
theorem zB {α:Type} (p:α->Bool):∀ (l:List α) (k:Nat),decide (lR p l k>=0)=l.any p
 | [],k=>rfl
 | x::r,k=>by
  simp only [lR,List.any_cons];by_cases h:p x=true
  ·simp [h]
  ·have:=zB p r (k+1); simp only [yp] at h; simp [h] at this ⊢; exact this
theorem Vy {q:Prop} (h:q:=by
 let w:=fv
 rcases hf with rfl | ⟨rfl,rfl⟩
 all_goals
  refine aM K f ?_;intro F n' w0 m0 hG hro h1 kp;refine bz ?_;refine aJ.loop (X:=Nat) (fun j=>⟨[(8,.int .i64 j),(7,.int .i64 (l.map E).length),(0,.sl .no N (l.map E)),(1,w)],[]⟩) (fun j=>j<=l.length/\lR p (l.drop j) j=lR p l 0) (fun j=>l.length - j) 0 ⟨aU _,by simp⟩ (St.le.of ?_ trivial) (fun j hj=>?_)
  ·exact RF
  ·obtain ⟨hj,hi⟩:=hj;by_cases hl2:j<l.length
   ·have b1:decide ((j:Int)<((l.map E).length:Int))=false->False:=dF (by simp; omega);have hx:(l.map E)[(j:Int).toNat]?=some (E (l.getD j D)):=by simp [ai hl2]
    have hc:=hp (l.getD j D) (by rw [aK,ai hl2]; exact bT hl2);have e:=PY (p:=p) (d:=D) hl2;generalize l.getD j D=x at *;generalize p x=y at *
    repeat' first|refine bz ?_|((conv=>whnf); first|refine ⟨fun h=>?_,fun h=>?_⟩|refine ak ?_)
    ·subst h; rw [aX rfl] at e;exact Ends.mk (ak rfl) (ay (ax (AV.int .i64) (e.symm.trans hi)))
    ·subst h; rw [aV cU] at e;refine ae (j+1) (aa ⟨hl2,e.symm.trans hi⟩ (aa ar LE))
   ·have b1:decide ((j:Int)<((l.map E).length:Int))=true->False:=dT (by simp; omega);rw [dg ar] at hi;refine bz ?_;exact Ends.mk (ak rfl) (ay (ax (AV.int .i64) hi))):q:=h
theorem X3 {q:Prop} (h:q:=by
 rcases hf with rfl | ⟨rfl,rfl⟩
 all_goals
  refine aM K f ?_;intro F n' w0 m0 hG hro h1 kp;refine bz ?_;exact Ends.mk (ak rfl) (ay (ax AV.bool (zB p l 0)))):q:=h
structure X4 where
 n:Int
 lo:Int
 hi:Int
deriving DecidableEq
def MH (x:X4):List AV:=[.int .i64 x.n,.int .i64 x.lo,.int .i64 x.hi]
structure dX where
 k:Int
 a:Int
 b:Int
deriving DecidableEq
def f9 (x:dX):List AV:=[.int .i64 x.k,.int .i64 x.a,.int .i64 x.b]
def iY (l:List dX):AV := .sl .no 3 (l.map f9)
def ZM (x:Int):List AV:=[.int .i64 x]
theorem RA (l:List X4) (p:X4->Bool) (g:FuncId) (fv:AV) (cap:List AV) (hf:fv = .clo g cap\/(fv = .fn g/\cap=[])) (hl:l.length<=1000000)
  (hp:∀ x∈l,aq Tryz.prog g ((.agg (MH x))::cap) (.bool (p x))):aq Tryz.prog 299 [.sl .no 3 (l.map MH),fv] (.int .i64 (lR p l 0)):=by
 let E:=MH; let D:=(⟨0,0,0⟩:X4); let K:=EO; let N:=3; have f:=Tryz.func299; exact Vy
theorem RK (l:List X4) (p:X4->Bool) (g:FuncId) (fv:AV) (cap:List AV) (hf:fv = .clo g cap\/(fv = .fn g/\cap=[])) (hl:l.length<=1000000)
  (hp:∀ x∈l,aq Tryz.prog g ((.agg (MH x))::cap) (.bool (p x))):aq Tryz.prog 259 [.sl .no 3 (l.map MH),fv] (.bool (l.any p)):=by
 have I:=RA l p g fv cap hf hl hp; let K:=Fj; have f:=Tryz.func259; exact X3
theorem UB (l:List dX) (p:dX->Bool) (g:FuncId) (fv:AV) (cap:List AV) (hf:fv = .clo g cap\/(fv = .fn g/\cap=[])) (hl:l.length<=1000000)
  (hp:∀ x∈l,aq Tryz.prog g ((.agg (f9 x))::cap) (.bool (p x))):aq Tryz.prog 318 [.sl .no 3 (l.map f9),fv] (.int .i64 (lR p l 0)):=by
 let E:=f9; let D:=(⟨0,0,0⟩:dX); let K:=EB; let N:=3; have f:=Tryz.func318; exact Vy
theorem UF (l:List dX) (p:dX->Bool) (g:FuncId) (fv:AV) (cap:List AV) (hf:fv = .clo g cap\/(fv = .fn g/\cap=[])) (hl:l.length<=1000000)
  (hp:∀ x∈l,aq Tryz.prog g ((.agg (f9 x))::cap) (.bool (p x))):aq Tryz.prog 290 [.sl .no 3 (l.map f9),fv] (.bool (l.any p)):=by
 have I:=UB l p g fv cap hf hl hp; let K:=EW; have f:=Tryz.func290; exact X3
theorem RH (l:List (Int×Int)) (p:(Int×Int)->Bool) (g:FuncId) (fv:AV) (cap:List AV) (hf:fv = .clo g cap\/(fv = .fn g/\cap=[])) (hl:l.length<=1000000)
  (hp:∀ x∈l,aq Tryz.prog g ((.agg (eM x))::cap) (.bool (p x))):aq Tryz.prog 323 [.sl .no 2 (l.map eM),fv] (.int .i64 (lR p l 0)):=by
 let E:=eM; let D:=((0,0):(Int×Int)); let K:=Ew; let N:=2; have f:=Tryz.func323; exact Vy
theorem UE (l:List (Int×Int)) (p:(Int×Int)->Bool) (g:FuncId) (fv:AV) (cap:List AV) (hf:fv = .clo g cap\/(fv = .fn g/\cap=[])) (hl:l.length<=1000000)
  (hp:∀ x∈l,aq Tryz.prog g ((.agg (eM x))::cap) (.bool (p x))):aq Tryz.prog 293 [.sl .no 2 (l.map eM),fv] (.bool (l.any p)):=by
 have I:=RH l p g fv cap hf hl hp; let K:=EU; have f:=Tryz.func293; exact X3
theorem RJ (x:X4):aq Tryz.prog 260 [.agg (MH x)] (.bool (!cQ x.n x.lo x.hi)):=by
 refine aM Fi Tryz.func260 ?_;intro F b w0 m0 hG a h1 kp
 repeat' first|refine aS ?_|((conv=>whnf); first|refine ae _ (aa (RI _ _ _) ?_)|refine ⟨fun h=>?_,fun h=>?_⟩|refine ak ?_)
 all_goals exact Ez
theorem rx (l:List X4) (hl:l.length<=1000000):aq Tryz.prog 206 [.sl .no 3 (l.map MH)] (.bool (l.all fun x=>cQ x.n x.lo x.hi)):=by
 refine aM FN Tryz.func206 ?_;intro F b w0 m0 hG a h1 kp
 repeat' first|refine aS ?_|((conv=>whnf); first|refine ae _ (aa (RK l (fun x => !cQ x.n x.lo x.hi) 260 _ [] (bA ⟨rfl,rfl⟩) hl (fun x _=>RJ x)) ?_)|refine ⟨fun h=>?_,fun h=>?_⟩|refine ak ?_)
 all_goals refine Eb ?_
 all_goals (rw [List.all_eq_not_any_not])
def bM (s:Nat->Int):List AV:=[.int .i64 (s 0),.int .i64 (s 1),.int .i64 (s 2),.int .i64 (s 3),.int .i64 (s 4),.int .i64 (s 5),.int .i64 (s 6),.int .i64 (s 7),.int .i64 (s 8),.int .i64 (s 9),.int .i64 (s 10),.int .i64 (s 11),.int .i64 (s 12),.int .i64 (s 13),.int .i64 (s 14),.int .i64 (s 15),.int .i64 (s 16),.int .i64 (s 17),.int .i64 (s 18),.int .i64 (s 19),.int .i64 (s 20)]
def kP (s:Nat->Int):Bool:=((cQ (s 0) 0 23&&(cQ (s 1) 0 15&&(cQ (s 9) 0 4&&(cQ (s 10) 1 1000000&&(cQ (s 19) 0 60&&cQ (s 20) 1 1000))))) &&
 (cQ (s 11) 1 1000000&&(cQ (s 12) 0 10000&&(cQ (s 13) 0 10000&&(cQ (s 14) 0 10000&&cQ (s 15) 0 10000)))))&&(cQ (s 16) 0 10000&&(cQ (s 17) 0 10000&&cQ (s 18) 1 1000000))&&s4 (fun i=>s (i+2))
set_option maxHeartbeats 4000000 in
theorem oD (s:Nat->Int):aq Tryz.prog 125 [.agg (bM s)] (.bool (kP s)):=by
 refine aM GJ Tryz.func125 ?_;intro F b w0 m0 hG a h1 kp
 repeat' first|refine aS ?_|((conv=>whnf); first|refine ae _ (aa ((rx [⟨s 0,0,23⟩,⟨s 1,0,15⟩,⟨s 9,0,4⟩,⟨s 10,1,1000000⟩,⟨s 19,0,60⟩,⟨s 20,1,1000⟩] (ah rfl)).sl0) ?_)|refine ae _ (aa ((rx [⟨s 11,1,1000000⟩,⟨s 12,0,10000⟩,⟨s 13,0,10000⟩,⟨s 14,0,10000⟩,⟨s 15,0,10000⟩] (ah rfl)).sl0) ?_)|refine ae _ (aa ((rx [⟨s 16,0,10000⟩,⟨s 17,0,10000⟩,⟨s 18,1,1000000⟩] (ah rfl)).sl0) ?_)|refine ae _ (aa (Ax (fun i=>s (i+2))) ?_)|refine ⟨fun h=>?_,fun h=>?_⟩|refine ak ?_)
 all_goals refine Eb ?_
 all_goals (simp only [qg,RV,cr] at *; simp only [kP, *,bG,cr,bJ,bP])
open Go Go.AI
structure Img where
 i:Int
 u:Int
 a:Int
 b:Int
deriving DecidableEq
def Yu (x:Img):List AV:=[.int .i64 x.i,.int .i64 x.u,.int .i64 x.a,.int .i64 x.b]
def Cn (l:List Img):AV := .sl .no 4 (l.map Yu)
open Go Go.AI
set_option maxRecDepth 10000
def yA (y:Nat->Int):List AV:=[.int .i64 (y 0),.int .i64 (y 1),.int .i64 (y 2),.int .i64 (y 3)]
def ZG (x y:Nat->Int) (i:Nat):Int:=match i with
 | 0=>aF 3 24
 | 1=>aF (y 0) 4
 | 2=>gY x 0
 | 3=>gY x 1
 | 4=>gY x 2
 | 5=>gY x 3
 | 6=>gY x 4
 | 7=>gY x 5
 | 8=>gY x 6
 | 9=>aF (y 0) 4
 | 10=>bW (20+aF (y 1) 200)
 | 11=>bW (100+aF (y 1) 2000)
 | 12=>aF (y 2) 12
 | 13=>aF (y 2) 4
 | 14=>bW (2+aF (y 2) 30)
 | 15=>bW (1+aF (y 3) 20)
 | 16=>bW (1+aF (y 3) 9)
 | 17=>bW (1+aF (y 3) 4)
 | 18=>bW (5+aF (y 1) 60)
 | 19=>aF (bW ((y 0).tdiv 4)) 4
 | _=>bW (1+aF (y 2) 9)
theorem aaA {q:Prop} (h:q:=by
 refine aM Kg Tryz.func49 ?_;intro F n' w0 m0 hG hro h1 kp
 repeat' first|refine aS ?_|((conv=>whnf); first|refine ae _ (aa (Vc x hx) ?_)|refine ae _ (aa (KQ _ _ bq) ?_)|refine aa (show (4:Int)≠0 by decide) ?_|refine aa bq (aa bq ?_)|refine ⟨fun h=>?_,fun h=>?_⟩|refine ak ?_)
 all_goals exact Ez):q:=h
def lc (a b:Int):Bool:=cQ b 1 1000000&&cQ a 0 (bW (b - 1))
def cj (a b:Int):List AV:=[.int .i64 a,.int .i64 b]
theorem KR (a b:Int):aq Tryz.prog 244 [.agg (cj a b)] (.bool (lc a b)):=by
 refine aM Fo Tryz.func244 ?_;intro F d w0 m0 hG c h1 kp
 repeat' first|refine aS ?_|((conv=>whnf); first|refine ae _ (aa (KN _ _ _) ?_)|refine ⟨fun h=>?_,fun h=>?_⟩|refine ak ?_)
 all_goals refine Eb ?_
 all_goals (simp only [lc, *,bG,cr,bJ,bP]; try rfl)
def Tg (t a b:Int):Bool:=decide (a<=t)&&decide (t<b)
theorem KM (a b t:Int):aq Tryz.prog 291 [.agg (cj a b),.int .i64 t] (.bool (Tg t a b)):=by
 refine aM EV Tryz.func291 ?_;intro F d w0 m0 hG c h1 kp
 repeat' first|refine aS ?_|((conv=>whnf); first|refine ⟨fun h=>?_,fun h=>?_⟩|refine ak ?_)
 all_goals refine Eb ?_
 all_goals (simp_all [Tg] <;> omega)
def On (x y:dX):Bool:=decide (x.k=y.k)&&decide (x.a<y.b)&&decide (y.a<x.b)
theorem UG (x y:dX):aq Tryz.prog 289 [.agg (f9 y),.ref (f9 x)] (.bool (On x y)):=by
 refine aM EX Tryz.func289 ?_;intro F b w0 m0 hG a h1 kp
 repeat' first|refine aS ?_|((conv=>whnf); first|refine ⟨fun h=>?_,fun h=>?_⟩|refine ak ?_)
 all_goals refine Eb ?_
 all_goals (simp_all [On] <;> (intros; omega))
open Go Go.AI
set_option maxRecDepth 10000
def ze (a:Int) (f:Nat->Int) (n:Nat):List (Int×Int):=(List.range n).map fun (i:Nat)=>(a+i,f i)
def rL (c:Int) (r:Int×List Int) (p:Int×Int):Int×List Int:=(min c (bW (r.1 - p.2)),r.2++[min c (bW (r.1 - p.2))])
def jw (c:Int) (pre:List (Int×Int)):Int×List Int:=pre.foldl (rL c) (c,[])
theorem nw (c:Int) (pre:List (Int×Int)) (x:Int×Int):jw c (pre++[x])=rL c (jw c pre) x:=by simp [jw,cV]
theorem s9 (c:Int) (pre:List (Int×Int)):(jw c pre).2.length=pre.length:=by
 suffices h:∀ (r:Int×List Int),(pre.foldl (rL c) r).2.length=r.2.length+pre.length by simpa [jw] using h (c,[])
 induction pre with
 | nil=>intro r; simp
 | cons p t a=>intro r; simp [a,rL]; omega
def qy (pre:List (Int×Int)):Int:=pre.foldl (fun n p=>bW (n+p.2)) 0
theorem HF (pre:List (Int×Int)) (x:Int×Int):qy (pre++[x])=bW (qy pre+x.2):=by simp [qy,cV]
open Go Go.AI
set_option maxRecDepth 10000
def aan (s:Nat->Int) (x:dX):Int:=if x.k=1 then s 14 else s 15
def TW (s:Nat->Int) (t:Int) (n:Int) (x:dX):Int:=if Tg t x.a x.b then bW (n+aan s x) else n
def tk (s:Nat->Int) (l:List dX) (t:Int):Int:=l.foldl (TW s t) (s 13)
theorem nA (s:Nat->Int) (l:List dX) (x:dX) (t:Int):tk s (l++[x]) t=TW s t (tk s l t) x:=by simp [tk,cV]
def mi (s:Nat->Int):Nat->Int:=fun i=>s (i+2)
def aa1 (s:Nat->Int) (l:List dX) (lit:Bool) (t:Int):Int:=if lit then bW (tk s l t - s 12) else tk s l t
open Go Go.AI
set_option maxRecDepth 10000
def mS (pre:List dX) (x:dX):Bool:=cQ x.k 1 2&&lc x.a x.b && !(pre.any (On x))
def XK:List dX->List dX->Bool
 | _,[]=>true
 | pre,x::r=>mS pre x&&XK (pre++[x]) r
def jI (l:List dX):Bool:=decide (l.length<=64)&&XK [] l
theorem ul {l:List dX} {i:Nat} (h:i<l.length):XK (l.take i) (l.drop i)=(mS (l.take i) (l.getD i ⟨0,0,0⟩)&&XK (l.take (i+1)) (l.drop (i+1))):=by
 rw [dq h,aK,ai h,ef,ai h]; rfl
set_option maxHeartbeats 4000000 in
theorem UN (l:List dX) (hl:l.length<=1000000):aq Tryz.prog 245 [iY l] (.bool (jI l)):=by
 refine aM Fn Tryz.func245 ?_;intro F n w0 m0 hG m h1 kp
 repeat' first|refine aS ?_|((conv=>whnf); first|refine ⟨fun h=>?_,fun h=>?_⟩|refine ak ?_)
 ·have e:¬ l.length<=64:=by have:=aH (by assumption:decide (((l.map f9).length:Int)>64)=true); simp at this; omega
  exact Ends.mk (ak rfl) (ay (ax AV.bool (by rw [jI,eq e]; rfl)))
 ·have e:l.length<=64:=by have:=aW (by assumption:decide (((l.map f9).length:Int)>64)=false); simp at this; omega
  refine aJ.loop (X:=Nat) (fun i=>⟨[(11,.int .i64 i),(10,.int .i64 (l.map f9).length),(9,iY l),(0,iY l)],[]⟩)
   (fun i=>i<=l.length/\XK (l.take i) (l.drop i)=XK [] l) (fun i=>l.length - i) 0 ⟨aU _,rfl⟩ (St.le.of ?_ ?_) (fun i hi=>?_)
  ·exact RF
  ·exact RF
  ·obtain ⟨hi,c⟩:=hi;have hj:decide ((i:Int)<((l.map f9).length:Int))=true->i<l.length:=fun h=>by have:=aH h; simp at this; omega
   obtain ⟨x,d⟩:∃ x,x=l.getD i ⟨0,0,0⟩:=⟨_,rfl⟩;have hx:decide ((i:Int)<((l.map f9).length:Int))=true->(l.map f9)[(i:Int).toNat]?=some [.int .i64 x.k,.int .i64 x.a,.int .i64 x.b]:=fun h=>by have:=hj h; rw [d]; simp [ai this]; rfl
   have hle:(i:Int).toNat<=(l.map f9).length:=by simp; exact hi
   have he:((l.map f9).take (i:Int).toNat).drop 0=(l.take i).map f9:=by simp [Lv]
   have f:=UF (l.take i) (On x) 289 _ [.ref (f9 x)] (ak rfl) (by simp; omega) (fun y _=>UG x y);rw [<- he] at f
   repeat' first|refine aS ?_|((conv=>whnf); first|refine aa (au i) (ae _ (aa (hx bf) ?_))|refine ae _ (aa (KN _ _ _) ?_)|refine ae _ (aa (KR _ _) ?_)|refine ae _ (aa (f) ?_)|refine aa (au i) (aa (aU _) (aa hle ?_))|refine ⟨fun h=>?_,fun h=>?_⟩|refine ak ?_)
   ·have hl:=hj bf;rw [ul hl,<- d,show mS (l.take i) x=false by simp_all [mS],bJ] at c;exact Ends.mk (ak rfl) (ay (ax AV.bool (by rw [jI,<- c,bP])))
   ·have hl:=hj bf;rw [ul hl,<- d,show mS (l.take i) x=false by simp_all [mS],bJ] at c;exact Ends.mk (ak rfl) (ay (ax AV.bool (by rw [jI,<- c,bP])))
   ·have hl:=hj bf;rw [ul hl,<- d,show mS (l.take i) x=false by simp_all [mS],bJ] at c;exact Ends.mk (ak rfl) (ay (ax AV.bool (by rw [jI,<- c,bP])))
   ·have hl:=hj bf;rw [ul hl,<- d,show mS (l.take i) x=true by simp_all [mS],bG] at c;refine ae (i+1) (aa ⟨hl,c⟩ (aa ar (LE)))
   ·have j:l.length<=i:=by have:=aW (by assumption:decide ((i:Int)<((l.map f9).length:Int))=false); simp at this; omega
    rw [dg j] at c;refine Eb ?_;rw [jI,dQ e,<- c]; rfl
def kY (s:Nat->Int) (l:List dX) (a b:Int):Bool:=lc a b&&decide (bW (b - a)<=4320)&&jI l&&kP s
theorem KW (s:Nat->Int) (l:List dX) (a b:Int) (hl:l.length<=1000000):aq Tryz.prog 166 [.agg (bM s),iY l,.agg (cj a b)] (.bool (kY s l a b)):=by
 refine aM Gf Tryz.func166 ?_;intro F e w0 m0 hG d h1 kp
 repeat' first|refine aS ?_|((conv=>whnf); first|refine ae _ (aa (KR _ _) ?_)|refine ae _ (aa (UN l hl) ?_)|refine ae _ (aa (oD s) ?_)|refine ⟨fun h=>?_,fun h=>?_⟩|refine ak ?_)
 all_goals refine Eb ?_
 all_goals (have c:bW (b - a)=IntKind.i64.wrap (b - a):=rfl)
 all_goals (simp only [kY, *,c,bG,cr,bJ,bP])
theorem UD (c:Int×Int) (t:Int) (h:cQ t 0 1000000=true) (a:kC c=true):aq Tryz.prog 294 [.agg (eM c),.ref [.int .i64 t]] (.bool (O2 c t)):=by
 refine aM ET Tryz.func294 ?_;intro F d w0 m0 hG b h1 kp
 repeat' first|refine aS ?_|((conv=>whnf); first|refine ae _ (aa (UU c t h a) ?_)|refine ⟨fun h=>?_,fun h=>?_⟩|refine ak ?_)
 all_goals exact Ez
def Dm (o:Nat->Int) (t:Int):Bool:=sj o t 0 && !((mX o t).any fun c=>O2 c t)
theorem Vd (s:Nat->Int) (t:Int) (h:sj (mi s) t 0=false):aq Tryz.prog 248 [.agg (bM s),.int .i64 t] (.bool (Dm (mi s) t)):=by
 have a:=Ve (mi s) t h;refine aM vh Tryz.func248 ?_;intro F c w0 m0 hG b h1 kp;refine bz ?_
 all_goals exact Ends.mk (ak rfl) (ay (ax AV.bool (by rw [Dm,h]; rfl)))
theorem UK (s:Nat->Int) (t:Int) (h:sj (mi s) t 0=true) (e:∀ c∈mX (mi s) t,kC c=true) (f:(mX (mi s) t).length<=1000000):aq Tryz.prog 248 [.agg (bM s),.int .i64 t] (.bool (Dm (mi s) t)):=by
 have a:=UX (mi s) t h;have d:cQ t 0 1000000=true:=by simp only [sj,al] at h; exact h.1.1
 have b:=UE (mX (mi s) t) (fun c=>O2 c t) 294 _ [.ref [.int .i64 t]] (ak rfl) f (fun c hm=>UD c t d (e c hm));refine aM vh Tryz.func248 ?_;intro F j w0 m0 hG i h1 kp;refine bz ?_
 all_goals exact Ends.mk (ak rfl) (ay (ax AV.bool (by rw [Dm,h]; rfl)))
open Go Go.AI
set_option maxRecDepth 10000
theorem T5 {o:Nat->Int} (h:PV o) {d:Int} (h1:-1000<=d) (h2:d<=2000000):kC (kS o d)=true:=by
 have e:=Wb h d;have l1:=h.l1;have l3:=h.l3;have b:0<=TZ o d/\TZ o d<48000:=⟨AT _ ar,tB _ ar⟩;have a:bW ((IS o d).tdiv 1000)=TZ o d / 1000:=by rw [YZ h h1 h2,dS b.1]; exact aZ ar ar
 have c:bW ((rowW o d).tdiv 1000)=Po o d / 1000:=by rw [Yd h h1 h2,dS ar]; exact aZ ar ar
 simp only [kC,kS,a,c,cQ,al,aP];omega
theorem TY {o:Nat->Int} (h:PV o) {t:Int} (h1:0<=t) (h2:t<=1000000):∀ c∈mX o t,kC c=true:=fun c a=>by
 have s1:=h.s1;have s2:=h.s2;obtain ⟨d,e,b,rfl⟩:=(Mz ⟨h1,by omega⟩ ⟨s1,s2⟩ c).1 a;exact T5 h ar ar
theorem Uh (s:Nat->Int) (t:Int):aq Tryz.prog 248 [.agg (bM s),.int .i64 t] (.bool (Dm (mi s) t)):=by
 cases h:sj (mi s) t 0
 ·exact Vd s t h
 ·have hv:PV (mi s)/\0<=t/\t<=1000000:=by
   simp only [sj,al] at h;have h2:=h.1.1;simp only [cQ,al,aP] at h2;exact ⟨(lE _).1 h.2,h2.1,h2.2⟩
  refine UK s t h (TY hv.1 hv.2.1 hv.2.2) ?_;have:=Ql (mi s) t;have:=hv.1.s2;omega
theorem OA:∀ (l pre:List dX),XK pre l=true->∀ x∈l,x.k=1\/x.k=2
 | [],_,_,x,h=>absurd h cU
 | y::r,pre,h,x,hx=>by
  simp only [XK,al] at h;rcases bF.1 hx with rfl | hx
  ·have:=h.1;simp only [mS,cQ,al,aP] at this;omega
  ·exact OA r _ h.2 x hx
theorem UM (s:Nat->Int) (l:List dX) (t:Int) (hl:l.length<=1000) (n:∀ x∈l,x.k=1\/x.k=2):aq Tryz.prog 247 [.agg (bM s),iY l,.int .i64 t] (.int .i64 (tk s l t)):=by
 refine aM pJ Tryz.func247 ?_;intro F o w0 m0 hG m h1 kp;refine bz ?_
 refine aJ.loop (X:=Nat) (fun i=>⟨[(20,.int .i64 i),(19,.int .i64 (l.map f9).length),(18,iY l),(8,.int .i64 (tk s (l.take i) t)),(7,.loc 7 0),(2,.int .i64 t)],[(7,[.int .i64 0,.int .i64 (s 14),.int .i64 (s 15)])]⟩)
  (fun i=>i<=l.length) (fun i=>l.length - i) 0 (aU _) (St.le.of ?_ ?_) (fun i hi=>?_)
 ·exact RF
 ·exact RF
 ·have hj:decide ((i:Int)<((l.map f9).length:Int))=true->i<l.length:=fun h=>by have:=aH h; simp at this; omega
  obtain ⟨x,d⟩:∃ x,x=l.getD i ⟨0,0,0⟩:=⟨_,rfl⟩;have hx:decide ((i:Int)<((l.map f9).length:Int))=true->(l.map f9)[(i:Int).toNat]?=some [.int .i64 x.k,.int .i64 x.a,.int .i64 x.b]:=fun h=>by have:=hj h; rw [d]; simp [ai this]; rfl
  have f:decide ((i:Int)<((l.map f9).length:Int))=true->l.take (i+1)=l.take i++[x]:=fun h=>by have:=hj h; rw [d,ef,aK,ai this]; rfl
  have j:decide ((i:Int)<((l.map f9).length:Int))=true->x.k=1\/x.k=2:=fun h=>n x (by have:=hj h; rw [d,aK,ai this]; exact bT this);obtain ⟨xk,p,r⟩:=x;by_cases e:xk=1\/xk=2
  ·have body:∀ q:Int,q=1\/q=2->xk=q->True:=fun _ _ _=>trivial;rcases e with rfl | rfl
   ·repeat' first|refine aS ?_|((conv=>whnf); first|refine aa (au i) (ae _ (aa (hx bf) ?_))|refine ae _ (aa (KM _ _ _) ?_)|refine aa (aH (Eq.refl true)) ?_|refine ⟨fun h=>?_,fun h=>?_⟩|refine ak ?_)
    ·refine ae (i+1) (aa (hj bf) (aa (by have:=hj bf; omega) (St.le.of ?_ ?_)))
     ·refine aa (ax some (bL ar)) (aa rfl (aa rfl (aa (ax (fun z=>some (AV.int .i64 z)) ?_) ?_)))
      ·rw [f bf,nA];exact (aX bf).symm
      ·exact RF
     ·exact RF
    ·refine ae (i+1) (aa (hj bf) (aa (by have:=hj bf; omega) (St.le.of ?_ ?_)))
     ·refine aa (ax some (bL ar)) (aa rfl (aa rfl (aa (ax (fun z=>some (AV.int .i64 z)) ?_) ?_)))
      ·rw [f bf,nA];exact (aV (fun h=>tf h bf)).symm
      ·exact RF
     ·exact RF
    ·have c:l.length<=i:=by have:=aW (by assumption:decide ((i:Int)<((l.map f9).length:Int))=false); simp at this; omega
     refine Ends.mk (ak rfl) (ay ?_);rw [bE c]; rfl
   ·repeat' first|refine aS ?_|((conv=>whnf); first|refine aa (au i) (ae _ (aa (hx bf) ?_))|refine ae _ (aa (KM _ _ _) ?_)|refine aa (aH (Eq.refl true)) ?_|refine ⟨fun h=>?_,fun h=>?_⟩|refine ak ?_)
    ·refine ae (i+1) (aa (hj bf) (aa (by have:=hj bf; omega) (St.le.of ?_ ?_)))
     ·refine aa (ax some (bL ar)) (aa rfl (aa rfl (aa (ax (fun z=>some (AV.int .i64 z)) ?_) ?_)))
      ·rw [f bf,nA];exact (aX bf).symm
      ·exact RF
     ·exact RF
    ·refine ae (i+1) (aa (hj bf) (aa (by have:=hj bf; omega) (St.le.of ?_ ?_)))
     ·refine aa (ax some (bL ar)) (aa rfl (aa rfl (aa (ax (fun z=>some (AV.int .i64 z)) ?_) ?_)))
      ·rw [f bf,nA];exact (aV (fun h=>tf h bf)).symm
      ·exact RF
     ·exact RF
    ·have c:l.length<=i:=by have:=aW (by assumption:decide ((i:Int)<((l.map f9).length:Int))=false); simp at this; omega
     refine Ends.mk (ak rfl) (ay ?_);rw [bE c]; rfl
  ·have c:¬ decide ((i:Int)<((l.map f9).length:Int))=true:=fun h=>e (j h)
   repeat' first
 | exact (c bf).elim
    | refine aJ.seq ?_
    | refine aJ.block ?_
    | refine oF hG af pJ aI ?_
    | refine aJ.reg hG af pJ aI ?_
    | refine aJ.skip hG af ?_
    | refine aJ.label hG af ?_
    | refine aJ.ret hG af ?_
    | refine aJ.exit hG af ?_
    | refine ck rfl ?_
    | refine cm rfl ?_
    | refine aJ.cond rfl (aa (fun h=>?_) (fun h=>?_))
    |(conv=>whnf
      first
       | refine cX ?_
       | refine cW ?_
       | refine aa aI ?_
       | refine aa (au i) (ae _ (aa (hx bf) ?_))
       | refine aa (fun h=>?_) (fun h=>?_)
       | refine ak ?_
       | fail)
   have c:l.length<=i:=by have:=aW (by assumption:decide ((i:Int)<((l.map f9).length:Int))=false); simp at this; omega
   refine Ends.mk (ak rfl) (ay ?_);rw [bE c]; rfl
theorem y9 {l:List dX} (h:jI l=true):l.length<=64:=by simp only [jI,al,aP] at h; exact h.1
theorem xg {l:List dX} (h:jI l=true):∀ x∈l,x.k=1\/x.k=2:=by simp only [jI,al] at h; exact OA l [] h.2
def un (s:Nat->Int) (l:List dX) (a b:Int):List AV:=[.ref (cj a b),.ref (bM s),.ref [iY l]]
theorem KV (s:Nat->Int) (l:List dX) (a b:Int):aq Tryz.prog 167 [.agg (bM s),iY l,.agg (cj a b)] (.clo 246 (un s l a b)):=dK Ge Tryz.func167
def Yn (s:Nat->Int) (l:List dX) (t:Int):Int:=aa1 s l (Dm (mi s) t) t
def jD (s:Nat->Int) (l:List dX) (a b:Int):List (Int×Int):=ze a (fun i=>Yn s l (a+i)) (b - a).toNat
def SG (p:Int×Int):Array Value:=#[.int .i64 p.1,.int .i64 p.2]
theorem Jn (s:Nat->Int) (l:List dX) (a b:Int) (f:0<=a) (e:b<=1000000) (hl:l.length<=1000) (d:∀ x∈l,x.k=1\/x.k=2):Lo Tryz.prog SG 246 (un s l a b) (jD s l a b):=by
 refine Lo.of af vi Tryz.func246 rfl aI bh aI (ah rfl) rfl (fun l=>by kernel_rfl) ?_;intro F n m y J Jx hY
 refine YP.loop (X:=Nat) (fun i=>((false,i),⟨(5,.int .i64 (a+i))::params 0 (.lit (.func (.yield y) #[] #[])::un s l a b),[]⟩)) (fun i=>i<=(b - a).toNat) (fun i=>(b - a).toNat - i) 0 (aU _) rfl
  (St.le.of ?_ ?_) (fun i hi=>?_)
 ·refine aa (ax (fun z=>some (AV.int .i64 z)) (show a=a+((0:Nat):Int) by omega)) ?_;exact RF
 ·exact trivial
 ·refine fA (keep:=vi) hY af _ _ _ _ aI aI ?_;refine aa (fun h=>?_) (fun h=>?_)
  ·have c:i<(b - a).toNat:=by have:=aH (by assumption:decide (a+(i:Int)<b)=true); omega
   refine ae _ (aa (UM s l (a+i) hl d) ?_);refine ae _ (aa (Uh s (a+i)) ?_);refine aa (fun h2=>?_) (fun h2=>?_)
   ·refine aa rfl (ae (a+(i:Int),Yn s l (a+i)) (aa ?_ (aa (ax (fun z=>#[Value.int .i64 (a+(i:Int)),Value.int .i64 z]) ((aX h2).symm)) (aa ?_ ?_))))
    ·simp [jD,ze,aQ,l9 c]
    ·refine cX ?_;refine ae (i+1) (aa c (aa ar (aa rfl (St.le.of ?_ trivial))));refine aa (ax (fun z=>some (AV.int .i64 z)) ((aZ ar ar).trans ar)) ?_;exact RF
    ·refine cW ?_;exact iL.mk (ak rfl) (bA rfl)
   ·refine aa rfl (ae (a+(i:Int),Yn s l (a+i)) (aa ?_ (aa (ax (fun z=>#[Value.int .i64 (a+(i:Int)),Value.int .i64 z]) ((aV (fun h=>tf h h2)).symm)) (aa ?_ ?_))))
    ·simp [jD,ze,aQ,l9 c]
    ·refine cX ?_;refine ae (i+1) (aa c (aa ar (aa rfl (St.le.of ?_ trivial))));refine aa (ax (fun z=>some (AV.int .i64 z)) ((aZ ar ar).trans ar)) ?_;exact RF
    ·refine cW ?_;exact iL.mk (ak rfl) (bA rfl)
  ·refine iL.mk (bA rfl) (ak ?_);simp [jD,ze];have:=aW h;omega
open Go Go.AI
set_option maxRecDepth 10000
theorem Oc {a b:Int} (h:lc a b=true):0<=a/\a<b/\b<=1000000:=by
 simp only [lc,cQ,al,aP] at h;rw [aZ ar ar] at h;omega
theorem CU {s:Nat->Int} {l:List dX} {a b:Int} (h:kY s l a b=true):(0<=a/\a<b/\b<=1000000)/\b - a<=4320/\jI l=true/\kP s=true:=by
 simp only [kY,al,aP] at h;have c:=Oc h.1.1.1;refine ⟨c,?_,h.1.2,h.2⟩;have:=h.1.1.2;rwa [aZ ar ar] at this
theorem um {s:Nat->Int} {l:List dX} {a b:Int}:(jD s l a b).length=(b - a).toNat:=by simp [jD,ze]
theorem Ok (m:dI) (x:Int×Int) (i:Nat) (c:AV) (v:Value) (h1:[AV.int .i64 x.1,AV.int .i64 x.2][i]?=some c) (h2:(SG x)[i]?=some v):RD m c v:=by
 match i,h1,h2 with
 | 0,h1,h2=>cases h1; cases h2; exact .int _ _
 | 1,h1,h2=>cases h1; cases h2; exact .int _ _
def lvS (rows:List (List AV)):AV:=match rows with
 | [] => .sl (.id 1009000) 0 []
 | r => .sl (.id 1009000) 1 r
theorem UW (s:Nat->Int) (l:List dX) (a b:Int) (hl:l.length<=1000000) (hv:kY s l a b=true):aq Tryz.prog 214 [.agg (bM s),iY l,.agg (cj a b)] (.tup [bu (jw (s 11) (jD s l a b)).2,.int .i64 0]):=by
 obtain ⟨i,t,m,w⟩:=CU hv;have j:=KW s l a b hl;rw [hv] at j;have hlen:(jD s l a b).length<=4320:=by rw [um]; omega
 refine aM mu Tryz.func214 ?_;intro F u w0 m0 hG q h1 kp
 repeat' first|refine aS ?_|((conv=>whnf); first|refine ae _ (aa (j) ?_)|refine ae _ (aa (KV s l a b) ?_)|refine ⟨fun h=>?_,fun h=>?_⟩|refine ak ?_)
 refine ⟨oG hG h1 (α:=Int×Int) (fun p=>[.int .i64 p.1,.int .i64 p.2]) (f:=246) (cap:=un s l a b) (items:=jD s l a b) rfl (vG (Jn s l a b i.1 i.2.2 (by have:=y9 m; omega) (xg m)) (fun _=>rfl) Ok) (fun _=>rfl)
  (fun _=>[(9,.loc 9 0),(8,.loc 8 0),(3,.loc 3 0)]) [9,8,3] (fun _=>rfl) (fun pre=>[(9,[lvS ((jw (s 11) pre).2.map fun h=>[.int .i64 h])]),(8,[.int .i64 (jw (s 11) pre).1]),(3,bM s)]) (St.le.of ?_ ?_) aI bq ?_ ?_⟩
 ·exact RF
 ·exact RF
 ·intro v n m' hG _ _ pre x rest hx;have o:pre.length<4320:=by rw [hx] at hlen; simp at hlen; omega
  have c:((jw (s 11) pre).2.map fun h=>[AV.int .i64 h]).length=pre.length:=by rw [az,s9]
  refine aJ.out (aJ.reg hG af mu aI ?_)
  conv=>whnf
  refine aa rfl (aa (St.le.of ?_ ?_) ?_)
  ·exact RF
  ·exact RF
  ·refine aJ.out ?_;generalize e:((jw (s 11) pre).2.map fun h=>[AV.int .i64 h])=rows at c ⊢;rcases rows with _ | ⟨y,r⟩
   ·repeat' first|refine QE [] rfl hG af (.mk:KP mu) ?_|((conv=>whnf); first|refine cX ?_|refine cW ?_|refine fc ?_|refine aa (show (List.length ([]:List (List AV))+1)*8<=70368744177664 by rw [c]; omega) ?_|refine aa (show List.length ([]:List (List AV))+1<=4611686018427387904 by rw [c]; omega) ?_|refine aa (fun h=>?_) (fun h=>?_)|refine ak ?_)
    refine St.le.of ?_ ?_
    ·exact RF
    ·refine aa ?_ (aa ?_ (aa rfl trivial))
     ·rw [nw,rL,c7,e]; rfl
     ·rw [nw]; rfl
   ·repeat' first|refine QE [] rfl hG af (.mk:KP mu) ?_|((conv=>whnf); first|refine cX ?_|refine cW ?_|refine fc ?_|refine aa (show (List.length ((y::r):List (List AV))+1)*8<=70368744177664 by rw [c]; omega) ?_|refine aa (show List.length ((y::r):List (List AV))+1<=4611686018427387904 by rw [c]; omega) ?_|refine aa (fun h=>?_) (fun h=>?_)|refine ak ?_)
    refine St.le.of ?_ ?_
    ·exact RF
    ·refine aa ?_ (aa ?_ (aa rfl trivial))
     ·rw [nw,rL,c7,e]; rfl
     ·rw [nw]; rfl
 ·have d:((jw (s 11) (jD s l a b)).2.map fun h=>[AV.int .i64 h]).length≠0:=by rw [az,s9,um]; omega
  rw [show bu (jw (s 11) (jD s l a b)).2 = .sl .no 1 ((jw (s 11) (jD s l a b)).2.map fun h=>[AV.int .i64 h]) from rfl];generalize ((jw (s 11) (jD s l a b)).2.map fun h=>[AV.int .i64 h])=rows at d ⊢;rcases rows with _ | ⟨y,r⟩
  ·exact absurd rfl d
  ·conv=>whnf
   repeat' first|refine aS ?_|((conv=>whnf); first|refine ⟨fun h=>?_,fun h=>?_⟩|refine ak ?_)
   all_goals exact Ends.mk (ak rfl) (ay rfl)
open Go Go.AI
set_option maxRecDepth 10000
def tj (s:Nat->Int) (l:List dX) (a b:Int):Int:=let i:=lR (fun n=>decide (n<0)) (jw (s 11) (jD s l a b)).2 0; if i>=0 then bW (a+i) else -1
open Go Go.AI
set_option maxRecDepth 10000
def gV (x:Int×Int×Int):List AV:=[.int .i64 x.1,.int .i64 x.2.1,.int .i64 x.2.2]
def uv (x:Int×Int×Int):Prop:=nR x.1/\nR x.2.1/\nR x.2.2
open Go Go.AI
set_option maxRecDepth 10000
structure rF where
 x:Nat->Int
 y:Nat->Int
 z:List (Int×Int×Int)
 from_:Int
 long:Int
 hx:∀ i,nR (x i)
 hy:∀ i,nR (y i)
 hz:∀ r∈z,uv r
 hf:nR from_
 hl:nR long
def rF.s (c:rF):Nat->Int:=ZG c.x c.y
theorem kx {n a b:Int} (h:a<=n/\n<=b):cQ n a b=true:=by simp only [cQ,al,aP]; exact h
structure abq (s:Nat->Int):Prop where
 c:100<=s 11/\s 11<=2099
 u:0<=s 12/\s 12<=11
 i:0<=s 13/\s 13<=3
 h:2<=s 14/\s 14<=31
 d:1<=s 15/\s 15<=20
theorem rF.mfed (c:rF):abq c.s:=by
 have d:=bN (c.hy 1) (n:=2000) ar;have e:=bN (c.hy 2) (n:=12) ar;have b:=bN (c.hy 2) (n:=4) ar;have a:=bN (c.hy 2) (n:=30) ar;have y5:=bN (c.hy 3) (n:=20) ar;refine ⟨?_,?_,?_,?_,?_⟩
 ·show 100<=bW (100+aF (c.y 1) 2000)/\bW (100+aF (c.y 1) 2000)<=2099;grind [aZ]
 ·show 0<=aF (c.y 2) 12/\aF (c.y 2) 12<=11;omega
 ·show 0<=aF (c.y 2) 4/\aF (c.y 2) 4<=3;omega
 ·show 2<=bW (2+aF (c.y 2) 30)/\bW (2+aF (c.y 2) 30)<=31;grind [aZ]
 ·show 1<=bW (1+aF (c.y 3) 20)/\bW (1+aF (c.y 3) 20)<=20;grind [aZ]
theorem SI {o p:Nat->Int} (h:∀ i,i<7->o i=p i):s4 o=s4 p:=by
 grind [s4]
theorem rF.orb (c:rF):∀ i,i<7->mi c.s i=gY c.x i:=by
 intro i hi
 match i,hi with
 | 0,_=>rfl
 | 1,_=>rfl
 | 2,_=>rfl
 | 3,_=>rfl
 | 4,_=>rfl
 | 5,_=>rfl
 | 6,_=>rfl
theorem rF.pv (c:rF):PV (mi c.s):=by
 rw [<- lE,SI c.orb,lE];exact (Ww c.hx).1
theorem rF.sat (c:rF):kP c.s=true:=by
 have m:=c.mfed;have D:=m.c; have H:=m.u; have G:=m.i; have L:=m.h; have md:=m.d
 have J:=bN (c.hy 0) (n:=4) ar;have p1:=bN (c.hy 1) (n:=200) ar;have p2:=bN (c.hy 1) (n:=60) ar;have v:=bN (c.hy 2) (n:=9) ar;have x:=bN (c.hy 3) (n:=9) ar;have w:=bN (c.hy 3) (n:=4) ar;have B:0<=aF (bW ((c.y 0).tdiv 4)) 4/\aF (bW ((c.y 0).tdiv 4)) 4<4:=bN (nq _) ar;have F:s4 (fun i=>c.s (i+2))=true:=(lE _).2 c.pv;have A:cQ (c.s 0) 0 23=true:=by show cQ (aF 3 24) 0 23=true; decide
 have E:cQ (c.s 1) 0 15=true:=kx (show 0<=aF (c.y 0) 4/\aF (c.y 0) 4<=15 by omega);have z:cQ (c.s 9) 0 4=true:=kx (show 0<=aF (c.y 0) 4/\aF (c.y 0) 4<=4 by omega);have t:cQ (c.s 10) 1 1000000=true:=kx (show 1<=bW (20+aF (c.y 1) 200)/\bW (20+aF (c.y 1) 200)<=1000000 by grind [aZ]);have q:cQ (c.s 19) 0 60=true:=kx (show 0<=aF (bW ((c.y 0).tdiv 4)) 4/\aF (bW ((c.y 0).tdiv 4)) 4<=60 by omega);have b:cQ (c.s 20) 1 1000=true:=kx (show 1<=bW (1+aF (c.y 2) 9)/\bW (1+aF (c.y 2) 9)<=1000 by grind [aZ]);have r:cQ (c.s 16) 0 10000=true:=kx (show 0<=bW (1+aF (c.y 3) 9)/\bW (1+aF (c.y 3) 9)<=10000 by grind [aZ]);have o:cQ (c.s 17) 0 10000=true:=kx (show 0<=bW (1+aF (c.y 3) 4)/\bW (1+aF (c.y 3) 4)<=10000 by grind [aZ]);have j:cQ (c.s 18) 1 1000000=true:=kx (show 1<=bW (5+aF (c.y 1) 60)/\bW (5+aF (c.y 1) 60)<=1000000 by grind [aZ]);have p:cQ (c.s 11) 1 1000000=true:=kx ar;have l:cQ (c.s 12) 0 10000=true:=kx ar;have e:cQ (c.s 13) 0 10000=true:=kx ar;have f:cQ (c.s 14) 0 10000=true:=kx ar;have a:cQ (c.s 15) 0 10000=true:=kx ar;grind [kP,Bool.and_self]
open Go Go.AI
set_option maxRecDepth 10000
theorem K2 (n a b:Int):aq Tryz.prog 249 [.int .i64 n,.int .i64 a,.int .i64 b] (.bool (cQ n a b)):=by
 refine aM Fm Tryz.func249 ?_;intro F d w0 m0 hG c h1 kp
 repeat' first|refine aS ?_|((conv=>whnf); first|refine ⟨fun h=>?_,fun h=>?_⟩|refine ak ?_)
 all_goals refine Eb ?_
 all_goals (simp_all [cQ] <;> omega)
set_option maxHeartbeats 4000000 in
theorem Aw (o:Nat->Int):aq Tryz.prog 183 [.agg (d8 o)] (.bool (s4 o)):=by
 refine aM FY Tryz.func183 ?_;intro F b w0 m0 hG a h1 kp
 repeat' first|refine aS ?_|((conv=>whnf); first|refine ae _ (aa (K2 _ _ _) ?_)|refine aa bq ?_|refine ⟨fun h=>?_,fun h=>?_⟩|refine ak ?_)
 all_goals refine Eb ?_
 all_goals (dsimp only [s4,cQ,bW]; rw [fE]; simp only [cQ,al,Bool.and_eq_false_iff,aP,jx,tn,IZ,bne_iff_ne,AN,bne_eq_false_iff_eq,cI,iq,bv,aaH,Bool.not_eq_eq_eq_not,jj,ep] at *; generalize IntKind.i64.wrap (o 0 - 1)=q at *; generalize (o 0).tmod 2=r at *; omega)
theorem O5 {o:Nat->Int} {t late:Int} (h:sj o t late=true):PV o/\0<=t/\t<=1000000/\-10<=late/\late<=10:=by
 simp only [sj,cQ,al,aP] at h;exact ⟨(lE o).1 h.2,h.1.1.1,h.1.1.2,h.1.2.1,h.1.2.2⟩
theorem O8 {n c:Int} (b:0<c) (a:c<=1000000) (h1:-1000000000000<=n) (h2:n<=1000000000000):Y6 n c=Uc n c:=by rw [Y5 b a h1 h2,DX b a h1 h2]
theorem aaU {o:Nat->Int} {t late:Int} (h:sj o t late=true):Y6 (bW (bW (t - late)+o 1)) (o 0)=Uc (bW (bW (t - late)+o 1)) (o 0):=by
 obtain ⟨hv,h1,h2,b,a⟩:=O5 h;have:=hv.p1; have:=hv.p2; have:=hv.h1; have:=hv.h2
 rw [aZ (n:=t - late) ar ar,aZ ar ar];exact O8 ar ar ar ar
theorem abl {o:Nat->Int} {t late:Int} (h:sj o t late=true):Y6 (bW (o 4+bW (o 5*bW (t - late)))) 48000=Uc (bW (o 4+bW (o 5*bW (t - late)))) 48000:=by
 obtain ⟨hv,h1,h2,b,a⟩:=O5 h;have:=hv.n1; have:=hv.n2
 have hm:=Ow hv (t:=t - late) ar ar;rw [aZ (n:=t - late) ar ar,aZ (n:=o 5*(t - late)) ar ar,aZ ar ar];exact O8 ar ar ar ar
def LO (o:Nat->Int) (t late:Int):Int:=if sj o t late then rowW o (bW (t - late)) else 0
def MA (o:Nat->Int) (t late:Int):Int:=if sj o t late then IS o (bW (t - late)) else 0
def MD (o:Nat->Int) (t late:Int):Int×Int:=if sj o t late then kS o (bW (t - late)) else (0,0)
def YY (b:Bool):Int:=if b then 0 else 70
end Go.Proofs
