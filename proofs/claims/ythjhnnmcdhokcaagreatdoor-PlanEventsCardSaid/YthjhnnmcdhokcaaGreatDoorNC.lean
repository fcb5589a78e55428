/- Part 3 of the proof: an abstract interpreter for the code, contracts of the functions, and plain facts; the conditions are those typed. -/
import Derived.Test.YthjhnnmcdhokcaaGreatDoorNB
import Derived.Shelf.SlSortCmp.WholeK
import Derived.Shelf.SlSortCmp.NoneTotal
import Derived.Shelf.Slices.In.SortNone
import Derived.Shelf.Slices.In.CompactI
import Derived.Sort.EveryDepth
import Derived.Sort.OwnSortedInts
import Derived.Lib.SliceRun
import Derived.ProofKit
import Derived.LaidMore
import Derived.OpenShut
import Derived.Stop.Joined
import Derived.KernelRfl
import Derived.Test.YthjhnnmcdhokcaaGreatDoorProg
set_option linter.unusedSectionVars false
set_option linter.unusedVariables false
set_option linter.unusedSimpArgs false
namespace Go.AI
open Go
theorem aa {a b:Prop} (h:a) (k:b):a∧b:=And.intro h k
theorem ae.{u} {α:Sort u} {p:α→Prop} (w:α) (h:p w):Exists p:=Exists.intro w h
theorem aj {a b:Prop} (h:a):a∨b:=Or.inl h
abbrev au:=@Int.natCast_nonneg
abbrev aF:=@of_decide_eq_true
abbrev aR:=@of_decide_eq_false
abbrev aZ:=@Nat.zero_le
abbrev bA:=@List.take_of_length_le
abbrev cg:=@List.mem_singleton
abbrev eF:=@List.pairwise_iff_getElem
abbrev e7:=@Bool.eq_iff_iff
abbrev gB:=@decide_eq_false_iff_not
abbrev iK:=@Option.some.inj
abbrev kS:=@Nat.ble_eq_true_of_le
abbrev kT:=@List.length_filter_le
abbrev lP:=@Nat.lt_succ_self
abbrev nw:=@Nat.mul_one
abbrev oR:=@Array.getElem?_modify
abbrev qj:=@List.all_cons
abbrev qx:=@Go.IntKind.wrap_i64
abbrev wm:=@List.append_assoc
abbrev wn:=@Go.Calls.mono
abbrev Cf:=@List.length_mergeSort
abbrev Cg:=@List.getElem?_zipWith
abbrev Jw:=@beq_eq_false_iff_ne
abbrev SC:=@Nat.lt_or_ge
abbrev SG:=@List.all_nil
abbrev SS:=@Go.Sort.heap_grow_old
abbrev We:=@Nat.le_add_right
abbrev YV:=@Go.Proofs.enters_of
abbrev abD:=@List.append_cancel_left
end Go.AI
namespace Go.AI
open Go
open Go.RowKit (Below)
structure YM (ι α:Type) where
 P:Program
 F:Fence
 n:Nat
 nt:Nat
 m:d5
 l:Nat
 J:ι->d5->World->Prop
 Jx:ι->World->Prop
 ok:ι->α->Prop
 nxt:ι->α->ι
 avs:α->List AV
def YM.base {ι α:Type} (Y:YM ι α) (m0:d5) (W:World):cr:=⟨Y.P,Y.F,Y.n,W,m0,Y.nt⟩
structure YM.OK {ι α:Type} (Y:YM ι α):Prop where
 base:∀ m0 W,Y.m.le m0->m0.sub W->(Y.base m0 W).OK
 round:Y.F.round=none
 ab:∀ k m1 m2 b c,Y.J k m1 b->Gr b c->m1.le m2->m2.sub c->m1.News (b.heap.size<=·) m2 c->Y.J k m2 c
 abx:∀ k b c,Y.Jx k b->Gr b c->Y.Jx k c
 yld:∀ k x m1 b (vs:Array Value),Y.ok k x->Y.m.le m1->m1.sub b->Y.J k m1 b->(Y.avs x).length=vs.size->(∀ (i:Nat) (a:AV) (v:Value),(Y.avs x)[i]?=some a->vs[i]?=some v->RD m1 a v) ->
  YieldAt Y.F (Y.n - 1) Y.P Y.l vs b fun e d=>(e = .returned (.bool true)/\Y.J (Y.nxt k x) m1 d/\m1.sub d)\/(e = .returned (.bool false)/\Y.Jx (Y.nxt k x) d/\m1.sub d)
structure MI {ι α:Type} (Y:YM ι α) (g:s4 ι) (s:St) (a:Act) (w:World):Prop where
 ex:∃ b m0,Y.m.le m0/\(bif g.1 then Y.Jx g.2 b else Y.J g.2 m0 b)/\ju (Y.base m0 b) s a w/\NC b w/\m0.sub b
 df:a.defers=[]
inductive ir {ι α:Type} (Y:YM ι α) (g:s4 ι) (s:St) (c:Code) (K:Exit->s4 ι->St->Prop):Prop
 | mk (h:∀ a w,MI Y g s a w->c.wpIn Y.F Y.n Y.P (fun e d w'=>∃ b s',MI Y b s' d w'/\K e b s') a w)
section
variable {ι α:Type} {Y:YM ι α}
theorem ir.out {g} {s} {c} {K} (h:ir Y g s c K):∀ a w,MI Y g s a w->c.wpIn Y.F Y.n Y.P (fun e d w'=>∃ b s',MI Y b s' d w'/\K e b s') a w:=by cases h; assumption
theorem MI.less {g} {s s'} {a} {w} (h:MI Y g s a w) (hle:s.le s'):MI Y g s' a w:=
 ⟨let ⟨b,m0,h1,h2,d,c⟩:=h.ex; ⟨b,m0,h1,h2,d.less hle,c⟩,h.df⟩
theorem MI.inv {g} {s} {a} {w} (h:MI Y g s a w) (c:Y.F.round=none):∃ b m0,Y.m.le m0/\(bif g.1 then Y.Jx g.2 b else Y.J g.2 m0 b)/\ef (Y.base m0 b) s a w/\NC b w/\m0.sub b:=by
 obtain ⟨⟨b,m0,f,h1,h2,i⟩,d⟩:=h;exact ⟨b,m0,f,h1,⟨h2.ex,h2.size,⟨[],by simpa [la] using d,fE,by simp⟩,fun _ e=>nomatch (show none=some _ from c ▸ e)⟩,i⟩
theorem ir.mono {g} {s} {c} {K K'} (h:ir Y g s c K) (hk:∀ e g s,K e g s->K' e g s):ir Y g s c K':=
 ⟨fun a w d=>dm (h.out a w d) fun e _ _ ⟨b,s',h1,h2⟩=>⟨b,s',h1,hk e b s' h2⟩⟩
theorem Ba {g} {s} {c} {K} (m:nb [1000000000] (p0 c)=true) (h:∀ b m0,(Y.base m0 b).OK->m0.sub b->aI (Y.base m0 b) s c fun e s'=>K e g s') (hY:Y.OK):ir Y g s c K:=by
 refine ⟨fun a w j=>?_⟩;obtain ⟨b,m0,l,h1,h2,i,d⟩:=j.inv hY.round;refine dm ((h b m0 (hY.base m0 b l d) d).out a w h2) ?_;rintro e r w' ⟨n,q,s',f,o⟩;exact ⟨g,s',⟨⟨b,m0,l,h1,f.toT,i.trans n,d⟩,by rw [q.defers fun p=>dQ m dc p]; exact j.df⟩,o⟩
theorem ir.pure {g} {s} {c} {K} {e} (d:∀ {F:Fence} {n:Nat} {P:Program} {Q:Exit->Act->World->Prop} {a:Act} {w:World},Q e a w->c.wpIn F n P Q a w) (h:K e g s):ir Y g s c K:=
 ⟨fun _ _ b=>d ⟨g,s,b,h⟩⟩
theorem ir.skip {g} {s} {K} (h:K .normal g s):ir Y g s .skip K:=ir.pure wpIn_skip h
theorem ir.label {g} {s} {K} {l} (h:K .normal g s):ir Y g s (.label l) K:=ir.pure wpIn_label h
theorem ir.ret {g} {s} {K} (h:K .ret g s):ir Y g s .ret K:=ir.pure wpIn_ret h
theorem ir.exit {g} {s} {K} {j} (h:K (.exit j) g s):ir Y g s (.exit j) K:=ir.pure wpIn_exit h
theorem ir.seq {g} {s} {x y} {K} (h:ir Y g s x fun e d s'=>match e with | .normal=>ir Y d s' y K | e=>K e d s'):ir Y g s (.seq x y) K:=by
 refine ⟨fun a w i=>wpIn_seq (dm (h.out a w i) fun e m w' j=>?_)⟩;obtain ⟨d,s',b,f⟩:=j
 cases e with
 | normal=>exact f.out m w' b
 | exit id=>exact ⟨d,s',b,f⟩
 | goto l=>exact ⟨d,s',b,f⟩
 | ret=>exact ⟨d,s',b,f⟩
 | panic c=>exact ⟨d,s',b,f⟩
 | outgrown=>exact ⟨d,s',b,f⟩
theorem ir.block {g} {s} {id} {c} {K} (h:ir Y g s c fun e g s=>match e with | .exit j=>bif Nat.beq j id then K .normal g s else K (.exit j) g s | e=>K e g s):ir Y g s (.block id c) K:=by
 refine ⟨fun a w m=>abt (dm (h.out a w m) fun e o w' n=>?_)⟩;obtain ⟨f,s',b,d⟩:=n
 cases e with
 | exit j=>
  simp only at d;unfold Exit.inBlock
  cases i:Nat.beq j id with
  | true=>rw [i] at d; simp only [ak i,cR]; exact ⟨f,s',b,d⟩
  | false=>rw [i] at d; simp only [dk i,cv]; exact ⟨f,s',b,d⟩
 | normal=>exact ⟨f,s',b,d⟩
 | goto l=>exact ⟨f,s',b,d⟩
 | ret=>exact ⟨f,s',b,d⟩
 | panic c=>exact ⟨f,s',b,d⟩
 | outgrown=>exact ⟨f,s',b,d⟩
theorem ir.loop {g} {s} {c} {K} {X:Type} (sh:X->s4 ι×St) (I:X->Prop) (μ:X->Nat) (x0) (o:I x0) (p:(sh x0).1=g) (hle:s.le (sh x0).2)
  (body:∀ x,I x->ir Y (sh x).1 (sh x).2 c fun e d s'=>match e with | .normal=>∃ h,I h/\μ h<μ x/\(sh h).1=d/\s'.le (sh h).2 | e=>K e d s'):ir Y g s (.loop c) K:=by
 refine ⟨fun a0 w r=>?_⟩
 have key:∀ (m:Nat) (x:X) (a:Act) (w1:World),I x->μ x<m->MI Y (sh x).1 (sh x).2 a w1 ->
   Code.roundsIn Y.F Y.n Y.P c (fun e i w'=>∃ d s',MI Y d s' i w'/\K e d s') m a w1:=by
  intro m
  induction m with
  | zero=>intro x a w1 _ hm; omega
  | succ m t=>
   intro x a w1 hx hm j;rw [roundsIn_succ];refine dm ((body x hx).out a w1 j) fun e i w' q=>?_;obtain ⟨d,s',b,f⟩:=q
   cases e with
   | normal=>
    obtain ⟨h,g1,g2,g3,g4⟩:=f;exact t h i w' g1 am (by rw [g3]; exact b.less g4)
   | exit id=>exact ⟨d,s',b,f⟩
   | goto l=>exact ⟨d,s',b,f⟩
   | ret=>exact ⟨d,s',b,f⟩
   | panic c=>exact ⟨d,s',b,f⟩
   | outgrown=>exact ⟨d,s',b,f⟩
 exact Yu (μ x0+1) (key _ x0 a0 w o am (by rw [p]; exact r.less hle))
theorem ir.cond {g} {s} {c} {x y} {t} {K} (f:ev s c = .bool t) (h:(t=true->ir Y g s x K)/\(t=false->ir Y g s y K)):ir Y g s (.cond c x y) K:=by
 refine ⟨fun a w b=>?_⟩;obtain ⟨i,m0,_,_,⟨⟨e,j,d⟩,_⟩,_,_⟩:=b.ex
 have he:RC e (.bool t) (a.eval c):=by
  have:=cq d c;rwa [f] at this
 exact Do he.bool (fun g1=>(h.1 g1).out a w b) (fun g1=>(h.2 g1).out a w b)
end
def UE (t:List (Nat×AV)):List (Nat×AV):=jC AV.pub t
section
variable {ι α:Type} (Y:YM ι α) (T:eX)
def Dj (g:s4 ι) (s:St) (o:Oper) (K:s4 ι->St->Prop):Prop:=match o.op,o.dst with
 | .call c,some d=>match c.callee with
  | .value f=>match g with
   |(false,k)=>ev s f = .lit (.func (.yield Y.l) #[] #[])/\∃ x,Y.ok k x/\c.args.toList.map (fun z=>(ev s z).pub)=Y.avs x /\
     (∀ t,t=UE s.t->K (false,Y.nxt k x) ⟨(d,.bool true)::t,[]⟩/\K (true,Y.nxt k x) ⟨(d,.bool false)::t,[]⟩)
   | _=>False
  | _=>False
 | _,_=>False
def pD (all:List Oper) (guards:List Nat):List Oper->s4 ι->St->(s4 ι->St->Prop)->Prop
 | [],g,s,K=>K g s
 | o::rest,g,s,K=>match j6 all s o with
  | 0=>bif rP s o then Dj Y g s o fun g s=>pD all guards rest g s K
   else Xi T (ar Y.P) s o.dst o.type o.op fun s=>D6 o.op s fun s=>gS guards o.dst s fun s=>pD all guards rest g s K
  | 1=>fJ s o.dst .undef fun s=>pD all guards rest g s K
  | _=>False
end
section
variable {ι α:Type} {Y:YM ι α} (hY:Y.OK) {T:eX} (hT:T.OK Y.P) {keep:List Nat} {Q:Exit->Act->World->Prop} {next:Act->World->Prop}
include hY in
theorem tV {g} {s} {o} {a} {w} {K} (hI:MI Y g s a w) (E:∀ d,o.dst=some d->d<Y.nt) (h:Dj Y g s o K)
  (hn:∀ g' s' a' w',K g' s'->MI Y g' s' a' w'->next a' w'):o.wpIn Y.F Y.n Y.P a w next Q:=by
 obtain ⟨W0,m0,H,hJ,G,A,X⟩:=hI.inv hY.round;have hG:=hY.base m0 W0 H X;unfold Dj at h;split at h
 ·rename_i c d D hd;split at h
  ·rename_i f M;split at h
   ·rename_i k;obtain ⟨hf,x,hx,N,hK⟩:=h;obtain ⟨hK1,hK2⟩:=hK _ rfl;obtain ⟨⟨j,r,ht⟩,L,hdf⟩:=G
    have hfv:a.eval f = .func (.yield Y.l) #[] #[]:=by
     have:=cq ht f;rw [hf] at this;have this:RD j.m _ _:=this;generalize a.eval f=u at this;cases this;rfl
    have p:Y.m.le j.m:=H.trans r.le0;have hJw:Y.J k j.m w:=hY.ab k m0 j.m W0 w hJ ⟨r.ext.toBelow A,A.more⟩ r.le0 r.sub (r.new.unfree r.sub A)
    obtain ⟨fn,tmps,assign,body,hy,hR⟩:=hY.yld k x j.m w (c.args.map a.eval) hx p r.sub hJw (by rw [<- N]; simp) (fun i z v h1 h2=>by
     rw [<- N,aT] at h1;obtain ⟨q,hq,rfl⟩:=aA.1 h1;rw [Oq] at h2;obtain ⟨q',Z,rfl⟩:=aA.1 h2
     have:q=q':=by
      rw [cU] at hq;rw [hq] at Z; cases Z; rfl
     subst this;exact (cq ht q).pub)
    have U:(execOp a.eval o).run Y.P w = .ok (.round Y.l fn tmps assign body) w:=by
     simp only [execOp,D,aD,resolve,M,hfv,Deferred.ofValue,aL,aw,invoke];simpa using hy
    refine ⟨fun f _=>hG.fn f,?_⟩;rw [kW _ _ _ (by rw [D]; intro c hc; cases hc),U,Oper.uponIn_round];refine ⟨fun h=>(by rw [show Y.F.depth=none from hG.depth] at h; cases h),hR.mono ?_⟩
    have fin:∀ (b:Bool) (w':World),j.m.sub w'->(bif !b then Y.Jx (Y.nxt k x) w' else Y.J (Y.nxt k x) j.m w')->MI Y (!b,Y.nxt k x) ⟨(d,.bool b)::UE s.t,[]⟩ (a.put o.dst (.bool b)) w':=by
     intro b w' hm hj;have hdl:d<a.tmps.size:=by rw [L]; exact E d hd
     refine ⟨⟨w',j.m,p,hj,⟨⟨_,nO (Γ:=Y.base j.m w') hm rfl,fun e y hy=>?_⟩,by rw [fI]; exact L⟩,.refl _,hm⟩,by rw [er]; exact hI.df⟩;refine RC.of_RD (c:=⟨_,_,_,j.m,_,_⟩) ?_;simp only [bf] at hy;split at hy
     ·rename_i B;cases hy;rw [hd,fM _ _ _ _ hdl,aV B];exact RD.bool b
     ·rename_i B;rw [UE,dO] at hy;obtain ⟨z,hz,rfl⟩:=aA.1 hy;rw [hd,fM _ _ _ _ hdl,aY B];exact (ht e z hz).pub
    rintro e w' (⟨rfl,hj,hm⟩ | ⟨rfl,hj,hm⟩)
    ·exact hn _ _ _ _ hK1 (fin true w' hm hj)
    ·exact hn _ _ _ _ hK2 (fin false w' hm hj)
   ·exact h.elim
  ·exact h.elim
 ·exact h.elim
include hY hT in
theorem lz {all:List Oper} {guards:List Nat} (b:∀ j d,jx all j=some d->d<Y.nt):∀ (l:List Oper) (k:Nat) (g:s4 ι) (s:St) (a:Act) (w:World) (K:s4 ι->St->Prop),
  (∀ j,l[j]?=all[k+j]?)->pD Y T all guards l g s K->MI Y g s a w->(∀ A s' t w',K A s'->MI Y A s' t w'->Q .normal t w')->wpOpsIn Y.F Y.n Y.P all.toArray Q (List.range' k l.length) a w
 | [],k,g,s,a,w,K,_,h,u,x=>x g s a w h u
 | o::rest,k,g,s,a,w,K,hk,h,u,x=>by
  have E:all.toArray[k]?=some o:=by simpa using (hk 0).symm
  have h0':all[k]?=some o:=by simpa using E
  have hk':∀ j,rest[j]?=all[k+1+j]?:=fun j=>by have:=hk (j+1); simpa [d3,oc 1 j] using this
  have e:∀ d,o.dst=some d->d<Y.nt:=fun d H=>b k d (by rw [eK,h0']; exact H);obtain ⟨r,m0,m,G,c,y,i⟩:=u.inv hY.round;have hG:=hY.base m0 r m i;simp only [bu,fj,wpOpsIn,E];simp only [pD] at h;split at h
  ·rename_i D;rw [dC (Γ:=Y.base m0 r) b c 0 D am];simp only [ei,cR]
   cases hy:rP s o with
   | true=>
    rw [hy,aP] at h;exact tV hY u e h fun A s' t w' z q=>lz b rest (k+1) A s' t w' K hk' z q x
   | false=>
    rw [hy,bq] at h;refine lg (Γ:=Y.base m0 r) hG hT rfl c e h ?_;intro s' t w' z q L J;rw [uQ] at z;obtain ⟨s2,p,hle⟩:=ja z;refine lz b rest (k+1) g s2 t w' K hk' p (MI.less ⟨⟨r,m0,m,G,q.toT,y.trans L,i⟩,?_⟩ hle) x;obtain ⟨v,rfl⟩:=J;rw [er]; exact u.df
  ·rename_i D;rw [dC (Γ:=Y.base m0 r) b c 1 D am];simp only [Nat.reduceBEq,br,cv];obtain ⟨s2,p,B⟩:=fY c e h;exact ⟨fun f _=>hG.fn f,lz b rest (k+1) g s2 _ w K hk' p ⟨⟨r,m0,m,G,B.toT,y,i⟩,by rw [er]; exact u.df⟩ x⟩
  ·exact h.elim
include hY hT in
theorem ir.reg (keep) {g} {s} {K} {id} {ops} (c:dL Y.nt (.region id ops false)=true)
  (h:pD Y T ops.toList (dI ops.toList ops.toList) ops.toList g s fun g s=>gt keep s (K .normal g)):ir Y g s (.region id ops false) K:=by
 refine ⟨fun a w d=>?_⟩;obtain ⟨l⟩:=ops;refine fT ?_;rw [show (⟨l⟩:Array Oper).size=l.length from rfl,db];refine lz hY hT (eB c) l 0 g s a w _ (fun j=>by simp) h d ?_;intro f s' i w' e b;obtain ⟨s2,h2,hle⟩:=ek e;exact ⟨f,s2,b.less hle,h2⟩
end
theorem jA.of {P} {α:Type} {avs:α->List AV} {f:FuncId} {fn:Func} {body:Code} {cap:List AV} {items:List α} (hf:P.funcs[f]?=some fn) (hb:fn.body=some body)
  (j:(fn.name == "runtime.NumGoroutine")=false) (hm:P.follows .mixedOrders=true) (hn:cap.length+1<=fn.ntmps) (r:fn.results=#[])
  (h:∀ (F:Fence) (n:Nat) (m:d5) (l:Nat) (J:Nat->d5->World->Prop) (Jx:Nat->World->Prop),YM.OK ⟨P,F,n,fn.ntmps,m,l,J,Jx,fun k x=>items[k]?=some x,fun k _=>k+1,avs⟩ ->
   ir ⟨P,F,n,fn.ntmps,m,l,J,Jx,fun k x=>items[k]?=some x,fun k _=>k+1,avs⟩ (false,0) ⟨params 0 (.lit (.func (.yield l) #[] #[])::cap),[]⟩ body fun e g s=>iL items.length e g s):jA P avs f cap items:=by
 refine ⟨jz hf j hb,fun m lb hl hr F n t D M y l J Jx W hs E w b z G=>?_⟩
 let Y:YM Nat α:=⟨P,F,n,fn.ntmps,m,l,fun k=>J (items.take k),fun _=>Jx,fun k x=>items[k]?=some x,fun k _=>k+1,avs⟩
 have hY:Y.OK:=⟨fun m0 W h1 h2=>⟨t,D,M,hm,E.trans h1,E.sub (h1.sub h2)⟩,y,fun k m1 m2 A H h1 h2=>w _ m1 m2 A H h1 h2.toI,fun _ A H h1 h2=>b A H h1 h2.toI,fun k x m1 A vs hx hle N i U Z=>by
  have hlt:=(aq.1 hx).1;have hxx:=(aq.1 hx).2;have htk:items.take (k+1)=items.take k++[x]:=by rw [eN,hx]; rfl
  have hz:=z _ x m1 A vs ⟨items.drop (k+1),by grind [List.drop_eq_getElem_cons,List.take_append_drop]⟩ hle N i U Z;grind [Ck,id]⟩
 have hp:=(h F n m l _ _ hY).out
 have X:∀ (d:Nat) (x:AV),get (params 0 (.lit (.func (.yield l) #[] #[])::cap)) d=some x->RD m x ((#[Value.func (.yield l) #[] #[]]++lb++Array.replicate (fn.ntmps - (#[Value.func (.yield l) #[] #[]]++lb).size) Go.undef).getD d Go.undef):=by
  intro d x hx;obtain ⟨_,h2⟩:=lh _ _ _ _ hx;simp only [sm] at h2;have hdl:=(aq.1 h2).1;simp only [bu] at hdl;rw [aJ,c9 (by simp; omega)]
  cases d with
  | zero=>
   simp at h2;subst h2;rw [c9 dc];exact .lit (.func (.yield l) #[] #[]) rfl rfl
  | succ d=>
   grind
 refine callsIn_of_wp hf hb (t f) (dm (hp _ W ⟨⟨W,m,.refl _,G,⟨⟨_,nO (Γ:=Y.base m W) hs rfl,fun d x hx=>RC.of_RD (c:=⟨_,_,_,m,_,_⟩) (X d x hx)⟩,?_⟩,.refl _,hs⟩,rfl⟩) ?_) y
 ·grind [YM.base,Array.size_append,Array.size_replicate,List.size_toArray,List.length_cons,List.length_nil]
 ·rintro e a' w' ⟨g',s',hI,⟨he,B⟩⟩
  have o:a'.defers=[]/\∃ v,(results fn a'.tmps).run P w' = .ok v w'/\((∃ u,Ending.returned v = .returned u)/\((∃ p m',p=items/\J p m' w')\/Jx w')):=by
   refine ⟨hI.df,.tuple #[],by simp [results,r],⟨_,rfl⟩,?_⟩;obtain ⟨W0,m0,hm0,i,L,a,_⟩:=hI.ex;obtain ⟨⟨c,q,_⟩,_⟩:=L;rcases B with rfl | hg
   ·exact .inl ⟨items,c.m,rfl,w _ m0 c.m _ _ (by have i:J (items.take items.length) m0 W0:=i; rwa [ej] at i) (Gr.toI ⟨q.ext.toBelow a,a.more⟩) q.le0 q.sub (q.new.unfree q.sub a)⟩
   ·rw [hg] at i;exact .inr (b _ _ i (Gr.toI ⟨q.ext.toBelow a,a.more⟩))
  rcases he with rfl | rfl <;> exact o
open Go
open Go.RowKit (Below)
structure Wn (b:Nat) (w w':World):Prop where
 os:w'.os=w.os
 tape:w'.tape=w.tape
 output:w'.output=w.output
 size:w.heap.size<=w'.heap.size
 block:∀ k,k<w.heap.size->k≠b->w'.heap[k]?=w.heap[k]?
 soft:eV w' b
def Tw (w:World) (b n:Nat):Prop:=∃ c T,w.heap[b]?=some (.cells c T (0,0))/\n<=c.size
theorem Tw.soft {w} {b n} (h:Tw w b n):eV w b:=by
 obtain ⟨c,T,h,_⟩:=h;exact ⟨c,T,h⟩
structure xt (P:Program) (f:FuncId) (sz:Nat) (rows:List (List Int)) (args:List AV) (Q:AV->List (List Int)->Prop):Prop where
 enters:∀ (args:Array Value) (w:World),(callFunc f args).run P w = .ok (.enter f args) w
 runs:∀ (m:d5) (w:World) (vs:List Value) (b cap:Nat),m.sub w->(gu P).le m->(∀ o,m b o=none)->Tw w b (cap*sz)->rows.length<=cap ->
  (∀ (i j:Nat) (r:List Int) (n:Int),rows[i]?=some r->r[j]?=some n->w.cell? ⟨b,i*sz+j,none⟩=some (.int .i64 n)) ->
  args.length=vs.length->(∀ (i:Nat) (x:AV) (v:Value),args[i]?=some x->vs[i]?=some v->RD m x v) ->
  Calls P f (Value.slice (some ⟨b,0,none⟩) rows.length cap::vs).toArray w fun e w'=>∃ v m' r c,e = .returned v/\Q r c/\RD m' r v/\c.length=rows.length/\(∀ x∈c,x.length=sz) /\
   (∀ (i j:Nat) (r:List Int) (n:Int),c[i]?=some r->r[j]?=some n->m' b (i*sz+j)=some (.int .i64 n))/\m.le m'/\d5.sub m' w'/\Wn b w w' /\
   (∀ k o v,m' k o=some v->m k o=some v\/(k=b\/w.heap.size<=k)/\eV w' k)/\(∀ k x,m'.maps k=some x->m.maps k=some x\/w.heap.size<=k)/\jk w w'
def i7 (rows:List (List Int)):List (List AV):=rows.map fun r=>r.map (AV.int .i64)
theorem ox {rows} {i:Nat} {x} (h:(i7 rows)[i]?=some x):∃ r,rows[i]?=some r/\x=r.map (AV.int .i64):=by
 simp only [i7,aT,aA] at h;obtain ⟨r,h1,h2⟩:=h;exact ⟨r,h1,h2.symm⟩
section
variable {Γ:cr} (hΓ:Γ.OK) {s:St} {a:Act} {w:World} {o:Oper} {next:Act->World->Prop} {Q:Exit->Act->World->Prop} {K:St->Prop}
end
section
variable {Γ:cr} (hΓ:Γ.OK) {T:eX} (hT:T.OK Γ.P) {Q:Exit->Act->World->Prop}
def my (T:eX) (P:Program) (step:St->Oper->(St->Prop)->Prop) (all:List Oper) (guards:List Nat) (n:Nat) (s:St) (K:St->Prop):Prop:=
 li T (ar P) (bW P) all guards (all.take n) s fun s1=>match all.drop n with
  | o::post=>bif o.guard.isNone then step s1 o fun s2=>li T (ar P) (bW P) all guards post s2 K else False
  | []=>False
theorem sO:∀ (l r:List Oper),eJ (l++r)=eJ l++eJ r
 | [],_=>rfl
 | o::l,r=>by simp only [jE,eJ,sO l r,wm]
include hΓ hT in
theorem lj {step} (u:∀ (s:St) (a:Act) (w:World) (o:Oper) (K:St->Prop) (next:Act->World->Prop) (Q:Exit->Act->World->Prop),ef Γ s a w->(∀ d,o.dst=some d->d<Γ.nt)->step s o K ->
   (∀ s' m w',K s'->ef Γ s' m w'->NC w w'->FT o.dst.toList a m->next m w')->o.wpIn Γ.F Γ.n Γ.P a w next Q) (keep) (n) {s} {K} {id} {ops} (ho:dL Γ.nt (.region id ops false)=true)
  (h:my T Γ.P step ops.toList (dI ops.toList ops.toList) n s fun s'=>gt keep s' (K .normal)):aI Γ s (.region id ops false) K:=by
 refine ⟨fun a w L=>?_⟩;obtain ⟨all⟩:=ops;have f:=eB (l:=all) ho;refine fT ?_;unfold my at h;simp only at h;rw [show (⟨all⟩:Array Oper).size=all.length from rfl,db]
 cases c:all.drop n with
 | nil=>
  rw [c] at h;have M:all.length<=n:=by simpa using c
  have U:all.take n=all:=bA M;rw [U] at h;have:=jJ (Q:=fun e m w'=>NC w w'/\FT (p0 (.region id ⟨all⟩ false)) a m/\∃ s',ef Γ s' m w'/\K e s') hΓ hT 0 f all 0 s a w _ (fun j o h=>by simpa using h) h L (fun _ _ _ h=>h.elim);simpa using this
 | cons o post=>
  rw [c] at h
  have M:n<all.length:=by
   rcases SC n all.length with h | h
   ·exact h
   ·rw [c7 h] at c; cases c
  have b:all.take n++o::post=all:=by rw [<- c,Ce]
  have i:(all.take n).length=n:=by simp; omega
  have hlen:all.length=n+(post.length+1):=by have:=ax List.length b; simp only [cj,bu,i] at this; omega
  have q:all[n]?=some o:=by rw [<- b,bM am,i]; simp
  rw [hlen]
  have:=jJ (Q:=fun e m w'=>NC w w'/\FT (p0 (.region id ⟨all⟩ false)) a m/\∃ s',ef Γ s' m w'/\K e s') hΓ hT (post.length+1) f (all.take n) 0 s a w _ (fun j o h=>by
   rw [bS];rw [dj] at h;split at h
   ·exact h
   ·cases h) h L (fun s1 a1 w1 h1 y E A=>?_)
  ·rw [i] at this; exact this
  ·rw [i,bS,fj];have X:(all.toArray)[n]?=some o:=by simpa using q
   simp only [wpOpsIn,X];simp only at h1
   cases p:o.guard with
   | some g=>rw [p] at h1; simp only [Option.isNone_some,bq] at h1
   | none=>
    rw [p] at h1;simp only [Option.isNone_none,aP] at h1;simp only [Region.wanted,p,cR];have J:∀ d,o.dst=some d->d<Γ.nt:=fun d c=>f n d (by rw [eK,q]; exact c);refine u _ _ _ _ _ _ _ y J h1 (fun s2 a2 w2 z x G H=>?_)
    have t:eJ all=eJ (all.take n)++(o.dst.toList++eJ post):=by
     conv=>lhs; rw [<- b]
     rw [sO]; rfl
    refine kG hΓ hT f post (n+1) s2 a2 w2 _ (fun j=>?_) z x (fun s3 a3 w3 r D B v=>?_)
    ·conv=>rhs; rw [<- b]
     rw [bM am,i,show n+1+j - n=j+1 by omega,fk]
    ·obtain ⟨N,Z,hle⟩:=ek r;refine ⟨(E.trans G).trans B,?_,N,D.less hle,Z⟩;show FT (eJ all) a a3;rw [t];exact ((A.mono fun d c=>bc _ c).trans (H.mono fun d c=>bh _ (bc _ c))).trans (v.mono fun d c=>bh _ (bh _ c))
end
theorem HI {P} {T} (hT:T.OK P) {f} {fn} {body} {args} {R} (hf:P.funcs[f]?=some fn) (E:fn.body=some body)
  (b:(fn.name == "runtime.NumGoroutine")=false) (hm:P.follows .mixedOrders=true) (hn:args.length<=fn.ntmps)
  (h:∀ (F:Fence) (n:Nat) (w0:World) (m0:d5),cr.OK ⟨P,F,n,w0,m0,fn.ntmps⟩->F.round=none->9<=n->m0.sub w0->SP ⟨P,F,n,w0,m0,fn.ntmps⟩ ⟨params 0 args,[]⟩ body (fun e s=>∃ r,R r/\Ends T fn.results.toList r e s)):j3 P f args R:=by
 refine ⟨jz hf b E,fun m w vs A p hlen U=>?_⟩;have hG:cr.OK ⟨P,Fence.wide,9,w,m,fn.ntmps⟩:=⟨fun _=>trivial,rfl,rfl,hm,p,p.sub A⟩;refine Wu.1 (tE (n:=9) hf E trivial ?_);have M:=h Fence.wide 9 w m hG rfl (ba _) A;refine dm (M _ w ⟨⟨_,nO (Γ:=⟨P,Fence.wide,9,w,m,fn.ntmps⟩) A rfl,fun d x hx=>?_⟩,by simp; omega,⟨[],rfl,fE,by simp⟩,fun _ h=>nomatch h⟩) ?_
 ·obtain ⟨_,h2⟩:=lh _ _ _ _ hx;simp only [sm] at h2;have X:d<args.length:=(aq.1 h2).1;refine RC.of_RD (c:=⟨_,_,_,m,_,_⟩) (U d x _ h2 ?_);rw [aJ,c9 (by simp; omega)];simp [ai (show d<vs.length by omega)]
 ·intro e a w' ⟨B,_,s',N,⟨r,y,⟨he,hR⟩⟩⟩
  have i:LeavesInM Fence.wide 9 P fn a.tmps (fun e w'=>∃ r,R r/\∃ v m',e = .returned v/\RD m' r v/\m.le m'/\d5.sub m' w'/\RowKit.Below w.heap.size w w'/\m.News (w.heap.size<=·) m' w'/\jk w w') a.defers .returning w':=by
   obtain ⟨⟨c,j,J⟩,_,⟨Z,u,z,l⟩,_⟩:=N;rw [u];refine uF Z w' (j.ext.toBelow B) j.sub z (fun D G=>⟨(l D G).1,(l D G).2⟩) fun w2 h1 h2 H L=>?_;obtain ⟨v,q,t⟩:=pT (a:=a) hT (j.keep (.ofBelow h1) h2 H) J hR;exact ⟨v,q,r,y,v,c.m,rfl,t,j.le0,h2,h1,(j.new.unfree j.sub B).keep fun _ ⟨c,T,h⟩=>⟨c,T,H _ _ h rfl⟩,B.more.trans L⟩
  rcases he with rfl | rfl <;> exact i
theorem rI {P} {T} (hT:T.OK P) {f} {fn} {body} {args} {r} (hf:P.funcs[f]?=some fn) (d:fn.body=some body)
  (b:(fn.name == "runtime.NumGoroutine")=false) (hm:P.follows .mixedOrders=true) (e:args.length<=fn.ntmps)
  (h:∀ (F:Fence) (n:Nat) (w0:World) (m0:d5),cr.OK ⟨P,F,n,w0,m0,fn.ntmps⟩->F.round=none->9<=n->m0.sub w0->aI ⟨P,F,n,w0,m0,fn.ntmps⟩ ⟨params 0 args,[]⟩ body (Ends T fn.results.toList r)):ar P f args r:=
 j3.one (HI hT hf d b hm e fun F n w0 m0 h1 h2 c i=>(h F n w0 m0 h1 h2 c i).out.mono fun _ _ he=>⟨_,rfl,he⟩)
open Go
open Go.RowKit (Below)
def Wc (T:eX) (rs:List ResultVar) (s:St) (N:List Nat) (r:AV):Prop:=match rs with
 | [x]=>match Iy T s x with
  | some (.me .sl k n [])=>r = .me .sl k n []/\dn N k=true
  | _=>False
 | _=>False
theorem Ok {Γ} {T} (hT:T.OK Γ.P) {s} {a:Act} {w} {c} {fn} {N I} {r} (m:WI Γ c s.b w) (l:∀ d x,get s.t d=some x->RC c x (a.tmps.getD d Go.undef)) (h:Wc T fn.results.toList s N r) :
  ∃ v,(results fn a.tmps).run Γ.P w = .ok v w/\RR (c.only N I) N r v:=by
 have e:results fn a.tmps=(do let vs <- fn.results.toList.mapM (zC a.tmps); pure (if h:vs.toArray.size=1 then vs.toArray[0] else .tuple vs.toArray)):=by
  unfold results;rw [vX];simp only [bind_map_left]
  congr 2
 rw [e];unfold Wc at h;split at h
 ·rename_i x hx;split at h
  ·rename_i k n hv;obtain ⟨rfl,hk⟩:=h;have hk:=gq hk;obtain ⟨u,f,i⟩:=ta hT m l hv;refine ⟨u,?_,hk,RX.only hk (fun j hj=>by simp [si,Xw] at hj) (show RX c .sl k n [] u from i)⟩;rw [hx];simp [HM,aD,f,aw]
  ·exact h.elim
 ·exact h.elim
theorem RR.of_RD {c:dM} {N I} {r} {v} (h:RD c.m r v):RR (c.only N I) N r v:=by
 cases r with
 | me g k n xs=>exact nomatch h
 | _=>exact h
def MT (N:List Nat) (args:List AV) (body:Code):Bool:=N.all (fun k=>Nat.blt k 7000000)||(!dn (p0 body) 0&&N.all fun k=>Nat.blt k 7000000||(match args with | .me .sl k' _ _::_=>Nat.beq k' k | _=>false))
def Pd (N:List Nat) (s:St):Bool:=N.all fun k=>Nat.blt k 7000000||(match get s.t 0 with | some (.me .sl k' _ _)=>Nat.beq k' k | _=>false)
structure gj (T:eX) (rs:List ResultVar) (N I:List Nat) (R:AV->List (Nat×AV)->Prop) (e:Exit) (s:St):Prop where
 ex:e = .ret\/e = .normal
 ok:∃ r a,R r a/\(PN T rs s r\/Wc T rs s N r)/\gO s (ky a)=some a/\((ky a).all (dn N)&&((si a).all (dn I)&&Pd N s))=true
theorem lR.ofB {P} {T} (hT:T.OK P) {f} {fn} {body} {N I} {args} {L} {R} (hf:P.funcs[f]?=some fn) (l:fn.body=some body)
  (hname:(fn.name == "runtime.NumGoroutine")=false) (hm:P.follows .mixedOrders=true) (hn:args.length<=fn.ntmps)
  (h:∀ (F:Fence) (n:Nat) (w0:World) (m0:d5),cr.OK ⟨P,F,n,w0,m0,fn.ntmps⟩->F.round=none->9<=n->aI ⟨P,F,n,w0,m0,fn.ntmps⟩ ⟨Cl L++params 0 args,[]⟩ body (gj T fn.results.toList N I R)) (hkp:MT N args body=true:=by rfl):lR P f N I args L R:=by
 refine ⟨jz hf hname l,fun c w vs hL hgm hgw hlen hr=>?_⟩;obtain ⟨Γ,t⟩:∃ Γ:cr,Γ=⟨P,Fence.wide,9,mX w (eW c N I),c.m,fn.ntmps⟩:=⟨_,rfl⟩;have E:Γ.w0=mX w (eW c N I):=by rw [t]
 have hm0:Γ.m0=c.m:=by rw [t]
 have hP:Γ.P=P:=by rw [t]
 have hT':T.OK Γ.P:=by rw [hP]; exact hT
 have hG:cr.OK ⟨P,Fence.wide,9,mX w (eW c N I),c.m,fn.ntmps⟩:=⟨fun _=>trivial,rfl,rfl,hm,hgm,hgw⟩;refine Wu.1 (tE (n:=9) hf l trivial ?_);have H:=(h Fence.wide 9 (mX w (eW c N I)) c.m hG rfl (ba _)).out;rw [<- t] at H
 have hW0:WI Γ c [] w:=by
  have q:=hL.wi;rw [t];exact ⟨q.ext,q.sub,q.le0,q.new,q.box,q.inj,fun k=>⟨(q.own k).blk,(q.own k).shape,(q.own k).box,(q.own k).apart⟩,fun k b o hx=>⟨(q.xo k b o hx).new,(q.xo k b o hx).obj,(q.xo k b o hx).kept,(q.xo k b o hx).mem,(q.xo k b o hx).map,(q.xo k b o hx).box,(q.xo k b o hx).own,(q.xo k b o hx).inj⟩⟩
 have hI0:ef Γ ⟨Cl L++params 0 args,[]⟩ ⟨vs.toArray++Array.replicate (fn.ntmps - vs.toArray.size) Go.undef,[]⟩ w:=by
  refine ⟨⟨c,hW0,fun d x hx=>?_⟩,by rw [t]; simp; omega,⟨[],rfl,fE,by simp⟩,fun _ h=>by rw [t] at h; exact nomatch h⟩;rw [eI] at hx
  cases hg:get (Cl L) d with
  | some y=>
   rw [hg] at hx;cases hx;obtain ⟨p,H,rfl,rfl⟩:=D9 hg;obtain ⟨_,g,n,xs,e,_⟩:=hL.shape p H;have:=hL.ent p H ((vs.toArray++Array.replicate (fn.ntmps - vs.toArray.size) Go.undef).getD (xk p.1) Go.undef);rw [e] at this ⊢;exact this
  | none=>
   rw [hg] at hx;obtain ⟨_,h2⟩:=lh _ _ _ _ (show get (params 0 args) d=some x from hx);simp only [sm] at h2;have hdl:d<args.length:=(aq.1 h2).1;refine hr d x _ h2 ?_;rw [aJ,c9 (by simp; omega)];grind
 have hp2:=H _ w hI0;rw [t] at hp2;refine dm hp2 ?_;rw [<- t];intro e a w' ⟨hN,hFT,s',hI,⟨he,r,L',hR,A,hent,z⟩⟩
 have hpost:LeavesInM Fence.wide 9 P fn a.tmps (fun e w'=>∃ r L' v c',R r L'/\e = .returned v/\RR c' N r v/\Wh P c' N I L' w'/\c.m.le c'.m/\Oo (eW c N I) w w' /\
   (∀ b,eW c' N I b->eW c N I b\/w.heap.size<=b)/\c.m.News (fun b=>eW c N I b\/w.heap.size<=b) c'.m w'/\NC w w'/\∀ k∈N,7000000<=k->Bb c.x c'.x c.xn c'.xn k) a.defers .returning w':=by
  obtain ⟨⟨c1,hW,ht⟩,_,⟨Ds,hD1,hD2,hD3⟩,_⟩:=hI;rw [hD1];have hsz:Γ.w0.heap.size=w.heap.size:=by rw [E,tp]
  refine uF (B:=w.heap.size) (w0:=w') Ds w' (.refl _ _) hW.sub hD2 (fun D hD=>⟨(hD3 D hD).1,hsz ▸ (hD3 D hD).2⟩) fun w2 h1 h2 h3 h4=>?_;have i:=hW.keep (hW.ext.trans (.of h1 am)) h2 h3
  obtain ⟨v,hv1,hv2⟩:∃ v,(results fn a.tmps).run P w2 = .ok v w2/\RR (c1.only N I) N r v:=by
   rcases A with A | A
   ·obtain ⟨v,hv1,hv2⟩:=pT (a:=a) hT' i ht A;grind [RR.of_RD]
   ·have:=Ok (a:=a) (I:=I) hT' i ht A;grind
  have M:NC w w2:=⟨bH hN.size h1.size,fun b o l ho=>(h1.block b (aX.1 l).1).trans (hN.same b o l ho),hN.more.trans h4,fun b l=>by
   obtain ⟨cs,U,G⟩:=hN.soft b l;exact ⟨cs,U,h3 b _ G rfl⟩⟩
  have J:∀ b o,w2.heap[b]?=some o->te o=true->w.heap[b]?≠some (Obj.deferred none):=fun b o l ho G=>by
   rw [M.same b _ G rfl] at l; cases l; cases ho
  simp only [al,aN] at z
  have hB:∀ b,eW (c1.only N I) N I b->eW c N I b\/w.heap.size<=b:=fun b l=>by
   have hb':=tt.1 l;obtain ⟨hf,_⟩:=i.lent_free hb';rw [E] at hf;rcases ph hf with h | h | h
   ·exact .inr h
   ·exact .inl h
   ·rcases hb' with ⟨k,_,o,hx⟩ | ⟨j,_,hj⟩
    ·exact absurd h (J b o (i.xo k b o hx).obj (i.xo k b o hx).kept)
    ·obtain ⟨_,_,_,_,_,q,_⟩:=(i.own j).blk b hj;exact absurd h (J b _ q rfl)
  have X:∀ k∈N,7000000<=k->Bb c.x (c1.only N I).x c.xn (c1.only N I).xn k:=fun k hk h7=>by
   have hn7:Nat.blt k 7000000=false:=by
    cases l:Nat.blt k 7000000 with
    | false=>rfl
    | true=>have:=ah l; omega
   have h0:Pd N s'=true:=z.2.2;have h0:=aN.1 h0 k hk;rw [hn7,gX] at h0;have g0:=hkp;simp only [MT,cu] at g0;rcases g0 with g0 | g0
   ·grind
   ·simp only [al,c8] at g0;obtain ⟨g1,g2⟩:=g0;have g2:=aN.1 g2 k hk;rw [hn7,gX] at g2;split at h0
    ·rename_i k1 n1 x1 he1;have e1:=ak h0;subst e1;split at g2
     ·rename_i k2 n2 x2 rest _;have e2:=ak g2;subst e2;have q1:=ht _ _ he1;have hlen':0<vs.length:=by rw [<- hlen]; simp
      have q0:=hr 0 _ vs[0] rfl (ai hlen');have hnot:0 ∉ p0 body:=fun h=>by rw [(dH).2 h] at g1; cases g1
      have Z:=FT.tmps hFT hnot am;rw [Z] at q1
      have hv0:(vs.toArray++Array.replicate (fn.ntmps - vs.toArray.size) Go.undef).getD 0 Go.undef=vs[0]:=by
       rw [aJ,c9 (by simpa using hlen')];simp [ai hlen']
      rw [hv0] at q1;obtain ⟨b1,Q,T1,cap1,r1,r2,r3,r4⟩:=(show RX c1 .sl k2 n1 x1 vs[0] from q1);obtain ⟨b0,cells0,T0,cap0,p1,p2,p3,p4⟩:=(show RX c .sl k2 n2 x2 vs[0] from q0);rw [p2] at r2;simp only [Ww,aB] at r2;obtain ⟨r21,r22,r23⟩:=r2;have r24:b0=b1:=by cases r21; rfl
      refine ⟨?_,fun b cells T h=>?_⟩
      ·show (c1.only N I).xn k2=c.xn k2;have:(c1.only N I).xn k2=c1.xn k2:=rfl;grind
      ·rw [p1] at h;cases h;refine ⟨Q,T1,?_⟩;show (if k2∈N then c1.x k2 else none)=_;rw [aV hk,r1,r24]
     ·cases g2
    ·cases h0
  refine ⟨v,hv1,r,L',v,c1.only N I,hR,rfl,hv2,⟨i.lend hL.big rfl rfl,fun p H u=>?_,fun p H=>?_,fun j hj=>gq (z.2.1 j hj),fun k hk=>aY hk,fun j hj=>aY hj,hL.big⟩,?_,⟨?_,?_,?_,?_,fun k hk hnB=>?_⟩,hB,⟨fun b o v l=>?_,fun b x l=>?_⟩,M,X⟩
  ·obtain ⟨_,e2,g,n,xs,e3,e4⟩:=kD hent p H;have hr:=ht _ _ e2;have hpN:p.1∈N:=gq (z.1 _ (tn H));obtain ⟨pk,pv⟩:=p;simp only at e3;subst e3;exact RX.any e4 (RX.only hpN (fun j hj=>gq (z.2.1 j (uN H hj))) (show RX c1 g pk n xs _ from hr))
  ·grind [kD,gq,tn]
  ·have:=hW.le0; rw [hm0] at this; exact this
  ·have:=i.ext.os; rw [E] at this; exact this
  ·have:=i.ext.tape; rw [E] at this; exact this
  ·have:=i.ext.output; rw [E] at this; exact this
  ·exact M.size
  ·by_cases hd:w.heap[k]?=some (Obj.deferred none)
   ·rw [hd]; exact M.same k _ hd rfl
   ·have hnf:¬ free Γ.w0 k:=fun hf=>by
     grind [ph]
    have:=i.ext.block k hnf;rw [this,E,rM hnB]
  ·have G:=i.new.cell b o v l;rw [hm0,E] at G;refine G.imp id fun ⟨h5,h6⟩=>⟨?_,h6⟩;rcases ph h5 with h | h | h
   ·exact .inr h
   ·exact .inl h
   ·obtain ⟨cs,U,G⟩:=h6;exact absurd h (J b _ G rfl)
  ·have G:=i.new.map b x l;rw [hm0,E] at G;refine G.imp id fun h5=>?_;rcases ph h5 with h | h | h
   ·exact .inr h
   ·exact .inl h
   ·exact absurd h (J b _ (i.sub.map b x l) rfl)
 rcases he with rfl | rfl <;> exact hpost
def HO (d k b:Nat) (fr:List AV):AV->AV
 | .loc a off=>bif Nat.beq d a then .pin k b off (fr.drop off) else .loc a off
 | .me g k' n xs=>bif Nat.beq k k' then .junk else .me g k' n xs
 | x=>x
def St.pin (s:St) (d k b:Nat) (cs:List AV):St:=⟨(xk k,.me .box k b [cs.drop (lo k)])::jC (HO d k b ((cs.take (lo k)).map AV.pub1)) s.t,(d,[])::s.b⟩
section
variable {Γ:cr} {c:dM} {bx:List (Nat×List AV)} {w:World}
theorem WI.pin (l:WI Γ c bx w) {d k:Nat} {cs:List AV} (h:get bx d=some cs) (n:cs≠[]) {vs:Array Value} {T:TypeId} (hv:w.heap[c.ρ d]?=some (.cells vs T (0,0))) :
  let c':dM:={ c with m:=c.m.with fun b o=>if b=c.ρ d then (if o<lo k then vs[o]? else none) else c.m b o,x:=fun j=>if j=k then some (c.ρ d,.cells vs T (0,0)) else c.x j }
  WI Γ c' ((d,[])::bx) w/\c.leX k c':=by
 intro c';obtain ⟨h1,h2,X,M,T',E,Q,Z⟩:=l.box d cs h n;rw [hv] at E;cases E
 have hle:c.m.le c'.m:=⟨fun b o v hm=>by
  show (if b=c.ρ d then _ else _)=_;grind,fun _ _ h=>h⟩
 have F:c.leX k c':=⟨hle,rfl,rfl,rfl,fun j hj=>⟨aY hj,rfl⟩⟩
 have A:c.m.maps (c.ρ d)=none:=by
  cases hm:c.m.maps (c.ρ d) with
  | none=>rfl
  | some x=>have:=l.sub.map _ x hm; rw [hv] at this; cases this
 refine ⟨⟨l.ext,⟨fun b o v hm=>?_,l.sub.map⟩,l.le0.trans hle,⟨fun b o v hm=>?_,l.new.map⟩,fun q ds a f=>?_,fun d1 d2 c1 c2 g1 g2 n1 n2 N=>?_,fun j=>?_,fun j b o hx=>?_⟩,F⟩
 ·simp only [c',d5.with] at hm;split at hm
  ·grind [World.cell?]
  ·exact l.sub.cell b o v hm
 ·simp only [c',d5.with] at hm;split at hm
  ·rename_i G; exact .inr (by rw [G]; exact ⟨h1,vs,T,hv⟩)
  ·exact l.new.cell b o v hm
 ·rw [bf] at a;split at a
  ·grind
  ·rename_i r;obtain ⟨g1,g2,g3,us,U,g4,g5,g6⟩:=l.box q ds a f;refine ⟨g1,fun o=>?_,g3,us,U,g4,g5,fun i x v y D=>(g6 i x v y D).leX_cell F (g3 x (aC y))⟩;show (if c.ρ q=c.ρ d then _ else _)=_;rw [aY (fun e=>r (l.inj q d ds cs a h f n e))]; exact g2 o
 ·rw [bf] at g1 g2;split at g1
  ·grind
  ·split at g2
   ·grind
   ·exact l.inj d1 d2 c1 c2 g1 g2 n1 n2 N
 ·have t:=l.own j;refine ⟨fun g u=>?_,t.shape,fun g q ds u a f=>?_,t.apart⟩
  ·obtain ⟨len,cap,U,cells,y,D,H,L,J⟩:=t.blk g u;refine ⟨len,cap,U,cells,y,D,H,fun o z=>?_,J⟩;show (if g=c.ρ d then _ else _)=_;rw [aY (fun e=>t.box g d cs u h n e.symm)]; exact L o z
  ·rw [bf] at a;split at a
   ·grind
   ·exact t.box g q ds u a f
 ·simp only [c'] at hx;split at hx
  ·rename_i hj;cases hx;refine ⟨h1,hv,rfl,fun i hi=>?_,A,fun q ds a f=>?_,fun i hi=>(l.own i).box _ d cs hi h n rfl,fun i o' hi=>?_⟩
   ·show (if c.ρ d=c.ρ d then (if i<lo k then vs[i]? else none) else _)=none;grind
   ·rw [bf] at a;split at a
    ·grind
    ·rename_i r;exact fun e=>r (l.inj q d ds cs a h f n e)
   ·simp only [c'] at hi;split at hi
    ·rename_i e; rw [e,hj]
    ·exact absurd rfl ((l.xo i _ o' hi).box d cs h n)
  ·rename_i hj;have p:=l.xo j b o hx;have B:b≠c.ρ d:=fun e=>p.box d cs h n e.symm;refine ⟨p.new,p.obj,p.kept,fun i hi=>?_,p.map,fun q ds a f=>?_,p.own,fun i o' hi=>?_⟩
   ·show (if b=c.ρ d then _ else _)=_;rw [aY B]; exact p.mem i hi
   ·rw [bf] at a;split at a
    ·grind
    ·exact p.box q ds a f
   ·simp only [c'] at hi;split at hi
    ·grind
    ·exact p.inj i o' hi
end
section
variable {Γ:cr} {T:eX} {s:St} {K:Exit->St->Prop}
theorem aI.pin {c} (d k) {cs} (h1:get s.b d=some cs) (f:tl cs=true) (m:Nat.ble (lo k) cs.length=true) (h:∀ b,aI Γ (s.pin d k b cs) c K):aI Γ s c K:=by
 refine ⟨fun a w N=>?_⟩;obtain ⟨⟨o,E,J⟩,Z,H,r⟩:=N;have f:cs≠[]:=fun e=>by rw [e] at f; cases f
 have m:=ah m;obtain ⟨q1,q2,q,vs,U,Q,q5,F⟩:=E.box d cs h1 f;obtain ⟨M,A⟩:=E.pin (k:=k) h1 f Q;refine (h (o.ρ d)).out a w ⟨⟨_,M,fun e z hz=>?_⟩,Z,H,r⟩;simp only [St.pin] at hz;rw [bf] at hz;split at hz
 ·cases hz;refine ⟨vs,U,_,aV rfl,rfl,?_,fun y hy=>q y (gn hy),fun i y u g1 g2=>?_⟩
  ·grind
  ·rw [cB] at g1;have p:=q y (aC g1);exact vQ p ((F _ y u g1 g2).leX_cell A p)
 ·rw [dO] at hz;obtain ⟨D,B,rfl⟩:=aA.1 hz;have G:=J e D B;have l:=G.leX A
  cases D with
  | loc X off=>
   simp only [HO]
   cases L:Nat.beq d X with
   | false=>exact l
   | true=>
    have:=ak L;subst this;rw [aP];have hl:a.tmps.getD e Go.undef = .pointer (some ⟨o.ρ d,off,none⟩):=G;rw [hl];refine RC.of_RD ?_
    have j:∀ (i:Nat) (y:AV),(((cs.take (lo k)).map AV.pub1).drop off)[i]?=some y->∃ x v,cs[off+i]?=some x/\vs[off+i]?=some v/\y=x.pub1/\off+i<lo k:=by
     intro i y hy;rw [cB,aT] at hy;obtain ⟨x,hx,rfl⟩:=aA.1 hy;rw [dj] at hx;split at hx
     ·have t:off+i<vs.size:=by have:=(aq.1 hx).1; omega
      exact ⟨x,_,hx,aE t,rfl,by assumption⟩
     ·cases hx
    refine .pin _ _ _ _ (fun y hy=>?_) (fun i=>(vs[off+i]?).getD Go.undef) (fun i y hy=>?_) (fun i y hy=>?_)
    ·obtain ⟨i,hi⟩:=ct hy;obtain ⟨x,v,g1,_,rfl,_⟩:=j i y hi;exact fQ (q x (aC g1))
    ·obtain ⟨x,v,g1,g2,_,g3⟩:=j i y hy;show (if o.ρ d=o.ρ d then (if off+i<lo k then vs[off+i]? else none) else _)=_;grind
    ·obtain ⟨x,v,g1,g2,rfl,_⟩:=j i y hy;rw [g2];have p:=q x (aC g1);exact ((F _ x v g1 g2).leX_cell A p).pub
  | me g k' n xs=>exact l
  | _=>exact l
def AV.reN (k k':Nat):AV->AV
 | .me g j n xs=>bif Nat.beq k j then .me g k' n xs else bif Nat.beq k' j then .junk else .me g j n xs
 | x=>x
theorem RX.reN {c c'} {g} {k k' n} {xs} {v} (hx:c'.x k'=c.x k) (o:c'.xn k'=c.xn k) (E:c'.τ=c.τ) (D:c'.σ=c.σ) (hm:c'.m=c.m) (p:lo k'=lo k) (h:RX c g k n xs v):RX c' g k' n xs v:=by
 cases g with
 | box=>
  obtain ⟨cells,T,own,r1,f,a,d,t⟩:=h;exact ⟨cells,T,own,by rw [hx]; exact r1,f,by rw [p]; exact a,d,fun i y u h1 h2=>(t i y u h1 (by rw [<- p]; exact h2)).mono E D (by rw [hm]; exact .refl _)⟩
 | sl=>grind [RX]
 | ptr sz j=>simp only [RX,hx] at h ⊢; exact h
 | arr=>
  obtain ⟨b,cells,T,r1,r0,f,a,d⟩:=h;exact ⟨b,cells,T,by rw [hx]; exact r1,by rw [o]; exact r0,f,a,fun i r j y h1 h2=>let ⟨u,q,A⟩:=d i r j y h1 h2; ⟨u,q,by rw [hm]; exact A⟩⟩
 | row b cap=>
  obtain ⟨cells,T,r1,r0,f,a,d⟩:=h;exact ⟨cells,T,by rw [hx]; exact r1,by rw [o]; exact r0,f,a,fun i r j y h1 h2=>let ⟨u,q,A⟩:=d i r j y h1 h2; ⟨u,q,by rw [hm]; exact A⟩⟩
 | mp=>simp only [RX,hx] at h ⊢; exact h
 | sub sz l=>grind [RX]
 | ents=>
  obtain ⟨es,clock,r1,f,a,d,t,B⟩:=h;exact ⟨es,clock,by rw [hx]; exact r1,f,a,d,fun i x e y h1 h2 z=>by rw [hm]; exact t i x e y h1 h2 z,fun i x e y h1 h2 z=>by rw [hm]; exact B i x e y h1 h2 z⟩
theorem gf {c} (k k') {g} {n} {xs} (q:(Nat.beq (lo k') (lo k)&&(!Nat.beq k' k&&iE g))=true) (h1:get s.t (xk k)=some (.me g k n xs)) (h:aI Γ ⟨(xk k',.me g k' n xs)::(xk k,.junk)::jC (AV.reN k k') s.t,s.b⟩ c K):aI Γ s c K:=by
 refine ⟨fun a w hI=>h.out a w ?_⟩;obtain ⟨⟨l,p,Q⟩,hs,J,F⟩:=hI;simp only [al,c8] at q;have D:=ak q.1;have A:=dk q.2.1;obtain ⟨c',f⟩:∃ c':dM,c'={ l with x:=fun j=>if j=k' then l.x k else if j=k then none else l.x j,xn:=fun j=>if j=k' then l.xn k else l.xn j }:=⟨_,rfl⟩;have hx':c'.x k'=l.x k:=by rw [f]; exact aV rfl
 have hxn':c'.xn k'=l.xn k:=by rw [f]; exact aV rfl
 have Z:∀ {x:AV} {u:Value},fD l x u->x.isCell=true->fD c' x u:=fun {x u} y hx=>by rw [f]; exact y.xs_cell _ _ hx
 have B:∀ {x:AV} {u:Value},RC l x u->RC c' (x.reN k k') u:=fun {x u} y=>by
  cases x with
  | me g j n xs=>
   simp only [AV.reN]
   cases X:Nat.beq k j with
   | true=>
    have:=ak X;subst this;exact RX.reN hx' hxn' (by rw [f]) (by rw [f]) (by rw [f]) D (show RX l g k n xs u from y)
   | false=>
    rw [bq];have G:=dk X
    cases L:Nat.beq k' j with
    | true=>exact RD.junk u
    | false=>
     have r:=dk L;refine RX.reN (k:=j) (k':=j) ?_ ?_ (by rw [f]) (by rw [f]) (by rw [f]) rfl (show RX l g j n xs u from y)
     ·rw [f]; simp only; rw [aY (Ne.symm r),aY (Ne.symm G)]
     ·rw [f]; simp only; rw [aY (Ne.symm r)]
  | agg cs=>obtain ⟨vs,r1,r2,N,r4⟩:=y; exact ⟨vs,r1,r2,N,fun i x u h1 h2=>Z (r4 i x u h1 h2) (N x (aC h1))⟩
  | loc d off=>show u=_; rw [show c'.ρ=l.ρ from by rw [f]]; exact y
  | sl o sz xs=>exact (eD (by intro cs H; cases H)).2 (Z ((eD (by intro cs H; cases H)).1 y) rfl)
  | _=>show RD c'.m _ u; rw [show c'.m=l.m from by rw [f]]; exact y
 refine ⟨⟨c',⟨p.ext,by rw [f]; exact p.sub,by rw [f]; exact p.le0,by rw [f]; exact p.new,fun d cs J A=>?_,by rw [f]; exact p.inj,fun j=>by rw [f]; exact ⟨(p.own j).blk,(p.own j).shape,(p.own j).box,(p.own j).apart⟩,fun j E o hx=>?_⟩,fun e z hz=>?_⟩,hs,J,F⟩
 ·obtain ⟨q1,q2,q3,us,U,q4,q5,q6⟩:=p.box d cs J A;have e1:c'.ρ=l.ρ:=by rw [f]
  grind
 ·rw [f] at hx ⊢;simp only at hx
  have key:∀ i o',(if i=k' then l.x k else if i=k then none else l.x i)=some (E,o')->l.x (if i=k' then k else i)=some (E,o'):=fun i o' hi=>by
   grind
  have key2:∀ i o',(if i=k' then l.x k else if i=k then none else l.x i)=some (E,o')->¬ (i≠k'/\i=k):=fun i o' hi hh=>by
   grind
  have v:=p.xo _ E o (key j o hx);refine ⟨v.new,v.obj,v.kept,fun i hi=>v.mem i ?_,v.map,v.box,v.own,fun i o' hi=>?_⟩
  ·grind
  ·have h3:=v.inj _ o' (key i o' hi);grind
 ·rw [bf] at hz;split at hz
  ·rename_i he;cases hz;exact RX.any q.2.2 (RX.reN hx' hxn' (by rw [f]) (by rw [f]) (by rw [f]) D (show RX l g k n xs _ from Q _ _ h1))
  ·rw [bf] at hz;split at hz
   ·cases hz; exact RC.of_RD (RD.junk _)
   ·rw [dO] at hz;obtain ⟨z',M,rfl⟩:=aA.1 hz;exact B (Q e z' M)
variable (hΓ:Γ.OK) (hT:T.OK Γ.P)
include hΓ hT
theorem dJ (keep es:List Nat) {id} {ops} (d:dL Γ.nt (.region id ops false)=true)
  (h:li T (ar Γ.P) (bW Γ.P) ops.toList (es.map (3000000000+·)++dI ops.toList ops.toList) ops.toList s fun s'=>gt keep s' (K .normal)):aI Γ s (.region id ops false) K:=by
 refine ⟨fun a w e=>?_⟩;obtain ⟨l⟩:=ops;refine fT ?_;rw [show (⟨l⟩:Array Oper).size=l.length from rfl,db];refine kG hΓ hT (eB d) l 0 s a w _ (fun j=>by simp) h e ?_;intro s' n w' f b i m;obtain ⟨s2,h2,hle⟩:=ek f;exact ⟨i,m,s2,b.less hle,h2⟩
theorem dh (keep es:List Nat) {id} {ops} (d:dL Γ.nt (.region id ops true)=true) (h:rV T (ar Γ.P) (bW Γ.P) (es.map (3000000000+·)) keep ops.toList s (K .normal)):aI Γ s (.region id ops true) K:=by
 refine ⟨fun a w e=>?_⟩;obtain ⟨l⟩:=ops;refine sR hΓ hT (eB d) h e ?_;intro s' _ m w' i _ b j f;obtain ⟨s2,h2,hle⟩:=ek i;exact ⟨j,f,s2,b.less hle,h2⟩
def IN (P:Program) (s:St) (o:Oper) (K:St->Prop):Prop:=match o.op,o.dst with
 | .call call,some d=>match call.callee with
  | .value f=>match ev s f with
   | .fn g=>∃ N I L R,(gO s (ky L)=some L/\Q8 N I L (call.args.toList.map (ev s))=true/\lR P g N I ((call.args.toList.map fun x=>(ev s x).pubE)++[]) L R)/\∀ r a,R r a->match (s.demMany I).unmeMany N with | ⟨t,b⟩=>(⟨(d,r)::(Cl a++t),b⟩:St).go K
   | _=>False
  | _=>False
 | _,_=>False
theorem ji (keep) (n) {id} {ops} (x:dL Γ.nt (.region id ops false)=true)
  (h:my T Γ.P (IN Γ.P) ops.toList (dI ops.toList ops.toList) n s fun s'=>gt keep s' (K .normal)):aI Γ s (.region id ops false) K:=by
 refine lj hΓ hT (fun s a w o K next Q y m h B=>?_) keep n x h;unfold IN at h;split at h
 ·rename_i call d j e;split at h
  ·rename_i f i;split at h
   ·rename_i g p;obtain ⟨N,I,L,R,⟨h1,h2,A⟩,u⟩:=h;refine Am hΓ y j i (cap:=[]) (.inr ⟨p,rfl⟩) A h1 h2 e (m d e) (K:=K) (fun r l z=>?_) (fun s' q w' D v E F=>B s' q w' D v E (FT.put F));have:=u r l z;have this:(⟨(d,r)::(Cl l++((s.demMany I).unmeMany N).t),(s.demMany I).b⟩:St).go K:=this;rw [St.go_eq] at this;exact this
   ·exact h.elim
  ·exact h.elim
 ·exact h.elim
end
open Go
section
variable {Γ:cr} {s:St} {K:Exit->St->Prop}
theorem Db {c} {bx} {w} (l:WI Γ c bx w) {d} {cs n} (h:get bx d=some cs) (j:cs≠[]) (hl:n.length=cs.length) (F:∀ x∈n,x.isCell=true)
  (B:∀ (vs:Array Value) (T:TypeId),w.heap[c.ρ d]?=some (.cells vs T (0,0))->(∀ (i:Nat) (x:AV) (v:Value),cs[i]?=some x->vs[i]?=some v->fD c x v)->∀ (i:Nat) (x:AV) (v:Value),n[i]?=some x->vs[i]?=some v->fD c x v):WI Γ c ((d,n)::bx) w:=by
 obtain ⟨h1,h2,D,vs,T,z,A,E⟩:=l.box d cs h j;refine ⟨l.ext,l.sub,l.le0,l.new,fun q ds a f=>?_,fun d1 d2 c1 c2 g1 g2 n1 n2 r=>?_,fun k=>?_,fun k b o hx=>?_⟩
 ·rw [bf] at a;split at a
  ·grind
  ·exact l.box q ds a f
 ·rw [bf] at g1 g2;split at g1
  ·rename_i u;split at g2
   ·rename_i t; rw [u,t]
   ·rename_i t;rw [u] at r ⊢;exact l.inj d d2 cs c2 h g2 j n2 r
  ·rename_i u;split at g2
   ·rename_i t;rw [t] at r ⊢;exact l.inj d1 d c1 cs g1 h n1 j r
   ·exact l.inj d1 d2 c1 c2 g1 g2 n1 n2 r
 ·have p:=l.own k;refine ⟨p.blk,p.shape,fun g q ds y a f=>?_,p.apart⟩;rw [bf] at a;split at a
  ·rename_i e; rw [e]; exact p.box g d cs y h j
  ·exact p.box g q ds y a f
 ·have m:=l.xo k b o hx;refine ⟨m.new,m.obj,m.kept,m.mem,m.map,fun q ds a f=>?_,m.own,m.inj⟩;rw [bf] at a;split at a
  ·rename_i e; rw [e]; exact m.box d cs h j
  ·exact m.box q ds a f
theorem io {c} (d j k sz) {cs} (h1:get s.b d=some cs) (h2:cs[j]?=some (.sl .full 0 [])) (h:aI Γ ⟨(s.dem k).t,(d,dB (cs.map (AV.dem1 k)) j (.sl (.id k) sz []))::(s.dem k).b⟩ c K):aI Γ s c K:=by
 refine ⟨fun a w N=>h.out a w ?_⟩;obtain ⟨⟨E,D,H⟩,Q,F,r⟩:=N;have n:cs≠[]:=fun e=>by rw [e] at h2; simp at h2
 obtain ⟨_,_,_,vs,T,P,q5,J⟩:=D.box d cs h1 n;have L:=(aq.1 h2).1;have hv:vs[j]?=some (vs[j]'(by omega)):=aE am;generalize vs[j]'(by omega)=v at hv;have hx:RD E.m (.sl .full 0 []) v:=J j _ v h2 hv
 have l:kY v=false/\np (sfree Γ.w0 k) v:=by
  cases hx with
  | sl _ _ _ base len cap ho hf u hc=>
   have:=hf rfl;exact ⟨by simp [kY,this],.inr ⟨_,_,_,rfl,fun _=>this.symm,fun a _ Z=>by simp at u; omega⟩⟩
 have hx':RD E.m (.sl .no sz []) v:=(bI:(AV.sl .full 0 []).weak (.sl .no sz [])) _ _ hx;have o:=D.own_none k sz v l.2 l.1;have B:get (s.dem k).b d=some (cs.map (AV.dem1 k)):=by rw [rR,h1]; rfl
 have f:cs.map (AV.dem1 k)≠[]:=by simpa using n
 refine ⟨⟨_,Db (bx:=(s.dem k).b) o B f (fU _ _ _) (fun x hx=>?_) (fun A T' U X i x G p1 p2=>?_),fun e y hy=>?_⟩,Q,F,r⟩
 ·obtain ⟨p,q⟩:=ct hx;rw [ez] at q;split at q
  ·cases q; rfl
  ·exact (o.box d _ B f).2.2.1 x (aC q)
 ·have e:A=vs:=by
   have M:=P.symm.trans U;cases M; rfl
  rw [ez] at p1;split at p1
  ·rename_i hj;cases p1
   have ev:G=v:=by
    rw [e,<- hj.1] at p2;exact iK (p2.symm.trans hv)
   subst ev;refine ⟨by simp [dM.own],fun h=>(by rw [l.1] at h; cases h),hx'⟩
  grind
 ·rw [mI] at hy;obtain ⟨z,hz,rfl⟩:=aA.1 hy;exact (H e z hz).reown (.refl _)
end
open Go
open Go.RowKit (Below)
def MF (C:FuncId->Nat->List (List Int)->List AV->(AV->List (List Int)->Prop)->Prop) (s:St) (o:Oper) (K:St->Prop):Prop:=match o.op with
 | .call call=>match call.callee,call.args.toList with
  | .value f,d::rest=>match ev s f,ev s d with
   | .fn f,.me .sl k _ _=>match iH s k with
    | some (sz,xs)=>∃ rows R,C f sz rows (rest.map fun x=>(ev s x).pub) R/\xs=i7 rows/\(∀ x∈rows,x.length=sz) /\
      ∀ r c,R r c->c.length=rows.length->(∀ x∈c,x.length=sz)->fJ ⟨jC (vY k sz (i7 c)) s.t,s.b⟩ o.dst r K
    | none=>False
   | _,_=>False
  | _,_=>False
 | _=>False
section
variable {Γ:cr} (hΓ:Γ.OK) {s:St} {a:Act} {w:World} {o:Oper} {next:Act->World->Prop} {Q:Exit->Act->World->Prop} {K:St->Prop}
theorem WI.ocallX {c} {bx} {w'} (n:WI Γ c bx w) {k b} {cells} {T} (hx:c.x k=some (b,.cells cells T (0,0))) {m'} (h1:c.m.le m') (h2:d5.sub m' w') (p:Wn b w w')
  (L:∀ k o v,m' k o=some v->c.m k o=some v\/(k=b\/w.heap.size<=k)/\eV w' k) (M:∀ k x,m'.maps k=some x->c.m.maps k=some x\/w.heap.size<=k) (h6:jk w w') :
  WI Γ { c with m:=m',x:=fun j=>if j=k then none else c.x j } bx w'/\c.leX k { c with m:=m',x:=fun j=>if j=k then none else c.x j }/\NC w w':=by
 have hB:=n.ext.size;have A:=n.xo k b _ hx;have N:c.leX k { c with m:=m',x:=fun j=>if j=k then none else c.x j }:=⟨h1,rfl,rfl,rfl,fun j hj=>⟨aY hj,rfl⟩⟩
 have hs':∀ k,eV w k->eV w' k:=fun k hk=>by
  by_cases e:k=b
  ·rw [e]; exact p.soft
  ·obtain ⟨cs,U,Z⟩:=hk;exact ⟨cs,U,(p.block k (aX.1 Z).1 e).trans Z⟩
 have u:∀ j o,j<w.heap.size->j≠b->c.m j o=none->m' j o=none:=fun j o hj f h=>by
  cases hm:m' j o with
  | none=>rfl
  | some v=>
   rcases L j o v hm with l | l
   ·rw [h] at l; cases l
   ·rcases l.1 with l | l
    ·exact absurd l f
    ·omega
 have X:=A.new;refine ⟨⟨n.ext.trans ⟨p.os,p.tape,p.output,p.size,fun j hj=>p.block j (by have:=jF hj; omega) (nH hj X)⟩,h2,n.le0.trans h1,⟨fun j o v h=>?_,fun j x h=>?_⟩,fun d cs h f=>?_,n.inj,fun j=>?_,fun j y o h=>?_⟩,N,⟨p.size,fun j o hj z=>?_,h6,hs'⟩⟩
 ·rcases L j o v h with h | h
  ·exact (n.new.cell j o v h).imp id fun ⟨E,G⟩=>⟨E,hs' j G⟩
  ·refine .inr ⟨?_,h.2⟩;rcases h.1 with h | h
   ·rw [h]; exact X
   ·exact jQ am
 ·rcases M j x h with h | h
  ·exact n.new.map j x h
  ·exact .inr (jQ am)
 ·obtain ⟨r1,r2,J,vs,U,r4,r5,r6⟩:=n.box d cs h f;have hne':=A.box d cs h f;have H:=n.lt_box h f;exact ⟨r1,fun o=>u _ o H hne' (r2 o),J,vs,U,(p.block _ H hne').trans r4,r5,fun i x v g1 g2=>(r6 i x v g1 g2).leX_cell N (J x (aC g1))⟩
 ·have z:=n.own j;refine ⟨fun g D=>?_,z.shape,z.box,z.apart⟩;obtain ⟨len,cap,U,r,E,G,q3,q4,q5⟩:=z.blk g D;have B:g≠b:=fun e=>A.own j (by rw [<- e]; exact D);have q:=n.lt_own D;exact ⟨len,cap,U,r,E,(p.block g q B).trans G,q3,fun o F=>u g o q B (q4 o F),q5⟩
 ·simp only at h;split at h
  ·cases h
  ·rename_i hj;have t:=n.xo j y o h;have f:y≠b:=fun e=>by subst e; exact hj (A.inj j _ h)
   have q:=n.lt_x h;refine ⟨t.new,(p.block y q f).trans t.obj,t.kept,fun i hi=>u y i q f (t.mem i hi),?_,t.box,t.own,fun j' o' l=>?_⟩
   ·show m'.maps y=none
    cases hm:m'.maps y with
    | none=>rfl
    | some v=>
     rcases M _ _ hm with l | l
     ·rw [t.map] at l; cases l
     ·omega
   ·simp only at l;split at l
    ·cases l
    ·exact t.inj j' o' l
 ·by_cases e:j=b
  ·rw [e,A.obj] at hj; cases hj; cases z
  ·exact (p.block j (aX.1 hj).1 e).trans hj
include hΓ in
theorem DO (hI:ef Γ s a w) (H:∀ d,o.dst=some d->d<Γ.nt) (h:MF (xt Γ.P) s o K) (hn:∀ s' a' w',K s'->ef Γ s' a' w'->NC w w'->FT o.dst.toList a a'->next a' w'):o.wpIn Γ.F Γ.n Γ.P a w next Q:=by
 unfold MF at h;split at h
 ·rename_i call hop;split at h
  ·rename_i fo x0 rest hcal J;split at h
   ·rename_i f k n zs hf hx;split at h
    ·rename_i sz xs B;obtain ⟨rows,R,hC,rfl,hlen,hK⟩:=h;obtain ⟨c,hW,L⟩:=hI.ex;obtain ⟨b,cells,U,e1,⟨e2,e2'⟩,e3,e4,e5⟩:=rl L B;have hq:=hW.xo k b _ e1;have Z:=cq L x0;rw [hx] at Z;obtain ⟨b',p,U',cap,f1,f2,⟨f3,f4⟩,f5⟩:=(show RX c .sl k n zs (a.eval x0) from Z);rw [e1] at f1;cases f1;have hrl:(i7 rows).length=rows.length:=by simp [i7]
     have hnl:n=rows.length:=by omega
     subst hnl
     have N:=hC.runs c.m w (rest.map a.eval) b cap hW.sub (hΓ.gm.trans hW.le0) (hq.none (oj B)) ⟨_,_,hq.obj,by rw [f4]; exact e2'⟩ f5 (fun i j r n h1 h2=>by
      have g1:(i7 rows)[i]?=some (r.map (AV.int .i64)):=by simp [i7,h1]
      have g2:(r.map (AV.int .i64))[j]?=some (.int .i64 n):=by simp [h2]
      obtain ⟨u,u1,u2⟩:=e5 i _ j _ g1 g2;cases u2;simp only [World.cell?,hq.obj];exact u1) dc (fun i x v h1 h2=>by
      rw [aT] at h1 h2;obtain ⟨q,hq,rfl⟩:=aA.1 h1;rw [hq] at h2;simp only [bJ,aB] at h2;subst h2;exact (cq L q).pub)
     have hfv:a.eval fo = .func (.func f) #[] #[]:=by
      have:=cq L fo;rw [hf] at this;exact this.fn
     have M:(execOp a.eval o).run Γ.P w = .ok (.enter f (Value.slice (some ⟨b,0,none⟩) rows.length cap::rest.map a.eval).toArray) w:=by
      simp only [execOp,hop,aD,resolve,hcal,hfv,Deferred.ofValue,aL,aw,invoke,hC.enters _ w]
      congr 2
      apply tT;simp [J,f2]
     refine ⟨fun f _=>hΓ.fn f,?_⟩;rw [kW _ _ _ (by rw [hop]; intro c hc; cases hc),M,yJ];refine ⟨fun h=>(by rw [hΓ.depth] at h; cases h),(js hΓ N _).mono ?_⟩;rintro e w' ⟨v,m',r,l,rfl,q1,q2,q3,q4,q5,q6,q7,q8,q9,q10,q11⟩;obtain ⟨W1,L1,W2⟩:=hW.ocallX e1 q6 q7 q8 q9 q10 q11;have D:=hK r l q1 q3 q4
     have key:∀ d n',RX c .sl k n' [] (a.tmps.getD d Go.undef)->RD m' (.sl .no sz (i7 l)) (a.tmps.getD d Go.undef):=fun d n' hz=>by
      obtain ⟨b',p,U',cap',g1,g2,⟨g3,g4⟩,g5⟩:=hz;rw [e1] at g1;cases g1;rw [g2];refine RD.sl _ _ _ _ _ _ (by intro k hk; cases hk) (by intro hk; cases hk) (by simp [i7,q3]; omega) g5 (fun x hx=>?_) (fun x hx z hz=>?_) b 0 (fun _=>rfl) (fun i j=>match l[i]? with | some r=>(match r[j]? with | some n=>Value.int .i64 n | none=>Go.undef) | none=>Go.undef) (fun i x j z h1 h2=>?_) (fun i x j z h1 h2=>?_)
      ·obtain ⟨y,hy,rfl⟩:=bp.1 hx;simpa using q4 y hy
      ·obtain ⟨y,hy,rfl⟩:=bp.1 hx;obtain ⟨n,_,rfl⟩:=bp.1 hz;rfl
      ·obtain ⟨y,hy,rfl⟩:=ox h1;simp only [aT,aA] at h2;obtain ⟨n,E,rfl⟩:=h2;simp only [hy,E,bS];exact q5 i j y n hy E
      ·obtain ⟨y,hy,rfl⟩:=ox h1;simp only [aT,aA] at h2;obtain ⟨n,E,rfl⟩:=h2;simp only [hy,E];exact .int _ _
     obtain ⟨c',hc'⟩:∃ c':dM,c'={ c with m:=m',x:=fun j=>if j=k then none else c.x j }:=⟨_,rfl⟩;rw [<- hc'] at W1 L1;have hcm':c'.m=m':=by rw [hc']
     have X:∀ e z,get (jC (vY k sz (i7 l)) s.t) e=some z->RC c' z (a.tmps.getD e Go.undef):=fun e z hz=>by
      rw [dO] at hz;obtain ⟨z',hz',rfl⟩:=aA.1 hz;have hr:=L e z' hz';have G:=hr.leX L1
      cases z' with
      | me g k' n' zs'=>
       simp only [vY,AV.unme] at G ⊢
       cases hb:Nat.beq k k' with
       | false=>rw [hb] at G; exact G
       | true=>
        have hk:=ak hb;subst hk
        cases g with
        | sl=>
         refine RC.of_RD ?_;rw [hcm'];exact key e n' (by obtain ⟨b',p,U',cap,f⟩:=(show RX c .sl k n' zs' _ from hr); exact ⟨b',p,U',cap,f⟩)
        | _=>exact RC.of_RD (RD.junk _)
      | _=>exact G
     cases A:o.dst with
     | none=>
      rw [A] at D;exact hn _ _ _ D (hI.next W2 W1 (d:=none) (v:=v) (by intro k hk; cases hk) X) W2 (FT.put ⟨v,by rw [A]⟩)
     | some d=>
      rw [A] at D;exact hn _ _ _ D (hI.next W2 W1 (d:=some d) (v:=v) (by intro k hk; cases hk; exact H _ A) (eT X (by rw [hI.size]; exact H d A) (RC.of_RD (by rw [hcm']; exact q2)))) W2 (FT.put ⟨v,by rw [A]⟩)
    ·exact h.elim
   ·exact h.elim
  ·exact h.elim
 ·exact h.elim
variable {T:eX} (hT:T.OK Γ.P)
include hΓ hT in
theorem xl (keep) (n) {s} {K} {id} {ops} (c:dL Γ.nt (.region id ops false)=true)
  (h:my T Γ.P (MF (xt Γ.P)) ops.toList (dI ops.toList ops.toList) n s fun s'=>gt keep s' (K .normal)):aI Γ s (.region id ops false) K:=
 lj hΓ hT (fun _ _ _ _ _ _ _ d b h e=>DO hΓ d b h e) keep n c h
end
open Go
open Go.RowKit (Below)
theorem T9 {w w':World} (a:Below w.heap.size w w') (c:w.drawn<=w'.drawn):∃ q os,w'=Sort.grow (w.drewN q) os:=by
 refine ⟨w'.drawn - w.drawn,w'.heap.extract w.heap.size w'.heap.size,?_⟩
 have l:w'.heap=w.heap++w'.heap.extract w.heap.size w'.heap.size:=by
  apply Array.ext_getElem?;intro i;by_cases hi:i<w.heap.size
  ·rw [c9 hi,a.block i hi]
  ·grind
 have h1:=a.os;have h2:=a.tape;have b:=a.output;obtain ⟨h,t,d,o,u⟩:=w;obtain ⟨f,e,m,o',j⟩:=w';simp only [Sort.grow,World.drewN] at *;rw [h1,h2,b]
 congr 1
 omega
theorem vR (m:d5) (k:List Int):RD m (Go.AI.keyA k) (eh k):=by
 unfold Go.AI.keyA eh;refine .agg _ _ dc (fun x hx=>?_) (fun i x u h1 h2=>?_)
 ·obtain ⟨n,_,rfl⟩:=bp.1 hx; rfl
 ·simp only [aT,aA,fV] at h1 h2;obtain ⟨n,b,rfl⟩:=h1;obtain ⟨c,a,rfl⟩:=h2;grind [RD.int]
section
variable {P:Program} {α:Type} [Inhabited α] (encI:α->List Int) (k:Nat) (cf:α->α->Int)
def oC (x:α):List Value:=(encI x).map (Value.int .i64)
theorem Ja {l:List α} {i j:Nat} {x:α} (hx:l[i]?=some x) (hj:j<k):(Sort.flatK (oC encI) k l.toArray)[i*k+j]! = (oC encI x)[j]!/\i*k+j<(Sort.flatK (oC encI) k l.toArray).size:=by
 have hi:i<l.length:=(aq.1 hx).1
 have a:i*k+j<l.toArray.size*k:=by
  have:(i+1)*k<=l.length*k:=bg _ hi;rw [dE,wh] at this;simpa using (by omega:i*k+j<l.length*k)
 have c:=Sort.get_flatK (oC encI) k l.toArray (i*k+j) a;have b:0<k:=by omega
 have d:(i*k+j) / k=i:=by rw [A8,Nat.mul_add_div b,Nat.div_eq_of_lt hj,eb]
 grind [Nat.mul_comm,Nat.mul_add_mod,Nat.mod_eq_of_lt,Sort.size_flatK]
structure Oi (lt:α->α->Bool) (l c:List α) (blk off:Nat) (w a:World):Prop where
 perm:c.Perm l
 sorted:c.Pairwise fun x y=>lt y x=false
 cell:∀ (i:Nat) (x:α) (j:Nat),c[i]?=some x->j<k->a.cell? ⟨blk,off+(i*k+j),none⟩=some ((oC encI x)[j]!)
 other:∀ b,b≠blk->b<w.heap.size->a.heap[b]?=w.heap[b]?
 soft:eV a blk
 os:a.os=w.os
 tape:a.tape=w.tape
 output:a.output=w.output
 size:w.heap.size<=a.heap.size
 more:jk w a
theorem lW (w:World) (blk off m:Nat) (a:Array α) (os:Array Obj) (b:Nat) (c:b<w.heap.size):(Proofs.sortWorldK (oC encI) k w blk off m a os).heap[b]?=if blk=b then (w.heap[b]?).map (Sort.onCells (Sort.putCells id off (Sort.flatK (oC encI) k a))) else w.heap[b]?:=by
 unfold Proofs.sortWorldK Sort.grow Sort.putRowK Sort.putRow Sort.mapBlock;simp only;rw [c9 (by simpa [Sort.ahead] using c),oR];rfl
theorem XD {w:World} {blk:Nat} (a:(gu P).sub w) (f:∀ o,gu P blk o=none) (off m:Nat) (d:Array α) (os:Array Obj):(gu P).sub (Proofs.sortWorldK (oC encI) k w blk off m d os):=⟨fun b o v h=>by
 have h1:=a.cell b o v h
 have i:b<w.heap.size:=by
  refine pV fun hle=>?_;simp [World.cell?,oi hle] at h1
 have c:blk≠b:=fun e=>by grind
 simp only [World.cell?] at h1 ⊢;rw [lW encI k w blk off m d os b i,aY c];exact h1,fun b x h=>nomatch h⟩
theorem Nc {g:FuncId} (h:∀ x y,ar P g [keyA (encI x),keyA (encI y)] (.int .i64 (cf x y))) (blk off size:Nat) (w:World) (c:(gu P).sub w) (b:∀ o,gu P blk o=none):Proofs.CmpLays P g #[] (oC encI) k cf blk off size w:=by
 intro m os d l x y
 have n:=(h x y).runs (gu P) (Proofs.sortWorldK (oC encI) k w blk off m d os) [eh (encI x),eh (encI y)] (XD encI k c b off m d os) (.refl _) rfl (fun i a v h1 h2=>by
  grind [vR])
 refine wn n ?_;rintro e w' ⟨v,m',rfl,h1,_,_,j,_,f⟩;exact ⟨by rw [h1.int_eq],T9 j f.drawn⟩
set_option maxHeartbeats 1000000 in
theorem Tl {ρ:Shelf.Ren} (L:Proofs.SlLaysF0.n6 P ρ) (hk:∀ x,(encI x).length=k) (Q:∀ w,(isAgg (ρ.t 24)).run P w = .ok true w) (Z:∀ w,(Go.sizeOf (ρ.t 24)).run P w = .ok k w) (hO:Sort.SWO (Proofs.ltOf cf)) {g:FuncId}
  (u:∀ x y,ar P g [keyA (encI x),keyA (encI y)] (.int .i64 (cf x y))) (eg:∀ args w,(callFunc g args).run P w = .ok (.enter g args) w) (l:List α) (blk off cap:Nat) (w:World)
  (p:∀ (i:Nat) (x:α) (j:Nat),l[i]?=some x->j<k->w.cell? ⟨blk,off+(i*k+j),none⟩=some ((oC encI x)[j]!)) (hs:eV w blk) (D:l.length<4611686018427387904) (G:(gu P).sub w) (F:∀ o,gu P blk o=none) :
  Calls P (ρ.f 6) #[.slice (some ⟨blk,off,none⟩) l.length cap,.func (.func g) #[] #[]] w fun e N=>e = .returned (.tuple #[])/\∃ l',Oi encI k (Proofs.ltOf cf) l l' blk off w N:=by
 obtain ⟨cs,U,hblk⟩:=hs;have c:=(aX.1 hblk).1;have J:∀ o,w.frozen? ⟨blk,o,none⟩=false:=fun o=>by simp [World.frozen?,hblk]
 have hH:Sort.HoldsK (oC encI) k w blk off l.toArray:=by
  intro t A;refine ⟨?_,J _⟩;rw [Sort.size_flatK] at A;have h0:0<k:=Nat.pos_of_ne_zero fun h=>by subst h; simp at A
  have r:t / k<l.length:=by
   have:t<l.length*k:=by simpa using A
   exact Nat.div_lt_of_lt_mul (by rwa [A8])
  have q:t % k<k:=nq _ h0;have e:t / k*k+t % k=t:=by rw [A8]; exact Nat.div_add_mod t k
  have h1:=p (t / k) l[t / k] (t % k) (ai r) q;have h2:=(Ja encI k (l:=l) (i:=t / k) (j:=t % k) (ai r) q).1;rw [e] at h1 h2;rw [h1,id,h2]
 have hc:=Proofs.AnyQ.slices_SortFunc L k Q Z (oC encI) (fun x=>by simp [oC,hk]) (fun x v hv=>by
  obtain ⟨n,_,rfl⟩:=bp.1 hv;rfl) cf hO g #[] blk off cap l.toArray w eg (Nc encI k cf u blk off _ w G F) hH c (by simpa using D)
 refine wn (by simpa using hc) ?_;rintro e N ⟨rfl,a,M,E,n,os,rfl⟩;refine ⟨rfl,a.toList,?_⟩;have m:a.size=l.length:=by have:=M.1; simpa using this
 have H:=Proofs.holdsK_sortWorldK_c (oC encI) k w blk off l.toArray a n os hH c (by simpa using m);have d:=Proofs.size_sortWorldK_c (oC encI) k w blk off n a os;refine ⟨?_,?_,fun i x j hx hj=>?_,fun b X z=>?_,?_,rfl,rfl,rfl,d,⟨by show w.drawn<=w.drawn+n; omega⟩⟩
 ·have:=M.2.2;have h2:(a.extract 0 l.length).toList=a.toList:=by simp [bA,m]
  grind
 ·rw [eF];intro i j hi hj B;have:=E i j (aZ _) B (by simpa [m] using hj);grind
 ·have h2:=Ja encI k (l:=a.toList) hx hj;simp only [Array.toArray_toList] at h2;have:=(H _ h2.2).1;rw [this,id,h2.1]
 ·rw [lW _ _ _ _ _ _ _ _ _ z,aY (Ne.symm X)]
 ·refine ⟨Sort.putCells id off (Sort.flatK (oC encI) k a) cs,U,?_⟩;rw [lW encI k w blk off n a os blk c,aV rfl,hblk];rfl
end
open Go
open Go.RowKit (Below)
section
variable {Γ:cr} {s:St} {K:Exit->St->Prop}
theorem A2 {c:Code} (d j k sz:Nat) {cs:List AV} (h1:get s.b d=some cs) (h2:cs[j]?=some (.sl (.id k) 0 [])) (h:aI Γ ⟨s.t,(d,dB cs j (.sl (.id k) sz []))::s.b⟩ c K):aI Γ s c K:=by
 refine ⟨fun a w F=>h.out a w ?_⟩;obtain ⟨⟨u,r,B⟩,J,z,o⟩:=F;have f:cs≠[]:=fun e=>by rw [e] at h2; simp at h2
 refine ⟨⟨u,r.rebox h1 f (fU _ _ _) (fun x hx=>?_) (fun vs l i x v m y=>?_),B⟩,J,z,o⟩
 ·obtain ⟨p,n⟩:=ct hx;rw [ez] at n;split at n
  ·cases n; rfl
  ·exact (r.box d cs h1 f).2.2.1 x (aC n)
 ·rw [ez] at m;split at m
  ·rename_i hj;cases m;have H:=l i _ v (by rw [<- hj.1]; exact h2) y;obtain ⟨r1,L,A⟩:=(show fD u (.sl (.id k) 0 []) v from H);refine ⟨r1,fun q=>absurd (L q).2 am,?_⟩
   match A with
   | .sl _ _ _ base len cap G hf hl E _ _ b off D g _ _=>exact .sl _ _ _ _ _ _ G hf hl E dc dc b off D g dc dc
  ·exact l i x v m y
end
open Go
open Go.RowKit (Below)
def mq (l:List Int):List (List Int):=l.map fun z=>[z]
structure xd (P:Program) (f:FuncId) (xs c:List Int):Prop where
 enters:∀ (args:Array Value) (w:World),(callFunc f args).run P w = .ok (.enter f args) w
 len:c.length=xs.length
 runs:∀ (w:World) (b cap:Nat) (cells:Array Value) (T:TypeId),w.heap[b]?=some (.cells cells T (0,0))->xs.length<=cap->(∀ (i:Nat) (n:Int),xs[i]?=some n->cells[i]?=some (.int .i64 n)) ->
  Calls P f #[.slice (some ⟨b,0,none⟩) xs.length cap] w fun e w'=>e = .returned (.tuple #[])/\∃ n os,w'=Sort.grow (Sort.putRow (Value.int .i64) (Sort.ahead w n) b 0 c.toArray) os
theorem qR {w:World} {b:Nat} {cells:Array Value} {T:TypeId} (c:w.heap[b]?=some (.cells cells T (0,0))) {xs:List Int} (h:∀ (i:Nat) (n:Int),xs[i]?=some n->cells[i]?=some (.int .i64 n)):Sort.Holds (Value.int .i64) w b 0 xs.toArray:=fun j hj=>by
 have hj':j<xs.length:=by simpa using hj
 have h1:=h j xs[j] (by simp [hj']);refine ⟨?_,by simp [World.frozen?,c]⟩;simp only [World.cell?,c,bS];simp [h1,hj']
theorem EG {P:Program} {ρ:Shelf.Ren} (L:Proofs.Lays.n189 P ρ) (es:∀ args w,(callFunc (ρ.f 189) args).run P w = .ok (.enter (ρ.f 189) args) w) (l:List Int) (c:l.length<4611686018427387904) :
  xd P (ρ.f 189) l (l.mergeSort fun x y=>decide (x<=y)):=
 ⟨es,Cf _,fun w b cap cells T d _ e=>calls_of_every_depth fun D=>Proofs.AnyS.slices_Sort_int_alone L D b 0 cap l w (qR d e) (aX.1 d).1 c⟩
theorem yB {w:World} {b:Nat} {cells:Array Value} {T:TypeId} {fr:Nat×Nat} (h:w.heap[b]?=some (.cells cells T fr)) (f:Array Value->Array Value):Sort.mapBlock w b f=w.setRow b (f cells):=by
 unfold Sort.mapBlock World.setRow
 congr 1
 apply Array.ext_getElem?;intro k;rw [oR,oR];split
 ·rename_i hk; subst hk; rw [h]; rfl
 ·rfl
theorem WI.ahead {Γ:cr} {c:dM} {bx:List (Nat×List AV)} {w:World} (b:WI Γ c bx w) (n:Nat):WI Γ c bx (Sort.ahead w n):=by
 induction n with
 | zero=>exact b
 | succ n d=>rw [<- Sort.ahead_drew]; exact d.drew
theorem NC.ahead (w:World) (n:Nat):NC w (Sort.ahead w n):=⟨ba _,fun _ _ h _=>h,⟨We _ _⟩,fun _ h=>h⟩
theorem Wg (w:World) (os:Array Obj):NC w (Sort.grow w os):=
 ⟨by simp [Sort.grow],fun b o h _=>by rw [SS _ _ (aX.1 h).1]; exact h,⟨ba _⟩,fun b h=>by
  obtain ⟨c,T,h⟩:=h;exact ⟨c,T,by rw [SS _ _ (aX.1 h).1]; exact h⟩⟩
theorem ut {b:List Int} {cells:Array Value} (h:b.length<=cells.size) {j:Nat} {z:Int} (hz:b[j]?=some z):(Sort.putCells (Value.int .i64) 0 b.toArray cells)[j]?=some (.int .i64 z):=by
 have hj:j<b.length:=(aq.1 hz).1;have d:j<cells.size:=by omega
 have c:b[j]=z:=(aq.1 hz).2;simp [Sort.putCells,Ci,hj,d,c]
theorem sD {b:List Int} {cells:Array Value}:(Sort.putCells (Value.int .i64) 0 b.toArray cells).size=cells.size:=by simp [Sort.putCells]
theorem yK {P:Program} {ρ:Shelf.Ren} (L:Proofs.Lays2.n20 P ρ) (es:∀ args w,(callFunc (ρ.f 20) args).run P w = .ok (.enter (ρ.f 20) args) w)
  (d:List Int) (hsz:d.length<=9223372036854775807) :
  xt P (ρ.f 20) 1 (mq d) [] (fun r rows'=>r = .sl .no 1 (i7 (mq (Lib.compact d)))):=by
 refine ⟨es,fun m w vs b cap hs hgm hmb H F N hl hr=>?_⟩;have X:=H.soft
 obtain rfl:vs=[]:=by
  match vs,hl with
  | [],_=>rfl
 obtain ⟨c0,U,E⟩:=X;have hblk:b<w.heap.size:=(aX.1 E).1;have hrl:(mq d).length=d.length:=by simp [mq]
 have hcl:∀ (i:Nat) (n:Int),d[i]?=some n->c0[i]?=some (.int .i64 n):=fun i n h=>by
  have h1:=N i 0 [n] n (by simp [mq,h]) rfl;simpa [World.cell?,E] using h1
 have hcs:d.length<=c0.size:=by
  rcases SC c0.size d.length with h | h
  ·have:=hcl c0.size d[c0.size] (by simp [h]);simp at this
  ·exact h
 rw [hrl] at F ⊢;have Z:=calls_of_every_depth fun D=>Proofs.AnyS.slices_Compact_int_in L D b 0 cap d w (qR E hcl) hsz F;refine wn Z ?_;rintro e w2 ⟨rfl,q,rfl⟩
 have hle:(Lib.compact d).length<=d.length:=by
  unfold Lib.compact Lib.compactUpTo;rw [ay];exact bH (kT _ _) dc
 generalize hcz:Lib.compact d=cz at *;obtain ⟨A,M⟩:∃ A,A=cz++List.replicate (d.length - cz.length) 0:=⟨_,rfl⟩;rw [<- M];have hyl:A.length=d.length:=by rw [M]; simp; omega
 have hyg:∀ (i:Nat) (n:Int),cz[i]?=some n->A[i]?=some n:=fun i n h=>by rw [M,cL (aq.1 h).1]; exact h
 have c:=heap_sortedI (w:=w) (n:=q) (os:=#[]) A.toArray E;have t:=grownBy_sortedI (w:=w) (g:=b) (n:=q) (os:=#[]) A.toArray;rw [Sort.grow_empty] at c t;have J:jk w (Sort.putRow (Value.int .i64) (Sort.ahead w q) b 0 A.toArray):=⟨We _ _⟩
 have p:∀ (j:Nat) (z:Int),A[j]?=some z->(Sort.putRow (Value.int .i64) (Sort.ahead w q) b 0 A.toArray).cell? ⟨b,j,none⟩=some (.int .i64 z):=fun j z h=>by
  simp only [World.cell?,c];simpa using ut am h
 generalize Sort.putRow (Value.int .i64) (Sort.ahead w q) b 0 A.toArray=w2 at *;have v:∀ x,x<w.heap.size->x≠b->w2.heap[x]?=w.heap[x]?:=fun x hx G=>t.block x hx (fun e=>by simp at e; exact G e)
 have B:∀ x o u,m x o=some u->x<w.heap.size/\x≠b:=fun x o u h=>by
  refine ⟨?_,fun e=>by rw [e,hmb o] at h; cases h⟩;have h1:=hs.cell x o u h;unfold World.cell? at h1;split at h1
  ·rename_i hh; exact (aX.1 hh).1
  ·cases h1
 refine ⟨_,⟨fun x o=>if x=b then w2.cell? ⟨b,o,none⟩ else m x o,m.maps⟩,_,mq A,rfl,rfl,?_,by simp [mq,hyl],fun x hx=>?_,fun i j r n h1 h2=>?_,⟨fun x o u h=>?_,fun _ _ h=>h⟩,⟨fun x o u h=>?_,fun x y h=>?_⟩,
  ⟨t.os,t.tape,t.output,t.size,v,⟨_,U,c⟩⟩,fun x o u h=>?_,fun x y h => .inl h,J⟩
 ·refine RD.sl _ _ _ _ _ _ (by intro k hk; cases hk) (by intro hk; cases hk) (by simp [i7,mq]) am (fun x hx=>?_) (fun x hx z hz=>?_) b 0 (fun _=>rfl) (fun i _=>match cz[i]? with | some n=>Value.int .i64 n | none=>Go.undef) (fun i x j z h1 h2=>?_) (fun i x j z h1 h2=>?_)
  ·obtain ⟨y,hy,rfl⟩:=bp.1 hx;obtain ⟨n,_,rfl⟩:=bp.1 hy;rfl
  ·obtain ⟨y,hy,rfl⟩:=bp.1 hx;obtain ⟨n,_,rfl⟩:=bp.1 hz;rfl
  ·obtain ⟨y,hy,rfl⟩:=ox h1;simp only [mq,aT,aA] at hy h2;obtain ⟨n,hn,rfl⟩:=hy;obtain ⟨n',l,rfl⟩:=h2
   have hj:j=0:=by
    have:=(aq.1 l).1;simp at this; exact this
   subst hj;simp only [bD,aB] at l;subst l;simp only [hn,bS,nw,eb,cR];exact p i n (hyg i n hn)
  ·obtain ⟨y,hy,rfl⟩:=ox h1;simp only [mq,aT,aA] at hy h2;obtain ⟨n,hn,rfl⟩:=hy;obtain ⟨n',l,rfl⟩:=h2
   have hj:j=0:=by
    have:=(aq.1 l).1;simp at this; exact this
   subst hj;simp only [bD,aB] at l;subst l;simp only [hn];exact .int _ _
 ·obtain ⟨y,_,rfl⟩:=bp.1 hx; rfl
 ·simp only [mq,aT,aA] at h1;obtain ⟨x,hx,rfl⟩:=h1
  have hj:j=0:=by
   have:=(aq.1 h2).1;simp at this; exact this
  subst hj;simp only [bD,aB] at h2;subst h2;show (if b=b then w2.cell? ⟨b,i*1+0,none⟩ else _)=_;rw [aV rfl,nw,eb];exact p i _ hx
 ·show (if x=b then _ else m x o)=some u;rw [aY (B x o u h).2]; exact h
 ·simp only at h;split at h
  ·rename_i e; rw [e]; exact h
  ·have E:=B x o u h;have h1:=hs.cell x o u h;simp only [World.cell?] at h1 ⊢;rw [v x E.1 E.2]; exact h1
 ·have h1:=hs.map x y h;have hx:=(aX.1 h1).1;have G:x≠b:=fun e=>by rw [e,E] at h1; cases h1
  exact (v x hx G).trans h1
 ·simp only at h;split at h
  ·rename_i e; exact .inr ⟨.inl e,by rw [e]; exact ⟨_,U,c⟩⟩
  ·exact .inl h
def S9 (C:FuncId->List Int->List Int->Prop) (s:St) (o:Oper) (K:St->Prop):Prop:=match o.op with
 | .call call=>match call.callee,call.args.toList with
  | .value f,[e]=>match ev s f,ev s e with
   | .fn f,.me .sl k _ _=>qe k s.t=true/\match iH s k with
    | some (sz,xs)=>∃ d c,C f d c/\sz=1/\xs=i7 (mq d)/\fJ ⟨(xk k,.me .arr k 1 (i7 (mq c)))::s.t,s.b⟩ o.dst (.tup []) K
    | none=>False
   | _,_=>False
  | _,_=>False
 | _=>False
section
variable {Γ:cr} (hΓ:Γ.OK) {s:St} {a:Act} {w:World} {o:Oper} {next:Act->World->Prop} {Q:Exit->Act->World->Prop} {K:St->Prop}
include hΓ in
theorem H4 (hI:ef Γ s a w) (G:∀ d,o.dst=some d->d<Γ.nt) (h:S9 (xd Γ.P) s o K) (hn:∀ s' a' w',K s'->ef Γ s' a' w'->NC w w'->FT o.dst.toList a a'->next a' w'):o.wpIn Γ.F Γ.n Γ.P a w next Q:=by
 unfold S9 at h;split at h
 ·rename_i call hop;split at h
  ·rename_i fo x0 hcal M;split at h
   ·rename_i f k n qs hf hx;obtain ⟨hna,h⟩:=h;split at h
    ·rename_i sz xs E;obtain ⟨zs,X,hC,rfl,rfl,hK⟩:=h;have D:∀ g d n xs,iE g=true->get s.t d=some (.me g k n xs)->d=xk k:=fun g d n xs hg=>jX hg hna;obtain ⟨c,hW,ht⟩:=hI.ex;obtain ⟨b,cells,U,H,⟨e2,e2'⟩,e3,e4,e5⟩:=rl ht E;have hq:=hW.xo k b _ H;have hrx:=cq ht x0;rw [hx] at hrx;obtain ⟨b',cells',U',cap,f1,f2,⟨f3,f4⟩,f5⟩:=(show RX c .sl k n qs (a.eval x0) from hrx);rw [H] at f1;cases f1;have N:∀ l:List Int,(i7 (mq l)).length=l.length:=fun l=>by simp [i7,mq]
     rw [N] at e2 e3;have hnl:n=zs.length:=by omega
     subst hnl;have hget:∀ (l:List Int) (i:Nat) (z:Int),l[i]?=some z->(i7 (mq l))[i]?=some [.int .i64 z]:=fun l i z h=>by simp [i7,mq,h]
     have hrun:=hC.runs w b cap cells U hq.obj f5 (fun i z h=>by
      obtain ⟨u,u1,u2⟩:=e5 i _ 0 _ (hget zs i z h) rfl;cases u2;simpa using u1)
     have hfv:a.eval fo = .func (.func f) #[] #[]:=by
      have:=cq ht fo;rw [hf] at this;exact this.fn
     have hexe:(execOp a.eval o).run Γ.P w = .ok (.enter f #[.slice (some ⟨b,0,none⟩) zs.length cap]) w:=by
      simp only [execOp,hop,aD,resolve,hcal,hfv,Deferred.ofValue,aL,aw,invoke,hC.enters _ w]
      congr 2
      apply tT;simp [M,f2]
     refine ⟨fun f _=>hΓ.fn f,?_⟩;rw [kW _ _ _ (by rw [hop]; intro c hc; cases hc),hexe,yJ];refine ⟨fun h=>(by rw [hΓ.depth] at h; cases h),(js hΓ hrun _).mono ?_⟩;rintro e w' ⟨rfl,q,os,rfl⟩;have Z:(Sort.ahead w q).heap[b]?=some (.cells cells U (0,0)):=hq.obj;have hput:Sort.putRow (Value.int .i64) (Sort.ahead w q) b 0 X.toArray=(Sort.ahead w q).setRow b (Sort.putCells (Value.int .i64) 0 X.toArray cells):=yB Z _;rw [hput];have hyl:=hC.len;have hcz:zs.length<=cells.size:=by omega
     obtain ⟨W1,L1,N1⟩:=(hW.ahead q).storeX H (Sort.putCells (Value.int .i64) 0 X.toArray cells) (hq.ag (oj E));have W2:=W1.grown (row:=none) (w':=Sort.grow ((Sort.ahead w q).setRow b (Sort.putCells (Value.int .i64) 0 X.toArray cells)) os) ⟨rfl,rfl,rfl,by simp [Sort.grow],fun k hk _=>SS _ _ hk⟩ (by intro r h; cases h);have N2:=((NC.ahead w q).trans N1).trans (Wg _ os)
     have hts:∀ d z,get ((xk k,AV.me .arr k 1 (i7 (mq X)))::s.t) d=some z->RC { c with x:=fun j=>if j=k then some (b,.cells (Sort.putCells (Value.int .i64) 0 X.toArray cells) U (0,0)) else c.x j } z (a.tmps.getD d Go.undef):=fun d z hz=>by
      rw [bf] at hz;split at hz
      ·rename_i hd;cases hz;refine ⟨b,_,U,aV rfl,⟨by rw [N,hyl]; exact e2,by rw [sD]; exact e2'⟩,by rw [N,hyl,sD]; exact e3,fun r hr=>?_,fun i r j y h1 h2=>?_⟩
       ·obtain ⟨y,hy,rfl⟩:=bp.1 hr;obtain ⟨m,_,rfl⟩:=bp.1 hy;exact ⟨rfl,fun y hy=>by simp at hy; subst hy; rfl⟩
       ·obtain ⟨y',hy',rfl⟩:=ox h1;simp only [mq,aT,aA] at hy' h2;obtain ⟨m,hm,rfl⟩:=hy';obtain ⟨m',L,rfl⟩:=h2
        have hj:j=0:=by
         have:=(aq.1 L).1;simp at this; exact this
        subst hj;simp only [bD,aB] at L;subst L;exact ⟨_,by rw [nw,eb]; exact ut am hm,.int _ _⟩
      ·have hz':=ht d z hz
       cases z with
       | me g k' n' B=>
        by_cases hk:k'=k
        ·subst hk
         cases g with
         | sl=>
          obtain ⟨p1,p2,p3,p4,p⟩:=(show RX c .sl k' n' B _ from hz');exact ⟨p1,_,U,p4,by rw [show c.x k'=_ from H] at p; simp only [aB,ew] at p; rw [<- p.1.1]; exact aV rfl,p.2⟩
         | ptr J j2=>
          obtain ⟨p1,p2,p3,p⟩:=(show RX c (.ptr J j2) k' n' B _ from hz');exact ⟨p1,_,U,by rw [show c.x k'=_ from H] at p; simp only [aB,ew] at p; rw [<- p.1.1]; exact aV rfl,p.2⟩
         | arr=>exact absurd (D _ _ _ _ rfl hz) a8
         | row _ _=>exact absurd (D _ _ _ _ rfl hz) a8
         | box=>exact absurd (D _ _ _ _ rfl hz) a8
         | mp=>
          obtain ⟨p1,p2,p3,p,_⟩:=(show RX c .mp k' n' B _ from hz');rw [show c.x k'=_ from H] at p; cases p
         | ents=>
          obtain ⟨p2,p3,p,_⟩:=(show RX c .ents k' n' B Go.undef from hz');rw [show c.x k'=_ from H] at p; cases p
         | sub J l2=>
          obtain ⟨p1,p2,p3,p4,p6,p,p7⟩:=(show RX c (.sub J l2) k' n' B _ from hz');exact ⟨p1,_,U,p4,p6,by rw [show c.x k'=_ from H] at p; simp only [aB,ew] at p; rw [<- p.1]; exact aV rfl,p7⟩
        ·have:=hz'.leX L1;simp only [AV.unme,show Nat.beq k k'=false from by cases hb:Nat.beq k k' with | false=>rfl | true=>exact absurd (ak hb).symm hk] at this;exact this
       | _=>exact hz'.leX L1
     cases A:o.dst with
     | none=>
      rw [A] at hK;exact hn _ _ _ hK (hI.next N2 W2 (d:=none) (v := .tuple #[]) (by intro k hk; cases hk) hts) N2 (FT.put ⟨.tuple #[],by rw [A]⟩)
     | some d=>
      rw [A] at hK;exact hn _ _ _ hK (hI.next N2 W2 (d:=some d) (v := .tuple #[]) (by intro k hk; cases hk; exact G _ A) (eT hts (by rw [hI.size]; exact G d A) (RC.of_RD (.tup _ _ rfl dc)))) N2 (FT.put ⟨.tuple #[],by rw [A]⟩)
    ·exact h.elim
   ·exact h.elim
  ·exact h.elim
 ·exact h.elim
variable {T:eX} (hT:T.OK Γ.P)
include hΓ hT in
theorem xm (keep:List Nat) (n:Nat) {s:St} {K:Exit->St->Prop} {id:Nat} {ops:Array Oper} (c:dL Γ.nt (.region id ops false)=true)
  (h:my T Γ.P (S9 (xd Γ.P)) ops.toList (dI ops.toList ops.toList) n s fun s'=>gt keep s' (K .normal)):aI Γ s (.region id ops false) K:=
 lj hΓ hT (fun _ _ _ _ _ _ _ d b h e=>H4 hΓ d b h e) keep n c h
end
open Go
open Go.RowKit (Below)
def lB (l:List (Int×Int)):List (List AV):=l.map fun p=>[.int .i64 p.1,.int .i64 p.2]
def ms:List (Int×Int)->Int->Int
 | [],_=>0
 | p::r,x=>if p.1=x then p.2 else ms r x
def om (x y:Int):List (Int×Int)->List (Int×Int)
 | []=>[(x,y)]
 | p::r=>if p.1=x then (x,y)::r else p::om x y r
structure Bc (P:Program) (t:TypeId):Prop where
 ex:∃ b et,P.underlying t=some (.map b et)/\P.underlying b=some (.int .i64)/\∀ w,(zeroValue et).run P w = .ok (.int .i64 0) w
def EL:List MapEntry->List (Int×Int)->Prop
 | [],[]=>True
 | e::es,p::l=>(e.key = .int .i64 p.1/\e.val = .int .i64 p.2)/\EL es l
 | _,_=>False
theorem EL.len:∀ {es:List MapEntry} {l:List (Int×Int)},EL es l->es.length=l.length
 | [],[],_=>rfl
 | e::es,p::l,h=>by rw [bu,bu,EL.len h.2]
 | [],_::_,h=>h.elim
 | _::_,[],h=>h.elim
theorem EL.get:∀ {es:List MapEntry} {l:List (Int×Int)},EL es l->∀ (j:Nat) (e:MapEntry) (p:Int×Int),es[j]?=some e->l[j]?=some p->e.key = .int .i64 p.1/\e.val = .int .i64 p.2
 | [],[],_,j,e,p,h1,_=>by simp at h1
 | e::es,p::l,h,0,_,_,h1,h2=>by
  simp only [bD,aB] at h1 h2;subst h1; subst h2; exact h.1
 | e::es,p::l,h,j+1,_,_,h1,h2=>EL.get h.2 j _ _ (by simpa using h1) (by simpa using h2)
 | [],_::_,h,_,_,_,_,_=>h.elim
 | _::_,[],h,_,_,_,_,_=>h.elim
theorem EL.of:∀ {es:List MapEntry} {l:List (Int×Int)},es.length=l.length->(∀ (j:Nat) (e:MapEntry) (p:Int×Int),es[j]?=some e->l[j]?=some p->e.key = .int .i64 p.1/\e.val = .int .i64 p.2)->EL es l
 | [],[],_,_=>trivial
 | e::es,p::l,h,b=>⟨b 0 e p rfl rfl,EL.of (by simpa using h) fun j e p h1 h2=>b (j+1) e p (by simpa using h1) (by simpa using h2)⟩
 | [],_::_,h,_=>by simp at h
 | _::_,[],h,_=>by simp at h
theorem Aj (x:Int):∀ (es:List MapEntry) (l:List (Int×Int)) (n:Nat),EL es l ->
  (Instr.findNow (.int .i64) (.int .i64 x) es n=some none/\ms l x=0/\(∀ e∈es,e.key≠.int .i64 x)/\∀ y,om x y l=l++[(x,y)]) \/
  ∃ j e,Instr.findNow (.int .i64) (.int .i64 x) es n=some (some (n+j,.int .i64 (ms l x)))/\es[j]?=some e/\e.key = .int .i64 x/\∀ y,om x y l=l.set j (x,y)
 | [],[],n,_ => .inl ⟨rfl,rfl,by simp,fun _=>rfl⟩
 | e::es,p::l,n,h=>by
  obtain ⟨⟨hk,hv⟩,h2⟩:=h;by_cases hx:p.1=x
  ·refine .inr ⟨0,e,?_,rfl,by rw [hk,hx],fun y=>by simp [om,hx]⟩;simp [Instr.findNow,Instr.sameNow,hk,hv,hx,ms]
  ·have f:Instr.sameNow (.int .i64) (.int .i64 x) e.key=some false:=by
    simp only [Instr.sameNow,hk,cR,aB,Jw,Bg];exact fun h=>hx h.symm
   rcases Aj x es l (n+1) h2 with ⟨b,d,i,c⟩ | ⟨j,e',b,d,i,c⟩
   ·refine .inl ⟨?_,by simp [ms,hx,d],fun e' he=>?_,fun y=>by simp [om,hx,c]⟩
    ·simp only [Instr.findNow,f,b]
    grind
   ·refine .inr ⟨j+1,e',?_,by simpa using d,i,fun y=>by simp [om,hx,c]⟩;simp only [Instr.findNow,f,b,ms,aY hx];grind
 | [],_::_,_,h=>h.elim
 | _::_,[],_,h=>h.elim
section
variable {P:Program} {w:World}
theorem ls {kt} (h2:P.underlying kt=some (.int .i64)) (em) (x):(Instr.checkKey em 10000 kt (.int .i64 x)).run P w = .ok () w:=by
 rw [show (10000:Nat)=9999+1 from rfl,Instr.checkKey];simp only [aD,a7 h2,aw,aL]
theorem zz {t} (hM:Bc P t) {b} {es} {clock} {l} (d:w.heap[b]?=some (.map es clock)) (h:EL es.toList l) (x) :
  (Instr.lookup t (.map (some b)) (.int .i64 x) false).run P w = .ok (.int .i64 (ms l x)) w:=by
 obtain ⟨m,et,h1,h2,i⟩:=hM.ex;rcases Aj x es.toList l 0 h with ⟨c,f,_⟩ | ⟨j,e,c,_⟩
 ·simp only [Instr.lookup,aD,a7 h1,aw,da d,aL,ls h2,Instr.findKey,a7 h2,c,i,f,br,cv]
 ·simp only [Instr.lookup,aD,a7 h1,aw,da d,aL,ls h2,Instr.findKey,a7 h2,c,br,cv]
theorem Bq (x):(Instr.keyThatStays (.int .i64 x) (.int .i64 x)).run P w = .ok (.int .i64 x) w:=by
 have b:Instr.sameBits 10000 (.int .i64 x) (.int .i64 x)=true:=by
  rw [show (10000:Nat)=9999+1 from rfl];simp [Instr.sameBits]
 simp [Instr.keyThatStays,b]
theorem un {t} (hM:Bc P t) {b} {es} {clock} {l} (d:w.heap[b]?=some (.map es clock)) (h:EL es.toList l) (x) (v) :
  ((Instr.mapUpdate t (.map (some b)) (.int .i64 x) v).run P w = .ok () (w.putObj b (.map (es.push ⟨.int .i64 x,v,clock⟩) (clock+1)))/\(∀ e∈es.toList,e.key≠.int .i64 x)/\∀ y,om x y l=l++[(x,y)]) \/
  ∃ j e,(Instr.mapUpdate t (.map (some b)) (.int .i64 x) v).run P w = .ok () (w.putObj b (.map (es.modify j fun e=>{ e with key := .int .i64 x,val:=v }) clock))/\es[j]?=some e/\e.key = .int .i64 x/\∀ y,om x y l=l.set j (x,y):=by
 obtain ⟨n,et,h1,h2,p⟩:=hM.ex;rcases Aj x es.toList l 0 h with ⟨i,_,c,f⟩ | ⟨j,e,i,m,c,f⟩
 ·refine .inl ⟨?_,c,f⟩;simp only [Instr.mapUpdate,aD,a7 h1,aw,da d,ls h2,Instr.findKey,a7 h2,i,aL,oP _ d];rfl
 ·have f2':es[j]?=some e:=by simpa using m
  refine .inr ⟨j,e,?_,f2',c,f⟩;simp only [Instr.mapUpdate,aD,a7 h1,aw,da d,ls h2,Instr.findKey,a7 h2,i,aL,bS,f2',bJ,pU,c,Bq,oP _ d];rfl
end
theorem CD {l} {i:Nat} {x} (h:(lB l)[i]?=some x):∃ p,l[i]?=some p/\x=[.int .i64 p.1,.int .i64 p.2]:=by
 grind [lB,Option.map_eq_some_iff]
theorem RX.toEL {c} {k b} {l} {u} (h:RX c .ents k b (lB l) u):∃ es clock,c.x k=some (b,.map es clock)/\ll es clock/\EL es.toList l:=by
 obtain ⟨es,clock,f,i,m,q,d,n⟩:=h;have hl:l.length=es.size:=by simpa [lB] using m
 refine ⟨es,clock,f,i,EL.of (by simp [hl]) fun j e p h1 h2=>?_⟩;have h1':es[j]?=some e:=by simpa using h1
 have h2':(lB l)[j]?=some [.int .i64 p.1,.int .i64 p.2]:=by simp [lB,h2]
 exact ⟨(d j _ e _ h2' h1' rfl).int_eq,(n j _ e _ h2' h1' rfl).int_eq⟩
theorem Yn {c} {k b} {l} {es} {clock} (h1:c.x k=some (b,.map es clock)) (h2:ll es clock) (d:EL es.toList l) (u):RX c .ents k b (lB l) u:=by
 refine ⟨es,clock,h1,h2,by have:=d.len; simp [lB]; simpa using this.symm,fun x hx=>?_,fun i x e y g1 g2 g3=>?_,fun i x e y g1 g2 g3=>?_⟩
 ·obtain ⟨p,_,rfl⟩:=bp.1 hx; rfl
 ·obtain ⟨p,p1,rfl⟩:=CD g1;simp only [bD,aB] at g3;subst g3;rw [(d.get i e p (by simpa using g2) p1).1]; exact .int _ _
 ·obtain ⟨p,p1,rfl⟩:=CD g1;simp only [fk,bD,aB] at g3;subst g3;rw [(d.get i e p (by simpa using g2) p1).2]; exact .int _ _
theorem EL.push {es} {l} {clock} (q:ll es clock) (h:EL es.toList l) {x y} (hk:∀ e∈es.toList,e.key≠.int .i64 x) :
  ll (es.push ⟨.int .i64 x,.int .i64 y,clock⟩) (clock+1)/\EL (es.push ⟨.int .i64 x,.int .i64 y,clock⟩).toList (l++[(x,y)]):=by
 have hlen:es.size=l.length:=by have:=h.len; simpa using this
 have d:∀ (n:Nat) (f:MapEntry),es[n]?=some f->f∈es.toList:=fun n f hf=>by grind
 refine ⟨⟨fun i e he=>?_,fun i u e e' b c m=>?_,fun i u e e' b c m=>?_⟩,EL.of (by simp [hlen]) fun j e p h1 h2=>?_⟩
 ·rw [gK] at he;split at he
  ·cases he; simp
  ·have:=q.1 i e he; omega
 ·rw [gK] at b c;split at b <;> split at c
  ·omega
  ·cases b; have:=q.1 _ _ c; simp only at m; omega
  ·cases c; have:=q.1 _ _ b; simp only at m; omega
  ·exact q.2.1 i u e e' b c m
 ·rw [gK] at b c;split at b <;> split at c
  ·omega
  ·cases b; exact absurd m.symm (hk _ (d _ _ c))
  ·cases c; exact absurd m (hk _ (d _ _ b))
  ·exact q.2.2 i u e e' b c m
 ·rw [cU,gK] at h1;by_cases hj:j<l.length
  ·rw [cL hj] at h2;rw [aY am] at h1;exact h.get j e p (by simpa using h1) h2
  ·rw [bM am] at h2
   have r:j=l.length:=by
    have:=(aq.1 h2).1;simp at this; omega
   subst r;simp at h2;subst h2;rw [aV hlen.symm] at h1;cases h1;exact ⟨rfl,rfl⟩
theorem EL.put {es} {l} {clock j} {e0} (E:ll es clock) (h:EL es.toList l) {x y} (h2:es[j]?=some e0) (hk:e0.key = .int .i64 x) :
  ll (es.modify j fun e=>{ e with key := .int .i64 x,val := .int .i64 y }) clock/\EL (es.modify j fun e=>{ e with key := .int .i64 x,val := .int .i64 y }).toList (l.set j (x,y)):=by
 have hlen:es.size=l.length:=by have:=h.len; simpa using this
 have d:∀ n,(es.modify j fun e=>{ e with key := .int .i64 x,val := .int .i64 y })[n]?=if j=n then (es[n]?).map (fun e=>{ e with key := .int .i64 x,val := .int .i64 y }) else es[n]?:=fun n=>by
  rw [oR]
 have b:∀ (n:Nat) (f:MapEntry),(es.modify j fun e=>{ e with key := .int .i64 x,val := .int .i64 y })[n]?=some f->∃ c,es[n]?=some c/\c.born=f.born/\c.key=f.key:=fun n f hf=>by
  rw [d] at hf;split at hf
  ·rename_i v;subst v;rw [h2] at hf;simp only [bJ,aB] at hf;subst hf;exact ⟨e0,h2,rfl,hk⟩
  ·exact ⟨f,hf,rfl,rfl⟩
 refine ⟨⟨fun i e he=>?_,fun i u e e' B D z=>?_,fun i u e e' B D z=>?_⟩,EL.of (by simp [hlen]) fun n e p h1 r=>?_⟩
 ·obtain ⟨c,g1,g2,_⟩:=b i e he;rw [<- g2]; exact E.1 i c g1
 ·obtain ⟨c,g1,g2,_⟩:=b i e B;obtain ⟨A,q,m,_⟩:=b u e' D;exact E.2.1 i u c A g1 q (by rw [g2,m,z])
 ·obtain ⟨c,g1,_,g2⟩:=b i e B;obtain ⟨A,q,_,m⟩:=b u e' D;exact E.2.2 i u c A g1 q (by rw [g2,m,z])
 ·rw [cU,d] at h1;have F:n<l.length:=by have:=(aq.1 r).1; simpa using this
  by_cases hj:j=n
  ·subst hj;rw [aV rfl,h2] at h1;simp only [bJ,aB] at h1;subst h1;rw [List.getElem?_set_self F] at r;cases r;exact ⟨rfl,rfl⟩
  ·rw [aY hj] at h1;rw [List.getElem?_set_ne hj] at r;exact h.get n e p (by simpa using h1) r
def TS (T:eX) (C:FuncId->List AV->AV->Prop) (M:TypeId->Prop) (s:St) (o:Oper) (K:St->Prop):Prop:=match o.op with
 | .lookup t x y false=>match ev s x,ev s y,o.dst with
  | .lit (.map (some b)),.int .i64 n,some d=>M t/\∃ k l,get s.t (xk k)=some (.me .ents k b (lB l))/\K ⟨(d,.int .i64 (ms l n))::s.t,s.b⟩
  | _,_,_=>False
 | .mapUpdate t x y z=>match ev s x,ev s y,ev s z,o.dst with
  | .lit (.map (some b)),.int .i64 n,.int .i64 v,none=>M t/\∃ k l,get s.t (xk k)=some (.me .ents k b (lB l))/\qe k s.t=true/\K ⟨(xk k,.me .ents k b (lB (om n v l)))::s.t,s.b⟩
  | _,_,_,_=>False
 | .binOp .eql t x (.const (.slice none 0 0)) _=>match ev s x,get T t with
  | .sl _ _ xs,some i=>bif Nat.beq i.kind 3 then (xs=[]->fJ s o.dst (.bool true) K)/\fJ s o.dst (.bool false) K else False
  | _,_=>False
 | op=>Xi T C s o.dst o.type op K
def rU (T:eX) (C:FuncId->List AV->AV->Prop) (M:TypeId->Prop) (all:List Oper) (guards:List Nat):List Oper->St->(St->Prop)->Prop
 | [],s,K=>K s
 | o::rest,s,K=>match j6 all s o with
  | 0=>TS T C M s o fun s=>D6 o.op s fun s=>gS guards o.dst s fun s=>rU T C M all guards rest s K
  | 1=>fJ s o.dst .undef fun s=>rU T C M all guards rest s K
  | _=>False
section
variable {Γ:cr} (hΓ:Γ.OK) {T:eX} (hT:T.OK Γ.P) {M:TypeId->Prop} (hM:∀ t,M t->Bc Γ.P t) {s:St} {a:Act} {w:World} {o:Oper} {next:Act->World->Prop} {Q:Exit->Act->World->Prop} {K:St->Prop}
include hΓ hT hM
theorem IV (hI:ef Γ s a w) (hd:∀ d,o.dst=some d->d<Γ.nt) (h:TS T (ar Γ.P) M s o K) (hn:dS Γ a o.dst w K next):o.wpIn Γ.F Γ.n Γ.P a w next Q:=by
 unfold TS at h;split at h
 ·rename_i t x y B;split at h
  ·rename_i b n d hx hy E;obtain ⟨X,k,l,hk,hK⟩:=h;obtain ⟨c,hW,G⟩:=hI.ex;obtain ⟨es,clock,J,q1,q2⟩:=(show RX c .ents k b (lB l) (a.tmps.getD (xk k) Go.undef) from G _ _ hk).toEL;have hq:=hW.xo k b _ J;have r:RD c.m (.lit (.map (some b))) (a.eval x):=by have:=cq G x; rwa [hx] at this
   have N:a.eval x = .map (some b):=by generalize a.eval x=u at r; cases r; rfl
   have hvy:a.eval y = .int .i64 n:=by have:=cq G y; rw [hy] at this; exact this.int
   have hK':fJ s o.dst (.int .i64 (ms l n)) K:=by rw [E]; obtain ⟨t,b⟩:=s; exact hK
   refine ot hΓ hI hd hW G (by rw [B]; intro c hc; cases hc) (x := .int .i64 (ms l n)) (v := .int .i64 (ms l n)) (RC.of_RD (.int _ _)) ?_ hK' hn;simp only [execOp,B,aD,N,hvy,zz (hM t X) hq.obj q2 n,aw,aL]
  ·exact h.elim
 ·rename_i t x y z B;split at h
  ·rename_i b n v hx hy hz E;obtain ⟨X,k,l,hk,hna,hK⟩:=h;have hcl:∀ d n xs,get s.t d=some (.me .ents k n xs)->d=xk k:=fun d n xs=>jX rfl hna;obtain ⟨c,hW,G⟩:=hI.ex;obtain ⟨es,clock,J,q1,q2⟩:=(show RX c .ents k b (lB l) (a.tmps.getD (xk k) Go.undef) from G _ _ hk).toEL;have hq:=hW.xo k b _ J;have r:RD c.m (.lit (.map (some b))) (a.eval x):=by have:=cq G x; rwa [hx] at this
   have N:a.eval x = .map (some b):=by generalize a.eval x=u at r; cases r; rfl
   have hvy:a.eval y = .int .i64 n:=by have:=cq G y; rw [hy] at this; exact this.int
   have hvz:a.eval z = .int .i64 v:=by have:=cq G z; rw [hz] at this; exact this.int
   have fin:∀ (D:Array MapEntry) (f:Nat),(Instr.mapUpdate t (.map (some b)) (.int .i64 n) (.int .i64 v)).run Γ.P w = .ok () (w.putObj b (.map D f))->ll D f->EL D.toList (om n v l)->o.wpIn Γ.F Γ.n Γ.P a w next Q:=by
    intro D f H U hrel;obtain ⟨W1,W2,W3⟩:=hW.putX J (.map D f) rfl (fun _ _ _ h=>nomatch h);refine mM hΓ (by rw [B]; intro c hc; cases hc) (w':=w.putObj b (.map D f)) (by simp only [execOp,B,aD,N,hvy,hvz,H,aw,aL]) ?_;rw [E];refine hn _ _ _ hK (hI.next W3 W1 (d:=none) (v:=Go.undef) (by intro k hk; cases hk) (fun d z' hz=>?_)) W3 (lC E);rw [bf] at hz;split at hz
    ·cases hz;exact Yn (aV rfl) U hrel Go.undef
    ·rename_i hd;have hz':=G d z' hz
     cases z' with
     | me g k' Z A=>
      by_cases hk':k'=k
      ·subst hk'
       cases g with
       | sl=>obtain ⟨p1,p2,p3,p4,q,_⟩:=(show RX c .sl k' Z A (a.tmps.getD d Go.undef) from hz'); rw [J] at q; cases q
       | ptr L j2=>obtain ⟨p1,p2,p3,q,_⟩:=(show RX c (.ptr L j2) k' Z A (a.tmps.getD d Go.undef) from hz'); rw [J] at q; cases q
       | arr=>obtain ⟨p1,p2,p3,q,_⟩:=(show RX c .arr k' Z A (a.tmps.getD d Go.undef) from hz'); rw [J] at q; cases q
       | row b0 c0=>obtain ⟨p1,p2,q,_⟩:=(show RX c (.row b0 c0) k' Z A (a.tmps.getD d Go.undef) from hz'); rw [J] at q; cases q
       | mp=>
        obtain ⟨p1,p2,p3,q,p6⟩:=(show RX c .mp k' Z A (a.tmps.getD d Go.undef) from hz');rw [J] at q; cases q;exact ⟨b,D,f,aV rfl,p6⟩
       | ents=>grind
       | sub L l2=>obtain ⟨p1,p2,p3,p4,p6,q,_⟩:=(show RX c (.sub L l2) k' Z A (a.tmps.getD d Go.undef) from hz'); rw [J] at q; cases q
       | box=>obtain ⟨p1,p2,p3,q,_⟩:=(show RX c .box k' Z A (a.tmps.getD d Go.undef) from hz'); rw [J] at q; cases q
      ·have:=hz'.leX W2;simp only [AV.unme,show Nat.beq k k'=false from by cases hb:Nat.beq k k' with | false=>rfl | true=>exact absurd (ak hb).symm hk'] at this;exact this
     | _=>exact hz'.leX W2
   rcases un (hM t X) hq.obj q2 n (.int .i64 v) with ⟨h1,h2,h3⟩ | ⟨j,e,h1,h2,h3,h4⟩
   ·grind [EL.push]
   grind [EL.put]
  ·exact h.elim
 ·rename_i t x p B;split at h
  ·rename_i ow sz xs i hx hi
   cases hk:Nat.beq i.kind 3 with
   | false=>grind
   | true=>
    rw [hk] at h;have hu:=ee hT hi (ak hk);obtain ⟨c,hW,G⟩:=hI.ex;have r:=(cq G x).pub;rw [hx] at r
    obtain ⟨base,len,cap,hv,hlen,hb⟩:∃ base len cap,a.eval x = .slice base len cap/\xs.length=len/\(0<len->base≠none):=by
     generalize a.eval x=u at r;have h2:∃ ow',RD c.m (.sl ow' sz xs) u:=by cases ow <;> exact ⟨_,r⟩
     obtain ⟨ow',h2⟩:=h2
     cases h2 with
     | sl _ _ _ base len cap ho hf hl hc hsz hcell b off hb g hm hr=>grind
    have H:(execOp a.eval o).run Γ.P w = .ok (.value (.bool base.isNone)) w:=by
     have hc:a.eval (.const (.slice none 0 0)) = .slice none 0 0:=rfl;simp only [execOp,B,aD,hv,hc];simp [eqGuard,Lib.run_eql_slice_nil w t _ base len cap 0 0 hu]
    have fin:fJ s o.dst (.bool base.isNone) K->o.wpIn Γ.F Γ.n Γ.P a w next Q:=fun hK=>
     ot hΓ hI hd hW G (by grind) (x := .bool base.isNone) (v := .bool base.isNone) (RC.of_RD (.bool _)) H hK hn
    cases hbn:base with
    | some z=>rw [hbn] at fin; exact fin h.2
    | none=>
     rw [hbn] at fin hb;have h0:xs=[]:=yN.1 (by rw [hlen]; rcases nr len with h | h; exact h; exact absurd rfl (hb h));exact fin (h.1 h0)
  ·exact h.elim
 ·exact lg hΓ hT rfl hI hd h hn
theorem n5 {all:List Oper} {guards:List Nat} (b:∀ j d,jx all j=some d->d<Γ.nt):∀ (l:List Oper) (k:Nat) (s:St) (a:Act) (w:World) (K:St->Prop),(∀ j,l[j]?=all[k+j]?)->rU T (ar Γ.P) M all guards l s K->ef Γ s a w ->
  (∀ s' p w',K s'->ef Γ s' p w'->NC w w'->FT (eJ l) a p->Q .normal p w')->wpOpsIn Γ.F Γ.n Γ.P all.toArray Q (List.range' k l.length) a w
 | [],k,s,a,w,K,_,h,m,q=>q s a w h m (.refl w) (.refl _ a)
 | o::rest,k,s,a,w,K,hk,h,m,q=>by
  have B:all.toArray[k]?=some o:=by simpa using (hk 0).symm
  have hk':∀ j,rest[j]?=all[k+1+j]?:=fun j=>by have:=hk (j+1); simpa [d3,oc 1 j] using this
  have e:∀ d,o.dst=some d->d<Γ.nt:=fun d c=>b k d (by rw [eK]; rw [show all[k]?=some o from by simpa using B]; exact c);simp only [bu,fj,wpOpsIn,B];simp only [rU] at h;split at h
  ·rename_i x;rw [dC b m 0 x am];simp only [ei,cR];refine IV hΓ hT hM m e h ?_;intro s' p w' D z G E;rw [uQ] at D;obtain ⟨s2,i,hle⟩:=ja D;exact n5 b rest (k+1) s2 p w' K hk' i (z.less hle) (fun A a3 r h1 h2 y v=>q A a3 r h1 h2 (G.trans y) (((FT.put E).mono fun d c=>bc _ c).trans (v.mono fun d c=>bh _ c)))
  ·rename_i x;rw [dC b m 1 x am];simp only [Nat.reduceBEq,br,cv];obtain ⟨s2,i,u⟩:=fY m e h;exact ⟨fun f _=>hΓ.fn f,n5 b rest (k+1) s2 _ w K hk' i u fun A a3 r h1 h2 y v=>q A a3 r h1 h2 y (((FT.put ⟨_,rfl⟩).mono fun d c=>bc _ c).trans (v.mono fun d c=>bh _ c))⟩
  ·exact h.elim
theorem nl (keep) {s} {K} {id} {ops} (c:dL Γ.nt (.region id ops false)=true)
  (h:rU T (ar Γ.P) M ops.toList (dI ops.toList ops.toList) ops.toList s fun s'=>gt keep s' (K .normal)):aI Γ s (.region id ops false) K:=by
 refine ⟨fun a w d=>?_⟩;obtain ⟨l⟩:=ops;refine fT ?_;rw [show (⟨l⟩:Array Oper).size=l.length from rfl,db];refine n5 hΓ hT hM (eB c) l 0 s a w _ (fun j=>by simp) h d ?_;intro s' m w' e b f i;obtain ⟨s2,h2,hle⟩:=ek e;exact ⟨f,i,s2,b.less hle,h2⟩
end
open Go
open Go.RowKit (Below)
section
variable {Γ:cr} (hΓ:Γ.OK) {T:eX} (hT:T.OK Γ.P) {s:St} {K:Exit->St->Prop}
include hΓ hT in
theorem Wb (keep la) {id} {ops} (c:dL Γ.nt (.region id ops false)=true)
  (h:li T (ar Γ.P) (bW Γ.P) ops.toList (la++dI ops.toList ops.toList) ops.toList s fun s'=>gt keep s' (K .normal)):aI Γ s (.region id ops false) K:=by
 refine ⟨fun a w d=>?_⟩;obtain ⟨l⟩:=ops;refine fT ?_;rw [show (⟨l⟩:Array Oper).size=l.length from rfl,db];refine kG hΓ hT (eB c) l 0 s a w _ (fun j=>by simp) h d ?_;intro s' m w' e b f i;obtain ⟨s2,h2,hle⟩:=ek e;exact ⟨f,i,s2,b.less hle,h2⟩
def ZF (l v:AV):List AV->List AV->Prop
 | [],[]=>True
 | a::r,b::c=>(b=a\/a=l/\b=v)/\ZF l v r c
 | _,_=>False
theorem C0 {l v:AV}:∀ {cs b:List AV},ZF l v cs b->b.length=cs.length/\∀ (i:Nat) (x:AV),b[i]?=some x->∃ y,cs[i]?=some y/\(x=y\/y=l/\x=v)
 | [],[],_=>⟨rfl,by simp⟩
 | a::r,d::c,h=>by
  obtain ⟨h1,h2⟩:=h;obtain ⟨g1,g2⟩:=C0 h2;refine ⟨by simp [g1],fun i x hx=>?_⟩
  cases i with
  | zero=>simp at hx; subst hx; exact ⟨a,rfl,h1⟩
  | succ i=>exact g2 i x (by simpa using hx)
 | [],_::_,h=>h.elim
 | _::_,[],h=>h.elim
theorem iq {c} (k d) {b cap sz} {xs} {cs} (cs') (h1:get s.t (xk k)=some (.me (.row b cap) k sz xs)) (h2:get s.b d=some cs) (h3:ZF (.lit (.slice (some ⟨b,0,none⟩) xs.length cap)) (.sl .no sz xs) cs cs')
  (h:aI Γ ⟨jC (AV.unme k) s.t,(d,cs')::s.b⟩ c K) (h0:Nat.beq (lo k) 0=true:=by rfl):aI Γ s c K:=by
 refine ⟨fun a w hI=>h.out a w ?_⟩;obtain ⟨⟨Z,M,D⟩,X,J,o⟩:=hI;obtain ⟨cells,U,e1,⟨e2,e3,H,e4⟩,e5,N,L⟩:=(show RX Z (.row b cap) k sz xs (a.tmps.getD (xk k) Go.undef) from D _ _ h1);obtain ⟨Q,G⟩:=M.freezeX e1;obtain ⟨g1,g2⟩:=C0 h3;by_cases l:cs=[]
 ·subst l;have:cs'=[]:=yN.1 g1;subst this;refine ⟨⟨_,Q.less (fun d' ds f B=>?_),fun e z hz=>?_⟩,X,J,o⟩
  ·rw [bf] at f;split at f
   ·cases f; exact absurd rfl B
   ·exact f
  ·rw [dO] at hz;obtain ⟨E,n,rfl⟩:=aA.1 hz;exact (D e E n).leX G
 ·refine ⟨⟨_,Q.rebox h2 l g1 (fun x hx=>?_) (fun vs q i x v p A=>?_),fun e z hz=>?_⟩,X,J,o⟩
  ·obtain ⟨i,hi⟩:=ct hx;obtain ⟨y,hy,rfl | ⟨_,rfl⟩⟩:=g2 i x hi
   ·obtain ⟨_,_,q3,_⟩:=M.box d cs h2 l;exact q3 x (aC hy)
   ·rfl
  ·obtain ⟨y,hy,rfl | ⟨rfl,rfl⟩⟩:=g2 i x p
   ·exact q i x v hy A
   ·have hv:=(show RD _ (.lit (.slice (some ⟨b,0,none⟩) xs.length cap)) v from q i _ v hy A);cases hv;refine .sl _ _ _ _ _ _ (by intro k hk; cases hk) (by intro hk; cases hk) rfl H (fun r F=>(N r F).1) (fun r F=>(N r F).2) b 0 (fun _=>rfl) (fun i j=>(cells[i*sz+j]?).getD Go.undef) (fun i r j y h1 h2=>?_) (fun i r j y h1 h2=>?_)
    ·obtain ⟨u,p,A⟩:=L i r j y h1 h2;show (if _ then _ else _)=_; rw [aV rfl,bS,p]; rfl
    ·obtain ⟨u,p,A⟩:=L i r j y h1 h2;rw [p]; exact A.mono G.m
  ·rw [dO] at hz;obtain ⟨E,n,rfl⟩:=aA.1 hz;exact (D e E n).leX G
end
open Go
def iW (listed:List Nat):List Oper->Nat->List Nat
 | [],_=>[]
 | o::r,i=>bif !dn listed i&&(o.after.toList.all fun e => !Region.binds .any e||dn listed e.on) then i::iW listed r (i+1) else iW listed r (i+1)
theorem iB {listed:List Nat}:∀ {l:List Oper} {k i:Nat},i∈iW listed l k↔∃ o,k<=i/\l[i - k]?=some o/\dn listed i=false/\∀ e∈o.after,Region.binds .any e=true->dn listed e.on=true
 | [],k,i=>by simp [iW]
 | o::r,k,i=>by
  have d:=@iB listed r (k+1) i
  have a:∀ P:Oper->Prop,(∃ p,k+1<=i/\r[i - (k+1)]?=some p/\P p)↔∃ p,k+1<=i/\(o::r)[i - k]?=some p/\P p:=by
   intro P;constructor
   ·grind
   ·grind
  have b:(o.after.toList.all fun e => !Region.binds .any e||dn listed e.on)=true↔∀ e∈o.after,Region.binds .any e=true->dn listed e.on=true:=by
   rw [aN];constructor
   ·grind
   ·grind
  have rest:i∈iW listed r (k+1)↔∃ p,k+1<=i/\(o::r)[i - k]?=some p/\dn listed i=false/\∀ e∈p.after,Region.binds .any e=true->dn listed e.on=true:=d.trans (a _);have hk:(k<=i↔i=k\/k+1<=i):=by omega
  rw [iW]
  cases c:(!dn listed k&&(o.after.toList.all fun e => !Region.binds .any e||dn listed e.on)) with
  | true=>
   rw [al] at c;simp only [aP,bC];constructor
   ·rintro (rfl | h)
    ·exact ⟨o,ba _,by simp,by simpa using c.1,b.1 c.2⟩
    grind
   grind
  | false=>
   grind
structure SJ (a b:Prop):Prop where
 intro ::
 left:a
 right:b
def Nq:List Nat->(Nat->Prop)->Prop
 | [],_=>True
 | i::r,p=>match r with
  | []=>p i
  | _=>SJ (p i) (Nq r p)
theorem oH:∀ {l:List Nat} {p:Nat->Prop},Nq l p->∀ i∈l,p i
 | [],_,_,i,h=>by cases h
 | [k],p,h,i,hi=>by
  have:i=k:=by simpa using hi
  subst this; exact h
 | k::m::r,p,h,i,hi=>by
  rcases bC.1 hi with rfl | hi
  ·exact h.left
  ·exact oH (l:=m::r) h.right i hi
def evC (s:St):Operand->AV
 | .const (.agg cs)=>bif (cs.toList.map cst).all AV.isCell then .agg (cs.toList.map cst) else .junk
 | x=>ev s x
theorem XW {c} {s} {a:Act} (b:∀ d x,get s.t d=some x->RC c x (a.tmps.getD d Go.undef)) (x):RC c (evC s x) (a.eval x):=by
 unfold evC;split
 ·rename_i cs
  cases e:(cs.toList.map cst).all AV.isCell with
  | false=>exact RD.junk _
  | true=>
   refine RC.of_RD (.agg _ _ dc (fun x hx=>aN.1 e x hx) fun i x v hx hv=>?_);grind [RD.cst]
 ·exact cq b x
section
variable (T:eX) (C:FuncId->List AV->AV->Prop) (E:vV)
def DL (guards:List Nat) (s:St) (o:Oper) (K:St->Prop):Prop:=match o.op with
 | .buildSlice _ _ _=>gM T C s.b (evC s) o.type o.op fun v=>v.go fun v=>fJ s o.dst v K
 | _=>HQ T C E guards s o K
end
structure TB (Γ:cr) (all:List Oper) (K:St->Prop) (fuel:Nat) (listed:List Nat) (s:St):Prop where
 out:∀ (Q:Exit->Act->World->Prop) (w0:World) (a0:Act),(∀ j d,jx all j=some d->d<Γ.nt)->(∀ s' a w,K s'->ef Γ s' a w->NC w0 w->FT (eJ all) a0 a->Q .normal a w) ->
  ∀ (arr:Array Bool) (a:Act) (w:World),arr.size=all.length->(∀ j,arr.getD j false=dn listed j)->ef Γ s a w->NC w0 w->FT (eJ all) a0 a->wpAnyIn Γ.F Γ.n Γ.P .any all.toArray Q fuel arr a w
section
variable {Γ:cr} (hΓ:Γ.OK) {T:eX} (hT:T.OK Γ.P) {all:List Oper} {Q:Exit->Act->World->Prop} {w0:World} {a0:Act}
include hΓ hT in
theorem tk {guards} {o} {s} {a} {w} {K} {next} (f:ef Γ s a w) (r:∀ d,o.dst=some d->d<Γ.nt) (h:DL T (ar Γ.P) (bW Γ.P) guards s o K) (q:dS Γ a o.dst w K next):o.wpIn Γ.F Γ.n Γ.P a w next Q:=by
 unfold DL at h;split at h
 ·obtain ⟨c,u,p⟩:=f.ex;refine CP hΓ hT h rfl u (fun x _=>XW p x) ?_;intro x v w' c' l hle i m hx;rw [AV.go_eq] at l;obtain ⟨t,b⟩:=s
  cases e:o.dst with
  | none=>
   rw [e] at l;exact q _ _ _ l (f.next m i (d:=none) (v:=v) (by intro k hk; cases hk) (fun k y hy=>(p k y hy).mono hle)) m (lC e)
  | some d=>
   rw [e] at l;have j:=r d e;exact q _ _ _ l (f.next m i (d:=some d) (v:=v) (by grind) (eT (fun k y hy=>(p k y hy).mono hle) (by rw [f.size]; exact j) hx)) m (gL e)
 ·exact eA hΓ hT f r h q
theorem wC {listed} {arr} (b:arr.size=all.length) (d:∀ j,arr.getD j false=dn listed j) {i} (hi:i∈Region.ready .any all.toArray arr):i∈iW listed all 0:=by
 rw [gH] at hi;obtain ⟨h1,o,h2,c⟩:=hi;have h2:all[i]?=some o:=by simpa using h2
 have a:i<all.length:=(aq.1 h2).1;rw [iB];grind
theorem TB.done {K} {listed} {s} (h1:iW listed all 0=[]) (h2:K s):TB Γ all K 0 listed s:=by
 refine ⟨fun Q w0 a0 c f arr a w b h d j e=>⟨?_,f s a w h2 d j e⟩⟩;rw [pX];intro i hi;have:=wC b h hi;grind
include hΓ hT in
theorem TB.step (guards) {K} {fuel} {listed} {s} (h:match iW listed all 0 with
   | []=>K s
   | i::r=>Nq (i::r) fun i=>match qk all i with
    | none=>False
    | some o=>match j6 all s o with
     | 0=>DL T (ar Γ.P) (bW Γ.P) guards s o fun s=>TB Γ all K fuel (i::listed) s
     | 1=>fJ s o.dst .undef fun s=>TB Γ all K fuel (i::listed) s
     | _=>False):TB Γ all K (fuel+1) listed s:=by
 refine ⟨fun Q w0 a0 b B arr a w l x n F G=>?_⟩;refine ⟨fun M=>?_,fun i hi=>?_⟩
 ·split at h
  ·grind
  ·rename_i i r he;exfalso;have hm:i∈iW listed all 0:=by rw [he]; exact aW ..
   rw [iB] at hm;obtain ⟨o,_,h2,D,J⟩:=hm;have h2:all[i]?=some o:=by simpa using h2
   have p:i<all.length:=(aq.1 h2).1
   have:i∈Region.ready .any all.toArray arr:=by
    rw [gH];refine ⟨?_,o,by simpa using h2,fun e he A=>by grind⟩;rw [<- D,<- x,aJ,aJ,aE am];rfl
   grind
 ·have hm:=wC l x hi;split at h
  ·grind
  ·rename_i i0 r0 he;rw [he] at hm;have h:=oH h i hm;rw [<- he,iB] at hm;obtain ⟨o,_,h2,D,J⟩:=hm;have h2:all[i]?=some o:=by simpa using h2
   have p:i<all.length:=(aq.1 h2).1;have c:∀ d,o.dst=some d->d<Γ.nt:=fun d m=>b i d (by rw [eK,h2]; exact m)
   have hA':∀ j,(arr.setIfInBounds i true).getD j false=dn (i::listed) j:=by
    intro j;rw [aJ,dx,dn];by_cases hj:i=j
    ·subst hj;rw [aV rfl,aV am]; simp
    ·rw [aY hj,<- aJ,x,show Nat.beq i j=false from by cases A:Nat.beq i j with | false=>rfl | true=>exact absurd (ak A) hj]; rfl
   rw [fp,h2] at h;simp only at h;rw [wpOpIn,show all.toArray[i]?=some o by simpa using h2];simp only;split at h
   ·rename_i y;rw [dC b n 0 y am];simp only [ei,cR];refine tk hΓ hT n c h ?_;intro s' H w' L z q u;exact L.out Q w0 a0 b B _ H w' (by simpa using l) hA' z (F.trans q) (G.trans ((FT.put u).mono fun d m=>iZ h2 m))
   ·rename_i y;rw [dC b n 1 y am];simp only [Nat.reduceBEq,br,cv];refine ⟨fun f _=>hΓ.fn f,?_⟩;obtain ⟨s2,v,t⟩:=fY n c h;exact v.out Q w0 a0 b B _ _ w (by simpa using l) hA' t F (G.trans ((FT.put ⟨_,rfl⟩).mono fun d m=>iZ h2 m))
   ·exact h.elim
variable {s:St} {K:Exit->St->Prop}
include hΓ hT in
theorem xp (keep) {id} {ops} (c:dL Γ.nt (.region id ops true)=true)
  (h:TB Γ ops.toList (fun s'=>gt keep s' (K .normal)) ops.toList.length [] s):aI Γ s (.region id ops true) K:=by
 refine ⟨fun a w d=>?_⟩;obtain ⟨l⟩:=ops;refine Dn hΓ.mixed ?_;refine h.out _ w a (eB c) (fun s' m w' e b f i=>?_) _ a _ dc (fun j=>?_) d.drew ⟨ba _,fun _ _ h _=>h,.drew _,fun _ h=>h⟩ (.refl _ a)
 ·obtain ⟨s2,h2,hle⟩:=ek e;exact ⟨f,i,s2,b.less hle,h2⟩
 ·rw [aJ,mF];split <;> rfl
include hΓ in
theorem nY {c} (k d) {b cap sz n} {xs} (h1:get s.t (xk k)=some (.me (.row b cap) k sz xs)) (h2:get s.t d=some (.lit (.slice (some ⟨b,0,none⟩) n cap))) (hn:n=xs.length)
  (h:aI Γ ⟨(d,.sl .no sz xs)::jC (AV.unme k) s.t,s.b⟩ c K) (h0:Nat.beq (lo k) 0=true:=by rfl):aI Γ s c K:=by
 subst hn;refine ⟨fun a w X=>h.out a w ?_⟩;obtain ⟨⟨M,L,l⟩,Z,H,f⟩:=X;obtain ⟨cells,U,e1,⟨e2,e3,A,e4⟩,e5,D,B⟩:=(show RX M (.row b cap) k sz xs (a.tmps.getD (xk k) Go.undef) from l _ _ h1);obtain ⟨N,F⟩:=L.freezeX e1;refine ⟨⟨_,N,fun e z hz=>?_⟩,Z,H,f⟩;rw [bf] at hz;split at hz
 ·rename_i x;subst x;cases hz;have hv:=(show RD _ (.lit (.slice (some ⟨b,0,none⟩) xs.length cap)) (a.tmps.getD e Go.undef) from l e _ h2);generalize a.tmps.getD e Go.undef=v at hv;cases hv;refine (show RD _ _ _ from .sl _ _ _ _ _ _ (by intro k hk; cases hk) (by intro hk; cases hk) rfl A (fun r p=>(D r p).1) (fun r p=>(D r p).2) b 0 (fun _=>rfl) (fun i j=>(cells[i*sz+j]?).getD Go.undef) (fun i r j y h1 h2=>?_) (fun i r j y h1 h2=>?_))
  ·obtain ⟨u,o,G⟩:=B i r j y h1 h2;show (if _ then _ else _)=_; rw [aV rfl,bS,o]; rfl
  ·obtain ⟨u,o,G⟩:=B i r j y h1 h2;rw [o]; exact G.mono F.m
 ·rw [dO] at hz;obtain ⟨J,q,rfl⟩:=aA.1 hz;exact (l e J q).leX F
def TN (P:Program) (s:St) (o:Oper) (K:St->Prop):Prop:=match o.op,o.dst with
 | .call call,some d=>match call.callee with
  | .value f=>match ev s f with
   | .clo g cap=>∃ N I L R,(gO s (ky L)=some L/\Q8 N I L (call.args.toList.map (ev s))=true/\lR P g N I ((call.args.toList.map fun x=>(ev s x).pubE)++cap) L R)/\∀ r a,R r a->match (s.demMany I).unmeMany N with | ⟨t,b⟩=>(⟨(d,r)::(Cl a++t),b⟩:St).go K
   | _=>False
  | _=>False
 | _,_=>False
include hΓ hT in
theorem kj (keep) (n) {id} {ops} (v:dL Γ.nt (.region id ops false)=true)
  (h:my T Γ.P (TN Γ.P) ops.toList (dI ops.toList ops.toList) n s fun s'=>gt keep s' (K .normal)):aI Γ s (.region id ops false) K:=by
 refine lj hΓ hT (fun s a w o K next Q x l h A=>?_) keep n v h;unfold TN at h;split at h
 ·rename_i call d i c;split at h
  ·rename_i f e;split at h
   ·rename_i g cap m;obtain ⟨N,I,L,R,⟨h1,h2,z⟩,q⟩:=h;refine Am hΓ x i e (cap:=cap) (.inl m) z h1 h2 c (l d c) (K:=K) (fun r j y=>?_) (fun s' p w' B u D F=>A s' p w' B u D (FT.put F));have:=q r j y;have this:(⟨(d,r)::(Cl j++((s.demMany I).unmeMany N).t),(s.demMany I).b⟩:St).go K:=this;rw [St.go_eq] at this;exact this
   ·exact h.elim
  ·exact h.elim
 ·exact h.elim
def YS (T:eX) (s:St) (o:Oper) (K:St->Prop):Prop:=match o.op,o.dst with
 | .alloc t,some d=>match get T t with
  | some i=>match i.zero.cells? with
   | some cs=>bif cs.all (fun c=>c.isCell) then K ⟨(d,.loc d 0)::unloc d s.t,(d,cs)::s.b⟩ else False
   | none=>False
  | none=>False
 | _,_=>False
include hΓ hT in
theorem A3 (keep) (n) {id} {ops} (m:dL Γ.nt (.region id ops false)=true)
  (h:my T Γ.P (YS T) ops.toList (dI ops.toList ops.toList) n s fun s'=>gt keep s' (K .normal)):aI Γ s (.region id ops false) K:=by
 refine lj hΓ hT (fun s a w o K next Q p l h r=>?_) keep n m h;unfold YS at h;split at h
 ·rename_i t d f b;split at h
  ·rename_i i hi;split at h
   ·rename_i cs e
    cases j:cs.all (fun c=>c.isCell) with
    | false=>grind
    | true=>
     rw [j] at h;exact Iq hΓ hT f p l b hi e (fun x hx=>aN.1 j x hx) K h (fun s' y w' u q v z=>r s' y w' u q v (FT.put (b ▸ z)))
   ·exact h.elim
  ·exact h.elim
 ·exact h.elim
theorem jj {c} (l) (h:BE l s fun s' _=>aI Γ s' c K):aI Γ s c K:=by
 refine ⟨fun a w b=>?_⟩;obtain ⟨e,d,f⟩:=b.ex;obtain ⟨s',i,c',g1,g2,g3,g4,g5,g6⟩:=pB _ s _ e h d f;exact g1.out a w ⟨⟨c',g3,g4⟩,b.size,b.defers,b.rnd⟩
end
open Go
def s8:Nat->List Nat
 | 0=>[]
 | k+1=>k::s8 k
theorem qO {k j}:j∈s8 k↔j<k:=by
 induction k with
 | zero=>simp [s8]
 | succ k a=>grind [s8]
theorem zQ {l} {k} (h:k∈l):dn l k=true:=dH.2 h
def PC (all:List Oper):Nat->List Nat->List Nat
 | 0,R=>R
 | i+1,R=>PC all i (bif dn R i then (match qk all i with | some o=>cW o++R | none=>R) else R)
theorem tD {all:List Oper} {M:Nat->Bool} (a:∀ i o,all[i]?=some o->M i=true->∀ e∈cW o,M e=true):∀ (i:Nat) (R:List Nat),(∀ x∈R,M x=true)->∀ x∈PC all i R,M x=true
 | 0,R,h,x,hx=>h x hx
 | i+1,R,h,x,hx=>by
  refine tD a i _ ?_ x hx
  cases c:dn R i with
  | false=>simpa using h
  | true=>
   rw [aP,fp]
   cases b:all[i]? with
   | none=>simpa using h
   | some o=>
    grind [gq]
def XF (o:Oper):List Nat:=match o.guard with
 | some (j,_)=>[j]
 | none=>[]
def Dy (k:Nat) (all:List Oper):Bool:=Nat.blt 0 k&&Nat.ble k all.length&&(s8 k).all (fun i=>match qk all i with | some o=>(cW o).all (Nat.blt · i)&&(XF o).all (Nat.blt · k) | none=>false) &&
 (s8 k).all (dn (PC all k [k - 1]))&&(all.drop k).all fun o=>dn (cW o) (k - 1)
structure V7 (k:Nat) (all:List Oper):Prop where
 pos:0<k
 le:k<=all.length
 edge:∀ i o,i<k->all[i]?=some o->∀ e∈cW o,e<i
 gd:∀ i o,i<k->all[i]?=some o->∀ j b,o.guard=some (j,b)->j<k
 last:∀ M:Nat->Bool,(∀ i o,all[i]?=some o->M i=true->∀ e∈cW o,M e=true)->M (k - 1)=true->∀ i,i<k->M i=true
 suf:∀ i o,k<=i->all[i]?=some o->k - 1∈cW o
theorem Dx {k} {all} (h:Dy k all=true):V7 k all:=by
 simp only [Dy,al] at h;obtain ⟨⟨⟨⟨h1,h2⟩,c⟩,d⟩,f⟩:=h;rw [aN] at c d f;have hu:∀ i,i<k->i∈s8 k:=fun i hi=>qO.2 hi;refine ⟨ah h1,ah h2,fun i o hi a e he=>?_,fun i o hi a j b hj=>?_,fun M l hl i hi=>?_,fun i o hi a=>?_⟩
 ·have:=c i (hu i hi);rw [fp,a] at this;simp only [al,aN] at this;exact ah (this.1 e he)
 ·have:=c i (hu i hi);rw [fp,a] at this;simp only [al,aN] at this;exact ah (this.2 j (by simp [XF,hj]))
 ·exact tD l k [k - 1] (by simpa using hl) i (gq (d i (hu i hi)))
 ·exact gq (f o (List.mem_iff_getElem?.2 ⟨i - k,by grind⟩))
def P4 (F:Fence) (n:Nat) (P:Program) (all:List Oper) (k:Nat) (Q:Exit->Act->World->Prop):Exit->Act->World->Prop:=fun e a w=>match e with
 | .normal=>∀ B:Array Bool,B.size=all.length->(∀ j,B.getD j false=Nat.blt j k)->wpAnyIn F n P .any all.toArray Q (all.length - k) B a w
 | e=>Q e a w
theorem Bm {F} {n} {P} {all} {k} (h:V7 k all) {Q}:∀ (fuel:Nat) (A B:Array Bool) (a:Act) (w:World),A.size=k->B.size=all.length->(∀ j,B.getD j false=A.getD j false) ->
  (∀ i o,all[i]?=some o->B.getD i false=true->∀ e∈cW o,B.getD e false=true)->nd (fun i=>A.getD i false) k+fuel=k ->
  wpAnyIn F n P .any (all.take k).toArray (P4 F n P all k Q) fuel A a w->wpAnyIn F n P .any all.toArray Q (fuel+(all.length - k)) B a w:=by
 have v:∀ (A B:Array Bool) (a:Act) (w:World),A.size=k->B.size=all.length->(∀ j,B.getD j false=A.getD j false)->(∀ i,i<k->A.getD i false=true)->P4 F n P all k Q .normal a w->wpAnyIn F n P .any all.toArray Q (all.length - k) B a w:=by
  intro A B a w L H c q hq;refine hq B H fun j=>?_;rw [c]
  cases hj:Nat.blt j k with
  | true=>exact q j (ah hj)
  | false=>
   have:¬ j<k:=fun J=>by rw [show Nat.blt j k=true from kS J] at hj; cases hj
   grind
 intro fuel
 induction fuel with
 | zero=>
  intro A B a w L H c G J U;rw [bS];exact v A B a w L H c (fun i hi=>za k am i hi) U.2
 | succ fuel ih=>
  intro A B a w L H c G J U
  -- the last one of the first part is not there yet
  have l:¬ ∀ i,i<k->A.getD i false=true:=fun q=>by
   have:∀ m,(∀ i,i<m->A.getD i false=true)->nd (fun i=>A.getD i false) m=m:=by
    intro m
    induction m with
    | zero=>intro _; rfl
    | succ m im=>grind [nd]
   grind
  have r:A.getD (k - 1) false=false:=by
   cases hl:A.getD (k - 1) false with
   | false=>rfl
   | true=>
    exfalso;refine l fun i hi=>?_;rw [<- c];exact h.last (fun i=>B.getD i false) G (by rw [c]; exact hl) i hi
  have y:∀ i,i∈Region.ready .any all.toArray B->i<k/\i∈Region.ready .any (all.take k).toArray A:=by
   intro i hi;rw [gH] at hi;obtain ⟨h1,o,h2,h3⟩:=hi;have h2':all[i]?=some o:=by simpa using h2
   have f:i<k:=by
    refine pV fun J=>?_;obtain ⟨x,hx,z,N⟩:=g9.1 (h.suf i o J h2');have:=h3 x hx z;rw [N,c,r] at this;cases this
   refine ⟨f,?_⟩;rw [gH];refine ⟨?_,o,?_,fun e he z=>by grind⟩
   ·grind
   ·grind
  rw [show fuel+1+(all.length - k)=fuel+(all.length - k)+1 by omega];refine ⟨fun hr=>?_,fun i hi=>?_⟩
  ·exfalso
   -- the first one that is not there is ready
   have:∃ i,i<k/\A.getD i false=false/\∀ j,j<i->A.getD j false=true:=by
    have key:∀ m,(∀ i,i<m->A.getD i false=true)\/∃ i,i<m/\A.getD i false=false/\∀ j,j<i->A.getD j false=true:=by
     intro m
     induction m with
     | zero=>grind
     | succ m im=>
      grind
    rcases key k with h1 | h1
    ·exact absurd h1 l
    ·exact h1
   obtain ⟨i,hi,D,hj⟩:=this;obtain ⟨o,Z⟩:∃ o,all[i]?=some o:=⟨_,ai (by have:=h.le; omega)⟩
   have:i∈Region.ready .any all.toArray B:=by
    rw [gH];refine ⟨?_,o,by simpa using Z,fun e he z=>?_⟩
    ·grind
    ·rw [c];exact hj _ (h.edge i o hi Z e.on (g9.2 ⟨e,he,z,rfl⟩))
   grind
  ·obtain ⟨f,u⟩:=y i hi;have hx:=U.2 i u;rw [gH] at u;obtain ⟨h1,o,h2,h3⟩:=u
   have D:A.getD i false=false:=by
    rw [<- h1,aJ,aJ,aE am];rfl
   have h2':all[i]?=some o:=by
    have:(all.take k)[i]?=some o:=by simpa using h2
    rw [dj,aV f] at this;exact this
   have d:∀ (C:Array Bool),i<C.size->∀ j,(C.setIfInBounds i true).getD j false=(C.getD j false||decide (j=i)):=by
    intro C hC j;rw [aJ,dx];by_cases hj:i=j
    ·grind
    ·rw [aY hj,<- aJ,show decide (j=i)=false from by grind,ey]
   have hle:=h.le
   have t:∀ a w,wpAnyIn F n P .any (all.take k).toArray (P4 F n P all k Q) fuel (A.setIfInBounds i true) a w->wpAnyIn F n P .any all.toArray Q (fuel+(all.length - k)) (B.setIfInBounds i true) a w:=by
    intro a w hh;refine ih _ _ a w (by simpa using L) (by simpa using H) (fun j=>by rw [d B am,d A am,c]) (fun m o' E hm e he=>?_) ?_ hh
    ·rw [d B am] at hm ⊢;rw [cu] at hm ⊢;rcases hm with hm | hm
     ·grind
     ·have:m=i:=by simpa using hm
      subst this;rw [h2'] at E; cases E;obtain ⟨x,hx,z,rfl⟩:=g9.1 he;grind
    ·rw [y9 (M:=fun i=>A.getD i false) (M':=fun j=>(A.setIfInBounds i true).getD j false) (i:=i) D (fun j=>d A am j) k f];omega
   unfold wpOpIn at hx ⊢;rw [show all.toArray[i]?=some o by simpa using h2'];rw [h2] at hx;simp only at hx ⊢
   have hy:Region.wanted o (yielded all.toArray a.tmps)=Region.wanted o (yielded (all.take k).toArray a.tmps):=by
    unfold Region.wanted
    cases hg:o.guard with
    | none=>rfl
    | some p=>
     obtain ⟨j,b⟩:=p;have hj:=h.gd i o f h2' j b hg;grind [yielded]
   rw [hy];split at hx
   ·rename_i X;rw [aV X];exact Oper.wpIn_mono t hx
   grind
section
variable {ι α:Type}
structure Wx (Y:YM ι α) (all:List Oper) (K:s4 ι->St->Prop) (fuel:Nat) (listed:List Nat) (g:s4 ι) (s:St):Prop where
 out:∀ (Q:Exit->Act->World->Prop),(∀ j d,jx all j=some d->d<Y.nt)->(∀ b s' a w,K b s'->MI Y b s' a w->Q .normal a w) ->
  ∀ (arr:Array Bool) (a:Act) (w:World),arr.size=all.length->(∀ j,arr.getD j false=dn listed j)->MI Y g s a w->wpAnyIn Y.F Y.n Y.P .any all.toArray Q fuel arr a w
variable {Y:YM ι α} (hY:Y.OK) {T:eX} (hT:T.OK Y.P) {all:List Oper}
theorem Wx.done {K} {listed} {g} {s} (h1:iW listed all 0=[]) (h2:K g s):Wx Y all K 0 listed g s:=by
 refine ⟨fun Q c e arr a w b f d=>⟨?_,e g s a w h2 d⟩⟩;rw [pX];intro i hi;have:=wC b f hi;grind
include hY hT in
theorem Wx.step {K} {fuel} {listed} {g} {s} (h:match iW listed all 0 with
   | []=>False
   | i::r=>Nq (i::r) fun i=>match qk all i with
    | none=>False
    | some o=>match j6 all s o with
     | 0=>bif rP s o then Dj Y g s o fun g s=>Wx Y all K fuel (i::listed) g s
      else Xi T (ar Y.P) s o.dst o.type o.op fun s=>D6 o.op s fun s=>Wx Y all K fuel (i::listed) g s
     | 1=>fJ s o.dst .undef fun s=>Wx Y all K fuel (i::listed) g s
     | _=>False):Wx Y all K (fuel+1) listed g s:=by
 refine ⟨fun Q b A arr a w m E y=>?_⟩
 have Z:∀ i,i∈iW listed all 0->i∈Region.ready .any all.toArray arr:=by
  intro i hm;rw [iB] at hm;obtain ⟨o,_,h2,L,N⟩:=hm;have h2:all[i]?=some o:=by simpa using h2
  have z:i<all.length:=(aq.1 h2).1;rw [gH];refine ⟨?_,o,by simpa using h2,fun e he H=>by grind⟩;rw [<- L,<- E,aJ,aJ,aE am];rfl
 split at h
 ·exact h.elim
 rename_i i0 r0 he;refine ⟨fun hr=>?_,fun i hi=>?_⟩
 ·grind [List.mem_cons_self]
 ·have hm:=wC m E hi;rw [he] at hm;have h:=oH h i hm;rw [<- he,iB] at hm;obtain ⟨o,_,h2,L,N⟩:=hm;have h2:all[i]?=some o:=by simpa using h2
  have z:i<all.length:=(aq.1 h2).1;have l:∀ d,o.dst=some d->d<Y.nt:=fun d M=>b i d (by rw [eK,h2]; exact M)
  have hA':∀ j,(arr.setIfInBounds i true).getD j false=dn (i::listed) j:=by
   intro j;rw [aJ,dx,dn];by_cases hj:i=j
   ·subst hj;rw [aV rfl,aV am]; simp
   ·rw [aY hj,<- aJ,E,show Nat.beq i j=false from by cases H:Nat.beq i j with | false=>rfl | true=>exact absurd (ak H) hj]; rfl
  rw [fp,h2] at h;simp only at h;rw [wpOpIn,show all.toArray[i]?=some o by simpa using h2];simp only;obtain ⟨t,m0,p,J,c,u,n⟩:=y.inv hY.round;have hG:=hY.base m0 t p n;split at h
  ·rename_i G;rw [dC (Γ:=Y.base m0 t) b c 0 G am];simp only [ei,cR]
   cases hy:rP s o with
   | true=>
    rw [hy,aP] at h;exact tV hY y l h fun g' s' D w' x q=>x.out Q b A _ D w' (by simpa using m) hA' q
   | false=>
    rw [hy,bq] at h;refine lg (Γ:=Y.base m0 t) hG hT rfl c l h ?_;intro s' D w' x q U X;rw [uQ] at x;refine x.out Q b A _ D w' (by simpa using m) hA' ⟨⟨t,m0,p,J,q.toT,u.trans U,n⟩,?_⟩;obtain ⟨v,rfl⟩:=X;rw [er]; exact y.df
  ·rename_i G;rw [dC (Γ:=Y.base m0 t) b c 1 G am];simp only [Nat.reduceBEq,br,cv];obtain ⟨s2,F,B⟩:=fY c l h;exact ⟨fun f _=>hG.fn f,F.out Q b A _ _ w (by simpa using m) hA' ⟨⟨t,m0,p,J,B.toT,u,n⟩,by rw [er]; exact y.df⟩⟩
  ·exact h.elim
theorem CT (k j):dn (s8 k) j=Nat.blt j k:=by
 cases h:dn (s8 k) j with
 | true=>exact (kS (qO.1 (gq h))).symm
 | false=>
  cases a:Nat.blt j k with
  | false=>rfl
  | true=>
   have:=zQ (qO.2 (ah a));rw [h] at this; cases this
def JB (Y:YM ι α) (T:eX) (gs:List Nat) (ops:List Oper) (s:St) (K:St->Prop):Prop:=match s with
 | ⟨t,b⟩=>YR (unlocMany (ke ops) t) fun t=>Mq T (ar Y.P) (bW Y.P) ops gs ops [] ⟨t,b⟩ fun a s'=>UJ ⟨t,b⟩ ops a.reverse=true/\K s'
include hY hT in
theorem SD (k) (keep) {g} {s} {K} {id} {ops} (U:dL Y.nt (.region id ops true)=true) (y:Dy k ops.toList=true)
  (c:dn (eJ (ops.toList.take k)) 1000000000=false)
  (h:JB Y T (dI ops.toList ops.toList) (ops.toList.take k) s fun s'=>Wx Y ops.toList (fun g s=>gt keep s (K .normal g)) (ops.toList.length - k) (s8 k) g s'):ir Y g s (.region id ops true) K:=by
 refine ⟨fun a w z=>?_⟩;obtain ⟨all⟩:=ops;obtain ⟨t,b⟩:=s;simp only [JB,qS] at h;simp only at U y c h;have f:=eB U;obtain ⟨A,m0,r,hJ,q,L,p⟩:=z.inv hY.round;have hG:=hY.base m0 A r p;obtain ⟨tr,s',X,e,F⟩:=ou T (ar Y.P) (bW Y.P) (all.take k) [] _ h;rw [bV,HK] at e;obtain ⟨g1,g2,g3⟩:=ym.all T (ar Y.P) (bW Y.P) X;obtain ⟨an,hF⟩:=w9 e;have N:=Dx y;refine Dn hG.mixed ?_;have G:=(q.drew).unlocMany (ke (all.take k))
 have hz:∀ n i,(Array.replicate n false).getD i false=false:=by
  intro n i;rw [aJ,mF];split <;> rfl
 have u:∀ {α:Type} (E:Nat->List (Nat×α)) (b:List (Nat×α)) m n,tF E b (fun i=>(Array.replicate m false).getD i false) n=b:=by
  intro α E b m n
  induction n with
  | zero=>rfl
  | succ n M=>simp only [tF]; rw [hz m n,bq]; exact M
 have x:∀ m n,nd (fun i=>(Array.replicate m false).getD i false) n=0:=by
  intro m n
  induction n with
  | zero=>rfl
  | succ n M=>simp only [nd]; rw [hz m n,M]; rfl
 have l:(all.take k).length=k:=by simp [N.le]
 have hall':∀ j d,jx (all.take k) j=some d->d<Y.nt:=fun j d c=>by
  rw [eK,dj] at c;split at c
  ·exact f j d (by rw [eK]; exact c)
  ·cases c
 have J:all.length=k+(all.length - k):=by have:=N.le; omega
 show wpAnyIn _ _ _ _ _ _ all.length _ _ _;rw [J];refine Bm N k (Array.replicate k false) _ a _ dc (by simp; try omega) (fun j=>by rw [hz,hz]) (fun i o _ hi=>nomatch (hz _ _).symm.trans hi) (by rw [x]; omega) ?_;refine At (Γ:=Y.base m0 A) hG hT (all:=all.take k) (w0:=w) (a0:=a) hF g1 hall' g2 (fun Z w' v D H=>?_) k (Array.replicate k false) a w.drew (by simp [g1,l]) (by rw [x,g1,l]; omega) (fun m st _ hm=>nomatch (hz _ _).symm.trans hm) (by rw [u,u]; exact G) ⟨ba _,fun _ _ h _=>h,.drew _,fun _ h=>h⟩ (.refl _ a)
 ·rw [g1,<- g3] at v;intro B hB Q;refine F.out _ f (fun g' s' a w F z=>?_) B Z w' hB (fun j=>by rw [Q,CT]) ⟨⟨A,m0,r,hJ,v.toT,L.trans D,p⟩,?_⟩
  ·obtain ⟨s2,h2,hle⟩:=ek F;exact ⟨g',s2,z.less hle,h2⟩
  ·rw [H.defers fun hc=>by rw [zQ hc] at c; cases c]; exact z.df
end
open Go
open Go.RowKit (Below)
def Wo (k:Nat):AV->AV
 | .me .sl k' n xs => .me .sl k' n xs
 | x=>x.unme k
def UN (T:eX) (s:St) (o:Oper) (K:St->Prop):Prop:=match o.op,o.dst with
 | .call { callee := .builtin .clear,args:=args,argTypes:=e },none=>match args.toList,e.toList with
  | [x],[t]=>match get T t with
   | some i=>match get T i.elem with
    | some j=>match j.zero.cells?,ev s x with
     | some c,.me (.sub sz l) k n _=>match iH s k with
      | some (d,xs)=>bif Nat.beq i.kind 3&&(Nat.beq sz d&&(Nat.beq j.size sz&&(Nat.beq c.length j.size&&(c.all AV.isCell&&Nat.blt 0 sz)))) then l+n<=xs.length/\K ⟨(xk k,.me .arr k sz (xs.take l++(List.replicate n c++xs.drop (l+n))))::jC (Wo k) s.t,s.b⟩ else False
      | none=>False
     | _,_=>False
    | none=>False
   | none=>False
  | _,_=>False
 | _,_=>False
theorem Bl (z) (n p) (h:p<n*z.size):(Builtin.zeroCells z n)[p]?=z[p % z.size]?:=by
 have b:0<z.size:=by
  rcases nr z.size with c | c
  ·rw [c] at h; omega
  ·exact c
 have hm:=nq p b;simp only [Builtin.zeroCells,Oq,Array.getElem?_range,h,cR,bJ];grind
section
variable {Γ:cr} (hΓ:Γ.OK) {T:eX} (hT:T.OK Γ.P) {s:St} {K:St->Prop} {o:Oper} {a:Act} {w:World}
 {next:Act->World->Prop} {Q:Exit->Act->World->Prop}
include hΓ hT in
theorem Js (hI:ef Γ s a w) (h:UN T s o K) (hn:∀ s' a' w',K s'->ef Γ s' a' w'->NC w w'->FT o.dst.toList a a'->next a' w'):o.wpIn Γ.F Γ.n Γ.P a w next Q:=by
 unfold UN at h;split at h
 case h_2=>exact h.elim
 rename_i args ts hop X;split at h
 case h_2=>exact h.elim
 rename_i x t ha hts;split at h
 case h_2=>exact h.elim
 rename_i i hi;split at h
 case h_2=>exact h.elim
 rename_i j hj;split at h
 case h_2=>exact h.elim
 rename_i L sz l k n ys hz hx;split at h
 case h_2=>exact h.elim
 rename_i sz2 xs hc
 cases N:(Nat.beq i.kind 3&&(Nat.beq sz sz2&&(Nat.beq j.size sz&&(Nat.beq L.length j.size&&(L.all AV.isCell&&Nat.blt 0 sz))))) with
 | false=>grind
 | true=>
  rw [N] at h;simp only [al] at N;obtain ⟨b1,b2,b3,b4,b5,b6⟩:=N;obtain ⟨hle,h⟩:=h;have q1:=ak b2;have q2:=ak b3;have q3:=ak b4;subst q1;have hpos:0<sz:=ah b6;obtain ⟨c,hW,ht⟩:=hI.ex;obtain ⟨b,cells,U,e1,⟨e2,e2'⟩,e3,e4,e5⟩:=rl ht hc;have hq:=hW.xo k b _ e1;have hrx:=cq ht x;rw [hx] at hrx;obtain ⟨b',cells',U',off,cap,f1,f2,f3,f4,f5⟩:=(show RX c (.sub sz l) k n ys (a.eval x) from hrx);rw [e1] at f1;cases f1;have hu:=ee hT hi (ak b1);obtain ⟨q,z,p1,p2,p3,p4,p5,p6⟩:=jq (c:=c) w hT hj hz q3;obtain ⟨zv,g1,g2,g3⟩:=mO (w:=w) hT hj hz;have hzs:zv.cells.size=sz:=by rw [<- g2,q3,q2]
  obtain ⟨args⟩:=args;obtain ⟨ts⟩:=ts;simp only at ha hts;subst ha;subst hts;obtain ⟨news,D⟩:∃ news,news=(Builtin.zeroCells zv.cells n).toList:=⟨_,rfl⟩;have H:news.length=n*sz:=by rw [D]; simp [Builtin.zeroCells,hzs]
  have hng:∀ p,p<n*sz->news[p]?=zv.cells[p % sz]?:=fun p hp=>by
   grind [Bl]
  have Z:∀ v∈news,v.oneCell'=true:=fun v hv=>by
   obtain ⟨p,hp⟩:=ct hv;have hlt:p<n*sz:=by rw [<- H]; exact (aq.1 hp).1
   rw [hng p hlt] at hp;have hm:=nq p hpos;obtain ⟨y,hy⟩:∃ y,L[p % sz]?=some y:=⟨_,ai am⟩;exact ((g3 c.m _ y v hy hp).one (aN.1 b5 y (aC hy))).1
  have hlm:(l+n)*sz<=cells.size:=bH (bg _ hle) e3;rw [dE] at hlm;have hlen:(xs.take l++(List.replicate n L++xs.drop (l+n))).length=xs.length:=by simp; omega
  have hin:∀ r∈xs.take l++(List.replicate n L++xs.drop (l+n)),r.length=sz/\∀ y∈r,y.isCell=true:=fun r hr=>by
   grind
  obtain ⟨f,A⟩:∃ f,f=(cells.toList.take (l*sz)++news++cells.toList.drop (l*sz+news.length)).toArray:=⟨_,rfl⟩;have hsize2:f.size=cells.size:=by rw [A]; simp [H]; omega
  have hrow:∀ p,f[p]?=if l*sz<=p/\p<l*sz+n*sz then news[p - l*sz]? else cells[p]?:=fun p=>by
   rw [A,yU cells.toList news (l*sz) p (by grind),H];simp
  obtain ⟨M,J⟩:∃ M,M=if n=0 then w else w.setRow b f:=⟨_,rfl⟩
  have hrun:(Builtin.clear_ #[t] o.type #[a.eval x]).run Γ.P w = .ok (.tuple #[]) M:=by
   rw [f2];by_cases E:n=0
   ·subst E;simp only [Builtin.clear_,fV,bD,aD,a7 hu,aw,aL];rw [J,aV rfl]
   ·have hoff:off=l*sz:=f3.resolve_right fun h=>E h.1;subst hoff;have hst:=oM Γ.P b (l*sz) U news 0 cells w hq.obj am Z;simp only [eb] at hst;simp only [Builtin.clear_,fV,bD,aD,a7 hu,aw,g1,<- D,hst,aL];grind
  have hgo:∃ c2 cl,WI Γ c2 s.b M/\c.leX k c2/\NC w M/\c2.x k=some (b,.cells cl U (0,0))/\cl.size=cells.size/\c2.xn=c.xn/\c2.m=c.m/\∀ p,cl[p]?=if l*sz<=p/\p<l*sz+n*sz then news[p - l*sz]? else cells[p]?:=by
   by_cases E:n=0
   ·rw [J,aV E];refine ⟨c,cells,hW,⟨.refl _,rfl,rfl,rfl,fun j _=>⟨rfl,rfl⟩⟩,.refl _,e1,rfl,rfl,rfl,fun p=>?_⟩;grind
   ·rw [J,aY E];obtain ⟨W1,W2,W3⟩:=hW.storeX e1 f (hq.ag (oj hc));grind
  obtain ⟨c2,cl,W1,W2,W3,hx2,hs2,hxn2,hm2,hcl⟩:=hgo;refine cX hΓ (by grind) (v := .tuple #[]) (w':=M) ?_ ?_
  ·simp only [execOp,hop,aD,ec,aw,invoke,builtin,eE,cp,eZ,hrun,aL]
  ·rw [show a.put o.dst (.tuple #[])=a by rw [X]; rfl];refine hn _ _ _ h ?_ W3 (.refl _ _);refine hI.next W3 W1 (d:=none) (v:=Go.undef) (by intro k hk; cases hk) (fun d y hy=>?_);rw [bf] at hy;split at hy
   ·cases hy;refine (show RX c2 .arr k sz (xs.take l++(List.replicate n L++xs.drop (l+n))) Go.undef from ⟨b,cl,U,hx2,⟨by grind,by grind⟩,by rw [hlen,hs2]; exact e3,hin,fun p r p' z' h1 h2=>?_⟩);have hrl:=(hin r (aC h1)).1;have hp':p'<sz:=by rw [<- hrl]; exact (aq.1 h2).1
    have hl1:(xs.take l).length=l:=by simp; omega
    rw [hcl,hm2];by_cases c1:p<l
    ·rw [cL am,dj,aV c1] at h1;have:(p+1)*sz<=l*sz:=bg _ c1;grind
    ·rw [bM am,hl1] at h1;have g0:l*sz<=p*sz:=bg _ am;by_cases c3:p - l<n
     ·rw [cL (by simpa using c3),yO,aV c3] at h1;cases h1;have g5:(p+1)*sz<=(l+n)*sz:=bg _ am;rw [dE,dE,wh] at g5
      have e:p*sz+p' - l*sz=(p - l)*sz+p':=by
       rw [Nat.sub_mul]; omega
      rw [aV ⟨by omega,by omega⟩,hng _ am,e,A8,Nat.mul_add_mod,lO hp'];grind
     ·rw [bM (by simpa using c3),List.length_replicate,cB,show l+n+(p - l - n)=p by omega] at h1;have:(l+n)*sz<=p*sz:=bg _ am;grind
   ·rw [dO] at hy;obtain ⟨z0,hz0,rfl⟩:=aA.1 hy;have hz':=ht d z0 hz0;by_cases hsl:∃ G,z0 = .me .sl k G []\/∃ u,z0 = .me .sl k G u
    ·obtain ⟨G,hh⟩:=hsl;obtain ⟨u,rfl⟩:∃ u,z0 = .me .sl k G u:=by grind
     obtain ⟨m1,m2,m3,m4,m5,m6,m7,m8⟩:=(show RX c .sl k G u _ from hz');rw [e1] at m5;cases m5;exact (show RX c2 .sl k G u _ from ⟨b,cl,U,m4,hx2,m6,by rw [hxn2]; exact m7,m8⟩)
    ·have B:=hz'.leX W2
     cases z0 with
     | me g k' G u=>
      cases g with
      | sl=>
       by_cases hk:k'=k
       ·grind
       ·have e:AV.unme k (.me .sl k' G u) = .me .sl k' G u:=by
         unfold AV.unme;simp only;rw [show Nat.beq k k'=false from by cases N:Nat.beq k k' with | false=>rfl | true=>exact absurd (ak N).symm hk]; rfl
        rw [e] at B;exact B
      | _=>exact B
     | _=>exact B
include hΓ hT in
theorem Sz (keep) (n) {s} {K} {id} {ops} (b:dL Γ.nt (.region id ops false)=true)
  (h:my T Γ.P (UN T) ops.toList (dI ops.toList ops.toList) n s fun s'=>gt keep s' (K .normal)):aI Γ s (.region id ops false) K:=
 lj hΓ hT (fun _ _ _ _ _ _ _ c _ h d=>Js hΓ hT c h d) keep n b h
end
open Go
section
variable {Γ:cr}
theorem LN {s} {c} {K} (k) (o:get s.t k=none) (h:aI Γ ⟨(k,.junk)::s.t,s.b⟩ c K):aI Γ s c K:=by
 refine ⟨fun a w j=>h.out a w ?_⟩;obtain ⟨⟨l,i,m⟩,n,f,d⟩:=j;refine ⟨⟨l,i,fun e z hz=>?_⟩,n,f,d⟩;rw [bf] at hz;split at hz
 ·cases hz;exact RC.of_RD (RD.junk _)
 ·exact m e z hz
end
open Go
def Zs (T:eX) (s:St) (d:Nat) (i:List TypeId) (y:AV) (K:St->Prop):Prop:=match i with
 | [t,h]=>match get T t with
  | some f=>match get T f.elem with
   | some j=>match y with
    | .lit (.slice (some a) n _)=>∃ k,match get s.t (xk k) with
     | some (.me (.row b _) k' sz xs)=>bif Nat.beq a.off 0&&(a.spot.isNone&&(Nat.beq k k'&&(Nat.beq f.kind 3&&(Nat.beq t h&&(n0 j&&(Nat.blt 0 j.size&&Nat.beq j.size sz)))))) then a.block=b/\n=xs.length/\0<xs.length/\gR xs.length j.bytes/\xs.length<=4611686018427387904 /\
       ∀ e c,K ⟨(d,.lit (.slice (some ⟨e,0,none⟩) xs.length c))::(xk d,.me (.row e c) d j.size xs)::jC (AV.unme d) s.t,s.b⟩ else False
     | _=>False
    | _=>False
   | none=>False
  | none=>False
 | _=>False
def Zm (T:eX) (C:FuncId->List AV->AV->Prop) (E:vV) (guards:List Nat) (s:St) (o:Oper) (K:St->Prop):Prop:=match o.op,o.dst with
 | .call { callee := .builtin .append,args:=args,argTypes:=b },some d=>match args.toList with
  | [x,y]=>match ev s x,ev s y with
   | .sl .full _ [],.lit v=>Zs T s d b.toList (.lit v) K
   | _,_=>DL T C E guards s o K
  | _=>DL T C E guards s o K
 | _,_=>DL T C E guards s o K
section
variable {Γ:cr} (hΓ:Γ.OK) {T:eX} (hT:T.OK Γ.P) {s:St} {K:St->Prop} {o:Oper} {a:Act} {w:World}
 {next:Act->World->Prop} {Q:Exit->Act->World->Prop}
include hΓ hT in
theorem MR {args} {ts} {x y} {d sz0} {vy} (hop:o.op = .call { callee := .builtin .append,args:=args,argTypes:=ts }) (ha:args.toList=[x,y]) (hI:ef Γ s a w) (H:o.dst=some d) (hdlt:d<Γ.nt)
  (hx:ev s x = .sl .full sz0 []) (hy:ev s y = .lit vy) (h:Zs T s d ts.toList (.lit vy) K) (hn:dS Γ a o.dst w K next):o.wpIn Γ.F Γ.n Γ.P a w next Q:=by
 obtain ⟨c,hW,ht⟩:=hI.ex;unfold Zs at h;split at h
 case h_2=>exact h.elim
 rename_i t t' hts;split at h
 case h_2=>exact h.elim
 rename_i A hi;split at h
 case h_2=>exact h.elim
 rename_i j hj;split at h
 case h_2=>exact h.elim
 rename_i ad n l hve;cases hve;obtain ⟨k,h⟩:=h;split at h
 case h_2=>exact h.elim
 rename_i b cap0 k' sz xs hg
 cases hb:(Nat.beq ad.off 0&&(ad.spot.isNone&&(Nat.beq k k'&&(Nat.beq A.kind 3&&(Nat.beq t t'&&(n0 j&&(Nat.blt 0 j.size&&Nat.beq j.size sz))))))) with
 | false=>grind
 | true=>
  rw [hb] at h;simp only [al] at hb;obtain ⟨b2,b3,b4,b5,b6,b7,b8,b9⟩:=hb;obtain ⟨e1,hnl,h0,X,hmax,h⟩:=h;have e2:=ak b2;have e3:ad.spot=none:=by cases hp:ad.spot with | none=>rfl | some _=>rw [hp] at b3; cases b3
  have e4:=ak b4;have e6:=ak b6;have e9:=ak b9;have hpos:0<j.size:=ah b8;obtain ⟨ab,ao,ap⟩:=ad;simp only at e1 e2 e3;subst e1; subst e2; subst e3; subst e4; subst e6; subst e9;subst hnl;unfold n0 at b7;split at b7
  case h_2=>cases b7
  rename_i zs hz;have hzl:=ak b7;have hu:=ee hT hi (ak b5);obtain ⟨q,z,q1,q2,q3,q4,q5,_⟩:=jq (c:=c) w hT hj hz hzl;obtain ⟨cells,U,p1,⟨p2,p3,p4,p5⟩,p6,p7,p8⟩:=(show RX c (.row ab cap0) k j.size xs (a.tmps.getD (xk k) Go.undef) from ht _ _ hg);have hq:=hW.xo k ab _ p1;have hrx:=cq ht x;rw [hx] at hrx;have hx':RD c.m (.sl .full sz0 []) (a.eval x):=hrx
  have hu0:∃ base,a.eval x = .slice base 0 0:=by
   generalize hav:a.eval x=av at hx'
   cases hx' with
   | sl _ _ _ base len cap ho hf hl hc=>
    grind
  obtain ⟨base,Z⟩:=hu0;have hry:=cq ht y;rw [hy] at hry
  have hyv:a.eval y = .slice (some ⟨ab,0,none⟩) xs.length l:=by
   have h:RD c.m (.lit (.slice (some ⟨ab,0,none⟩) xs.length l)) (a.eval y):=hry;generalize a.eval y=v at h;cases h;rfl
  obtain ⟨k2,hk2⟩:∃ k2,k2=cells.toList.take (xs.length*j.size):=⟨_,rfl⟩;have G:k2.length=xs.length*j.size:=by rw [hk2]; simp; omega
  have hkg:∀ p,p<xs.length*j.size->k2[p]?=cells[p]?:=fun p hp=>by grind
  have B:∀ p v,k2[p]?=some v->w.cell? ((⟨ab,0,none⟩:Addr).add p)=some v:=fun p v hp=>by
   have hlt:p<xs.length*j.size:=by rw [<- G]; exact (aq.1 hp).1
   rw [hkg p hlt] at hp;rw [fu,bS];simp only [World.cell?,hq.obj];exact hp
  have hr47:xs.length*j.bytes<=140737488355328:=by unfold gR at X; omega
  have M:=wg (need:=xs.length) (old:=0) (bytes:=q.bytes) am (by rw [q3]; exact hr47);have N:=L8 w xs.length 0 A.elem;obtain ⟨cl,hcl⟩:∃ cl,cl=k2.toArray++Builtin.zeroCells z.cells (grownCap w xs.length 0 A.elem - xs.length):=⟨_,rfl⟩
  have J:(Builtin.append_ #[t,t] o.type #[a.eval x,a.eval y]).run Γ.P w = .ok (.slice (some ⟨w.heap.size,0,none⟩) xs.length (grownCap w xs.length 0 A.elem)) (w.drew.alloc (.cells cl A.elem)):=by
   rw [Z,hyv]
   cases base with
   | none=>
    have:=L6 (P:=Γ.P) w t o.type A.elem q z hu q1 q4 ⟨ab,0,none⟩ xs.length l k2 (by rw [G,q2]) B h0 am (by rw [q3]; omega);rw [this,hcl]
   | some a0=>
    have:=sB (P:=Γ.P) w t o.type A.elem q z hu q1 q4 a0 0 0 [] dc dc ⟨ab,0,none⟩ xs.length l k2 (by rw [G,q2]) B am am (by simpa using M);grind
  obtain ⟨f,D⟩:∃ f,f=grownCap w xs.length 0 A.elem:=⟨_,rfl⟩;rw [<- D] at J N
  have L:f*j.size<=cl.size:=by
   rw [hcl]; simp only [og,iQ,v8,q5,G,<- D]; rw [<- dE]; exact bg _ am
  have E:∀ (p:Nat) (r:List AV) (q:Nat) (y:AV),xs[p]?=some r->r[q]?=some y->∃ u,cl[p*j.size+q]?=some u/\RD c.m y u:=fun p r q' y' h1 h2=>by
   obtain ⟨u,g1,g2⟩:=p8 p r q' y' h1 h2;have hrl:=(p7 r (aC h1)).1;have hql:q'<j.size:=by rw [<- hrl]; exact (aq.1 h2).1
   have hmul:(p+1)*j.size<=xs.length*j.size:=bg _ (by grind);grind
  obtain ⟨args⟩:=args;obtain ⟨ts⟩:=ts;simp only at ha hts;subst ha;subst hts;obtain ⟨W1,W2,W3⟩:=hW.drew.newX d (xs.length,f) (.cells cl A.elem (0,0)) rfl (el _ _);refine cX hΓ (by grind) (v := .slice (some ⟨w.heap.size,0,none⟩) xs.length f) (w':=w.drew.alloc (.cells cl A.elem)) ?_ ?_
  ·simp only [execOp,hop,aD,ec,aw,invoke,builtin,eE,cp,eZ,J,aL]
  ·have hN:NC w (w.drew.alloc (.cells cl A.elem (0,0))):=NC.trans (show NC w w.drew from ⟨ba _,fun _ _ h _=>h,.drew _,fun _ h=>h⟩) W3;rw [H];rw [H] at hn;refine hn _ _ _ (h w.heap.size f) (hI.next hN W1 (d:=some d) (by grind) (eT (fun e z hz=>?_) (by rw [hI.size]; exact hdlt) ?_)) hN ⟨_,rfl⟩
   ·rw [bf] at hz;split at hz
    ·cases hz;exact (show RX _ (.row w.heap.size f) d j.size xs Go.undef from ⟨cl,A.elem,by rw [<- nz w]; exact aV rfl,⟨by simp,by simp,N,L⟩,bH (bg _ N) L,p7,fun i r j' y' h1 h2=>E i r j' y' h1 h2⟩)
    ·rw [dO] at hz;obtain ⟨z',hz',rfl⟩:=aA.1 hz;exact (ht e z' hz').leX W2
   ·exact RC.of_RD (.lit _ rfl rfl)
include hΓ hT in
theorem MD {guards} (c:ef Γ s a w) (b:∀ d,o.dst=some d->d<Γ.nt) (h:Zm T (ar Γ.P) (bW Γ.P) guards s o K) (e:dS Γ a o.dst w K next):o.wpIn Γ.F Γ.n Γ.P a w next Q:=by
 grind [Zm,MR,tk]
end
section
variable {Γ:cr} (hΓ:Γ.OK) {T:eX} (hT:T.OK Γ.P) {all:List Oper}
include hΓ hT in
theorem VX (guards) {K} {fuel} {listed} {s} (h:match iW listed all 0 with
   | []=>False
   | i::r=>Nq (i::r) fun i=>match qk all i with
    | none=>False
    | some o=>match j6 all s o with
     | 0=>Zm T (ar Γ.P) (bW Γ.P) guards s o fun s=>TB Γ all K fuel (i::listed) s
     | 1=>fJ s o.dst .undef fun s=>TB Γ all K fuel (i::listed) s
     | _=>False):TB Γ all K (fuel+1) listed s:=by
 refine ⟨fun Q w0 a0 b B arr a w l x n E F=>?_⟩;split at h
 ·exact h.elim
 rename_i i0 r0 he;refine ⟨fun L=>?_,fun i hi=>?_⟩
 ·exfalso;have hm:i0∈iW listed all 0:=by rw [he]; exact aW ..
  rw [iB] at hm;obtain ⟨o,_,h2,D,H⟩:=hm;have h2:all[i0]?=some o:=by simpa using h2
  have p:i0<all.length:=(aq.1 h2).1
  have:i0∈Region.ready .any all.toArray arr:=by
   rw [gH];refine ⟨?_,o,by simpa using h2,fun e he A=>by grind⟩;rw [<- D,<- x,aJ,aJ,aE am];rfl
  grind
 ·have hm:=wC l x hi;rw [he] at hm;have h:=oH h i hm;rw [<- he,iB] at hm;obtain ⟨o,_,h2,D,H⟩:=hm;have h2:all[i]?=some o:=by simpa using h2
  have p:i<all.length:=(aq.1 h2).1;have c:∀ d,o.dst=some d->d<Γ.nt:=fun d m=>b i d (by rw [eK,h2]; exact m)
  have hA':∀ j,(arr.setIfInBounds i true).getD j false=dn (i::listed) j:=by
   intro j;rw [aJ,dx,dn];by_cases hj:i=j
   ·subst hj;rw [aV rfl,aV am]; simp
   ·rw [aY hj,<- aJ,x,show Nat.beq i j=false from by cases A:Nat.beq i j with | false=>rfl | true=>exact absurd (ak A) hj]; rfl
  rw [fp,h2] at h;simp only at h;rw [wpOpIn,show all.toArray[i]?=some o by simpa using h2];simp only;split at h
  ·rename_i y;rw [dC b n 0 y am];simp only [ei,cR];refine MD hΓ hT n c h ?_;intro s' G w' J z q u;exact J.out Q w0 a0 b B _ G w' (by simpa using l) hA' z (E.trans q) (F.trans ((FT.put u).mono fun d m=>iZ h2 m))
  ·rename_i y;rw [dC b n 1 y am];simp only [Nat.reduceBEq,br,cv];refine ⟨fun f _=>hΓ.fn f,?_⟩;obtain ⟨s2,v,t⟩:=fY n c h;exact v.out Q w0 a0 b B _ _ w (by simpa using l) hA' t E (F.trans ((FT.put ⟨_,rfl⟩).mono fun d m=>iZ h2 m))
  ·exact h.elim
end
open Go
def rL (j:TI):Bool := !(Nat.beq j.kind 1||Nat.beq j.kind 2)
def opA (T:eX) (C:FuncId->List AV->AV->Prop) (E:vV) (guards:List Nat) (s:St) (o:Oper) (K:St->Prop):Prop:=match o.op with
 | .load t x=>match ev s x with
  | .loc b off=>match get T t with
   | some j=>bif rL j then match get s.b b with
     | some cs=>∃ v,cs[off]?=some v/\fJ s o.dst v fun s=>gS guards o.dst s K
     | none=>False
    else HQ T C E guards s o K
   | none=>False
  | _=>HQ T C E guards s o K
 | .store t a x=>match o.dst,ev s a,(ev s x).cells? with
  | none,.loc b off,some [v]=>match get T t,get s.b b with
   | some j,some cs=>bif Nat.beq 1 j.size&&v.isCell then off<cs.length/\v.go fun v=>K ⟨s.t,(b,dB cs off v)::s.b⟩ else HQ T C E guards s o K
   | _,_=>False
  | _,_,_=>HQ T C E guards s o K
 | .index t x n=>match ev s n,ev s x with
  | .int _ i,.agg cs=>match get T t with
   | some c=>match get T c.elem with
    | some j=>bif Nat.beq c.kind 2&&(Nat.beq j.size 1&&rL j) then 0<=i/\i<c.arr/\∃ v,cs[i.toNat]?=some v/\fJ s o.dst v fun s=>gS guards o.dst s K else HQ T C E guards s o K
    | none=>False
   | none=>False
  | _,_=>HQ T C E guards s o K
 | _=>HQ T C E guards s o K
section
variable {Γ:cr} (hΓ:Γ.OK) {T:eX} (hT:T.OK Γ.P) {s:St} {K:St->Prop} {o:Oper} {a:Act} {w:World}
 {next:Act->World->Prop} {Q:Exit->Act->World->Prop}
theorem sJ {j} {cs:List AV} {off} {v} (hj:rL j=true) (h:cs[off]?=some v):eS j (cs.drop off)=some v:=by
 unfold rL at hj;unfold eS;rw [show (Nat.beq j.kind 1||Nat.beq j.kind 2)=false from by simpa using hj,bq];grind [List.drop_eq_getElem_cons,List.getElem?_eq_getElem]
theorem Ik (v):∀ (l:List AV) (n:Nat),uj l n [v]=dB l n v:=fun l n=>by rw [lr]; rfl
theorem qW {x} {l} (h:∀ k n xs,ev s x≠.me .sl k n xs) (hk:kC s l K):kC s (x::l) K:=by
 grind [kC,absurd]
include hΓ hT in
theorem Qp {guards} (p:ef Γ s a w) (m:∀ d,o.dst=some d->d<Γ.nt) (h:opA T (ar Γ.P) (bW Γ.P) guards s o K) (r:dS Γ a o.dst w K next):o.wpIn Γ.F Γ.n Γ.P a w next Q:=by
 have c:∀ {s1:St},gS guards o.dst s1 K->∀ {y w'},ef Γ s1 y w'->NC w w'->(∃ v,y=a.put o.dst v)->next y w':=fun q y w' N Z hP=>by
  obtain ⟨s2,h2,hle⟩:=ja q;exact r s2 y w' h2 (N.less hle) Z hP
 unfold opA at h;split at h
 ·rename_i t x l;split at h
  ·rename_i b off hx;split at h
   ·rename_i j hj
    cases f:rL j with
    | false=>grind [eA]
    | true=>
     rw [f,aP] at h;split at h
     ·rename_i cs G;obtain ⟨v,hv,q⟩:=h;refine lg (K:=fun s=>gS guards o.dst s K) hΓ hT rfl p m ?_ (fun s' y w' h1 h2 M H=>c h1 h2 M H);rw [l];simp only [Xi,hx,nu,gM,hj,G,sJ f hv,AV.go_eq];exact q
     ·exact h.elim
   ·exact h.elim
  ·exact eA hΓ hT p m h r
 ·rename_i t X x l;split at h
  ·rename_i b off v B D z;split at h
   ·rename_i j cs hj G
    cases f:(Nat.beq 1 j.size&&v.isCell) with
    | false=>rw [f] at h; exact eA hΓ hT p m h r
    | true=>
     rw [f,aP] at h;obtain ⟨u,q⟩:=h;rw [AV.go_eq] at q;simp only [al] at f;refine lg (K:=K) hΓ hT rfl p m ?_ r;rw [l];have E:Nat.ble (off+1) cs.length=true:=kS u
     have key:nu T (ar Γ.P) s o.dst o.type (.store t X x) K:=by
      simp only [nu,B,hj,D,z,bu,kr,bS,f.1,qj,SG,f.2,Bool.and_self,aP,Dv,G,E,Ik];exact q
     simp only [Xi,D];refine qW (fun k n xs e=>?_) key;rw [e] at z; simp [AV.cells?] at z
   ·exact h.elim
  ·exact eA hΓ hT p m h r
 ·rename_i t x n l;split at h
  ·rename_i ik i cs A hx;split at h
   ·rename_i ti L;split at h
    ·rename_i j hj
     cases f:(Nat.beq ti.kind 2&&(Nat.beq j.size 1&&rL j)) with
     | false=>rw [f] at h; exact eA hΓ hT p m h r
     | true=>
      rw [f,aP] at h;obtain ⟨U,h1,v,hv,q⟩:=h;simp only [al] at f;obtain ⟨s1,s2,s3⟩:=f;have J:=ak s2;have u:=(aq.1 hv).1;refine lg (K:=fun s=>gS guards o.dst s K) hΓ hT rfl p m ?_ (fun s' y w' h1 h2 M H=>c h1 h2 M H);rw [l]
      have key:nu T (ar Γ.P) s o.dst o.type (.index t x n) (fun s=>gS guards o.dst s K):=by
       simp only [nu,gM,L,hj,A,hx,s1,aP,J,nw,sJ s3 hv,AV.go_eq];exact ⟨U,h1,u,q⟩
      simp only [Xi];refine qW (fun k n xs e=>by rw [hx] at e; cases e) (qW (fun k n xs e=>by rw [A] at e; cases e) key)
    ·exact h.elim
   ·exact h.elim
  ·exact eA hΓ hT p m h r
 ·exact eA hΓ hT p m h r
end
def vh (T:eX) (C:FuncId->List AV->AV->Prop) (E:vV) (all:List Oper) (guards:List Nat):List Oper->St->(St->Prop)->Prop
 | [],s,K=>K s
 | o::rest,s,K=>match j6 all s o with
  | 0=>opA T C E guards s o fun s=>vh T C E all guards rest s K
  | 1=>fJ s o.dst .undef fun s=>vh T C E all guards rest s K
  | _=>False
section
variable {Γ:cr} (hΓ:Γ.OK) {T:eX} (hT:T.OK Γ.P) {Q:Exit->Act->World->Prop}
include hΓ hT in
theorem n8 {all:List Oper} {guards:List Nat} (b:∀ j d,jx all j=some d->d<Γ.nt):∀ (l:List Oper) (k:Nat) (s:St) (a:Act) (w:World) (K:St->Prop),(∀ j,l[j]?=all[k+j]?)->vh T (ar Γ.P) (bW Γ.P) all guards l s K->ef Γ s a w ->
  (∀ s' m w',K s'->ef Γ s' m w'->NC w w'->FT (eJ l) a m->Q .normal m w')->wpOpsIn Γ.F Γ.n Γ.P all.toArray Q (List.range' k l.length) a w
 | [],k,s,a,w,K,_,h,i,p=>p s a w h i (.refl w) (.refl _ a)
 | o::rest,k,s,a,w,K,hk,h,i,p=>by
  have A:all.toArray[k]?=some o:=by simpa using (hk 0).symm
  have hk':∀ j,rest[j]?=all[k+1+j]?:=fun j=>by have:=hk (j+1); simpa [d3,oc 1 j] using this
  have e:∀ d,o.dst=some d->d<Γ.nt:=fun d c=>b k d (by rw [eK]; rw [show all[k]?=some o from by simpa using A]; exact c);simp only [bu,fj,wpOpsIn,A];simp only [vh] at h;split at h
  ·rename_i v;rw [dC b i 0 v am];simp only [ei,cR];refine Qp hΓ hT i e h ?_;intro s' m w' B y E D;exact n8 b rest (k+1) s' m w' K hk' B y (fun z a3 q h1 h2 x t=>p z a3 q h1 h2 (E.trans x) (((FT.put D).mono fun d c=>bc _ c).trans (t.mono fun d c=>bh _ c)))
  ·rename_i v;rw [dC b i 1 v am];simp only [Nat.reduceBEq,br,cv];obtain ⟨s2,u,r⟩:=fY i e h;exact ⟨fun f _=>hΓ.fn f,n8 b rest (k+1) s2 _ w K hk' u r fun z a3 q h1 h2 x t=>p z a3 q h1 h2 x (((FT.put ⟨_,rfl⟩).mono fun d c=>bc _ c).trans (t.mono fun d c=>bh _ c))⟩
  ·exact h.elim
variable {s:St} {K:Exit->St->Prop}
include hΓ hT in
theorem A4 (keep es:List Nat) {id} {ops} (c:dL Γ.nt (.region id ops false)=true)
  (h:vh T (ar Γ.P) (bW Γ.P) ops.toList (es.map (3000000000+·)++dI ops.toList ops.toList) ops.toList s fun s'=>gt keep s' (K .normal)):aI Γ s (.region id ops false) K:=by
 refine ⟨fun a w d=>?_⟩;obtain ⟨l⟩:=ops;refine fT ?_;rw [show (⟨l⟩:Array Oper).size=l.length from rfl,db];refine n8 hΓ hT (eB c) l 0 s a w _ (fun j=>by simp) h d ?_;intro s' m w' e b f i;obtain ⟨s2,h2,hle⟩:=ek e;exact ⟨f,i,s2,b.less hle,h2⟩
end
open Go
def OA:AV->AV->Prop
 | .sl _ _ [],.sl .no _ []=>True
 | y,a=>a=y
theorem OA.rfl' (y):OA y y:=by
 unfold OA;grind
theorem H1 {y y'} (h:OA y y'):y'=y\/∃ o sz a,y = .sl o sz []/\y' = .sl .no a []:=by
 unfold OA at h;grind
def H0:List AV->List AV->Prop
 | [],[]=>True
 | y::r,b::a=>OA y b/\H0 r a
 | _,_=>False
def SK:List (List AV)->List (List AV)->Prop
 | [],[]=>True
 | y::r,b::a=>H0 y b/\SK r a
 | _,_=>False
theorem wq:∀ {l b:List AV},H0 l b->b.length=l.length/\∀ (i:Nat) (c:AV),b[i]?=some c->∃ y,l[i]?=some y/\OA y c
 | [],[],_=>⟨rfl,by simp⟩
 | a::r,e::d,h=>by
  obtain ⟨g1,g2⟩:=wq h.2;refine ⟨by simp [g1],fun i y hy=>?_⟩
  cases i with
  | zero=>simp at hy; subst hy; exact ⟨a,rfl,h.1⟩
  | succ i=>grind
 | [],_::_,h=>h.elim
 | _::_,[],h=>h.elim
theorem zk:∀ {l b:List (List AV)},SK l b->b.length=l.length/\∀ (i:Nat) (c:List AV),b[i]?=some c->∃ y,l[i]?=some y/\H0 y c
 | [],[],_=>⟨rfl,by simp⟩
 | a::r,e::d,h=>by
  obtain ⟨g1,g2⟩:=zk h.2;refine ⟨by simp [g1],fun i y hy=>?_⟩
  cases i with
  | zero=>simp at hy; subst hy; exact ⟨a,rfl,h.1⟩
  | succ i=>grind
 | [],_::_,h=>h.elim
 | _::_,[],h=>h.elim
theorem H0.rfl':∀ l:List AV,H0 l l
 | []=>trivial
 | y::r=>⟨OA.rfl' y,H0.rfl' r⟩
theorem SK.app:∀ {a c b d:List (List AV)},SK a c->SK b d->SK (a++b) (c++d)
 | [],[],_,_,_,h=>h
 | _::_,_::_,_,_,h,k=>⟨h.1,SK.app h.2 k⟩
 | [],_::_,_,_,h,_=>h.elim
 | _::_,[],_,_,h,_=>h.elim
theorem S8 {m} {n} {xs a} {cells:Array Value} (h:SK xs a) (h1:∀ r∈xs,r.length=n/\∀ y∈r,y.isCell=true)
  (h2:∀ (i:Nat) (r:List AV) (j:Nat) (y:AV),xs[i]?=some r->r[j]?=some y->∃ u,cells[i*n+j]?=some u/\RD m y u) :
  (∀ r∈a,r.length=n/\∀ y∈r,y.isCell=true)/\∀ (i:Nat) (r:List AV) (j:Nat) (y:AV),a[i]?=some r->r[j]?=some y->∃ u,cells[i*n+j]?=some u/\RD m y u:=by
 obtain ⟨hl,e⟩:=zk h;refine ⟨fun r c=>?_,fun i r j y c hy=>?_⟩
 ·obtain ⟨i,hi⟩:=ct c;obtain ⟨r0,g1,g2⟩:=e i r hi;obtain ⟨l,d⟩:=wq g2;obtain ⟨q,p⟩:=h1 r0 (aC g1);refine ⟨by omega,fun y hy=>?_⟩;obtain ⟨j,hj⟩:=ct hy;obtain ⟨f,d1,d2⟩:=d j y hj;rcases H1 d2 with rfl | ⟨o,sz,b,rfl,rfl⟩
  ·grind
  ·rfl
 ·obtain ⟨r0,g1,g2⟩:=e i r c;obtain ⟨l,d⟩:=wq g2;obtain ⟨f,d1,d2⟩:=d j y hy;obtain ⟨u,c1,c2⟩:=h2 i r0 j f g1 d1;refine ⟨u,c1,?_⟩;rcases H1 d2 with rfl | ⟨o,sz,b,rfl,rfl⟩
  ·exact c2
  ·exact (bI:(AV.sl o sz []).weak (.sl .no b [])) _ _ c2
section
variable {Γ:cr} {s:St} {K:Exit->St->Prop}
theorem V8 {c} (k) {n} {xs xs'} (h1:get s.t (xk k)=some (.me .arr k n xs)) (j:SK xs xs') (h:aI Γ ⟨(xk k,.me .arr k n xs')::s.t,s.b⟩ c K):aI Γ s c K:=by
 refine ⟨fun a w p=>h.out a w ?_⟩;obtain ⟨⟨f,u,l⟩,r,m,d⟩:=p;refine ⟨⟨f,u,fun e z hz=>?_⟩,r,m,d⟩;rw [bf] at hz;split at hz
 ·rename_i i;subst i;cases hz;obtain ⟨b,cells,T,v,q,x,y,o⟩:=(show RX f .arr k n xs (a.tmps.getD (xk k) Go.undef) from l _ _ h1);obtain ⟨A,B⟩:=S8 j y o;have hl:=(zk j).1;exact (show RX f .arr k n xs' (a.tmps.getD (xk k) Go.undef) from ⟨b,cells,T,v,by rw [hl]; exact q,by rw [hl]; exact x,A,B⟩)
 ·exact l e z hz
end
open Go
theorem Jo {all} {k d} (h:d∈eJ (all.take k)):d∈eJ all:=by
 induction all generalizing k with
 | nil=>simpa using h
 | cons o r a=>
  cases k with
  | zero=>simp [eJ] at h
  | succ k=>
   grind [eJ,id]
def Ml (k:Nat) (all:List Oper):Bool:=Nat.ble k all.length&&(s8 k).all (fun i=>match qk all i with | some o=>(cW o).all (Nat.blt · i)&&(XF o).all (Nat.blt · k) | none=>false) &&
 (all.drop k).all fun o=>(s8 k).all (dn (PC all all.length (cW o)))
structure VZ (k:Nat) (all:List Oper):Prop where
 le:k<=all.length
 edge:∀ i o,i<k->all[i]?=some o->∀ e∈cW o,e<i
 gd:∀ i o,i<k->all[i]?=some o->∀ j b,o.guard=some (j,b)->j<k
 sufA:∀ M:Nat->Bool,(∀ i o,all[i]?=some o->M i=true->∀ e∈cW o,M e=true)->∀ i o,k<=i->all[i]?=some o->(∀ e∈cW o,M e=true)->∀ j,j<k->M j=true
theorem Ih {k} {all} (h:Ml k all=true):VZ k all:=by
 simp only [Ml,al] at h;obtain ⟨⟨h2,c⟩,d⟩:=h;rw [aN] at c d;have hu:∀ i,i<k->i∈s8 k:=fun i hi=>qO.2 hi;refine ⟨ah h2,fun i o hi a e he=>?_,fun i o hi a j b hj=>?_,fun M f i o hi a he j hj=>?_⟩
 ·have:=c i (hu i hi);rw [fp,a] at this;simp only [al,aN] at this;exact ah (this.1 e he)
 ·have:=c i (hu i hi);rw [fp,a] at this;simp only [al,aN] at this;exact ah (this.2 j (by simp [XF,hj]))
 ·have:=d o (List.mem_iff_getElem?.2 ⟨i - k,by grind⟩);rw [aN] at this;exact tD f all.length _ he j (gq (this j (hu j hj)))
theorem zi {F} {n} {P} {all} {k} (h:VZ k all) {Q}:∀ (fuel:Nat) (A B:Array Bool) (a:Act) (w:World),A.size=k->B.size=all.length->(∀ j,B.getD j false=A.getD j false) ->
  (∀ i o,all[i]?=some o->B.getD i false=true->∀ e∈cW o,B.getD e false=true)->nd (fun i=>A.getD i false) k+fuel=k ->
  wpAnyIn F n P .any (all.take k).toArray (P4 F n P all k Q) fuel A a w->wpAnyIn F n P .any all.toArray Q (fuel+(all.length - k)) B a w:=by
 have v:∀ (A B:Array Bool) (a:Act) (w:World),A.size=k->B.size=all.length->(∀ j,B.getD j false=A.getD j false)->(∀ i,i<k->A.getD i false=true)->P4 F n P all k Q .normal a w->wpAnyIn F n P .any all.toArray Q (all.length - k) B a w:=by
  intro A B a w L H c r hq;refine hq B H fun j=>?_;rw [c]
  cases hj:Nat.blt j k with
  | true=>exact r j (ah hj)
  | false=>
   have:¬ j<k:=fun J=>by rw [show Nat.blt j k=true from kS J] at hj; cases hj
   grind
 intro fuel
 induction fuel with
 | zero=>
  intro A B a w L H c G J U;rw [bS];exact v A B a w L H c (fun i hi=>za k am i hi) U.2
 | succ fuel ih=>
  intro A B a w L H c G J U
  -- the last one of the first part is not there yet
  have q:¬ ∀ i,i<k->A.getD i false=true:=fun r=>by
   have:∀ m,(∀ i,i<m->A.getD i false=true)->nd (fun i=>A.getD i false) m=m:=by
    intro m
    induction m with
    | zero=>intro _; rfl
    | succ m im=>grind [nd]
   grind
  have y:∀ i,i∈Region.ready .any all.toArray B->i<k/\i∈Region.ready .any (all.take k).toArray A:=by
   intro i hi;rw [gH] at hi;obtain ⟨h1,o,h2,Z⟩:=hi;have h2':all[i]?=some o:=by simpa using h2
   have f:i<k:=by
    refine pV fun J=>q fun i' N=>?_;rw [<- c];refine h.sufA (fun i=>B.getD i false) G i o J h2' (fun e he=>?_) i' N;obtain ⟨x,hx,z,rfl⟩:=g9.1 he;exact Z x hx z
   refine ⟨f,?_⟩;rw [gH];refine ⟨?_,o,?_,fun e he z=>by grind⟩
   ·grind
   ·grind
  rw [show fuel+1+(all.length - k)=fuel+(all.length - k)+1 by omega];refine ⟨fun hr=>?_,fun i hi=>?_⟩
  ·exfalso
   -- the first one that is not there is ready
   have:∃ i,i<k/\A.getD i false=false/\∀ j,j<i->A.getD j false=true:=by
    have key:∀ m,(∀ i,i<m->A.getD i false=true)\/∃ i,i<m/\A.getD i false=false/\∀ j,j<i->A.getD j false=true:=by
     intro m
     induction m with
     | zero=>grind
     | succ m im=>
      grind
    rcases key k with h1 | h1
    ·exact absurd h1 q
    ·exact h1
   obtain ⟨i,hi,D,hj⟩:=this;obtain ⟨o,X⟩:∃ o,all[i]?=some o:=⟨_,ai (by have:=h.le; omega)⟩
   have:i∈Region.ready .any all.toArray B:=by
    rw [gH];refine ⟨?_,o,by simpa using X,fun e he z=>?_⟩
    ·grind
    ·rw [c];exact hj _ (h.edge i o hi X e.on (g9.2 ⟨e,he,z,rfl⟩))
   grind
  ·obtain ⟨f,u⟩:=y i hi;have hx:=U.2 i u;rw [gH] at u;obtain ⟨h1,o,h2,Z⟩:=u
   have D:A.getD i false=false:=by
    rw [<- h1,aJ,aJ,aE am];rfl
   have h2':all[i]?=some o:=by
    have:(all.take k)[i]?=some o:=by simpa using h2
    rw [dj,aV f] at this;exact this
   have d:∀ (C:Array Bool),i<C.size->∀ j,(C.setIfInBounds i true).getD j false=(C.getD j false||decide (j=i)):=by
    intro C hC j;rw [aJ,dx];by_cases hj:i=j
    ·grind
    ·rw [aY hj,<- aJ,show decide (j=i)=false from by grind,ey]
   have hle:=h.le
   have l:∀ a w,wpAnyIn F n P .any (all.take k).toArray (P4 F n P all k Q) fuel (A.setIfInBounds i true) a w->wpAnyIn F n P .any all.toArray Q (fuel+(all.length - k)) (B.setIfInBounds i true) a w:=by
    intro a w hh;refine ih _ _ a w (by simpa using L) (by simpa using H) (fun j=>by rw [d B am,d A am,c]) (fun m o' E hm e he=>?_) ?_ hh
    ·rw [d B am] at hm ⊢;rw [cu] at hm ⊢;rcases hm with hm | hm
     ·grind
     ·have:m=i:=by simpa using hm
      subst this;rw [h2'] at E; cases E;obtain ⟨x,hx,z,rfl⟩:=g9.1 he;grind
    ·rw [y9 (M:=fun i=>A.getD i false) (M':=fun j=>(A.setIfInBounds i true).getD j false) (i:=i) D (fun j=>d A am j) k f];omega
   unfold wpOpIn at hx ⊢;rw [show all.toArray[i]?=some o by simpa using h2'];rw [h2] at hx;simp only at hx ⊢
   have hy:Region.wanted o (yielded all.toArray a.tmps)=Region.wanted o (yielded (all.take k).toArray a.tmps):=by
    unfold Region.wanted
    cases hg:o.guard with
    | none=>rfl
    | some p=>
     obtain ⟨j,b⟩:=p;have hj:=h.gd i o f h2' j b hg;grind [yielded]
   rw [hy];split at hx
   ·rename_i t;rw [aV t];exact Oper.wpIn_mono l hx
   ·rename_i t;rw [aY t];exact ⟨hx.1,l _ _ hx.2⟩
section
variable {Γ:cr} (hΓ:Γ.OK) {T:eX} (hT:T.OK Γ.P)
def JA (Γ:cr) (T:eX) (gs:List Nat) (ops:List Oper) (s:St) (K:St->Prop):Prop:=match s with
 | ⟨t,b⟩=>YR (unlocMany (ke ops) t) fun t=>Mq T (ar Γ.P) (bW Γ.P) ops gs ops [] ⟨t,b⟩ fun a s'=>UJ ⟨t,b⟩ ops a.reverse=true/\K s'
include hΓ hT in
theorem Dh (k) (keep) {s} {K} {id} {ops} (L:dL Γ.nt (.region id ops true)=true) (u:Ml k ops.toList=true)
  (h:JA Γ T (dI ops.toList ops.toList) (ops.toList.take k) s fun s'=>TB Γ ops.toList (fun s=>gt keep s (K .normal)) (ops.toList.length - k) (s8 k) s'):aI Γ s (.region id ops true) K:=by
 refine ⟨fun a w N=>?_⟩;obtain ⟨all⟩:=ops;obtain ⟨t,b⟩:=s;simp only [JA,qS] at h;simp only at L u h;have f:=eB L;obtain ⟨X,s',M,e,x⟩:=ou T (ar Γ.P) (bW Γ.P) (all.take k) [] _ h;rw [bV,HK] at e;obtain ⟨g1,g2,g3⟩:=ym.all T (ar Γ.P) (bW Γ.P) M;obtain ⟨Z,A⟩:=w9 e;have G:=Ih u;refine Dn hΓ.mixed ?_;have y:=(N.drew).unlocMany (ke (all.take k))
 have hz:∀ n i,(Array.replicate n false).getD i false=false:=by
  intro n i;rw [aJ,mF];split <;> rfl
 have q:∀ {α:Type} (E:Nat->List (Nat×α)) (b:List (Nat×α)) m n,tF E b (fun i=>(Array.replicate m false).getD i false) n=b:=by
  intro α E b m n
  induction n with
  | zero=>rfl
  | succ n F=>simp only [tF]; rw [hz m n,bq]; exact F
 have r:∀ m n,nd (fun i=>(Array.replicate m false).getD i false) n=0:=by
  intro m n
  induction n with
  | zero=>rfl
  | succ n F=>simp only [nd]; rw [hz m n,F]; rfl
 have p:(all.take k).length=k:=by simp [G.le]
 have hall':∀ j d,jx (all.take k) j=some d->d<Γ.nt:=fun j d l=>by
  rw [eK,dj] at l;split at l
  ·exact f j d (by rw [eK]; exact l)
  ·cases l
 have D:all.length=k+(all.length - k):=by have:=G.le; omega
 show wpAnyIn _ _ _ _ _ _ all.length _ _ _;rw [D];refine zi G k (Array.replicate k false) _ a _ dc (by simp; try omega) (fun j=>by rw [hz,hz]) (fun i o _ hi=>nomatch (hz _ _).symm.trans hi) (by rw [r]; omega) ?_;refine At hΓ hT (all:=all.take k) (w0:=w) (a0:=a) A g1 hall' g2 (fun J w' c v z=>?_) k (Array.replicate k false) a w.drew (by simp [g1,p]) (by rw [r,g1,p]; omega) (fun m st _ hm=>nomatch (hz _ _).symm.trans hm) (by rw [q,q]; exact y) ⟨ba _,fun _ _ h _=>h,.drew _,fun _ h=>h⟩ (.refl _ a);rw [g1,<- g3] at c;intro B Q H;refine x.out _ w a f (fun s' J w' x c U A=>?_) B J w' Q (fun j=>by rw [H,CT]) c v (z.mono fun d l=>Jo l);obtain ⟨s2,h2,hle⟩:=ek x;exact ⟨U,A,s2,c.less hle,h2⟩
end
open Go
section
variable {Γ:cr} {s:St} {K:Exit->St->Prop}
theorem LM {c} (k d) {b} {rows} (h1:get s.t (xk k)=some (.me .ents k b rows)) (h2:get s.t d=some (.lit (.map (some b)))) (h:aI Γ ⟨(d,.mapv rows)::jC (AV.unme k) s.t,s.b⟩ c K):aI Γ s c K:=by
 refine ⟨fun a w x=>h.out a w ?_⟩;obtain ⟨⟨D,B,l⟩,y,u,i⟩:=x;have hx:=(show RX D .ents k b rows (a.tmps.getD (xk k) Go.undef) from l _ _ h1);have j:=hx;obtain ⟨es,clock,r,_⟩:=j;obtain ⟨E,q⟩:=B.freezeMap r;refine ⟨⟨_,E,fun e z hz=>?_⟩,y,u,i⟩;rw [bf] at hz;split at hz
 ·rename_i o;subst o;cases hz;have p:=(show RD _ (.lit (.map (some b))) (a.tmps.getD e Go.undef) from l e _ h2);generalize a.tmps.getD e Go.undef=v at p;cases p
  exact hx.mapv q.m fun F f he=>by
   rw [r] at he;cases he;exact aV rfl
 ·rw [dO] at hz;obtain ⟨A,n,rfl⟩:=aA.1 hz;exact (l e A n).leX q
end
open Go
def DW:AV->Bool
 | .int _ _=>true
 | _=>false
def pSl (T:eX) (s:St) (o:Oper) (t:TypeId) (x hi:Operand) (K:St->Prop):Prop:=match ev s x,ev s hi with
 | .pin _ b off _,.int _ n=>match get T t with
  | some c=>match get T c.elem with
   | some _=>bif Nat.beq c.kind 2 then (0<=n/\n<=c.arr)/\fJ s o.dst (.lit (.slice (some ⟨b,off,none⟩) n.toNat c.arr)) K else False
   | none=>False
  | none=>False
 | _,_=>False
def Z9 (T:eX) (s:St) (d:Nat) (f:List TypeId) (y:AV) (K:St->Prop):Prop:=match f with
 | [t,e]=>match get T t with
  | some c=>match get T c.elem with
   | some j=>match y with
    | .lit (.slice (some a) n _)=>∃ k,match get s.t (xk k) with
     | some (.me .box k' b [own])=>bif a.spot.isNone&&(Nat.beq k k'&&(Nat.beq (lo k) 0&&(Nat.beq c.kind 3&&(Nat.beq t e&&(n0 j&&Nat.beq j.size 1))))) then
       a.block=b/\a.off+n<=own.length/\((own.drop a.off).take n).all DW=true/\0<n/\gR n j.bytes/\n<=4611686018427387904 /\
       K ⟨(d,.me .sl d n [])::(xk d,.me .arr d 1 (((own.drop a.off).take n).map fun y=>[y]))::jC (AV.unme d) s.t,s.b⟩ else False
     | _=>False
    | _=>False
   | none=>False
  | none=>False
 | _=>False
def opB (T:eX) (C:FuncId->List AV->AV->Prop) (E:vV) (guards:List Nat) (s:St) (o:Oper) (K:St->Prop):Prop:=match o.op with
 | .slice t x lo hi e=>match ev s x,lo,hi,e with
  | .pin _ _ _ _,none,some h,none=>pSl T s o t x h K
  | _,_,_,_=>HQ T C E guards s o K
 | .binOp .eql t x y _=>match ev s x,y with
  | .lit (.slice (some _) _ _),.const (.slice none _ _)=>(match get T t with
   | some b=>bif Nat.beq b.kind 3 then fJ s o.dst (.bool false) fun s=>gS guards o.dst s K else False
   | none=>False)
  | _,_=>HQ T C E guards s o K
 | .call { callee := .builtin .append,args:=args,argTypes:=c }=>match o.dst,args.toList with
  | some d,[x,y]=>match ev s x,ev s y with
   | .sl .full _ [],.lit v=>Z9 T s d c.toList (.lit v) K
   | _,_=>HQ T C E guards s o K
  | _,_=>HQ T C E guards s o K
 | _=>HQ T C E guards s o K
section
variable {Γ:cr} (hΓ:Γ.OK) {T:eX} (hT:T.OK Γ.P) {s:St} {K:St->Prop} {o:Oper} {a:Act} {w:World}
 {next:Act->World->Prop} {Q:Exit->Act->World->Prop}
include hΓ hT in
theorem Qg {t} {x hi} (r:o.op = .slice t x none (some hi) none) (z:ef Γ s a w) (A:∀ d,o.dst=some d->d<Γ.nt) (h:pSl T s o t x hi K) (E:dS Γ a o.dst w K next):o.wpIn Γ.F Γ.n Γ.P a w next Q:=by
 obtain ⟨c,G,p⟩:=z.ex;unfold pSl at h;split at h
 case h_2=>exact h.elim
 rename_i k b off cs ik n hx B;split at h
 case h_2=>exact h.elim
 rename_i u l;split at h
 case h_2=>exact h.elim
 rename_i j hj
 cases hk:Nat.beq u.kind 2 with
 | false=>grind
 | true=>
  rw [hk,aP] at h;obtain ⟨⟨D,h1⟩,H⟩:=h;have hu:=ld hT l (ak hk);obtain ⟨J,_,y,_,_⟩:=eo hT hj;have f:=cq p x;rw [hx] at f;obtain ⟨i,_⟩:=lk (show RD c.m (.pin k b off cs) (a.eval x) from f);have e:=cq p hi;rw [B] at e
  have q:a.eval hi = .int ik n:=by
   have h:RD c.m (.int ik n) (a.eval hi):=e;generalize a.eval hi=v at h;cases h; rfl
  refine ot hΓ z A G p (by grind) (x := .lit (.slice (some ⟨b,off,none⟩) n.toNat u.arr)) (v := .slice (some ⟨b,off,none⟩) n.toNat u.arr) (RC.of_RD (.lit _ rfl rfl)) ?_ H E;simp only [execOp,r,i,bJ,Bh,q,Instr.sliceAt,aD,a7 hu,aw,Instr.sureAddr,Instr.sliceBounds,Instr.sliceBound,asIntOf,aL,D,h1,and_self,cR,run_sizeOf w y,sm,SB];split <;> simp [Addr.add]
include hΓ hT in
theorem Nn {args} {ts} {x y} {d sz0} {vy} (hop:o.op = .call { callee := .builtin .append,args:=args,argTypes:=ts }) (ha:args.toList=[x,y]) (hI:ef Γ s a w) (M:o.dst=some d) (hdlt:d<Γ.nt)
  (hx:ev s x = .sl .full sz0 []) (hy:ev s y = .lit vy) (h:Z9 T s d ts.toList (.lit vy) K) (hn:dS Γ a o.dst w K next):o.wpIn Γ.F Γ.n Γ.P a w next Q:=by
 obtain ⟨c,hW,ht⟩:=hI.ex;unfold Z9 at h;split at h
 case h_2=>exact h.elim
 rename_i t t' hts;split at h
 case h_2=>exact h.elim
 rename_i A hi;split at h
 case h_2=>exact h.elim
 rename_i j hj;split at h
 case h_2=>exact h.elim
 rename_i ad n l hve;cases hve;obtain ⟨k,h⟩:=h;split at h
 case h_2=>exact h.elim
 rename_i k' b own hg
 cases hb:(ad.spot.isNone&&(Nat.beq k k'&&(Nat.beq (lo k) 0&&(Nat.beq A.kind 3&&(Nat.beq t t'&&(n0 j&&Nat.beq j.size 1)))))) with
 | false=>grind
 | true=>
  rw [hb] at h;simp only [al] at hb;obtain ⟨b3,b4,b0,b5,b6,b7,b9⟩:=hb;obtain ⟨e1,hin,hisI,h0,E,hmax,h⟩:=h;have e0:=ak b0;have e3:ad.spot=none:=by cases hp:ad.spot with | none=>rfl | some _=>rw [hp] at b3; cases b3
  have e4:=ak b4;have e6:=ak b6;have e9:=ak b9;obtain ⟨ab,B,ap⟩:=ad;simp only at e1 e3 hin hisI;subst e1; subst e3; subst e4; subst e6;have hpos:0<j.size:=by omega
  obtain ⟨xs,hxs⟩:∃ xs:List (List AV),xs=((own.drop B).take n).map fun y=>[y]:=⟨_,rfl⟩;have hxl:xs.length=n:=by rw [hxs]; simp; omega
  have hxg:∀ (i:Nat) (r:List AV),xs[i]?=some r->∃ y,own[B+i]?=some y/\r=[y]/\DW y=true:=fun i r hr=>by
   grind
  rw [<- hxs] at h;rw [<- hxl] at h0 E hmax h hin hy;clear hxl;unfold n0 at b7;split at b7
  case h_2=>cases b7
  rename_i zs hz;have hzl:=ak b7;have hu:=ee hT hi (ak b5);obtain ⟨q,z,q1,q2,q3,q4,q5,_⟩:=jq (c:=c) w hT hj hz hzl;obtain ⟨cells,U,own',p1,p2,p3,p4,p5⟩:=(show RX c .box k ab [own] (a.tmps.getD (xk k) Go.undef) from ht _ _ hg);simp only [gG,tH] at p2;subst p2;have hq:=hW.xo k ab _ p1;rw [e0,bS] at p3;have p5':∀ (i:Nat) (y:AV) (u:Value),own[i]?=some y->cells[i]?=some u->RO c y u:=fun i y u h1 h2=>p5 i y u h1 (by grind)
  have p7:∀ r∈xs,r.length=j.size/\∀ y∈r,y.isCell=true:=fun r hr=>by
   grind
  have p8:∀ (i:Nat) (r:List AV) (q:Nat) (y:AV),xs[i]?=some r->r[q]?=some y->∃ u,cells[B+i*j.size+q]?=some u/\RD c.m y u:=fun i r q y h1 h2=>by
   obtain ⟨y0,y1,rfl,y3⟩:=hxg i r h1;have hq0:q=0:=by have:=(aq.1 h2).1; simp at this; exact this
   subst hq0;simp only [bD,aB] at h2;subst h2;have J:B+i<cells.size:=by rw [p3]; exact (aq.1 y1).1
   refine ⟨_,by rw [e9,nw,eb]; exact aE J,?_⟩;have:=p5' _ _ _ y1 (aE J)
   cases y0 with
   | int k z=>exact this
   | _=>cases y3
  have hcsz:B+xs.length*j.size<=cells.size:=by rw [p3,e9,nw]; exact hin
  have hrx:=cq ht x;rw [hx] at hrx;have hx':RD c.m (.sl .full sz0 []) (a.eval x):=hrx
  have hu0:∃ base,a.eval x = .slice base 0 0:=by
   generalize hav:a.eval x=av at hx'
   cases hx' with
   | sl _ _ _ base len cap ho hf hl hc=>
    grind
  obtain ⟨base,Z⟩:=hu0;have hry:=cq ht y;rw [hy] at hry
  have hyv:a.eval y = .slice (some ⟨ab,B,none⟩) xs.length l:=by
   have h:RD c.m (.lit (.slice (some ⟨ab,B,none⟩) xs.length l)) (a.eval y):=hry;generalize a.eval y=v at h;cases h;rfl
  obtain ⟨k2,hk2⟩:∃ k2,k2=(cells.toList.drop B).take (xs.length*j.size):=⟨_,rfl⟩;have L:k2.length=xs.length*j.size:=by rw [hk2]; simp; omega
  have hkg:∀ p,p<xs.length*j.size->k2[p]?=cells[B+p]?:=fun p hp=>by grind
  have D:∀ p v,k2[p]?=some v->w.cell? ((⟨ab,B,none⟩:Addr).add p)=some v:=fun p v hp=>by
   have J:p<xs.length*j.size:=by rw [<- L]; exact (aq.1 hp).1
   rw [hkg p J] at hp;rw [fu];simp only [World.cell?,hq.obj];exact hp
  have hr47:xs.length*j.bytes<=140737488355328:=by unfold gR at E; omega
  have X:=wg (need:=xs.length) (old:=0) (bytes:=q.bytes) am (by rw [q3]; exact hr47);have hge:=L8 w xs.length 0 A.elem;obtain ⟨cl,hcl⟩:∃ cl,cl=k2.toArray++Builtin.zeroCells z.cells (grownCap w xs.length 0 A.elem - xs.length):=⟨_,rfl⟩
  have N:(Builtin.append_ #[t,t] o.type #[a.eval x,a.eval y]).run Γ.P w = .ok (.slice (some ⟨w.heap.size,0,none⟩) xs.length (grownCap w xs.length 0 A.elem)) (w.drew.alloc (.cells cl A.elem)):=by
   rw [Z,hyv]
   cases base with
   | none=>
    have:=L6 (P:=Γ.P) w t o.type A.elem q z hu q1 q4 ⟨ab,B,none⟩ xs.length l k2 (by rw [L,q2]) D h0 am (by rw [q3]; omega);rw [this,hcl]
   | some a0=>
    have:=sB (P:=Γ.P) w t o.type A.elem q z hu q1 q4 a0 0 0 [] dc dc ⟨ab,B,none⟩ xs.length l k2 (by rw [L,q2]) D am am (by simpa using X);grind
  obtain ⟨f,G⟩:∃ f,f=grownCap w xs.length 0 A.elem:=⟨_,rfl⟩;rw [<- G] at N hge
  have hsz2:f*j.size<=cl.size:=by
   rw [hcl]; simp only [og,iQ,v8,q5,L,<- G]; rw [<- dE]; exact bg _ am
  have H:∀ (p:Nat) (r:List AV) (q:Nat) (y:AV),xs[p]?=some r->r[q]?=some y->∃ u,cl[p*j.size+q]?=some u/\RD c.m y u:=fun p r q' y' h1 h2=>by
   grind
  obtain ⟨args⟩:=args;obtain ⟨ts⟩:=ts;simp only at ha hts;subst ha;subst hts;obtain ⟨W1,W2,W3⟩:=hW.drew.newX d (xs.length,f) (.cells cl A.elem (0,0)) rfl (el _ _);refine cX hΓ (by grind) (v := .slice (some ⟨w.heap.size,0,none⟩) xs.length f) (w':=w.drew.alloc (.cells cl A.elem)) ?_ ?_
  ·simp only [execOp,hop,aD,ec,aw,invoke,builtin,eE,cp,eZ,N,aL]
  ·have hN:NC w (w.drew.alloc (.cells cl A.elem (0,0))):=NC.trans (show NC w w.drew from ⟨ba _,fun _ _ h _=>h,.drew _,fun _ h=>h⟩) W3;rw [M];rw [M] at hn;refine hn _ _ _ h (hI.next hN W1 (d:=some d) (by grind) (eT (fun e z hz=>?_) (by rw [hI.size]; exact hdlt) ?_)) hN ⟨_,rfl⟩
   ·rw [bf] at hz;split at hz
    ·cases hz;exact (show RX _ .arr d 1 xs Go.undef from ⟨w.heap.size,cl,A.elem,by rw [<- nz w]; exact aV rfl,⟨by simp,by grind⟩,by rw [e9] at hsz2; omega,fun r hr=>by grind,fun i r j' y' h1 h2=>by have:=H i r j' y' h1 h2; rw [e9] at this; exact this⟩)
    ·rw [dO] at hz;obtain ⟨z',hz',rfl⟩:=aA.1 hz;exact (ht e z' hz').leX W2
   ·exact (show RX _ .sl d xs.length [] _ from ⟨w.heap.size,cl,A.elem,f,by rw [<- nz w]; exact aV rfl,rfl,⟨by simp,by simp⟩,hge⟩)
include hΓ hT in
theorem Qo {guards} (i:ef Γ s a w) (j:∀ d,o.dst=some d->d<Γ.nt) (h:opB T (ar Γ.P) (bW Γ.P) guards s o K) (p:dS Γ a o.dst w K next):o.wpIn Γ.F Γ.n Γ.P a w next Q:=by
 have e:∀ {s1:St},gS guards o.dst s1 K->∀ {l w'},ef Γ s1 l w'->NC w w'->(∃ v,l=a.put o.dst v)->next l w':=fun M l w' D hN Z=>by
  obtain ⟨s2,h2,hle⟩:=ja M;exact p s2 l w' h2 (D.less hle) hN Z
 unfold opB at h;split at h
 ·grind [lo,Qg,eA]
 ·rename_i t x y u b;split at h
  ·rename_i A n E r c' hx;split at h
   ·rename_i X B
    cases hk:Nat.beq X.kind 3 with
    | false=>grind
    | true=>
     rw [hk,aP] at h;obtain ⟨c,J,H⟩:=i.ex;have hu:=ee hT B (ak hk);have q:=cq H x;rw [hx] at q
     have z:a.eval x = .slice (some A) n E:=by
      have h:RD c.m (.lit (.slice (some A) n E)) (a.eval x):=q;generalize a.eval x=v at h;cases h; rfl
     refine ot (K:=fun s=>gS guards o.dst s K) hΓ i j J H (by rw [b]; intro c G; cases G) (x := .bool false) (v := .bool false) (RC.of_RD (.bool _)) ?_ h (fun s' l w' h1 h2 U L=>e h1 h2 U L);have G:a.eval (.const (.slice none r c')) = .slice none r c':=rfl;simp only [execOp,b,aD,z,G];simp [eqGuard,Lib.run_eql_slice_nil w t _ (some A) n E r c' hu]
   ·exact h.elim
  ·exact eA hΓ hT i j h p
 ·rename_i args ts b;split at h
  ·rename_i d x y f ha;split at h
   ·rename_i N vy hx hy;exact Nn hΓ hT b ha i f (j d f) hx hy h p
   ·exact eA hΓ hT i j h p
  ·exact eA hΓ hT i j h p
 ·exact eA hΓ hT i j h p
end
def vg (T:eX) (C:FuncId->List AV->AV->Prop) (E:vV) (all:List Oper) (guards:List Nat):List Oper->St->(St->Prop)->Prop
 | [],s,K=>K s
 | o::rest,s,K=>match j6 all s o with
  | 0=>opB T C E guards s o fun s=>vg T C E all guards rest s K
  | 1=>fJ s o.dst .undef fun s=>vg T C E all guards rest s K
  | _=>False
section
variable {Γ:cr} (hΓ:Γ.OK) {T:eX} (hT:T.OK Γ.P) {Q:Exit->Act->World->Prop}
include hΓ hT in
theorem n7 {all:List Oper} {guards:List Nat} (b:∀ j d,jx all j=some d->d<Γ.nt):∀ (l:List Oper) (k:Nat) (s:St) (a:Act) (w:World) (K:St->Prop),(∀ j,l[j]?=all[k+j]?)->vg T (ar Γ.P) (bW Γ.P) all guards l s K->ef Γ s a w ->
  (∀ s' m w',K s'->ef Γ s' m w'->NC w w'->FT (eJ l) a m->Q .normal m w')->wpOpsIn Γ.F Γ.n Γ.P all.toArray Q (List.range' k l.length) a w
 | [],k,s,a,w,K,_,h,i,p=>p s a w h i (.refl w) (.refl _ a)
 | o::rest,k,s,a,w,K,hk,h,i,p=>by
  have A:all.toArray[k]?=some o:=by simpa using (hk 0).symm
  have hk':∀ j,rest[j]?=all[k+1+j]?:=fun j=>by have:=hk (j+1); simpa [d3,oc 1 j] using this
  have e:∀ d,o.dst=some d->d<Γ.nt:=fun d c=>b k d (by rw [eK]; rw [show all[k]?=some o from by simpa using A]; exact c);simp only [bu,fj,wpOpsIn,A];simp only [vg] at h;split at h
  ·rename_i v;rw [dC b i 0 v am];simp only [ei,cR];refine Qo hΓ hT i e h ?_;intro s' m w' B y E D;exact n7 b rest (k+1) s' m w' K hk' B y (fun z a3 q h1 h2 x t=>p z a3 q h1 h2 (E.trans x) (((FT.put D).mono fun d c=>bc _ c).trans (t.mono fun d c=>bh _ c)))
  ·rename_i v;rw [dC b i 1 v am];simp only [Nat.reduceBEq,br,cv];obtain ⟨s2,u,r⟩:=fY i e h;exact ⟨fun f _=>hΓ.fn f,n7 b rest (k+1) s2 _ w K hk' u r fun z a3 q h1 h2 x t=>p z a3 q h1 h2 x (((FT.put ⟨_,rfl⟩).mono fun d c=>bc _ c).trans (t.mono fun d c=>bh _ c))⟩
  ·exact h.elim
variable {s:St} {K:Exit->St->Prop}
include hΓ hT in
theorem LL (keep es:List Nat) {id} {ops} (c:dL Γ.nt (.region id ops false)=true)
  (h:vg T (ar Γ.P) (bW Γ.P) ops.toList (es.map (3000000000+·)++dI ops.toList ops.toList) ops.toList s fun s'=>gt keep s' (K .normal)):aI Γ s (.region id ops false) K:=by
 refine ⟨fun a w d=>?_⟩;obtain ⟨l⟩:=ops;refine fT ?_;rw [show (⟨l⟩:Array Oper).size=l.length from rfl,db];refine n7 hΓ hT (eB c) l 0 s a w _ (fun j=>by simp) h d ?_;intro s' m w' e b f i;obtain ⟨s2,h2,hle⟩:=ek e;exact ⟨f,i,s2,b.less hle,h2⟩
end
open Go
section
variable {Γ:cr} {s:St} {a:Act} {w:World}
theorem ef.pinT (L:ef Γ s a w) (d k) {cs} (h1:get s.b d=some cs) (c:tl cs=true) (j:Nat.ble (lo k) cs.length=true):∃ b,ef Γ (s.pin d k b cs) a w:=by
 obtain ⟨⟨l,B,G⟩,Q,F,p⟩:=L;have c:cs≠[]:=fun e=>by rw [e] at c; cases c
 have j:=ah j;obtain ⟨X,q2,o,vs,U,M,Z,D⟩:=B.box d cs h1 c;obtain ⟨J,r⟩:=B.pin (k:=k) h1 c M;refine ⟨l.ρ d,⟨⟨_,J,fun e z hz=>?_⟩,Q,F,p⟩⟩;simp only [St.pin] at hz;rw [bf] at hz;split at hz
 ·cases hz;refine ⟨vs,U,_,aV rfl,rfl,?_,fun y hy=>o y (gn hy),fun i y u g1 g2=>?_⟩
  ·grind
  ·rw [cB] at g1;have m:=o y (aC g1);exact vQ m ((D _ y u g1 g2).leX_cell r m)
 ·rw [dO] at hz;obtain ⟨A,t,rfl⟩:=aA.1 hz;have E:=G e A t;have h:=E.leX r
  cases A with
  | loc N off=>
   simp only [HO]
   cases H:Nat.beq d N with
   | false=>exact h
   | true=>
    have:=ak H;subst this;rw [aP];have hl:a.tmps.getD e Go.undef = .pointer (some ⟨l.ρ d,off,none⟩):=E;rw [hl];refine RC.of_RD ?_
    have f:∀ (i:Nat) (y:AV),(((cs.take (lo k)).map AV.pub1).drop off)[i]?=some y->∃ x v,cs[off+i]?=some x/\vs[off+i]?=some v/\y=x.pub1/\off+i<lo k:=by
     intro i y hy;rw [cB,aT] at hy;obtain ⟨x,hx,rfl⟩:=aA.1 hy;rw [dj] at hx;split at hx
     ·have q:off+i<vs.size:=by have:=(aq.1 hx).1; omega
      exact ⟨x,_,hx,aE q,rfl,by assumption⟩
     ·cases hx
    refine .pin _ _ _ _ (fun y hy=>?_) (fun i=>(vs[off+i]?).getD Go.undef) (fun i y hy=>?_) (fun i y hy=>?_)
    ·obtain ⟨i,hi⟩:=ct hy;obtain ⟨x,v,g1,_,rfl,_⟩:=f i y hi;exact fQ (o x (aC g1))
    ·obtain ⟨x,v,g1,g2,_,g3⟩:=f i y hy;show (if l.ρ d=l.ρ d then (if off+i<lo k then vs[off+i]? else none) else _)=_;grind
    ·obtain ⟨x,v,g1,g2,rfl,_⟩:=f i y hy;rw [g2];have m:=o x (aC g1);exact ((D _ x v g1 g2).leX_cell r m).pub
  | me g k' n xs=>exact h
  | _=>exact h
theorem ef.ownT (Q:ef Γ s a w) (d j k sz) {cs} (h1:get s.b d=some cs) (h2:cs[j]?=some (.sl .full 0 [])):ef Γ ⟨(s.dem k).t,(d,dB (cs.map (AV.dem1 k)) j (.sl (.id k) sz []))::(s.dem k).b⟩ a w:=by
 obtain ⟨⟨B,D,E⟩,X,L,q⟩:=Q;have l:cs≠[]:=fun e=>by rw [e] at h2; simp at h2
 obtain ⟨_,_,_,vs,T,U,Z,N⟩:=D.box d cs h1 l;have F:=(aq.1 h2).1;have hv:vs[j]?=some (vs[j]'(by omega)):=aE am;generalize vs[j]'(by omega)=v at hv;have hx:RD B.m (.sl .full 0 []) v:=N j _ v h2 hv
 have f:kY v=false/\np (sfree Γ.w0 k) v:=by
  cases hx with
  | sl _ _ _ base len cap ho hf u hc=>
   have:=hf rfl;exact ⟨by simp [kY,this],.inr ⟨_,_,_,rfl,fun _=>this.symm,fun a _ h0=>by simp at u; omega⟩⟩
 have hx':RD B.m (.sl .no sz []) v:=(bI:(AV.sl .full 0 []).weak (.sl .no sz [])) _ _ hx;have n:=D.own_none k sz v f.2 f.1;have A:get (s.dem k).b d=some (cs.map (AV.dem1 k)):=by rw [rR,h1]; rfl
 have c:cs.map (AV.dem1 k)≠[]:=by simpa using l
 refine ⟨⟨_,Db (bx:=(s.dem k).b) n A c (fU _ _ _) (fun x hx=>?_) (fun r T' H J i x M p1 p2=>?_),fun e y hy=>?_⟩,X,L,q⟩
 ·obtain ⟨p,o⟩:=ct hx;rw [ez] at o;split at o
  ·cases o; rfl
  ·exact (n.box d _ A c).2.2.1 x (aC o)
 ·have e:r=vs:=by
   have G:=U.symm.trans H;cases G; rfl
  rw [ez] at p1;split at p1
  ·rename_i hj;cases p1
   have ev:M=v:=by
    rw [e,<- hj.1] at p2;exact iK (p2.symm.trans hv)
   subst ev;refine ⟨by simp [dM.own],fun h=>(by rw [f.1] at h; cases h),hx'⟩
  grind
 ·rw [mI] at hy;obtain ⟨z,hz,rfl⟩:=aA.1 hy;exact (E e z hz).reown (.refl _)
end
def Tr (Γ:cr) (s:St) (K:St->Prop):Prop:=∀ a w,ef Γ s a w->∃ s2,ef Γ s2 a w/\K s2
theorem Tr.done {Γ} {s} {K} (h:K s):Tr Γ s K:=fun _ _ b=>⟨s,b,h⟩
theorem Tr.pin {Γ} {s} {K} (d k) {cs} (h1:get s.b d=some cs) (f:tl cs=true) (e:Nat.ble (lo k) cs.length=true) (h:∀ b,Tr Γ (s.pin d k b cs) K):Tr Γ s K:=fun a w i=>by
 obtain ⟨b,c⟩:=i.pinT d k h1 f e;exact h b a w c
theorem Tr.own {Γ} {s} {K} (d j k sz) {cs} (h1:get s.b d=some cs) (h2:cs[j]?=some (.sl .full 0 [])) (h:Tr Γ ⟨(s.dem k).t,(d,dB (cs.map (AV.dem1 k)) j (.sl (.id k) sz []))::(s.dem k).b⟩ K):Tr Γ s K:=fun a w c=>h a w (c.ownT d j k sz h1 h2)
section
variable {Γ:cr} (hΓ:Γ.OK) {T:eX} (hT:T.OK Γ.P)
def H6 (Γ:cr) (T:eX) (guards:List Nat) (s:St) (o:Oper) (K:St->Prop):Prop:=HQ T (ar Γ.P) (bW Γ.P) guards s o fun s1=>Tr Γ s1 K
include hΓ hT in
theorem Wa (keep) (n) {s} {K} {id} {ops} (d:dL Γ.nt (.region id ops false)=true)
  (h:my T Γ.P (H6 Γ T (dI ops.toList ops.toList)) ops.toList (dI ops.toList ops.toList) n s fun s'=>gt keep s' (K .normal)):aI Γ s (.region id ops false) K:=by
 refine lj hΓ hT (fun s a w o K next Q e c h p=>?_) keep n d h;unfold H6 at h;refine eA hΓ hT e c h fun s1 j w1 l b f q=>?_;obtain ⟨s2,i,m⟩:=l j w1 b;grind [FT.put]
end
open Go
section
variable {Γ:cr} (hΓ:Γ.OK) {T:eX} (hT:T.OK Γ.P)
def zc (step:Nat->St->Oper->(St->Prop)->Prop):List Oper->Nat->St->(St->Prop)->Prop
 | [],_,s,K=>K s
 | o::rest,k,s,K=>bif o.guard.isNone then step k s o fun s1=>zc step rest (k+1) s1 K else False
def WJ (Γ:cr) (T:eX) (guards a vs:List Nat) (k:Nat) (s:St) (o:Oper) (K:St->Prop):Prop:=
 bif a.contains k then IN Γ.P s o fun s1=>bif vs.contains k then Tr Γ s1 K else K s1
 else bif vs.contains k then H6 Γ T guards s o K else HQ T (ar Γ.P) (bW Γ.P) guards s o K
include hΓ in
theorem IM {s} {a} {w} {o} {K} {next} {Q} (p:ef Γ s a w) (m:∀ d,o.dst=some d->d<Γ.nt) (h:IN Γ.P s o K)
  (x:∀ s' i w',K s'->ef Γ s' i w'->NC w w'->FT o.dst.toList a i->next i w'):o.wpIn Γ.F Γ.n Γ.P a w next Q:=by
 unfold IN at h;split at h
 ·rename_i call d j c;split at h
  ·rename_i f e;split at h
   ·rename_i g v;obtain ⟨N,I,L,R,⟨h1,h2,u⟩,B⟩:=h;refine Am hΓ p j e (cap:=[]) (.inr ⟨v,rfl⟩) u h1 h2 c (m d c) (K:=K) (fun r l q=>?_) (fun s' i w' y D z A=>x s' i w' y D z (FT.put A));have:=B r l q;have this:(⟨(d,r)::(Cl l++((s.demMany I).unmeMany N).t),(s.demMany I).b⟩:St).go K:=this;rw [St.go_eq] at this;exact this
   ·exact h.elim
  ·exact h.elim
 ·exact h.elim
include hΓ hT in
theorem H5 {guards} {s} {a} {w} {o} {K} {next} {Q} (f:ef Γ s a w) (e:∀ d,o.dst=some d->d<Γ.nt) (h:H6 Γ T guards s o K)
  (r:∀ s' b w',K s'->ef Γ s' b w'->NC w w'->FT o.dst.toList a b->next b w'):o.wpIn Γ.F Γ.n Γ.P a w next Q:=by
 unfold H6 at h;refine eA hΓ hT f e h fun s1 j w1 m c l q=>?_;obtain ⟨s2,i,p⟩:=m j w1 c;grind [FT.put]
include hΓ hT in
theorem Mj {guards ns vs} {k} {s} {a} {w} {o} {K} {next} {Q} (m:ef Γ s a w) (l:∀ d,o.dst=some d->d<Γ.nt) (h:WJ Γ T guards ns vs k s o K)
  (j:∀ s' q w',K s'->ef Γ s' q w'->NC w w'->FT o.dst.toList a q->next q w'):o.wpIn Γ.F Γ.n Γ.P a w next Q:=by
 unfold WJ at h
 cases hk:ns.contains k with
 | true=>
  rw [hk,aP] at h;refine IM hΓ m l h fun s1 f w1 e c b i=>?_
  cases hv:vs.contains k with
  | true=>
   rw [hv,aP] at e;obtain ⟨s2,p,r⟩:=e f w1 c;exact j s2 f w1 r p b i
  | false=>
   rw [hv,bq] at e;exact j s1 f w1 e c b i
 | false=>
  rw [hk,bq] at h
  cases hv:vs.contains k with
  | true=>rw [hv,aP] at h; exact H5 hΓ hT m l h j
  | false=>
   rw [hv,bq] at h;exact eA hΓ hT m l h fun s1 f w1 e c b t=>j s1 f w1 e c b (FT.put t)
include hΓ hT in
theorem sQ {all:List Oper} {guards u vs:List Nat} {Q:Exit->Act->World->Prop} (b:∀ j d,jx all j=some d->d<Γ.nt):∀ (l:List Oper) (k:Nat) (s:St) (a:Act) (w:World) (K:St->Prop),(∀ j,l[j]?=all[k+j]?)->zc (WJ Γ T guards u vs) l k s K->ef Γ s a w ->
  (∀ s' i w',K s'->ef Γ s' i w'->NC w w'->FT (eJ l) a i->Q .normal i w')->wpOpsIn Γ.F Γ.n Γ.P all.toArray Q (List.range' k l.length) a w
 | [],k,s,a,w,K,_,h,p,m=>m s a w h p (.refl w) (.refl _ a)
 | o::rest,k,s,a,w,K,hk,h,p,m=>by
  have r:all.toArray[k]?=some o:=by simpa using (hk 0).symm
  have hk':∀ j,rest[j]?=all[k+1+j]?:=fun j=>by have:=hk (j+1); simpa [d3,oc 1 j] using this
  have f:∀ d,o.dst=some d->d<Γ.nt:=fun d e=>b k d (by rw [eK]; rw [show all[k]?=some o from by simpa using r]; exact e);simp only [bu,fj,wpOpsIn,r];simp only [zc] at h
  cases c:o.guard with
  | some g=>rw [c] at h; simp only [Option.isNone_some,bq] at h
  | none=>
   rw [c] at h;simp only [Option.isNone_none,aP] at h;simp only [Region.wanted,c,cR];refine Mj hΓ hT p f h ?_;intro s' i w' x q B y;exact sQ b rest (k+1) s' i w' K hk' x q (fun A a3 t h1 h2 z v=>m A a3 t h1 h2 (B.trans z) ((y.mono fun d e=>bc _ e).trans (v.mono fun d e=>bh _ e)))
theorem ef.reT {s} {a} {w} (hI:ef Γ s a w) (k k') {g} {n} {xs} (l:(Nat.beq (lo k') (lo k)&&(!Nat.beq k' k&&iE g))=true) (h1:get s.t (xk k)=some (.me g k n xs)):ef Γ ⟨(xk k',.me g k' n xs)::(xk k,.junk)::jC (AV.reN k k') s.t,s.b⟩ a w:=by
 obtain ⟨⟨f,h,M⟩,hs,D,E⟩:=hI;simp only [al,c8] at l;have A:=ak l.1;have v:=dk l.2.1;obtain ⟨c',c⟩:∃ c':dM,c'={ f with x:=fun j=>if j=k' then f.x k else if j=k then none else f.x j,xn:=fun j=>if j=k' then f.xn k else f.xn j }:=⟨_,rfl⟩;have hx':c'.x k'=f.x k:=by rw [c]; exact aV rfl
 have hxn':c'.xn k'=f.xn k:=by rw [c]; exact aV rfl
 have Q:∀ {x:AV} {u:Value},fD f x u->x.isCell=true->fD c' x u:=fun {x u} r hx=>by rw [c]; exact r.xs_cell _ _ hx
 have y:∀ {x:AV} {u:Value},RC f x u->RC c' (x.reN k k') u:=fun {x u} r=>by
  cases x with
  | me g j n xs=>
   simp only [AV.reN]
   cases N:Nat.beq k j with
   | true=>
    have:=ak N;subst this;exact RX.reN hx' hxn' (by rw [c]) (by rw [c]) (by rw [c]) A (show RX f g k n xs u from r)
   | false=>
    rw [bq];have F:=dk N
    cases G:Nat.beq k' j with
    | true=>exact RD.junk u
    | false=>
     have p:=dk G;refine RX.reN (k:=j) (k':=j) ?_ ?_ (by rw [c]) (by rw [c]) (by rw [c]) rfl (show RX f g j n xs u from r)
     ·rw [c]; simp only; rw [aY (Ne.symm p),aY (Ne.symm F)]
     ·rw [c]; simp only; rw [aY (Ne.symm p)]
  | agg cs=>obtain ⟨vs,r1,r2,L,r4⟩:=r; exact ⟨vs,r1,r2,L,fun i x u h1 h2=>Q (r4 i x u h1 h2) (L x (aC h1))⟩
  | loc d off=>show u=_; rw [show c'.ρ=f.ρ from by rw [c]]; exact r
  | sl o sz xs=>exact (eD (by intro cs J; cases J)).2 (Q ((eD (by intro cs J; cases J)).1 r) rfl)
  | _=>show RD c'.m _ u; rw [show c'.m=f.m from by rw [c]]; exact r
 refine ⟨⟨c',⟨h.ext,by rw [c]; exact h.sub,by rw [c]; exact h.le0,by rw [c]; exact h.new,fun d cs D v=>?_,by rw [c]; exact h.inj,fun j=>by rw [c]; exact ⟨(h.own j).blk,(h.own j).shape,(h.own j).box,(h.own j).apart⟩,fun j B o hx=>?_⟩,fun e z hz=>?_⟩,hs,D,E⟩
 ·obtain ⟨q1,q2,q3,us,U,q4,q5,q6⟩:=h.box d cs D v;have e1:c'.ρ=f.ρ:=by rw [c]
  grind
 ·rw [c] at hx ⊢;simp only at hx
  have key:∀ i o',(if i=k' then f.x k else if i=k then none else f.x i)=some (B,o')->f.x (if i=k' then k else i)=some (B,o'):=fun i o' hi=>by
   grind
  have X:∀ i o',(if i=k' then f.x k else if i=k then none else f.x i)=some (B,o')->¬ (i≠k'/\i=k):=fun i o' hi hh=>by
   grind
  have q:=h.xo _ B o (key j o hx);refine ⟨q.new,q.obj,q.kept,fun i hi=>q.mem i ?_,q.map,q.box,q.own,fun i o' hi=>?_⟩
  ·grind
  ·have h3:=q.inj _ o' (key i o' hi);grind
 ·rw [bf] at hz;split at hz
  ·rename_i he;cases hz;exact RX.any l.2.2 (RX.reN hx' hxn' (by rw [c]) (by rw [c]) (by rw [c]) A (show RX f g k n xs _ from M _ _ h1))
  ·rw [bf] at hz;split at hz
   ·cases hz; exact RC.of_RD (RD.junk _)
   ·rw [dO] at hz;obtain ⟨Z,H,rfl⟩:=aA.1 hz;exact y (M e Z H)
theorem Tr.re {s} {K} (k k') {g} {n} {xs} (c:(Nat.beq (lo k') (lo k)&&(!Nat.beq k' k&&iE g))=true) (h1:get s.t (xk k)=some (.me g k n xs)) (h:Tr Γ ⟨(xk k',.me g k' n xs)::(xk k,.junk)::jC (AV.reN k k') s.t,s.b⟩ K):Tr Γ s K:=fun a w d=>h a w (d.reT k k' c h1)
include hΓ hT in
theorem V9 (keep ns vs) {s} {K} {id} {ops} (d:dL Γ.nt (.region id ops false)=true)
  (h:zc (WJ Γ T (dI ops.toList ops.toList) ns vs) ops.toList 0 s fun s'=>gt keep s' (K .normal)):aI Γ s (.region id ops false) K:=by
 refine ⟨fun a w e=>?_⟩;obtain ⟨all⟩:=ops;have b:=eB (l:=all) d;refine fT ?_;rw [show (⟨all⟩:Array Oper).size=all.length from rfl,db];refine sQ hΓ hT b all 0 s a w _ (fun j=>by rw [bS]) h e ?_;intro s' n w' i c m f;obtain ⟨s2,h2,hle⟩:=ek i;exact ⟨m,f,s2,c.less hle,h2⟩
end
open Go
theorem RO.pub1 {c} {x} {v} (hx:x.isCell=true) (h:RO c x v):RO c x.pub1 v:=vQ (fQ hx) (fD.of_RD (h.toRC1 hx).pub)
section
variable {Γ:cr} {s:St} {a:Act} {w:World} {K:Exit->St->Prop}
theorem ef.pubX (v:ef Γ s a w) (k j) {n} {own} {y} (h1:get s.t (xk k)=some (.me .box k n [own])) (h2:own[j]?=some y):ef Γ ⟨(xk k,.me .box k n [dB own j y.pub1])::s.t,s.b⟩ a w:=by
 obtain ⟨⟨f,A,o⟩,x,r,d⟩:=v;refine ⟨⟨f,A,fun e z hz=>?_⟩,x,r,d⟩;rw [bf] at hz;split at hz
 ·rename_i l;subst l;cases hz;obtain ⟨cells,T,q,B,E,D,h,m⟩:=(show RX f .box k n [own] (a.tmps.getD (xk k) Go.undef) from o _ _ h1);cases E;refine (show RX f .box k n _ (a.tmps.getD (xk k) Go.undef) from ⟨cells,T,_,B,rfl,by rw [fU]; exact D,fun z hz=>?_,fun i z u g1 g2=>?_⟩)
  ·obtain ⟨p,c⟩:=ct hz;rw [ez] at c;split at c
   ·cases c; exact fQ (h y (aC h2))
   ·exact h z (aC c)
  ·rw [ez] at g1;split at g1
   ·rename_i hj;cases g1;exact RO.pub1 (h y (aC h2)) (m _ y u (hj.1 ▸ h2) g2)
   ·exact m i z u g1 g2
 ·exact o e z hz
theorem aI.pubX {c} (k j) {n} {own} {y} (h1:get s.t (xk k)=some (.me .box k n [own])) (h2:own[j]?=some y) (h:aI Γ ⟨(xk k,.me .box k n [dB own j y.pub1])::s.t,s.b⟩ c K):aI Γ s c K:=
 ⟨fun a w d=>h.out a w (d.pubX k j h1 h2)⟩
end
open Go
def xT (k:Nat):AV->Bool
 | .int _ _ | .bool _ | .lit _ | .loc _ _ | .undef | .junk=>true
 | .sl (.id j) sz xs=>Nat.beq j k||(Nat.beq sz 0&&xs.isEmpty)
 | .sl .no _ xs | .sl .full _ xs=>xs.isEmpty
 | _=>false
def flatI:AV->Bool
 | .int _ _ | .bool _=>true
 | _=>false
def jV (k:Nat) (v:Value):AV->AV
 | .sl (.id j) sz xs=>bif Nat.beq j k then .lit v else .sl (.id j) sz xs
 | x=>x
theorem RD.flatI {m m'} {x} {v} (h:RD m x v) (hf:flatI x=true):RD m' x v:=by
 cases h <;> first | exact .int _ _ | exact .bool _ | cases hf
theorem RD.nilSl {m m'} {o} {sz} {xs} {v} (h:RD m (.sl o sz xs) v) (hx:xs.isEmpty=true):RD m' (.sl o sz xs) v:=by
 cases xs with
 | nil=>
  cases h with
  | sl _ _ _ base len cap f hf hl p e d b off n g hm q=>exact .sl o sz [] base len cap f hf hl p e d b off n g (fun i x j c h1=>by simp at h1) (fun i x j c h1=>by simp at h1)
 | cons a l=>cases hx
theorem RD.nilCap {m} {o} {sz} {v} (h:RD m (.sl o sz []) v):∃ base cap,v = .slice base 0 cap:=by
 cases h with
 | sl _ _ _ base len cap e hf hl j d c b off f g hm i=>simp at hl; subst hl; exact ⟨_,_,rfl⟩
section
variable {Γ:cr} {s:St} {a:Act} {w:World} {K:Exit->St->Prop}
def Dr (c:dM) (k g n cap:Nat) (o:Obj):dM:=
  { c with m:=⟨fun b i=>if b=g then none else c.m b i,fun b=>if b=g then none else c.m.maps b⟩,τ:=fun j=>if j=k\/dq c j=some g then .slice none 0 0 else c.τ j,x:=fun j=>if j=k then some (g,o) else none,xn:=fun _=>(n,cap) }
theorem t6 {c} {k g n cap} {o} {j b} (h:dq (Dr c k g n cap o) j=some b):j≠k/\dq c j=some b/\b≠g:=by
 unfold dq Dr at h;simp only at h;split at h
 ·cases h
 ·rename_i d;refine ⟨fun e=>d (.inl e),h,fun e=>d (.inr (e ▸ h))⟩
theorem ef.unfrz (hI:ef Γ s a w) (hm0:Γ.m0.sub Γ.w0) (k d0 j0:Nat) {sz} {xs} {cs0} (hk:k<5000000) (hb0:get s.b d0=some cs0) (hj0:cs0[j0]?=some (.sl (.id k) sz xs)) (hne:0<xs.length) (hsz0:0<sz)
  (hxs:(xs.all fun r=>Nat.beq r.length sz&&r.all flatI)=true) (ht:(s.t.all fun p=>xT k p.2)=true) (hb:(s.b.all fun p=>p.2.all (xT k))=true) :
  ∃ g cap,ef Γ ⟨(xk k,.me (.row g cap) k sz xs)::jC (jV k (.slice (some ⟨g,0,none⟩) xs.length cap)) s.t,IU (jV k (.slice (some ⟨g,0,none⟩) xs.length cap)) s.b⟩ a w:=by
 obtain ⟨⟨c,l,hts⟩,hs,hd,hrn⟩:=hI
 have hlo:lo k=0:=by
  unfold lo;rw [show Nat.blt k 5000000=true from kS hk]; rfl
 have hcs:cs0≠[]:=fun e=>by grind
 obtain ⟨q1,q2,q3,vs,T,q4,q5,q6⟩:=l.box d0 cs0 hb0 hcs;have hjl:=(aq.1 hj0).1;obtain ⟨e1,e2,e3⟩:=q6 j0 _ (vs[j0]'(by omega)) hj0 (aE am);rw [e1] at e2 e3
 -- the row's block
 obtain ⟨g,len,cap,gv,hτ,hlen,hlc,hg0,F⟩:∃ g len cap,∃ gv:Nat->Nat->Value,c.τ k = .slice (some ⟨g,0,none⟩) len cap/\xs.length=len/\len<=cap/\Γ.w0.heap.size<=g /\
   ∀ (i:Nat) (x:List AV) (j:Nat) (y:AV),xs[i]?=some x->x[j]?=some y->c.m g (i*sz+j)=some (gv i j)/\RD c.m y (gv i j):=by
  have hsh:=(l.own k).shape;generalize hu:c.τ k=u at hsh e3 ⊢
  cases e3 with
  | sl _ _ _ base len cap ho hf hl hc hsz hcl b off hb' gv hm hg=>
   have X:=hb' am;subst X;rcases hsh with h | ⟨base,D,z,h,_,P⟩
   ·cases h
   ·cases h;obtain ⟨h4,h5⟩:=P _ rfl am
    have hoff:off=0:=by
     have:=ax Addr.off h4;exact this
    subst hoff;refine ⟨b,len,cap,gv,rfl,hl,hc,?_,fun i x j y h1 h2=>⟨?_,hg i x j y h1 h2⟩⟩
    ·rcases h5 with h5 | h5
     ·exact h5
     ·omega
    grind
 have hlen':xs.length=len:=hlen
 -- its last cell
 have N:∀ (i:Nat) (x:List AV),xs[i]?=some x->x.length=sz/\∀ y∈x,flatI y=true:=fun i x hx=>by
  rw [aN] at hxs;have:=hxs x (aC hx);simp only [al,aN] at this;grind [Nat.eq_of_beq_eq_true]
 have hlx:xs[len - 1]?=some (xs[len - 1]'(by omega)):=ai am;have hly:(xs[len - 1]'(by omega))[sz - 1]?=some ((xs[len - 1]'(by omega))[sz - 1]'(by grind)):=ai _;have J:=(F _ _ _ _ hlx hly).1
 have M:∀ o v,Γ.m0 g o=some v->False:=fun o v h=>by
  have:=hm0.cell g o v h;grind [World.cell?]
 have hm0m:∀ x,Γ.m0.maps g=some x->False:=fun x h=>by
  have:=(aX.1 (hm0.map g x h)).1;omega
 obtain ⟨cells,U,E⟩:eV w g:=by
  rcases l.new.cell g _ _ J with h | h
  ·exact (M _ _ h).elim
  ·exact h.2
 have hcw:∀ o v,c.m g o=some v->cells[o]?=some v:=fun o v h=>by
  have:=l.sub.cell g o v h;grind [World.cell?]
 have H:cap*sz<=cells.size:=by
  by_cases B:len<cap
  ·have Z:dq c k=some g:=by unfold dq; rw [hτ]; simp [lH,B]
   obtain ⟨D,z,T',A,g1,g2,g3,_⟩:=(l.own k).blk g Z;grind [kY]
  ·have h1:=(aX.1 (hcw _ _ J)).1;have h2:cap=len:=by omega
   subst h2
   have P:cap*sz=(cap - 1)*sz+sz:=by
    obtain ⟨n,rfl⟩:∃ n,cap=n+1:=⟨cap - 1,by omega⟩;rw [dE,wh]; rfl
   omega
 have hρ:∀ d cs,get s.b d=some cs->cs≠[]->c.ρ d≠g:=fun d cs h1 h2 e=>by
  have:=(l.box d cs h1 h2).2.1 ((len - 1)*sz+(sz - 1));grind
 have hmap:c.m.maps g=none:=by
  cases h:c.m.maps g with
  | none=>rfl
  | some x=>have:=l.sub.map g x h; rw [E] at this; cases this
 refine ⟨g,cap,?_⟩;rw [hlen']
 -- what the words say in the new context
 have hone:∀ (x:AV) (v:Value),xT k x=true->fD c x v->fD (Dr c k g len cap (.cells cells U (0,0))) (jV k (.slice (some ⟨g,0,none⟩) len cap) x) v:=by
  intro x v hf h
  cases x with
  | int _ _=>cases (show RD c.m _ v from h); exact RD.int _ _
  | bool _=>cases (show RD c.m _ v from h); exact RD.bool _
  | undef=>cases (show RD c.m _ v from h); exact RD.undef
  | junk=>exact RD.junk _
  | lit u=>cases (show RD c.m _ v from h) with | lit _ h1 h2=>exact RD.lit _ h1 h2
  | loc d off=>exact h
  | sl o sz' ys=>
   cases o with
   | no=>exact (show RD c.m _ v from h).nilSl hf
   | full=>exact (show RD c.m _ v from h).nilSl hf
   | id j=>
    simp only [jV]
    cases Q:Nat.beq j k with
    | true=>
     have:=ak Q;subst this;rw [aP];obtain ⟨h1,_⟩:=h;rw [h1,hτ];exact RD.lit _ rfl rfl
    | false=>
     rw [bq];simp only [xT,Q,gX,al] at hf;obtain ⟨hf1,hf2⟩:=hf;have hz:=ak hf1;subst hz;obtain ⟨h1,h2,P⟩:=h;have hys:ys=[]:=by cases ys with | nil=>rfl | cons _ _=>cases hf2
     subst hys;obtain ⟨base,z,hv⟩:=P.nilCap
     have B:kY v=false:=by
      cases hs':kY v with
      | false=>rfl
      | true=>grind
     have Z:dq c j≠some g:=by
      unfold dq;rw [<- h1];rw [hv] at B ⊢;simp only [kY,gB] at B
      cases base with
      | none=>simp [lH]
      | some a=>simp [lH,B]
     have hjn:¬ (j=k\/dq c j=some g):=fun e=>e.elim (fun e=>by grind) Z;refine ⟨?_,fun e=>(by rw [B] at e; cases e),P.nilSl rfl⟩;show v=if j=k\/dq c j=some g then _ else _
     grind
  | _=>cases hf
 have hcellf:∀ x:AV,x.isCell=true->(jV k (.slice (some ⟨g,0,none⟩) len cap) x).isCell=true:=fun x hx=>by
  cases x with
  | sl o _ _=>
   cases o with
   | id j=>simp only [jV]; cases Nat.beq j k <;> rfl
   | _=>exact hx
  | _=>exact hx
 have f:∀ d q,get (IU (jV k (.slice (some ⟨g,0,none⟩) len cap)) s.b) d=some q->∃ cs,get s.b d=some cs/\q=cs.map (jV k (.slice (some ⟨g,0,none⟩) len cap)):=fun d q h=>by
  rw [yZ,lw (fun (_:Nat) (v:List AV)=>v.map (jV k (.slice (some ⟨g,0,none⟩) len cap)))] at h;obtain ⟨cs,h1,h2⟩:=aA.1 h;grind
 have hflatB:∀ d cs,get s.b d=some cs->∀ x∈cs,xT k x=true:=fun d cs h=>by
  rw [aN] at hb;have:=hb _ (pf h);grind
 have L:∀ d x,get s.t d=some x->xT k x=true:=fun d x h=>by
  rw [aN] at ht;exact ht _ (pf h)
 have hle:(Dr c k g len cap (.cells cells U (0,0))).m.le c.m:=⟨fun b o v h=>by
  grind [Dr],fun b x h=>by
  grind [Dr]⟩
 refine ⟨⟨Dr c k g len cap (.cells cells U (0,0)),⟨l.ext,hle.sub l.sub,⟨fun b o v h=>?_,fun b x h=>?_⟩,⟨fun b o v h=>l.new.cell b o v (hle.cell b o v h),fun b x h=>l.new.map b x (hle.map b x h)⟩,fun d q h hne'=>?_,fun d d' cs q h1 h2 n1 n2=>?_,fun j=>?_,fun j b o h=>?_⟩,fun d x hx=>?_⟩,hs,hd,hrn⟩
 ·simp only [Dr];rw [aY (fun (e:b=g)=>M o v (e ▸ h))]; exact l.le0.cell b o v h
 ·simp only [Dr];rw [aY (fun (e:b=g)=>hm0m x (e ▸ h))]; exact l.le0.map b x h
 ·obtain ⟨cs,h1,rfl⟩:=f d q h;have hcn:cs≠[]:=fun e=>hne' (by rw [e]; rfl);obtain ⟨p1,p2,p3,ws,T',p4,p5,p6⟩:=l.box d cs h1 hcn;refine ⟨p1,fun o=>?_,fun x hx=>?_,ws,T',p4,by grind,fun i x v hx hv=>?_⟩
  ·simp only [Dr];grind
  ·grind
  grind
 ·obtain ⟨G,f1,rfl⟩:=f d cs h1;obtain ⟨cs2,f2,rfl⟩:=f d' q h2;exact l.inj d d' G cs2 f1 f2 (fun e=>n1 (by rw [e]; rfl)) (fun e=>n2 (by rw [e]; rfl))
 ·refine ⟨fun b hbk=>?_,?_,fun b d cs hbk h1 n1=>?_,fun b i h1 h2=>?_⟩
  ·obtain ⟨g1,g2,g3⟩:=t6 hbk;obtain ⟨D,z,T',A,f1,f2,f3,f4,f5⟩:=(l.own j).blk b g2;refine ⟨D,z,T',A,?_,f2,f3,fun o ho=>?_,f5⟩
   ·simp only [Dr];grind
   ·simp only [Dr];split
    ·rfl
    ·exact f4 o ho
  ·simp only [Dr];split
   ·exact .inl rfl
   ·exact (l.own j).shape
  ·obtain ⟨_,g2,_⟩:=t6 hbk;obtain ⟨G,f1,rfl⟩:=f d cs h1;exact (l.own j).box b d G g2 f1 (fun e=>n1 (by rw [e]; rfl))
  ·exact (l.own j).apart b i (t6 h1).2.1 (t6 h2).2.1
 ·simp only [Dr] at h;split at h
  ·rename_i Q;cases h;refine ⟨.inl hg0,E,rfl,fun i _=>by simp [Dr],by simp [Dr],fun d cs h1 n1=>?_,fun i e=>?_,fun i o' h2=>?_⟩
   ·obtain ⟨G,f1,rfl⟩:=f d cs h1;exact hρ d G f1 (fun e=>n1 (by rw [e]; rfl))
   ·exact (t6 e).2.2 rfl
   grind [Dr]
  ·cases h
 ·rw [bf] at hx;split at hx
  ·rename_i hdk;cases hx;refine (show RX (Dr c k g len cap (.cells cells U (0,0))) (.row g cap) k sz xs (a.tmps.getD d Go.undef) from ⟨cells,U,?_,⟨hlen',rfl,by omega,H⟩,?_,fun r hr=>?_,fun i r j y h1 h2=>?_⟩)
   ·simp [Dr]
   ·rw [hlen']; exact bH (bg _ hlc) H
   ·obtain ⟨i,hi⟩:=ct hr;obtain ⟨h1,h2⟩:=N i r hi;refine ⟨h1,fun y hy=>?_⟩;have:=h2 y hy;cases y <;> first | rfl | cases this
   ·obtain ⟨P,h4⟩:=F i r j y h1 h2;exact ⟨_,hcw _ _ P,h4.flatI ((N i r h1).2 y (aC h2))⟩
  ·rw [dO] at hx;obtain ⟨y,hy,rfl⟩:=aA.1 hx;have hf:=L d y hy;have h0:=hts d y hy;have h2:=hone y (a.tmps.getD d Go.undef) hf (by cases y <;> first | exact h0 | cases hf)
   cases y with
   | sl o _ _=>
    cases o with
    | id j=>simp only [jV] at h2 ⊢; cases hb2:Nat.beq j k <;> rw [hb2] at h2 <;> exact h2
    | _=>exact h2
   | _=>first | exact h2 | cases hf
theorem aI.unfrz {c} (m:Γ.m0.sub Γ.w0) (k n o:Nat) {sz} {xs} {cs0} (hk:Nat.blt k 5000000=true) (e:get s.b n=some cs0) (l:cs0[o]?=some (.sl (.id k) sz xs)) (f:Nat.blt 0 xs.length=true) (d:Nat.blt 0 sz=true)
  (j:(xs.all fun r=>Nat.beq r.length sz&&r.all flatI)=true) (u:(s.t.all fun p=>xT k p.2)=true) (v:(s.b.all fun p=>p.2.all (xT k))=true)
  (h:∀ g cap,aI Γ ⟨(xk k,.me (.row g cap) k sz xs)::jC (jV k (.slice (some ⟨g,0,none⟩) xs.length cap)) s.t,IU (jV k (.slice (some ⟨g,0,none⟩) xs.length cap)) s.b⟩ c K):aI Γ s c K:=
 ⟨fun a w q=>by
  obtain ⟨g,cap,i⟩:=q.unfrz m k n o (ah hk) e l (ah f) (ah d) j u v;exact (h g cap).out a w i⟩
theorem nm {c} (d j) {cs} {x} {v} (h1:get s.b d=some cs) (h2:cs[j]?=some (.lit v)) (hx:x.isCell=true) (B:RD Γ.m0 x v) (h:aI Γ ⟨s.t,(d,dB cs j x)::s.b⟩ c K):aI Γ s c K:=by
 refine ⟨fun a w A=>h.out a w ?_⟩;obtain ⟨⟨r,o,D⟩,E,z,n⟩:=A;have f:cs≠[]:=fun e=>by rw [e] at h2; simp at h2
 refine ⟨⟨r,o.rebox h1 f (fU _ _ _) (fun y hy=>?_) (fun vs q i y u hy hu=>?_),D⟩,E,z,n⟩
 ·obtain ⟨p,l⟩:=ct hy;rw [ez] at l;split at l
  ·cases l; exact hx
  ·exact (o.box d cs h1 f).2.2.1 y (aC l)
 ·rw [ez] at hy;split at hy
  ·rename_i hj;cases hy;have:=q _ (.lit v) u (hj.1 ▸ h2) hu;cases (show RD r.m (.lit v) u from this);exact fD.of_RD (B.mono o.le0)
  ·exact q i y u hy hu
end
def DU:AV->Value->AV
 | .sl _ _ _,v => .lit v
 | x,_=>x
theorem L5 {P} {T} (X:T.OK P) {f} {fn} {body} {cs} {r} (hf:P.funcs[f]?=some fn) (M:fn.body=some body)
  (b:(fn.name == "runtime.NumGoroutine")=false) (hm:P.follows .mixedOrders=true) (hn:1<=fn.ntmps)
  (h:∀ (F:Fence) (n:Nat) (w0:World) (m0:d5),cr.OK ⟨P,F,n,w0,m0,fn.ntmps⟩->F.round=none->1<=n->m0.sub w0->∀ us:List Value,us.length=cs.length->(∀ (i:Nat) (x:AV) (v:Value),cs[i]?=some x->us[i]?=some v->RD m0 x v) ->
   aI ⟨P,F,n,w0,m0,fn.ntmps⟩ ⟨[(0,.agg (List.zipWith DU cs us))],[]⟩ body (Ends T fn.results.toList r)):ar P f [.agg cs] r:=by
 refine ⟨jz hf b M,fun m w vs G q hlen hr=>?_⟩;have hG:cr.OK ⟨P,Fence.wide,1,w,m,fn.ntmps⟩:=⟨fun _=>trivial,rfl,rfl,hm,q,q.sub G⟩
 obtain ⟨v,rfl⟩:∃ v,vs=[v]:=by
  match vs,hlen with
  | [v],_=>exact ⟨v,rfl⟩
 have hv:=hr 0 _ v rfl rfl
 obtain ⟨us,rfl,hul,z,t⟩:∃ us:Array Value,v = .agg us/\cs.length=us.size/\(∀ x∈cs,x.isCell=true)/\∀ (i:Nat) (x:AV) (u:Value),cs[i]?=some x->us[i]?=some u->RD m x u:=by
  cases hv with
  | agg _ us hl hc h=>grind
 have o:RD m (.agg (List.zipWith DU cs us.toList)) (.agg us):=by
  refine .agg _ us (by grind) (fun x hx=>?_) fun i x u hx hu=>?_
  ·obtain ⟨i,hi⟩:=ct hx;rw [Cg] at hi;split at hi
   ·rename_i y u hy hu;cases hi;have:=z y (aC hy);cases y <;> first | exact this | rfl
   ·cases hi
  ·rw [Cg] at hx;split at hx
   ·rename_i y u' hy p;cases hx;rw [cU,hu] at p;cases p;have h1:=t i y u hy hu;have h2:=h1.one (z y (aC hy));cases y <;> first | exact h1 | exact .lit u h2.1 h2.2
   ·cases hx
 refine Wu.1 (tE (n:=1) hf M trivial ?_);have hp:=(h Fence.wide 1 w m hG rfl (ba _) G us.toList (by grind) fun i x u hx hu=>t i x u hx (by grind)).out;refine dm (hp _ w ⟨⟨_,nO (Γ:=⟨P,Fence.wide,1,w,m,fn.ntmps⟩) G rfl,fun d x hx=>?_⟩,by simp; omega,⟨[],rfl,fE,by simp⟩,fun _ h=>nomatch h⟩) ?_
 ·rw [bf] at hx;split at hx
  ·rename_i hd;cases hx;subst hd;refine RC.of_RD (c:=⟨_,_,_,m,_,_⟩) ?_;rw [aJ,c9 dc];simpa using o
  ·cases hx
 ·intro e a w' ⟨L,_,s',hI,⟨he,hR⟩⟩
  have j:LeavesInM Fence.wide 1 P fn a.tmps (fun e w'=>∃ v m',e = .returned v/\RD m' r v/\m.le m'/\d5.sub m' w'/\RowKit.Below w.heap.size w w'/\m.News (w.heap.size<=·) m' w'/\jk w w') a.defers .returning w':=by
   obtain ⟨⟨c,l,U⟩,_,⟨Ds,J,B,A⟩,_⟩:=hI;rw [J];refine uF Ds w' (l.ext.toBelow L) l.sub B (fun D N=>⟨(A D N).1,(A D N).2⟩) fun w2 h1 h2 Q Z=>?_;obtain ⟨v,E,H⟩:=pT (a:=a) X (l.keep (.ofBelow h1) h2 Q) U hR;exact ⟨v,E,v,c.m,rfl,H,l.le0,h2,h1,(l.new.unfree l.sub L).keep fun _ ⟨c,T,h⟩=>⟨c,T,Q _ _ h rfl⟩,L.more.trans Z⟩
  rcases he with rfl | rfl <;> exact j
open Go
def sF (n:Nat) (l:List Nat):List Nat:=(s8 n).filter (dn l)
theorem Qv {n} {l} {j} (h:n<=j->dn l j=false):dn (sF n l) j=dn l j:=by
 rw [e7];constructor
 ·intro g;exact (gF.1 (gq g)).2
 ·intro g;refine zQ (gF.2 ⟨qO.2 ?_,g⟩);grind
def eqL:List Nat->List Nat->Bool
 | [],[]=>true
 | a::r,b::s=>Nat.beq a b&&eqL r s
 | _,_=>false
theorem Uw:∀ {a b:List Nat},eqL a b=true->a=b
 | [],[],_=>rfl
 | a::r,b::s,h=>by
  simp only [eqL,al] at h;rw [ak h.1,Uw h.2]
def Mv (m:List Nat):List (List Nat)->List (List Nat)
 | []=>[m]
 | a::r=>bif eqL a m then a::r else a::Mv m r
theorem IQ (m:List Nat):∀ L,m∈Mv m L
 | []=>by simp [Mv]
 | a::r=>by
  simp only [Mv]
  cases h:eqL a m with
  | true=>rw [Uw h]; simp
  | false=>simp [IQ m r]
theorem qP {m x:List Nat}:∀ {L},x∈L->x∈Mv m L
 | a::r,h=>by
  simp only [Mv]
  cases eqL a m with
  | true=>exact h
  | false=>
   rcases bC.1 h with rfl | h
   ·simp
   ·simp [qP (m:=m) h]
def Yc (n:Nat) (m:List Nat):List Nat->List (List Nat)->List (List Nat)
 | [],L=>L
 | i::r,L=>Mv (sF n (i::m)) (Yc n m r L)
theorem xO {n:Nat} {m x:List Nat} {L:List (List Nat)} (h:x∈L):∀ l,x∈Yc n m l L
 | []=>h
 | _::r=>qP (xO h r)
theorem IS {n:Nat} {m:List Nat} {L:List (List Nat)} {i:Nat}:∀ {l},i∈l->sF n (i::m)∈Yc n m l L
 | j::r,h=>by
  rcases bC.1 h with rfl | h
  ·exact IQ _ _
  ·exact qP (IS h)
def TK (n:Nat) (all:List Oper):List (List Nat)->List (List Nat)
 | []=>[]
 | m::r=>Yc n m (iW m all 0) (TK n all r)
theorem CS {n:Nat} {all:List Oper} {m:List Nat} {i:Nat} (hi:i∈iW m all 0):∀ {L},m∈L->sF n (i::m)∈TK n all L
 | x::r,h=>by
  rcases bC.1 h with rfl | h
  ·exact IS hi
  ·exact xO (CS hi h) _
section
variable {Γ:cr} (hΓ:Γ.OK) {T:eX} (hT:T.OK Γ.P) {all:List Oper} {Q:Exit->Act->World->Prop} {w0:World} {a0:Act}
include hΓ hT in
theorem VW (guards) {K} {fuel} {listed} {s} (R:Nat->St->Prop) (H:∀ i s,i∈iW listed all 0->R i s->TB Γ all K fuel (i::listed) s) (h:match iW listed all 0 with
   | []=>K s
   | i::r=>Nq (i::r) fun i=>match qk all i with
    | none=>False
    | some o=>match j6 all s o with
     | 0=>DL T (ar Γ.P) (bW Γ.P) guards s o (R i)
     | 1=>fJ s o.dst .undef (R i)
     | _=>False):TB Γ all K (fuel+1) listed s:=by
 refine ⟨fun Q w0 a0 b D arr a w m y p F G=>?_⟩;refine ⟨fun U=>?_,fun i hi=>?_⟩
 ·split at h
  ·grind
  ·rename_i i r he;exfalso;have hm:i∈iW listed all 0:=by rw [he]; exact aW ..
   rw [iB] at hm;obtain ⟨o,_,h2,E,M⟩:=hm;have h2:all[i]?=some o:=by simpa using h2
   have q:i<all.length:=(aq.1 h2).1
   have:i∈Region.ready .any all.toArray arr:=by
    rw [gH];refine ⟨?_,o,by simpa using h2,fun e he B=>by grind⟩;rw [<- E,<- y,aJ,aJ,aE am];rfl
   grind
 ·have hm:=wC m y hi;split at h
  ·grind
  ·rename_i i0 r0 he;have l:=hm;rw [he] at hm;have h:=oH h i hm;rw [<- he,iB] at hm;obtain ⟨o,_,h2,E,M⟩:=hm;have h2:all[i]?=some o:=by simpa using h2
   have q:i<all.length:=(aq.1 h2).1;have c:∀ d,o.dst=some d->d<Γ.nt:=fun d n=>b i d (by rw [eK,h2]; exact n)
   have hA':∀ j,(arr.setIfInBounds i true).getD j false=dn (i::listed) j:=by
    intro j;rw [aJ,dx,dn];by_cases hj:i=j
    ·subst hj;rw [aV rfl,aV am]; simp
    ·rw [aY hj,<- aJ,y,show Nat.beq i j=false from by cases B:Nat.beq i j with | false=>rfl | true=>exact absurd (ak B) hj]; rfl
   rw [fp,h2] at h;simp only at h;rw [wpOpIn,show all.toArray[i]?=some o by simpa using h2];simp only;split at h
   ·rename_i z;rw [dC b p 0 z am];simp only [ei,cR];refine tk hΓ hT p c h ?_;intro s' J w' N A t v;exact (H i _ l N).out Q w0 a0 b D _ J w' (by simpa using m) hA' A (F.trans t) (G.trans ((FT.put v).mono fun d n=>iZ h2 n))
   ·rename_i z;rw [dC b p 1 z am];simp only [Nat.reduceBEq,br,cv];refine ⟨fun f _=>hΓ.fn f,?_⟩;obtain ⟨s2,x,u⟩:=fY p c h;exact (H i _ l x).out Q w0 a0 b D _ _ w (by simpa using m) hA' u F (G.trans ((FT.put ⟨_,rfl⟩).mono fun d n=>iZ h2 n))
   ·exact h.elim
end
section
variable {Γ:cr} {all:List Oper} {K:St->Prop} {fuel:Nat}
theorem Ym {l} {s s2} (hle:s.le s2) (h:TB Γ all K fuel (sF all.length l) s2):TB Γ all K fuel l s:=
 ⟨fun Q w0 a0 b f arr a w c i d m e=>h.out Q w0 a0 b f arr a w c (fun j=>by
  rw [Qv fun hj=>?_]
  ·exact i j
  grind) (d.less hle) m e⟩
structure Yl {X:Type} (sh:X->List Nat->St) (m:List Nat) (s:St):Prop where
 out:∃ x,s.le (sh x m)
structure LeB (s s':St):Prop where
 out:s.le s'
theorem Yl.go {X} {sh:X->List Nat->St} {m:List Nat} {s:St} (x:X) (h:goN m fun m=>(sh x m).go fun s'=>LeB s s'):Yl sh m s:=⟨x,by
 rw [D0,St.go_eq] at h; exact h.out⟩
structure TL (Γ:cr) (all:List Oper) (K:St->Prop) {X:Type} (sh:X->List Nat->St) (fuel:Nat) (L:List (List Nat)):Prop where
 out:∀ m∈L,∀ x,TB Γ all K fuel m (sh x m)
variable {X:Type} {sh:X->List Nat->St} {L:List (List Nat)}
theorem TL.start {s} (sh:X->List Nat->St) (x:X) (hle:s.le (sh x [])) (h:TL Γ all K sh fuel [[]]):TB Γ all K fuel [] s:=
 ⟨fun Q w0 a0 b e arr a w c j d i f=>(h.out [] dc x).out Q w0 a0 b e arr a w c j (d.less hle) i f⟩
theorem TL.done (m) (a:iW m all 0=[]) (h:∀ x,(sh x m).go K):TL Γ all K sh 0 [m]:=
 ⟨fun m' hm x=>by
  grind [St.go_eq,TB.done]⟩
inductive Cj {α:Type} (p:α->Prop):List α->Prop where
 | nil:Cj p []
 | cons {a:α} {r:List α} (h:p a) (t:Cj p r):Cj p (a::r)
theorem Cj.get {α} {p:α->Prop} {l:List α} (h:Cj p l):∀ x∈l,p x:=by
 induction h with
 | nil=>intro x hx; cases hx
 | cons h _ a=>
  grind
def Yk (T:eX) (C:FuncId->List AV->AV->Prop) (E:vV) (all:List Oper) (guards:List Nat) (sh:X->List Nat->St) (m:List Nat) (x:X) (i:Nat):Prop:=match qk all i with
  | none=>False
  | some o=>(sh x m).go fun s0=>match j6 all s0 o with
   | 0=>DL T C E guards s0 o fun s=>Yl sh (sF all.length (i::m)) s
   | 1=>fJ s0 o.dst .undef fun s=>Yl sh (sF all.length (i::m)) s
   | _=>False
structure TLm (T:eX) (C:FuncId->List AV->AV->Prop) (E:vV) (all:List Oper) (guards:List Nat) (sh:X->List Nat->St) (m:List Nat):Prop where
 out:∃ i r,iW m all 0=i::r/\Cj (fun i=>∀ x,Yk T C E all guards sh m x i) (i::r)
theorem TLm.mk' {T} {C} {E} {guards} {m} (i) (r) (a:iW m all 0=i::r) (h:Cj (fun i=>∀ x,Yk T C E all guards sh m x i) (i::r)):TLm T C E all guards sh m:=⟨i,r,a,h⟩
theorem TL.step (hΓ:Γ.OK) {T} (hT:T.OK Γ.P) (guards) (L') (n:TK all.length all L=L') (h:Cj (fun m=>TLm T (ar Γ.P) (bW Γ.P) all guards sh m) L) (c:TL Γ all K sh fuel L'):TL Γ all K sh (fuel+1) L:=by
 subst n;refine ⟨fun m hm x=>VW hΓ hT guards (fun i s=>Yl sh (sF all.length (i::m)) s) (fun _ _ hi ⟨f,hle⟩=>Ym hle (c.out _ (CS hi hm) f)) ?_⟩;obtain ⟨i,r,b,h⟩:=h.get m hm;rw [b]
 have a:∀ l:List Nat,(∀ j∈l,Yk T (ar Γ.P) (bW Γ.P) all guards sh m x j)->Nq l fun i=>match qk all i with
    | none=>False
    | some o=>match j6 all (sh x m) o with
     | 0=>DL T (ar Γ.P) (bW Γ.P) guards (sh x m) o fun s=>Yl sh (sF all.length (i::m)) s
     | 1=>fJ (sh x m) o.dst .undef fun s=>Yl sh (sF all.length (i::m)) s
     | _=>False:=by
  intro l
  induction l with
  | nil=>intro _; trivial
  | cons j r e=>
   intro g;have g1:=g j dc;have g2:=e fun q d=>g q (by simp [d]);unfold Yk at g1;simp only [St.go_eq] at g1
   cases r with
   | nil=>exact g1
   | cons q r=>exact ⟨g1,g2⟩
 exact a _ fun j hj=>h.get j hj x
end
open Go Go.ChangeShapes Go.WideShapes Go.RowKit
theorem TV {H} {enc:TypeId×Value->H} {C} {os} {f} {fn} {s} {conds} {fresh handsOn again} {n} {sh} {tb} {laid}
  (own:ownKnob C.prog.godebug=none) (c:os.Started) (m:C.prog.inits.idxOf? f=none) (Z:C.prog.funcs[f]?=some fn)
  (l:∃ (w:World) (tape:Tape) (i:Input),w.os=os/\(w.forCall tape i).Shaped C.prog/\i.vars=[]/\Input.okWide C.prog (w.forCall tape i) .any w.heap.size f i /\
   ((s.pre enc C.prog fn conds false (w.forCall tape i).memory i.args/\laidMetH C.prog laid (w.forCall tape i).memory)/\sizedMet enc C.prog fn (OpenSpec.ofChange s) false (w.forCall tape i).memory i.args)/\({}:Assume).holds C.prog (lone (Frame.enter C.prog f i.args .normal) [] (w.forCall tape i)))
  (a:s.vars=[]) (o:fn.resultTypes=#[tb]) (B:C.prog.underlying tb=some .bool)
  (A:∀ ds:List (DataW H),ds.length=fn.params.size->s.fn H ds={ results:=[.lit (.bool true)],args:=ds })
  (Q:o5 C.prog n fn.params.toList=some sh) (hl:laidOutB C.prog=true) (z:∀ t∈fn.params.toList,C.prog.readableRec t=true/\t<C.prog.types.size)
  (G:∀ W,laidMetH C.prog laid W->(gu C.prog).le (k9 W)) (law:∀ avs,vT n sh avs->ar C.prog f avs (.bool true)) :
  ReturnsInHanded {} C os f .any (fun w args=>(s.pre enc C.prog fn conds false w args/\laidMetH C.prog laid w)/\sizedMet enc C.prog fn (OpenSpec.ofChange s) false w args) (s.post enc C.prog fn false fresh handsOn again):=by
 refine returnsInHanded_of_change_and (X:=fun w _=>laidMetH C.prog laid w) (fun _ _ _ hh h=>h.of_heap hh) own c m Z l ?_;intro W base args ds gs before D L _ _ hL _;have hW':=L;have u:=L.lt;obtain ⟨p,q,M,hV,rfl,E,hnd⟩:=L;rw [a] at hV;obtain ⟨rfl,rfl⟩:=trodVars_none hV;simp only [bV] at hW' u E;obtain ⟨avs,h1,h2,h3⟩:=PI fn.params.toList sh Q args.toList ds p M (fun j t v g1 g2=>D j t v (by simpa using g1) (by simpa using g2));have hc:=(law avs h1).2 (k9 W) W args.toList (Qu W) (G W hL) h2 h3;refine hc.mono ?_;rintro e J ⟨v,m',rfl,N,_,_,d,_⟩;have hv:v = .bool true:=by cases N; rfl
 subst hv;refine ⟨_,rfl,?_⟩;have F:ds.length=fn.params.size:=by have:=(Go.trodAll_length M).2; simpa using this
 have U:=A ds F
 have hres':∀ (b:Nat) (sp:Nat->Bool) (hd:Bool),DataW.TrodAll enc C.prog J b sp hd fn.resultTypes.toList ((Value.bool true).resultList fn.resultTypes.size) [.lit (.bool true)] []:=fun b sp hd=>by
  rw [o]; exact trodAll_mk1 (shut_bool B true)
 have y:∀ sp:Nat->Bool,(∀ x∈p,sp x.block=true)->DataW.TrodAll enc C.prog J 0 sp true fn.params.toList args.toList ds p:=fun sp hs=>C8 hl d z M u hs;have P:∀ (j:Nat) (t:TypeId) (r:Value),fn.resultTypes[j]?=some t->((Value.bool true).resultList fn.resultTypes.size)[j]?=some r->Value.okWide C.prog J .any 0 t r:=ok_one o rfl (okWide_bool_mk B true);refine ⟨ds,[],p,[],p,[],hW',?_,?_,?_,World.keptBut_mono (fun x hx=>⟨hx,.inr (.inl hx)⟩) (d.frame (·∈p)),fun _=>⟨P,.lit (.bool true)::ds,[],p,⟨p,[],?_,?_,by simp,?_,fun hc=>Bool.noConfusion hc⟩,fun x hx _=>hx⟩⟩
 ·grind
 ·grind
 ·rw [bV,U,a]; rfl
 ·have:=trodAll_append (y (fun _=>true) fun _ _=>rfl) (hres' 0 (fun _=>true) true);simpa using this
 ·rw [a]; rfl
 ·intro b off hp;rw [d.frozen (u _ hp)];exact E b off hp
theorem IX {P:Program} {w:World} {n:String} {d:DataW Unit}:∀ {l:List (String×DataW Unit)} {ps:List MemPlace},DataW.LaidVars P w l ps->(n,d)∈l ->
  ∃ g t cs fuel p,P.globalNamed n=some g/\(P.globals[g]?).map (·.type)=some t/\w.var? P n=some cs/\DataW.trod (fun _=>()) P w 0 (fun _=>true) false fuel t cs.toList=some (d,p)
 | [],_,_,h=>nomatch h
 |(_,_)::r,ps,hl,h=>by
  obtain ⟨g,t,cs,fuel,p,q,h1,h2,a,b,c,_⟩:=hl;rcases bC.1 h with e | h
  ·cases e;exact ⟨g,t,cs,fuel,p,h1,h2,a,b⟩
  ·exact IX c h
theorem XC {P} {laid} {g t e} (w:P.globalNamed "math/bits.deBruijn64tab" = some g) (u:(P.globals[g]?).map (·.type)=some t) (F:∀ b x,P.globals[b]?=some x->(x.name == "math/bits.deBruijn64tab")=true->b=g)
  (hu:P.underlying t=some (.array 64 e)) (he:P.underlying e=some (.int .u8)) (G:P.cellsOf e=1) (E:(laid.all fun x=>x.2.handleName?.isNone)=true)
  (i:("math/bits.deBruijn64tab",DataW.agg (Lib.deBruijn64tab.map fun (n:Nat)=>DataW.lit (.int .u8 (n:Int))))∈laid) (W) (h:laidMetH P laid W):(gu P).le (k9 W):=by
 rw [MakeChecks.laidMetH_plain _ _ _ E] at h;obtain ⟨ps,hl,_⟩:=h;obtain ⟨L,H,cs,fuel,p,h1,h2,D,y⟩:=IX hl i;obtain rfl:=iK (w.symm.trans h1);obtain rfl:=iK (u.symm.trans h2);obtain ⟨xs,m,_,hx,hlen,B,l⟩:=DataW.trod_array hu y;refine ⟨fun b o v hv=>?_,fun b x hx=>nomatch hx⟩;unfold gu at hv;dsimp only at hv
 cases j:P.globals[b]? with
 | none=>rw [j] at hv; cases hv
 | some q=>
  rw [j] at hv;simp only at hv
  cases d:q.name == "math/bits.deBruijn64tab" with
  | false=>rw [d] at hv; cases hv
  | true=>
   rw [d] at hv;obtain rfl:=F b q j d;simp only [aP] at hv
   cases c:Lib.deBruijn64tab[o]? with
   | none=>rw [c] at hv; cases hv
   | some n=>
   rw [c] at hv;obtain rfl:Value.int .u8 (n:Int)=v:=iK hv;have A:o<64:=(aq.1 c).1;have hi:=l o A;rw [G,nw] at hi;have f:xs[o]?=some xs[o]:=ai am;rw [f] at hi;obtain ⟨k,M,z,_⟩:=DataW.trod_int he hi
   have hm:(xs.map (·.1))[o]?=some (.lit (.int .u8 (n:Int))):=by
    simp only [ew,DataW.agg.injEq] at hx;rw [<- hx.1,aT,c]; rfl
   rw [aT,f,z] at hm;have hk:k=(n:Int):=by simpa using hm
   subst hk;have:=World.var?_cell h1 D o;show W.cell? ⟨b,o,none⟩=_;rw [this,<- cU]
   have i:(cs.toList.drop o).head?=some (.int .u8 (n:Int)):=by
    cases J:cs.toList.drop o with
    | nil=>grind
    | cons a r=>grind
   rwa [Bi] at i
open Go
def pz:List (Nat×List AV)->List Nat->List (Nat×List AV)
 | [],_=>[]
 |(d,cs)::r,l=>bif dn l d then pz r l else match cs with
  | []=>pz r (d::l)
  | c::cs=>(d,c::cs)::pz r (d::l)
theorem pw:∀ {b:List (Nat×List AV)} {l:List Nat} {d:Nat} {cs:List AV},get (pz b l) d=some cs->dn l d=false/\get b d=some cs
 | [],_,_,_,h=>nomatch h
 |(k,xs)::r,l,d,cs,h=>by
  have key:get (pz r (k::l)) d=some cs->dn l d=false/\get ((k,xs)::r) d=some cs:=fun h=>by
   obtain ⟨h1,h2⟩:=pw h
   have a:Nat.beq k d=false:=by
    cases e:Nat.beq k d with
    | false=>rfl
    | true=>rw [<- ak e,dH.2 aW] at h1; cases h1
   refine ⟨?_,by simp only [get,a]; exact h2⟩
   cases hm:dn l d with
   | false=>rfl
   | true=>rw [dH.2 (aS _ (dH.1 hm))] at h1; cases h1
  unfold pz at h
  cases hk:dn l k with
  | true=>
   rw [hk] at h;obtain ⟨h1,h2⟩:=pw (show get (pz r l) d=some cs from h)
   have a:Nat.beq k d=false:=by
    cases e:Nat.beq k d with
    | false=>rfl
    | true=>rw [<- ak e,hk] at h1; cases h1
   exact ⟨h1,by simp only [get,a]; exact h2⟩
  | false=>
   rw [hk] at h
   cases xs with
   | nil=>exact key h
   | cons x xs=>
    simp only [bq,get] at h
    cases e:Nat.beq k d with
    | true=>
     rw [e] at h;rw [<- ak e];exact ⟨hk,by simpa [get] using h⟩
    | false=>rw [e] at h; exact key h
def St.cb (s:St):St:=⟨s.t,pz s.b []⟩
theorem St.cb_le (s:St):s.le s.cb:=⟨fun _ _ h=>h,fun _ _ h _=>(pw h).2⟩
def ZG (n:Int) (K:Int->Prop):Prop:=match n with
 | .ofNat 0=>K (.ofNat 0)
 | .ofNat (m+1)=>K (.ofNat (m+1))
 | .negSucc 0=>K (.negSucc 0)
 | .negSucc (m+1)=>K (.negSucc (m+1))
theorem XG (n) (K):ZG n K=K n:=by unfold ZG; split <;> rfl
def AV.frc1 (v:AV) (K:AV->Prop):Prop:=match v with
 | .int k n=>ZG n fun n=>K (.int k n)
 | .bool b=>match b with
  | true=>K (.bool true)
  | false=>K (.bool false)
 | v=>v.go1 K
theorem tU (v) (K:AV->Prop):v.frc1 K=K v:=by
 cases v with
 | int k n=>exact XG n fun n=>K (.int k n)
 | bool b=>cases b <;> rfl
 | _=>rfl
def zT {α:Type} (f:α->(α->Prop)->Prop):List α->(List α->Prop)->Prop
 | [],K=>K []
 | v::r,K=>f v fun v=>zT f r fun r=>K (v::r)
theorem mn {α:Type} {f:α->(α->Prop)->Prop} (h:∀ v K,f v K=K v):∀ (l:List α) (K:List α->Prop),zT f l K=K l
 | [],_=>rfl
 | v::r,K=>by rw [zT,h,mn h r]
def AV.frc2 (v:AV) (K:AV->Prop):Prop:=match v with
 | .sl o sz xs=>zT (zT AV.frc1) xs fun xs=>K (.sl o sz xs)
 | v=>v.frc1 K
theorem lm (v) (K:AV->Prop):v.frc2 K=K v:=by
 cases v with
 | sl o sz xs=>exact mn (mn tU) xs fun xs=>K (.sl o sz xs)
 | int k n=>exact tU (.int k n) K
 | bool b=>exact tU (.bool b) K
 | _=>rfl
def AV.frc (v:AV) (K:AV->Prop):Prop:=match v with
 | .agg cs=>zT AV.frc2 cs fun cs=>K (.agg cs)
 | .me g k n xs=>match g with
  | .ents=>K (.me .ents k n xs)
  | g=>zT (zT AV.frc2) xs fun xs=>K (.me g k n xs)
 | v=>v.frc2 K
theorem AV.frc_eq (v) (K:AV->Prop):v.frc K=K v:=by
 cases v with
 | agg cs=>exact mn lm cs fun cs=>K (.agg cs)
 | me g k n xs=>cases g <;> first | rfl | exact mn (mn lm) xs fun xs=>K (.me _ k n xs)
 | int k n=>exact lm (.int k n) K
 | bool b=>exact lm (.bool b) K
 | sl o sz xs=>exact lm (.sl o sz xs) K
 | _=>rfl
def St.frc (s:St) (K:St->Prop):Prop:=match s with
 | ⟨t,b⟩=>zT (fun p K=>match p with | (k,v)=>v.frc fun v=>K (k,v)) t fun t=>zT (fun p K=>match p with | (k,cs)=>zT AV.frc2 cs fun cs=>K (k,cs)) b fun b=>K ⟨t,b⟩
theorem St.frc_eq (s) (K:St->Prop):s.frc K=K s:=by
 obtain ⟨t,b⟩:=s;exact (mn (fun ⟨k,v⟩ K=>AV.frc_eq v fun v=>K (k,v)) t _).trans (mn (fun ⟨k,v⟩ K=>mn lm v fun v=>K (k,v)) b fun b=>K ⟨t,b⟩)
def rnd (Γ:cr) (c:Code) (K:Exit->St->Prop):Nat->St->Prop
 | 0,_=>False
 | n+1,s=>aI Γ s c fun e s'=>match e with | .normal=>s'.cb.frc fun s'=>rnd Γ c K n s' | e=>K e s'
section
variable {Γ:cr} {s:St} {c:Code} {K:Exit->St->Prop}
theorem aI.unroll (n) (h:rnd Γ c K n s):aI Γ s (.loop c) K:=by
 refine aI.loop (X:=Nat×St) (fun x=>x.2) (fun x=>rnd Γ c K x.1 x.2) (fun x=>x.1) (n,s) h (.refl s) fun x hx=>?_;obtain ⟨n,s⟩:=x
 cases n with
 | zero=>exact hx.elim
 | succ n=>exact ⟨SP.mono (aI.out hx) fun e s' h=>by cases e <;> first | exact ⟨(n,s'.cb),by rwa [St.frc_eq] at h,lP n,s'.cb_le⟩ | exact h⟩
def Zh {ι α:Type} (Y:YM ι α) (c:Code) (K:Exit->s4 ι->St->Prop):Nat->s4 ι->St->Prop
 | 0,_,_=>False
 | n+1,g,s=>ir Y g s c fun e g s'=>match e with | .normal=>s'.cb.frc fun s'=>Zh Y c K n g s' | e=>K e g s'
theorem ir.unroll {ι α} {Y:YM ι α} {g} {s} {c} {K} (n) (h:Zh Y c K n g s):ir Y g s (.loop c) K:=by
 refine ir.loop (X:=Nat×s4 ι×St) (fun x=>x.2) (fun x=>Zh Y c K x.1 x.2.1 x.2.2) (fun x=>x.1) (n,g,s) h rfl (.refl s) fun x hx=>?_;obtain ⟨n,g,s⟩:=x
 cases n with
 | zero=>exact hx.elim
 | succ n=>exact ir.mono hx fun e a s' h=>by cases e <;> first | exact ⟨(n,a,s'.cb),by rwa [St.frc_eq] at h,lP n,rfl,s'.cb_le⟩ | exact h
theorem jL {a b} (h:∀ Z:St->Prop,(∀ s',aI Γ s' b K->Z s')->aI Γ s a fun e s'=>match e with | .normal=>Z s' | e=>K e s'):aI Γ s (.seq a b) K:=aI.seq (h _ fun _ h=>h)
theorem aad (e0) (S) (h:aI Γ s c fun e s'=>e=e0/\s'.le S) (k:K e0 S):aI Γ s c K:=by
 refine ⟨fun a w b=>dm (h.out a w b) fun e j w' ⟨h1,h2,s',d,f,i⟩=>?_⟩;subst f;exact ⟨h1,h2,S,d.less i,k⟩
theorem rE (d) (_:s.tmp d = .loc d 0) (h:BE [.tmp d] s fun s' _=>aI Γ s' c K):aI Γ s c K:=jj [.tmp d] h
theorem aae (h:∀ Z:Exit->St->Prop,(∀ e s',K e s'->Z e s')->aI Γ s c Z):aI Γ s c K:=h K fun _ _ h=>h
def CQ (a:List Nat):List (Nat×List AV)->List (Nat×List AV)
 | []=>[]
 |(d,cs)::r=>bif dn a d then (d,cs)::CQ a r else CQ a r
theorem wF {e:List Nat}:∀ {b:List (Nat×List AV)} {d:Nat} {cs:List AV},get (CQ e b) d=some cs->dn e d=true/\get b d=some cs
 | [],_,_,h=>nomatch h
 |(k,xs)::r,d,cs,h=>by
  unfold CQ at h
  cases hk:dn e k with
  | true=>
   rw [hk] at h;simp only [aP,get] at h ⊢
   cases a:Nat.beq k d with
   | true=>rw [a] at h; rw [<- ak a]; exact ⟨hk,h⟩
   | false=>rw [a] at h; exact wF h
  | false=>
   rw [hk] at h;obtain ⟨h1,h2⟩:=wF (show get (CQ e r) d=some cs from h)
   have f:Nat.beq k d=false:=by
    cases a:Nat.beq k d with
    | false=>rfl
    | true=>rw [ak a] at hk; rw [hk] at h1; cases h1
   exact ⟨h1,by simp only [get,f]; exact h2⟩
def mg (a:List Nat) (s:St):St:=⟨a.map fun k=>(k,s.tmp k),CQ a (pz s.b [])⟩
def T8 (a:List Nat) (s:St):Bool:=a.all fun k=>(get s.t k).isSome
theorem up {ks} {s} (h:T8 ks s=true):s.le (mg ks s):=by
 refine ⟨fun d x hx=>?_,fun _ _ h _=>(pw (wF h).2).2⟩
 induction ks with
 | nil=>cases hx
 | cons k r b=>
  simp only [T8,qj,al] at h;simp only [mg,cp,get] at hx
  cases a:Nat.beq k d with
  | true=>
   rw [a] at hx;rw [<- ak a];cases hx;obtain ⟨y,hy⟩:=mE.1 h.1;rw [St.tmp,hy]
  | false=>rw [a] at hx; exact b h.2 hx
theorem mT (ks) (s):f7 (mg ks s).t=ks:=by
 unfold mg
 induction ks with
 | nil=>rfl
 | cons k r a=>exact ax (k::·) a
def Zg {α:Type} (Γ:cr) (avs:α->List AV) (ps:List Nat) (assign body:Code) (K:Exit->St->Prop) (f:List Nat):List α->St->Prop
 | [],s=>K .normal s
 | x::r,s=>∀ (d:Fence) (a:Nat) (m':d5),cr.OK ⟨Γ.P,d,a,Γ.w0,m',Γ.nt⟩->a=Γ.n - 1 - 1->aI ⟨Γ.P,d,a,Γ.w0,m',Γ.nt⟩ ⟨Bk ps (avs x)++s.t,s.b⟩ assign fun e s1=>e = .normal/\s1.le s /\
   aI ⟨Γ.P,d,a,Γ.w0,m',Γ.nt⟩ s1 body fun e s2=>T8 f s2=true/\(mg f s2).frc fun q=>match e with
    | .normal=>Zg Γ avs ps assign body K f r q
    | .ret=>K .ret q
    | .exit id=>K (.exit id) q
    | _=>False
theorem il (D:Γ.OK) (h1:1<=Γ.n) {g} {ps:Array Tmp} {assign body:Code} {α:Type} (avs:α->List AV)
  {f:FuncId} {cap:List AV} {items:List α} (a:List Nat) (A:ev s g = .clo f cap) (i:jA Γ.P avs f cap items) (m:∀ x,(avs x).length=ps.size)
  (hk:(nb a (p0 assign++(p0 body++ps.toList))&&nb a [1000000000]&&nb [1000000000] (p0 assign)&&(ps.toList.all fun p=>Nat.blt p Γ.nt))=true) (u:ps.toList.Nodup) (E:T8 a s=true)
  (h:(mg a s).frc fun q=>Zg Γ avs ps.toList assign body K a items q):aI Γ s (.rangeFunc g ps assign body) K:=by
 rw [St.frc_eq] at h;refine ⟨xr D h1 avs A i m (X:=St) (fun p q=>f7 q.t=a/\∃ r,items=p++r/\Zg Γ avs ps.toList assign body K a r q) (fun _ q=>bif decide (f7 q.t=a) then q.t else (mg a ⟨[],[]⟩).t) a (fun p q=>?_) (fun _ q=>q.b) (mg a s) ⟨mT _ _,items,rfl,h⟩ ?_ hk u ?_ ?_⟩
 ·cases d:decide (f7 q.t=a) with
  | true=>exact aF d
  | false=>exact mT a ⟨[],[]⟩
 ·simp only [show decide (f7 (mg a s).t=a)=true from bP (mT _ _),aP];exact up E
 ·rintro B y m' z _ F pre x q ⟨r0,w⟩ ⟨j,r,o,v⟩;simp only [show decide (f7 q.t=a)=true from bP j,aP];have he:r=x::r0:=abD (o.symm.trans w);subst he;refine SP.mono (v B y m' z F).out fun e s1 ⟨g1,g2,g3⟩=>⟨g1,g2,SP.mono g3.out fun e s2 ⟨k1,k2⟩=>?_⟩;rw [St.frc_eq] at k2;have d:decide (f7 (mg a s2).t=a)=true:=bP (mT _ _)
  cases e with
  | normal=>exact ⟨mg a s2,⟨mT _ _,r0,by rw [w]; simp,k2⟩,by simp only [d]; exact up k1⟩
  | ret=>exact ⟨mg a s2,(mg a s2).b,by simp only [d]; exact up k1,by simp only [d]; exact k2⟩
  | exit id=>exact ⟨mg a s2,(mg a s2).b,by simp only [d]; exact up k1,by simp only [d]; exact k2⟩
  | goto l=>exact k2.elim
  | panic G=>exact k2.elim
  | outgrown=>exact k2.elim
 ·rintro p q rfl ⟨j,r,o,v⟩;simp only [show decide (f7 q.t=a)=true from bP j,aP];have:r=[]:=abD (o.symm.trans (bV p).symm);subst this;exact v
end
theorem xF {α β γ δ:Type} {A B C D:α->β->γ->δ->Prop} {a} {b} {c} {d} (h:C a b c d) (k:D a b c d) (f:A a b c d:=by kernel_rfl) (e:B a b c d:=by kernel_rfl):∃ a b c d,(A a b c d/\B a b c d/\C a b c d)/\D a b c d:=⟨a,b,c,d,⟨f,e,h⟩,k⟩
theorem yC {t:List (Nat×AV)} {b n} {sk} {kv} {K:Nat->List (List Int×AV)->List Int->Prop} (k) (l) (key) (h:get t (xk k)=some (.me .ents k b (gp sk l))) (a:K k l key) (hk:kv=keyE sk key:=by rfl) (d:key.length=n:=by rfl) (hl:∀ p∈l,p.1.length=n:=by decide) :
  ∃ (k:Nat) (l:List (List Int×AV)) (key:List Int),(get t (xk k)=some (.me .ents k b (gp sk l))/\kv=keyE sk key/\key.length=n/\∀ p∈l,p.1.length=n)/\K k l key:=⟨k,l,key,⟨h,hk,d,hl⟩,a⟩
theorem YL {t:List (Nat×AV)} {b n} {sk} {kv} {K:Option AV->Prop} (k) (l) (key) (h:get t (xk k)=some (.me .ents k b (gp sk l))) (a:K (mr key l)) (hk:kv=keyE sk key:=by rfl) (d:key.length=n:=by rfl) (hl:∀ p∈l,p.1.length=n:=by decide) :
  ∃ (k:Nat) (l:List (List Int×AV)) (key:List Int) (g:Option AV),(get t (xk k)=some (.me .ents k b (gp sk l))/\kv=keyE sk key/\key.length=n/\(∀ p∈l,p.1.length=n)/\mr key l=g)/\K g:=⟨k,l,key,_,⟨h,hk,d,hl,rfl⟩,a⟩
open Go
theorem cZ {A B} (h:B):(false=true->A)/\(false=false->B):=aa (fun g=>Bool.noConfusion g) (fun _=>h)
theorem cY {A B} (h:A):(true=true->A)/\(true=false->B):=aa (fun _=>h) (fun g=>Bool.noConfusion g)
theorem ed {A B} (h:B) (k:A:=by kernel_rfl):A/\B:=aa k h
theorem gdF {a} {A B} (n:a=false->False) (h:a=true->A):(a=true->A)/\(a=false->B):=aa h fun g=>(n g).elim
theorem gdT {a} {A B} (n:a=true->False) (h:a=false->B):(a=true->A)/\(a=false->B):=aa (fun g=>(n g).elim) h
theorem dF {P} [Decidable P] (h:P) (e:decide P=false):False:=aR e h
theorem dT {P} [Decidable P] (h:¬P) (e:decide P=true):False:=h (aF e)
theorem RF {p:Prop} (h:p:=by repeat' (first | exact trivial | refine aa rfl ?_)):p:=h
theorem nxt {n:Nat} (h:n<9223372036854775807):AV.int .i64 (IntKind.i64.wrap ((n:Int)+1))=AV.int .i64 ((n+1:Nat):Int):=ax _ (by rw [qx]; omega)
theorem wrI {n m} (h:-9223372036854775808<=n) (k:n<=9223372036854775807) (e:n=m):IntKind.i64.wrap n=m:=by rw [qx]; omega
theorem LE {s s':St} (h:leT s.t s'.t:=by repeat' (first | exact trivial | refine aa rfl ?_ | refine aa (ax some (nxt am)) ?_ | refine aa (ax (fun z=>some (AV.int .i64 z)) (wrI am am am)) ?_)) (k:leT s.b s'.b:=by repeat' (first | exact trivial | refine aa rfl ?_)):s.le s':=St.le.of h k
inductive KP (k:List Nat):Prop | mk
def WR:Code->Bool
 | .skip=>true
 | .label _=>true
 | .ret=>true
 | .exit _=>true
 | .block _ _=>true
 | .seq _ _=>true
 | .cond _ _ _=>true
 | .region _ _ _=>true
 | _=>false
def aaC:Code->Bool
 | .seq _ _=>false
 | c=>WR c
def stC (Γ:cr) (T:eX) (keep es:List Nat) (s:St) (K:Exit->St->Prop):Code->Prop
 | .skip=>K .normal s
 | .label _=>K .normal s
 | .ret=>K .ret s
 | .exit j=>K (.exit j) s
 | .block id c=>aI Γ s c fun e s'=>match e with
  | .exit j=>bif Nat.beq j id then K .normal s' else K (.exit j) s'
  | e=>K e s'
 | .seq a b=>aI Γ s a fun e s'=>match e with | .normal=>aI Γ s' b K | e=>K e s'
 | .cond c x y=>match ev s c with
  | .bool t=>(t=true->aI Γ s x K)/\(t=false->aI Γ s y K)
  | _=>False
 | .region id ops true=>dL Γ.nt (.region id ops true)=true/\rV T (ar Γ.P) (bW Γ.P) (es.map (3000000000+·)) keep ops.toList s (K .normal)
 | .region id ops false=>dL Γ.nt (.region id ops false)=true/\li T (ar Γ.P) (bW Γ.P) ops.toList (es.map (3000000000+·)++dI ops.toList ops.toList) ops.toList s fun s'=>gt keep s' (K .normal)
 | _=>False
theorem QE {Γ} {T} {s} {K} {c} {keep} (es) (hc:WR c=true) (hΓ:Γ.OK) (hT:T.OK Γ.P) (_:KP keep) (h:stC Γ T keep es s K c):aI Γ s c K:=by
 cases c with
 | skip=>exact ip hΓ hT [] rfl h
 | label l=>exact ip hΓ hT [] rfl h
 | ret=>exact ip hΓ hT [] rfl h
 | exit j=>exact ip hΓ hT [] rfl h
 | block id c=>exact aI.block h
 | seq a b=>exact aI.seq h
 | cond c x y=>
  simp only [stC] at h;split at h
  ·rename_i t ht; exact aI.cond ht h
  ·exact h.elim
 | region id ops d=>
  cases d with
  | true=>exact dh hΓ hT keep es h.1 h.2
  | false=>exact dJ hΓ hT keep es h.1 h.2
 | _=>cases hc
theorem QS {Γ} {T} {s} {K} {c} {keep} (hc:WR c=true) (hΓ:Γ.OK) (hT:T.OK Γ.P) (kp:KP keep) (h:stC Γ T keep [] s K c):aI Γ s c K:=QE [] hc hΓ hT kp h
theorem QN {Γ} {T} {s} {K} {c} {keep} (hc:aaC c=true) (hΓ:Γ.OK) (hT:T.OK Γ.P) (kp:KP keep) (h:stC Γ T keep [] s K c):aI Γ s c K:=QE [] (by cases c <;> first | exact hc | cases hc) hΓ hT kp h
theorem QF {Γ} {T} {s} {K} {c} {keep} (es) (hc:aaC c=true) (hΓ:Γ.OK) (hT:T.OK Γ.P) (kp:KP keep) (h:stC Γ T keep es s K c):aI Γ s c K:=QE es (by cases c <;> first | exact hc | cases hc) hΓ hT kp h
theorem xE {α β γ δ ε:Type} {A B C D:α->β->γ->δ->ε->Prop} {a} {b} {c} {d} {e} (h:C a b c d e) (k:D a b c d e) (hA:A a b c d e:=by kernel_rfl) (hB:B a b c d e:=by kernel_rfl):∃ a b c d e,(A a b c d e/\B a b c d e/\C a b c d e)/\D a b c d e:=⟨a,b,c,d,e,⟨hA,hB,h⟩,k⟩
def stM {ι α:Type} (Y:YM ι α) (T:eX) (keep:List Nat) (g:s4 ι) (s:St) (K:Exit->s4 ι->St->Prop):Code->Prop
 | .skip=>K .normal g s
 | .label _=>K .normal g s
 | .ret=>K .ret g s
 | .exit j=>K (.exit j) g s
 | .block id c=>ir Y g s c fun e g s=>match e with | .exit j=>bif Nat.beq j id then K .normal g s else K (.exit j) g s | e=>K e g s
 | .seq a b=>ir Y g s a fun e g' s'=>match e with | .normal=>ir Y g' s' b K | e=>K e g' s'
 | .cond c x y=>match ev s c with
  | .bool t=>(t=true->ir Y g s x K)/\(t=false->ir Y g s y K)
  | _=>False
 | .region id ops false=>dL Y.nt (.region id ops false)=true/\pD Y T ops.toList (dI ops.toList ops.toList) ops.toList g s fun g s=>gt keep s (K .normal g)
 | _=>False
theorem QM {ι α} {Y:YM ι α} {T} {keep} {g} {s} {K} {c} (hc:WR c=true) (hY:Y.OK) (hT:T.OK Y.P) (_:KP keep) (h:stM Y T keep g s K c):ir Y g s c K:=by
 cases c with
 | skip=>exact ir.skip h
 | label l=>exact ir.label h
 | ret=>exact ir.ret h
 | exit j=>exact ir.exit h
 | block id c=>exact ir.block h
 | seq a b=>exact ir.seq h
 | cond c x y=>
  simp only [stM] at h;split at h
  ·rename_i t ht; exact ir.cond ht h
  ·exact h.elim
 | region id ops d=>
  cases d with
  | true=>exact h.elim
  | false=>exact ir.reg hY hT keep h.1 h.2
 | _=>cases hc
theorem OQ {Γ} {T} {s} {K} {id} {ops} {keep} {M} (hΓ:Γ.OK) (hT:T.OK Γ.P) (hM:∀ t,M t->Bc Γ.P t) (_:KP keep) (ho:dL Γ.nt (.region id ops false)=true)
  (h:rU T (ar Γ.P) M ops.toList (dI ops.toList ops.toList) ops.toList s fun s'=>gt keep s' (K .normal)):aI Γ s (.region id ops false) K:=nl hΓ hT hM keep ho h
end Go.AI
namespace Go.Proofs
open Go Go.AI
def jT:eX:=[
 (3,⟨1,8,.int .i64 0,[],0,0,4,.i64,false⟩),
 (38,⟨2,16,.agg [.int .i64 0,.int .i64 0],[(0,3),(1,3)],1,0,1,.i64,true⟩),
 (27,⟨1,24,.sl .full 0 [],[],0,3,3,.i64,false⟩),
 (4,⟨1,1,.bool false,[],0,0,5,.i64,false⟩),
 (53,⟨1,24,.agg [.sl .full 0 []],[(0,27)],0,0,1,.i64,false⟩),
 (0,⟨1,0,.junk,[],0,0,0,.i64,false⟩),
 (49,⟨1,24,.sl .full 0 [],[],0,57,3,.i64,false⟩),
 (94,⟨12,144,.agg [.int .i64 0,.sl .full 0 [],.int .i64 0,.int .i64 0,.int .i64 0,.int .i64 0,.bool false,.int .i64 0,.int .i64 0,.int .i64 0,.sl .full 0 [],.sl .full 0 []],[(0,3),(1,53),(2,38),(4,3),(5,3),(6,4),(7,3),(8,3),(9,3),(10,27),(11,92)],0,0,1,.i64,false⟩),
 (51,⟨9,88,.agg [.int .i64 0,.int .i64 0,.int .i64 0,.int .i64 0,.int .i64 0,.int .i64 0,.int .i64 0,.int .i64 0,.sl .full 0 []],[(0,3),(1,3),(2,3),(3,3),(4,38),(6,3),(7,3),(8,49)],0,0,1,.i64,false⟩),
 (57,⟨3,24,.agg [.int .i64 0,.int .i64 0,.int .i64 0],[(0,3),(1,38)],1,0,1,.i64,false⟩),
 (92,⟨1,24,.sl .full 0 [],[],0,94,3,.i64,false⟩),
 (55,⟨7,72,.agg [.int .i64 0,.int .i64 0,.int .i64 0,.sl .full 0 [],.int .i64 0,.int .i64 0,.bool false],[(0,3),(1,3),(2,3),(3,53),(4,3),(5,3),(6,4)],0,0,1,.i64,false⟩),
 (76,⟨2,16,.agg [.int .i64 0,.int .i64 0],[(0,3),(1,3)],1,0,1,.i64,true⟩),
 (84,⟨7,56,.agg (List.replicate 7 (.int .i64 0)),[(0,3),(1,3),(2,3),(3,3),(4,3),(5,3),(6,3)],1,0,1,.i64,true⟩),
 (89,⟨6,48,.agg (List.replicate 6 (.int .i64 0)),[(0,3),(1,3),(2,38),(4,38)],1,0,1,.i64,false⟩),
 (86,⟨21,168,.agg (List.replicate 21 (.int .i64 0)),[(0,3),(1,3),(2,84),(9,3),(10,3),(11,3),(12,3),(13,3),(14,3),(15,3),(16,3),(17,3),(18,3),(19,3),(20,3)],1,0,1,.i64,false⟩),
 (35,⟨1,24,.sl .full 0 [],[],0,51,3,.i64,false⟩),
 (301,⟨3,24,.agg [.int .i64 0,.int .i64 0,.int .i64 0],[(0,3),(1,38)],1,0,1,.i64,false⟩),
 (48,⟨2,32,.agg [.int .i64 0,.sl .full 0 []],[(0,3),(1,27)],0,0,1,.i64,false⟩),
 (33,⟨1,24,.sl .full 0 [],[],0,89,3,.i64,false⟩),
 (36,⟨1,24,.sl .full 0 [],[],0,48,3,.i64,false⟩),
 (97,⟨19,200,.agg [.int .i64 0,.int .i64 0,.int .i64 0,.sl .full 0 [],.int .i64 0,.int .i64 0,.int .i64 0,.int .i64 0,.bool false,.int .i64 0,.int .i64 0,.int .i64 0,.sl .full 0 [],.sl .full 0 [],.int .i64 0,.int .i64 0,.bool false,.int .i64 0,.int .i64 0],[(0,3),(1,3),(2,94),(14,3),(15,3),(16,4),(17,3),(18,3)],0,0,1,.i64,false⟩),
 (31,⟨1,24,.sl .full 0 [],[],0,86,3,.i64,false⟩),
 (34,⟨1,24,.sl .full 0 [],[],0,97,3,.i64,false⟩),
 (32,⟨1,24,.sl .full 0 [],[],0,78,3,.i64,false⟩),
 (78,⟨6,48,.agg (List.replicate 6 (.int .i64 0)),[(0,3),(1,76),(3,3),(4,3),(5,3)],1,0,1,.i64,false⟩),
 (341,⟨2,16,.agg [.int .i64 0,.int .i64 0],[(0,3),(1,3)],1,0,1,.i64,true⟩),
 (70,⟨6,64,.agg [.int .i64 0,.int .i64 0,.int .i64 0,.int .i64 0,.sl .full 0 [],.int .i64 0],[(0,3),(1,3),(2,3),(3,3),(4,27),(5,3)],0,0,1,.i64,false⟩),
 (42,⟨1,24,.sl .full 0 [],[],0,55,3,.i64,false⟩),
 (68,⟨4,32,.agg [.int .i64 0,.int .i64 0,.int .i64 0,.int .i64 0],[(0,3),(1,3),(2,3),(3,3)],1,0,1,.i64,true⟩),
 (40,⟨11,216,.agg [.sl .full 0 [],.sl .full 0 [],.sl .full 0 [],.sl .full 0 [],.sl .full 0 [],.sl .full 0 [],.sl .full 0 [],.sl .full 0 [],.int .i64 0,.int .i64 0,.int .i64 0],[(0,31),(1,32),(2,33),(3,34),(4,35),(5,36),(6,27),(7,27),(8,3),(9,38)],0,0,1,.i64,false⟩),
 (121,⟨12,96,.agg (List.replicate 12 (.int .i64 0)),[(1,3)],12,3,2,.i64,false⟩),
 (60,⟨1,24,.sl .full 0 [],[],0,68,3,.i64,false⟩),
 (237,⟨1,24,.sl .full 0 [],[],0,301,3,.i64,false⟩),
 (63,⟨1,24,.sl .full 0 [],[],0,70,3,.i64,false⟩),
 (100,⟨1,8,.lit (.pointer none),[],0,102,7,.i64,false⟩),
 (43,⟨1,8,.int .i64 0,[],0,0,4,.i64,false⟩),
 (354,⟨1,24,.sl .full 0 [],[],0,76,3,.i64,false⟩),
 (339,⟨1,24,.sl .full 0 [],[],0,341,3,.i64,false⟩),
 (80,⟨4,32,.agg [.int .i64 0,.int .i64 0,.int .i64 0,.int .i64 0],[(1,3)],4,3,2,.i64,false⟩),
 (123,⟨18,160,.agg [.int .i64 0,.int .i64 0,.int .i64 0,.int .i64 0,.sl .full 0 [],.int .i64 0,.int .i64 0,.int .i64 0,.int .i64 0,.int .i64 0,.int .i64 0,.int .i64 0,.int .i64 0,.int .i64 0,.int .i64 0,.int .i64 0,.int .i64 0,.int .i64 0],[(0,70),(6,121)],0,0,1,.i64,false⟩),
 (98,⟨3,24,.agg [.int .i64 0,.int .i64 0,.int .i64 0],[(1,3)],3,3,2,.i64,false⟩),
 (26,⟨1,24,.sl .full 0 [],[],0,98,3,.i64,false⟩),
 (245,⟨3,24,.agg [.int .i64 0,.int .i64 0,.int .i64 0],[(0,38),(2,3)],1,0,1,.i64,false⟩),
 (23,⟨1,24,.sl .full 0 [],[],0,80,3,.i64,false⟩),
 (132,⟨5,40,.agg [.int .i64 0,.int .i64 0,.int .i64 0,.int .i64 0,.int .i64 0],[(1,3)],5,3,2,.i64,false⟩),
 (91,⟨1,24,.sl .full 0 [],[],0,132,3,.i64,false⟩),
 (131,⟨7,56,.agg (List.replicate 7 (.int .i64 0)),[(1,3)],7,3,2,.i64,false⟩),
 (294,⟨3,24,.agg [.int .i64 0,.int .i64 0,.int .i64 0],[(0,3),(1,3),(2,3)],1,0,1,.i64,true⟩),
 (177,⟨4,32,.agg [.int .i64 0,.int .i64 0,.int .i64 0,.int .i64 0],[(0,3),(1,3),(2,38)],1,0,1,.i64,false⟩),
 (22,⟨1,24,.sl .full 0 [],[],0,131,3,.i64,false⟩),
 (102,⟨13,264,.agg [.sl .full 0 [],.sl .full 0 [],.sl .full 0 [],.sl .full 0 [],.sl .full 0 [],.sl .full 0 [],.sl .full 0 [],.sl .full 0 [],.int .i64 0,.int .i64 0,.int .i64 0,.sl .full 0 [],.sl .full 0 []],[(0,40),(11,60),(12,63)],0,0,1,.i64,false⟩),
 (187,⟨2,16,.agg [.int .i64 0,.int .i64 0],[(1,3)],2,3,2,.i64,false⟩),
 (25,⟨1,24,.sl .full 0 [],[],0,91,3,.i64,false⟩),
 (306,⟨2,32,.agg [.int .i64 0,.sl .full 0 []],[(0,3),(1,27)],0,0,1,.i64,false⟩),
 (136,⟨2,48,.agg [.sl .full 0 [],.sl .full 0 []],[(0,53),(1,53)],1,0,1,.i64,false⟩),
 (24,⟨1,24,.sl .full 0 [],[],0,26,3,.i64,false⟩),
 (228,⟨1,8,.int .u64 0,[],0,0,4,.u64,false⟩),
 (330,⟨1,8,.lit (.pointer none),[],0,3,7,.i64,false⟩),
 (5,⟨1,1,.int .u8 0,[],0,0,4,.u8,false⟩),
 (154,⟨1,8,.lit .nilFunc,[],0,0,8,.i64,false⟩),
 (302,⟨1,8,.lit .nilFunc,[],0,0,8,.i64,false⟩),
 (379,⟨1,8,.lit .nilFunc,[],0,0,8,.i64,false⟩),
 (106,⟨1,8,.lit .nilFunc,[],0,0,8,.i64,false⟩),
 (343,⟨1,8,.lit .nilFunc,[],0,0,8,.i64,false⟩),
 (313,⟨1,8,.lit .nilFunc,[],0,0,8,.i64,false⟩),
 (273,⟨1,8,.int .i64 0,[],0,0,4,.i64,false⟩),
 (326,⟨1,8,.int .u64 0,[],0,0,4,.u64,false⟩),
 (127,⟨1,24,.sl .full 0 [],[],0,123,3,.i64,false⟩),
 (348,⟨2,32,.agg [.sl .full 0 [],.int .i64 0],[(0,42),(1,3)],0,0,1,.i64,false⟩),
 (171,⟨1,24,.sl .full 0 [],[],0,245,3,.i64,false⟩),
 (111,⟨1,8,.lit .nilFunc,[],0,0,8,.i64,false⟩),
 (318,⟨8,64,.agg (List.replicate 8 (.int .i64 0)),[(0,84),(7,3)],1,0,1,.i64,false⟩),
 (282,⟨1,8,.int .u64 0,[],0,0,4,.u64,false⟩),
 (125,⟨1,8,.lit .nilFunc,[],0,0,8,.i64,false⟩),
 (323,⟨2,16,.agg [.int .i64 0,.lit .nilFunc],[(0,3),(1,313)],0,0,1,.i64,false⟩),
 (280,⟨1,4,.int .u32 0,[],0,0,4,.u32,false⟩),
 (364,⟨1,0,.junk,[],0,0,0,.i64,false⟩),
 (156,⟨2,16,.agg [.int .i64 0,.lit .nilFunc],[(0,3),(1,154)],0,0,1,.i64,false⟩),
 (180,⟨1,0,.junk,[],0,0,0,.i64,false⟩),
 (162,⟨1,8,.lit (.map none),[(0,3)],0,3,9,.i64,false⟩),
 (350,⟨1,8,.lit .nilFunc,[],0,0,8,.i64,false⟩),
 (29,⟨10,192,.agg [.int .i64 0,.sl .full 0 [],.sl .full 0 [],.sl .full 0 [],.sl .full 0 [],.sl .full 0 [],.sl .full 0 [],.sl .full 0 [],.int .i64 0,.int .i64 0],[(0,3),(1,22),(2,23),(3,24),(4,25),(5,23),(6,26),(7,27),(8,3),(9,3)],0,0,1,.i64,false⟩),
 (235,⟨1,24,.sl .full 0 [],[],0,177,3,.i64,false⟩),
 (334,⟨1,24,.sl .full 0 [],[],0,294,3,.i64,false⟩),
 (105,⟨1,8,.lit .nilFunc,[],0,0,8,.i64,false⟩),
 (202,⟨48,384,.agg (List.replicate 48 (.int .i64 0)),[(1,3)],48,3,2,.i64,false⟩),
 (163,⟨16,128,.agg (List.replicate 16 (.int .i64 0)),[(1,3)],16,3,2,.i64,false⟩),
 (185,⟨1,0,.junk,[],0,0,0,.i64,false⟩),
 (197,⟨1,8,.lit .nilFunc,[],0,0,8,.i64,false⟩),
 (61,⟨1,0,.junk,[],0,0,0,.i64,false⟩),
 (375,⟨1,8,.lit (.map none),[(0,76)],0,4,9,.i64,false⟩),
 (160,⟨1,8,.lit .nilFunc,[],0,0,8,.i64,false⟩),
 (141,⟨1,0,.junk,[],0,0,0,.i64,false⟩),
 (382,⟨1,8,.lit .nilFunc,[],0,0,8,.i64,false⟩),
 (221,⟨3,24,.agg [.int .i64 0,.int .i64 0,.int .i64 0],[(0,76),(2,3)],1,0,1,.i64,false⟩),
 (274,⟨1,0,.junk,[],0,0,0,.i64,false⟩),
 (191,⟨1,8,.lit .nilFunc,[],0,0,8,.i64,false⟩),
 (346,⟨1,0,.junk,[],0,0,0,.i64,false⟩),
 (183,⟨1,8,.lit .nilFunc,[],0,0,8,.i64,false⟩),
 (184,⟨1,8,.lit (.map none),[(0,121)],0,3,9,.i64,false⟩),
 (190,⟨1,8,.lit .nilFunc,[],0,0,8,.i64,false⟩),
 (209,⟨1,8,.lit .nilFunc,[],0,0,8,.i64,false⟩),
 (210,⟨1,8,.lit .nilFunc,[],0,0,8,.i64,false⟩),
 (213,⟨1,8,.lit .nilFunc,[],0,0,8,.i64,false⟩),
 (222,⟨1,8,.lit .nilFunc,[],0,0,8,.i64,false⟩),
 (249,⟨1,8,.lit .nilFunc,[],0,0,8,.i64,false⟩),
 (263,⟨1,8,.lit .nilFunc,[],0,0,8,.i64,false⟩),
 (324,⟨6,48,.agg [.int .i64 0,.lit .nilFunc,.int .i64 0,.lit .nilFunc,.int .i64 0,.lit .nilFunc],[],3,323,2,.i64,false⟩),
 (351,⟨3,24,.agg [.lit .nilFunc,.lit .nilFunc,.lit .nilFunc],[],3,350,2,.i64,false⟩),
 (352,⟨1,8,.lit .nilFunc,[],0,0,8,.i64,false⟩),
 (363,⟨1,8,.lit (.pointer none),[],0,326,7,.i64,false⟩),
 (407,⟨1,8,.lit .nilFunc,[],0,0,8,.i64,false⟩),
 (44,⟨1,0,.junk,[],0,0,0,.i64,false⟩),
 (104,⟨1,8,.lit (.map none),[(0,3)],0,4,9,.i64,false⟩),
 (144,⟨1,0,.junk,[],0,0,0,.i64,false⟩),
 (173,⟨1,8,.lit .nilFunc,[],0,0,8,.i64,false⟩),
 (214,⟨1,8,.lit .nilFunc,[],0,0,8,.i64,false⟩),
 (223,⟨1,8,.lit .nilFunc,[],0,0,8,.i64,false⟩),
 (248,⟨1,8,.lit .nilFunc,[],0,0,8,.i64,false⟩),
 (372,⟨1,8,.lit (.map none),[(0,3)],0,371,9,.i64,false⟩),
 (158,⟨1,0,.junk,[],0,0,0,.i64,false⟩),
 (178,⟨1,0,.junk,[],0,0,0,.i64,false⟩),
 (186,⟨1,8,.lit .nilFunc,[],0,0,8,.i64,false⟩),
 (200,⟨1,8,.lit .nilFunc,[],0,0,8,.i64,false⟩),
 (203,⟨1152,9216,.agg (List.replicate 1152 (.int .i64 0)),[],24,202,2,.i64,false⟩),
 (204,⟨1,0,.junk,[],0,0,0,.i64,false⟩),
 (428,⟨24,192,.agg (List.replicate 24 (.int .i64 0)),[(1,3)],24,3,2,.i64,false⟩),
 (137,⟨1,0,.junk,[],0,0,0,.i64,false⟩),
 (139,⟨1,0,.junk,[],0,0,0,.i64,false⟩),
 (150,⟨1,0,.junk,[],0,0,0,.i64,false⟩),
 (157,⟨1,24,.sl .full 0 [],[],0,156,3,.i64,false⟩),
 (169,⟨1,0,.junk,[],0,0,0,.i64,false⟩),
 (188,⟨1,24,.sl .full 0 [],[],0,187,3,.i64,false⟩),
 (216,⟨1,8,.lit .nilFunc,[],0,0,8,.i64,false⟩),
 (218,⟨1,8,.lit .nilFunc,[],0,0,8,.i64,false⟩),
 (225,⟨1,8,.lit .nilFunc,[],0,0,8,.i64,false⟩),
 (264,⟨1,0,.junk,[],0,0,0,.i64,false⟩),
 (269,⟨1,8,.lit .nilFunc,[],0,0,8,.i64,false⟩),
 (319,⟨1,0,.junk,[],0,0,0,.i64,false⟩),
 (336,⟨1,8,.lit .nilFunc,[],0,0,8,.i64,false⟩),
 (422,⟨32,32,.agg (List.replicate 32 (.int .u8 0)),[(1,5)],32,5,2,.i64,false⟩),
 (423,⟨64,64,.agg (List.replicate 64 (.int .u8 0)),[(1,5)],64,5,2,.i64,false⟩),
 (159,⟨1,8,.lit .nilFunc,[],0,0,8,.i64,false⟩),
 (196,⟨1,8,.lit .nilFunc,[],0,0,8,.i64,false⟩),
 (231,⟨1,8,.lit .nilFunc,[],0,0,8,.i64,false⟩),
 (254,⟨1,8,.lit .nilFunc,[],0,0,8,.i64,false⟩),
 (256,⟨1,8,.lit .nilFunc,[],0,0,8,.i64,false⟩),
 (286,⟨1,8,.lit .nilFunc,[],0,0,8,.i64,false⟩),
 (338,⟨64,64,.agg (List.replicate 64 (.bool false)),[(0,4)],64,4,2,.i64,false⟩),
 (377,⟨1,8,.lit .nilFunc,[],0,0,8,.i64,false⟩),
 (64,⟨1,0,.junk,[],0,0,0,.i64,false⟩),
 (74,⟨1,8,.lit .nilFunc,[],0,0,8,.i64,false⟩),
 (258,⟨1,8,.lit .nilFunc,[],0,0,8,.i64,false⟩),
 (298,⟨1,0,.junk,[],0,0,0,.i64,false⟩),
 (304,⟨1,8,.lit .nilFunc,[],0,0,8,.i64,false⟩),
 (307,⟨1,0,.junk,[],0,0,0,.i64,false⟩),
 (345,⟨1,0,.junk,[],0,0,0,.i64,false⟩),
 (355,⟨1,0,.junk,[],0,0,0,.i64,false⟩),
 (381,⟨1,8,.lit .nilFunc,[],0,0,8,.i64,false⟩),
 (217,⟨1,8,.lit .nilFunc,[],0,0,8,.i64,false⟩),
 (268,⟨1,8,.lit .nilFunc,[],0,0,8,.i64,false⟩),
 (271,⟨1,8,.lit .nilFunc,[],0,0,8,.i64,false⟩),
 (371,⟨1,8,.lit .nilFunc,[],0,0,8,.i64,false⟩),
 (376,⟨1,8,.lit .nilFunc,[],0,0,8,.i64,false⟩),
 (397,⟨1,8,.lit .nilFunc,[],0,0,8,.i64,false⟩)]
def ru:Nat->List Nat->List Nat
 | 0,l=>l
 | n+1,l=>ru n (n :: l)
def Ob:List Nat:=ru 12 [13,15,22,50,59,78,96,117,146]
def Oa:List Nat:=ru 14 [15,16,17,88]
def bn:List Nat:=ru 22 [35,75,94,114,145,178,185,196,206,209,258,291,331,351,360,373,384]
def tN:List Nat:=[0,1,2,4,5,6,18]
def NZ:List Nat:=[0,2,3,4,5,7,8,9,10,41,44]
def fC:List Nat:=[0,1,2,4,5,6,7,8,19,20,21,22]
def jg:List Nat:=[0,1,2,4,5,6,7,9,10,12,14,15,16,17,19,21,22,33,37,38,39,40,57,58,59,60,66,76,77,78,79,97,109,110,111,112,119,120,121,122,134]
def yh:List Nat:=ru 7 [8,10,11,13,16,21,22,23,24,31,45,46,47,48,56,57,58,59,67,68,69,70,97]
def Le:List Nat:=[0,1,4,5,10,14,25]
def Ld:List Nat:=[0,1,4,5,10,14,93]
def Lc:List Nat:=[0,1,2,4,5,6]
def rv:List Nat:=[0,1,2,3]
def Lb:List Nat:=[0,1,4,6]
def La:List Nat:=[0,1,3,4]
def K9:List Nat:=[0,1,4,5,6,7,15,21]
def K8:List Nat:=[0,1,2,6,7,8,9,10,19]
def K7:List Nat:=ru 5 [11,23,33,45]
def K6:List Nat:=ru 6 [10,11,12,13,14,15,16,17,25,111,149,168]
def K5:List Nat:=ru 16 [50,90,103,109,110,118]
def K4:List Nat:=[0,1,2,6]
def fw:List Nat:=[0,1,3,4,5,7,8,10,11,13,15,16,30,31,32,33,71]
def K3:List Nat:=[0,1,2,3,12,29]
def K2:List Nat:=ru 5 []
def K0:List Nat:=[0]
def KZ:List Nat:=[0,1,4,5,6,7,8,9,10,31]
def yg:List Nat:=[0,1,2,4,6,7,9,11,12,13,14,30]
def lM:List Nat:=[0,2]
def KY:List Nat:=[0,1,3,4,5,6]
def KX:List Nat:=ru 5 []
def yf:List Nat:=[0,1,4,5,6,7,12,19,29]
def ye:List Nat:=[0,2,4]
def yd:List Nat:=[0,1,2,3]
def KW:List Nat:=ru 5 [7,8,9,10,12,13,14,20,26,27,28,29,41]
def yc:List Nat:=[0,1,2,6,7,8,12,13]
def KV:List Nat:=[0,1,2,3,7,8,9,10,14,15,25]
def KU:List Nat:=[0,1,2,6,7,9,10,11,13,14,16,17,18,19,21,22,23,26,27,28,29,60,61,62,63,91,99,119,120,121,122,128,133,134,135,146,152,153,154,155,173,174,175,187]
def gz:List Nat:=[0,1,3,4,6,8,9,10,21]
def yb:List Nat:=[0,1,2,4,6,7,8,9,16,17,18,19]
def ki:List Nat:=ru 8 [9,11,12,13,14,15,16,18,19,20,21,22,24,25,33,34,35,36,42,65,66,67,68,92,93,122,123,124,125,173,197,218,219]
def KT:List Nat:=[1,2,3,4,6,7]
def KS:List Nat:=[0,1,4,5,6,7,8,9,10,12,13,14,15,39,45,46,47,48,57]
def KR:List Nat:=[0,1,2,4,5,6,8,9,10,12,14,15,16,17,18,23,24,25,26,45,46,47,48,55,70,71,72,73,86,87,93,94,95,96,102,104,113,114,115,116,146,147,148,149]
def KQ:List Nat:=[0,1,4,5,10,14,25]
def nV:List Nat:=ru 5 []
def KO:List Nat:=[0,2,3,4,5,6,8,9,14,15,16,17,42,48,49,50,51,79]
def rr:List Nat:=ru 10 [11,12,14,30,36,37,38,39,92,142,148,149,150,151,188]
def KN:List Nat:=[0,1,4,6]
def KM:List Nat:=[0,1,2,4,5,6,7]
def KL:List Nat:=[0,1,4,6]
def KK:List Nat:=ru 5 [6,7,8,9,10,18,41,81,89,103,162]
def KJ:List Nat:=[0,1,4,5,9,18]
def rq:List Nat:=ru 5 [6,7,8,9,10,11,12,13,14,15,16,21,29,41,44,48,73,77,89,109]
def KI:List Nat:=ru 5 [6,7,8,9,10,11,12,13,14,19,26,34,48]
def ya:List Nat:=[0,1,3,4,5,6,15]
def d9:List Nat:=ru 5 [7]
def x9:List Nat:=[0,1,3,4,5,6,15]
def x8:List Nat:=ru 10 [14]
def KH:List Nat:=ru 12 [16]
def KG:List Nat:=[0,1,4]
def KF:List Nat:=ru 5 []
def KE:List Nat:=[0,2,3,5,6,7,8,9,14]
def KD:List Nat:=[0,1,4,5,6,11,12,13,16,19]
def KC:List Nat:=[0,1,2,6]
def KB:List Nat:=[0,1,2]
def x6:List Nat:=[0,2]
def x5:List Nat:=[0,2,3,4,5,8,13,25,32,44]
def KA:List Nat:=[0,1,2,3,6,7,8,9,22]
def lL:List Nat:=[0,1,4,5,7,8,9,16]
def Kz:List Nat:=ru 5 [7,8,9,10,11,37,38,39,40,41,80]
def Ky:List Nat:=[0,1,2,3,6,7,8,9,10,22]
def Kx:List Nat:=[0,1,2,3,5,6,7,8]
def x4:List Nat:=[0,1,2,3,6,7,8,10,11,13,15,16,17,18]
def Kw:List Nat:=[0,1,2,3,5,6,7,8]
def nU:List Nat:=[0,1,2,6,7,8,9,10,11,13,14,15,16,17,18,19,20,21,27,28,29,30,35,36,39,40,61,64]
def Kv:List Nat:=ru 7 []
def Ku:List Nat:=[0,1,3,4,5,7,8,9,10]
def Kt:List Nat:=[0,1,3,4,5]
def fS:List Nat:=[0,2,4]
def Ks:List Nat:=[0,1,2]
def Kr:List Nat:=[0,1,2,3,5,7,8,9,10,11,13,14,19,20,21,22,34,42,43,44,45,67,82]
def rp:List Nat:=ru 6 [8,9]
def kh:List Nat:=[0,1,2,4,5,6,7,8,9,13,15,16,17,19,20,21,33]
def x3:List Nat:=[0,2,3,5,6,7,8,9]
def Kq:List Nat:=ru 5 []
def Kp:List Nat:=[1,2,3,4,5,7,8,10,14,15,16,17]
def Ko:List Nat:=ru 5 []
def Kn:List Nat:=[1,2,3,4,6,7,9,10,11,15,16,17,18,41]
def Km:List Nat:=[0,1,2,3]
def nT:List Nat:=[0,1,2,3,5,6,7,8,10,15,19,21]
def Kl:List Nat:=[1,2,3,4,5,7,8,10,12,16,17,18,19,32,33,34,35]
def Kk:List Nat:=ru 5 []
def Kj:List Nat:=[0,1,4]
def Ki:List Nat:=[0,1,2,3]
def Kh:List Nat:=[0,1,2,3]
def HA:List Nat:=ru 5 []
def Hz:List Nat:=[1,2,3,5,6,10]
def Hy:List Nat:=[0,1,2,5]
def Hx:List Nat:=[1,2,3,5,6,8,11,12,13,14,21]
def Hw:List Nat:=[0,1,2,3,5]
def Hv:List Nat:=[0,1,4]
def Hu:List Nat:=[0,1,2,3]
def Ht:List Nat:=[0,2]
def Hs:List Nat:=[0,2]
def Hr:List Nat:=[0,2]
def Hq:List Nat:=[0,1,4]
def Hp:List Nat:=[0,1,2,3]
def Ho:List Nat:=[0,2]
def Hn:List Nat:=[0,1,4]
def Hm:List Nat:=ru 5 [6]
def Hl:List Nat:=[0,1,2,4]
def Hk:List Nat:=[0,1,2,3]
def Hj:List Nat:=ru 6 [28]
def Hi:List Nat:=[0,2,3,4,5,8,12,49,95]
def Hh:List Nat:=[0,1,2,6]
def Hg:List Nat:=ru 5 [6]
def vN:List Nat:=ru 6 [8,9,10,11,12,30,38]
def Hf:List Nat:=[0,1,2,4,5,6,7,8,9,10,11,32]
def He:List Nat:=ru 5 [8,9]
def Hd:List Nat:=[0,1,4,5,7,8,9,16]
def Hc:List Nat:=[0,1,2,3]
def pS:List Nat:=ru 5 []
def fh:List Nat:=[0,1,2,3,5,8,22,23,24,25]
def Hb:List Nat:=[0,1,4,5,7,8,9,16]
def Ha:List Nat:=[0,1,2,3]
def G9:List Nat:=ru 5 [6]
def pR:List Nat:=[0,1,2,3,5,6]
def jt:List Nat:=ru 6 [8,9,10,16,17]
def G8:List Nat:=ru 6 [9,10,11]
def ii:List Nat:=ru 12 [13,14,22]
def G7:List Nat:=[0,1,2]
def mD:List Nat:=[0,1,2,3,5,6,7,8,9,15,16,26]
def G6:List Nat:=ru 9 []
def G5:List Nat:=[0,1,2,4,5,6,7,8,9,10,11,19,35]
def G4:List Nat:=ru 5 []
def kN:List Nat:=ru 12 [13,14,22]
def G3:List Nat:=[0,1,2]
def G2:List Nat:=ru 5 [10,11,12,13,14,15,16,17,18,19,20,25,32,39,56,75,80,97,125]
def G1:List Nat:=[0,2]
def G0:List Nat:=[0,2]
def GZ:List Nat:=[0,1,2,6]
def vL:List Nat:=[0,1,2,3,8,9,10,11,12,13,14,15,16,17,18,23,29,35,50,68,72,87,113]
def GY:List Nat:=[0,1,2,4,5,9]
def GX:List Nat:=[0,2]
def GW:List Nat:=[0,1,2]
def GV:List Nat:=ru 6 []
def GU:List Nat:=[0,1,2,3]
def kM:List Nat:=ru 5 [6,7,8,9,11,12,13,76,81,82,83,84,93,149]
def vK:List Nat:=[0,1,4]
def GT:List Nat:=[0,1,2,3,5,6,7,8,17,25]
def GS:List Nat:=[0,1,2,4,5]
def GR:List Nat:=[0,1,3,4,5,6,7,15,17,18,19,22]
def GQ:List Nat:=[0,1,2,3,5,6,7,8,9,10,19,24]
def vJ:List Nat:=[0,2,3,4,6,7,8,12,13,14,15,39,40,52]
def GP:List Nat:=[0,1,2]
def pQ:List Nat:=[0,1,2,3,6,8,9,10,11,12,16,17,18,19,40]
def GO:List Nat:=[0,1,2,3]
def GN:List Nat:=[0,1,2,4,5,7,8]
def GM:List Nat:=[0,1,4]
def GL:List Nat:=[0,1,2,3]
def GK:List Nat:=ru 5 []
def GJ:List Nat:=[0,1,2,4]
def GI:List Nat:=ru 7 [13]
def ig:List Nat:=[0,1,2,5,7,8,9,10,11,14,15,16,17,30]
def GH:List Nat:=[0,1,2,4,5,17]
def GG:List Nat:=[0,1,2,3,5,6]
def GF:List Nat:=ru 7 []
def GE:List Nat:=[0,1,4,5,7,8,9,16]
def GD:List Nat:=[0,1,4,5,7,8,9,16]
def GC:List Nat:=[0,1,2,3,8,9,10,14,15,16,17,18,42]
def GB:List Nat:=[0,1,2]
def GA:List Nat:=[0,1,2,3,8,9,10,14,15,16,17,18,42]
def Gz:List Nat:=[0,1,2]
def Gy:List Nat:=[0,1,2]
def Gx:List Nat:=[0,1,2]
def Gw:List Nat:=ru 6 []
def Gv:List Nat:=[0,1,4,5,10,24]
def Gu:List Nat:=ru 5 []
def Gt:List Nat:=[0,1,4,5,7,8,9,16]
def Gs:List Nat:=[0,1,2,6]
def vI:List Nat:=[0,1,4,5,7,8,9,16]
def Gq:List Nat:=[0,1,4,6]
def Gp:List Nat:=[0,1,2,3,22]
def Gn:List Nat:=[0,1,2,6]
def Gm:List Nat:=ru 5 [11,23,33,45]
def Gl:List Nat:=[0,2,3,6]
def Gk:List Nat:=[0,2,3,4,7,12,18]
def Gj:List Nat:=[0,1,2]
def Gi:List Nat:=[0,1,4,7]
def vH:List Nat:=[0,1,2,3,6,7,8,9,10,11,31]
def vG:List Nat:=[0,1,2,4,5,6,8,9,10,35,37,38,39,40,51]
def Gh:List Nat:=ru 5 []
def Gg:List Nat:=[0,1,2,4]
def Gf:List Nat:=[0,1,2,6]
def Ge:List Nat:=[0]
def Gd:List Nat:=[0,1,2]
def kL:List Nat:=ru 5 [6,7,8,14,25,38]
def Gc:List Nat:=[0,1,2,3,6,7,8,9,18]
def Gb:List Nat:=[0,2]
def Ga:List Nat:=[0,1,2]
def F9:List Nat:=[0,2,3,6]
def F8:List Nat:=[0,2,3,4,6,9,13,14,15,20]
def F7:List Nat:=[0,1,4]
def F6:List Nat:=[0,1,2,3,8,9,14,34]
def vF:List Nat:=[0,1,2,6,7,12,30]
def F5:List Nat:=[0,1,4]
def F4:List Nat:=[0,1,2,4,5,7,8,23,25,26,27,28,40,71]
def F3:List Nat:=[0,1,4,5,7,8,10,11,12,13]
def mC:List Nat:=[0,2,4,5,6,7,8]
def F1:List Nat:=[0,1,2,6]
def F0:List Nat:=[0,2]
def FZ:List Nat:=[0,1,2]
def pP:List Nat:=[0,1,2,3,5,6,7,8,10,20,22]
def FY:List Nat:=[0,1,3]
def FX:List Nat:=[0,2,3,5,6,7,8,9,33]
def FW:List Nat:=[0,1,2,6]
def FV:List Nat:=[0,1,2]
def mB:List Nat:=[0,1,2,3,5,6,7,8,9,11,16,22,24]
def FU:List Nat:=[0,2]
def FS:List Nat:=ru 5 []
def pO:List Nat:=[0,1,2,6,7,9,10,11,12,16,17,18,19,25,37]
def FR:List Nat:=ru 7 []
def FQ:List Nat:=[0,1,4,6,7,8,9,10,14,15,16,17,24]
def FP:List Nat:=[0,1,2,4,5,6,7,8,16,26]
def vE:List Nat:=[0,1,4,5,7,8,9,16]
def pN:List Nat:=[0,1,2,4,5,7,9,12,13,14,15,18,19,20,25]
def FO:List Nat:=[0,1,2,3,5,9,10,11,12,26]
def FN:List Nat:=[0,1,2]
def FM:List Nat:=[0,2,3,4,5,8,9,10,11,12,33]
def vD:List Nat:=[0,1,2,3,5,6,12,21,30]
def pM:List Nat:=[0,1,2,3,6,7,8,10,18,19,20,21,27]
def vC:List Nat:=ru 7 []
def FL:List Nat:=[0,1,2,6]
def FK:List Nat:=[0,2]
def FJ:List Nat:=[0,2,4]
def vB:List Nat:=[0,1,2,3,6,7,8,9,14]
def vA:List Nat:=[0,1,2,3,6,7,12]
def pL:List Nat:=ru 5 []
def pK:List Nat:=[0,1,2,3,8,9,23,31,47]
def pJ:List Nat:=[0,1,2,3,5,6,46,56,80]
def pH:List Nat:=ru 6 [11,12,18,31]
def FI:List Nat:=[0,1,2,6]
def kK:List Nat:=[0,1,3,10,16]
def FH:List Nat:=[0,1,2,3,6,7,8]
def FG:List Nat:=[0,1,2]
def FF:List Nat:=[0,2,3,9]
def FE:List Nat:=[0]
def FD:List Nat:=[0,1,4]
def FC:List Nat:=[0,1,2]
def FB:List Nat:=[0,1,2,6]
def FA:List Nat:=ru 7 []
def Fz:List Nat:=[0,1,2]
def pG:List Nat:=[0,1,3,5,6,7,8,9,10,11,12,34,35,36,37,60,66]
def vz:List Nat:=[0,1,4]
def Fy:List Nat:=ru 5 []
def vx:List Nat:=[0,1,4]
def Fx:List Nat:=ru 6 []
def Fw:List Nat:=[0,1,2]
def Fv:List Nat:=[0,1,2]
def Fu:List Nat:=[0,1,2,3]
def Ft:List Nat:=[0,1,2,6]
def Fs:List Nat:=[0,1,2,6]
def Fr:List Nat:=[0,1,2,3]
def Fq:List Nat:=[0,1,4]
def Fp:List Nat:=[0,1,2,4]
def mA:List Nat:=[0,1,2,4,5,7,8,9,10,18,22,23]
def Fo:List Nat:=[0,1,4]
def Fn:List Nat:=[0,1,2,3]
def Fm:List Nat:=[0,1,2,4,5,6]
def Fl:List Nat:=[0,1,2,3,6]
def Fk:List Nat:=[0,1,4,9]
def vu:List Nat:=[0,1,2,3,5,7]
def vt:List Nat:=[0,1,2,3]
def vr:List Nat:=[0,2,3,4,7]
def Fj:List Nat:=[0,1,4]
def Fi:List Nat:=[0,1,2]
def Fh:List Nat:=[0,1,2,3]
def Fg:List Nat:=[0,2]
def Ff:List Nat:=[0,2]
def Fe:List Nat:=[0,2]
def Fd:List Nat:=[0,1,4,5,7,8,9,16]
def pF:List Nat:=[0,1,2,3,5,6,8,14,20,21,22,23,37,47]
def vq:List Nat:=ru 5 [10,11,12,13,14,15,16,17,18,19,20,25,32,39,56,75,80,97,125]
def vp:List Nat:=ru 5 [10,11,12,13,14,15,16,17,18,19,20,25,32,39,56,75,80,97,125]
def Fc:List Nat:=[0]
def Fb:List Nat:=[0,1,4,5,7,8,9,16]
def E9:List Nat:=ru 5 []
def E8:List Nat:=ru 5 []
def E7:List Nat:=[0,1,2]
def E6:List Nat:=[0,1,4,5,7,8,9,16]
def E5:List Nat:=[0,1,2]
def E4:List Nat:=[0,1,4,5,7,8,9,16]
def E3:List Nat:=[0,1,4]
def vo:List Nat:=[0,1,2,3,8,9,14,34]
def vn:List Nat:=[0,1,2,3,8,9,14,34]
def E2:List Nat:=ru 7 [12]
def vm:List Nat:=[0,1,2,4,11,21]
def ic:List Nat:=[0,1,3,4,5,7,8,9,10,15,24]
def E1:List Nat:=ru 5 []
def mz:List Nat:=[0,2,3]
def gA:List Nat:=[0,1,2,4,5,6,7]
def vl:List Nat:=[0,1,4,5,6,7,12,19,29]
def EZ:List Nat:=[0,2,4]
def EY:List Nat:=[0,1,2,3]
def EX:List Nat:=ru 6 []
def EW:List Nat:=ru 7 []
def EV:List Nat:=ru 6 []
def vk:List Nat:=ru 5 [6,7,8,9,17,22,23,24]
def EU:List Nat:=[0,1,4]
theorem af:eX.OK jT Tryz.prog:=(by kernel_rfl:jT.map (fun p=>TI.of Tryz.prog p.1)=jT.map (fun p=>some p.2))
theorem bj:Tryz.prog.follows .mixedOrders=true:=by kernel_rfl
open Go Go.AI
theorem aM {f:FuncId} {fn:Func} {body:Code} {args:List AV} {r:AV} (keep:List Nat) (hf:Tryz.prog.funcs[f]?=some fn)
  (h:∀ (F:Fence) (n:Nat) (w0:World) (m0:d5),cr.OK ⟨Tryz.prog,F,n,w0,m0,fn.ntmps⟩->F.round=none->1<=n->KP keep->aI ⟨Tryz.prog,F,n,w0,m0,fn.ntmps⟩ ⟨params 0 args,[]⟩ body (Go.AI.Ends jT fn.results.toList r))
  (hb:fn.body=some body:=by exact rfl) (hname:(fn.name == "runtime.NumGoroutine")=false:=by kernel_rfl) (hn:args.length<=fn.ntmps:=by exact ah rfl):ar Tryz.prog f args r:=
 ar.ofB af hf hb hname bj hn fun F n w0 m0 h1 h2 h3=>h F n w0 m0 h1 h2 h3 .mk
theorem aQ {p q:Prop} (h:q) (g:(Unit->q)->p:=by
 intro g
 first | refine QS rfl hG af kp ?_ | ((conv=>whnf); first | refine cZ ?_ | refine cY ?_ | refine aa aK ?_)
 repeat first | refine QS rfl hG af kp ?_ | ((conv=>whnf); first | refine cZ ?_ | refine cY ?_ | refine aa aK ?_)
 exact g ()):p:=g fun _=>h
theorem dz {p q:Prop} (h:q) (g:(Unit->q)->p:=by
 intro g
 first | refine QN rfl hG af kp ?_ | ((conv=>whnf); first | refine cZ ?_ | refine cY ?_ | refine aa aK ?_)
 repeat first | refine QN rfl hG af kp ?_ | ((conv=>whnf); first | refine cZ ?_ | refine cY ?_ | refine aa aK ?_)
 exact g ()):p:=g fun _=>h
theorem bv {p q:Prop} (h:q) (g:(Unit->q)->p:=by
 intro g
 first | refine QS rfl hG af kp ?_ | ((conv=>whnf); first | refine cZ ?_ | refine cY ?_ | refine aa aK ?_ | refine gdF a8 (fun h=>?_) | refine gdT a8 (fun h=>?_) | refine ae _ (aa a8 ?_) | refine aa (au _) (ae _ (aa a8 ?_)))
 repeat first | refine QS rfl hG af kp ?_ | ((conv=>whnf); first | refine cZ ?_ | refine cY ?_ | refine aa aK ?_ | refine gdF a8 (fun h=>?_) | refine gdT a8 (fun h=>?_) | refine ae _ (aa a8 ?_) | refine aa (au _) (ae _ (aa a8 ?_)))
 exact g ()):p:=g fun _=>h
theorem ach {p:Prop} (g:p:=by
 repeat' first | refine QS rfl hG af kp ?_ | ((conv=>whnf); first | refine cZ ?_ | refine cY ?_ | refine aa aK ?_ | refine gdF a8 (fun h=>?_) | refine gdT a8 (fun h=>?_) | refine ae _ (aa a8 ?_) | refine aa (au _) (ae _ (aa a8 ?_))) | refine aa (fun h=>?_) (fun h=>?_) | refine aj ?_
 all_goals exact Ends.mk (aj rfl) (az rfl)):p:=g
theorem dP {f:FuncId} {fn:Func} {body:Code} {args:List AV} {r:AV} (keep:List Nat) (hf:Tryz.prog.funcs[f]?=some fn) (hb:fn.body=some body:=by exact rfl) (hname:(fn.name == "runtime.NumGoroutine")=false:=by kernel_rfl) (hn:args.length<=fn.ntmps:=by exact ah rfl)
  (h:∀ (F:Fence) (n:Nat) (w0:World) (m0:d5),cr.OK ⟨Tryz.prog,F,n,w0,m0,fn.ntmps⟩->F.round=none->1<=n->KP keep->aI ⟨Tryz.prog,F,n,w0,m0,fn.ntmps⟩ ⟨params 0 args,[]⟩ body (Go.AI.Ends jT fn.results.toList r):=by
   intro F n' w0 m0 hG hro h1 kp
   repeat' first | refine QS rfl hG af kp ?_ | ((conv=>whnf); first | refine cZ ?_ | refine cY ?_ | refine aa aK ?_ | refine gdF a8 (fun h=>?_) | refine gdT a8 (fun h=>?_) | refine ae _ (aa a8 ?_) | refine aa (au _) (ae _ (aa a8 ?_))) | refine aa (fun h=>?_) (fun h=>?_) | refine aj ?_
   all_goals exact Ends.mk (aj rfl) (az rfl)):ar Tryz.prog f args r:=aM keep hf h hb hname hn
theorem acg {p q:Prop} (h:q) (g:(Unit->q)->p:=by
 intro g
 first | refine QM rfl hY af kp ?_ | ((conv=>whnf); first | refine cZ ?_ | refine cY ?_ | refine aa aK ?_)
 repeat first | refine QM rfl hY af kp ?_ | ((conv=>whnf); first | refine cZ ?_ | refine cY ?_ | refine aa aK ?_)
 exact g ()):p:=g fun _=>h
theorem abB {p q:Prop} (h:q) (g:(Unit->q)->p:=by
 intro g
 first | refine OQ hG af gE kp aK ?_ | refine QS rfl hG af kp ?_ | ((conv=>whnf); first | refine cZ ?_ | refine cY ?_ | refine aa aK ?_)
 repeat first | refine OQ hG af gE kp aK ?_ | refine QS rfl hG af kp ?_ | ((conv=>whnf); first | refine cZ ?_ | refine cY ?_ | refine aa aK ?_)
 exact g ()):p:=g fun _=>h
theorem abC {p q:Prop} (h:q) (g:(Unit->q)->p:=by
 intro g
 first | refine OQ hG af gE kp aK ?_ | refine QN rfl hG af kp ?_ | ((conv=>whnf); first | refine cZ ?_ | refine cY ?_ | refine aa aK ?_)
 repeat first | refine OQ hG af gE kp aK ?_ | refine QN rfl hG af kp ?_ | ((conv=>whnf); first | refine cZ ?_ | refine cY ?_ | refine aa aK ?_)
 exact g ()):p:=g fun _=>h
theorem Ez {p:Prop} (h:p:=by exact Ends.mk (aj rfl) (az rfl)):p:=h
theorem Eb {p:Prop} {a b:Bool} (h:a=b) (g:a=b->p:=by intro g; exact Ends.mk (aj rfl) (az (ax AV.bool g))):p:=g h
theorem Ei {p:Prop} {a b:Int} (h:a=b) (g:a=b->p:=by intro g; exact Ends.mk (aj rfl) (az (ax (AV.int .i64) g))):p:=g h
open Go Go.AI
open Go.RowKit (Below)
set_option maxRecDepth 10000
theorem wH {α:Type} [DecidableEq α]:∀ {p k:List α},p.Nodup->(∀ x∈p,x∈k)->p.length<=k.length
 | [],_,_,_=>aZ _
 | x::p,k,b,a=>by
  obtain ⟨h1,h2⟩:=Yp.1 b;have hx:=a x aW;have:=wH (k:=k.erase x) h2 fun y hy=>(List.mem_erase_of_ne (fun e=>by subst e; exact h1 hy)).2 (a y (aS _ hy));grind
theorem Bx {α:Type} [DecidableEq α]:∀ {p k:List α},p.Nodup->k.Nodup->(∀ x,x∈p↔x∈k)->p.Perm k:=fun a hk h=>(List.perm_ext_iff_of_nodup a hk).2 h
theorem BO (l:List (List Int×AV)) (hl:∀ p∈l,p.1.length=2) :
  s5 Tryz.prog (fun k:List Int=>#[eh k]) 354 [.ref [.mapv (j8 l)]] (fun p x=>x∈l.map (·.1)/\x ∉ p/\p.length<l.length) (fun p=>p.Perm (l.map (·.1))):=by
 refine ⟨YV Tryz.func354 aK rfl,fun m lb hlen hr F n hfn hdep hal hro lp J Jx W hs L hab habx hyld hJ0=>?_⟩
 obtain ⟨pb,po,b,es,clock,hlb,hm1,hm2,D,hsz,B⟩:∃ pb po b es clock,lb=#[.pointer (some ⟨pb,po,none⟩)]/\m pb po=some (.map (some b))/\m.maps b=some (es,clock)/\ll es clock/\l.length=es.size /\
   ∀ (i:Nat) (e:MapEntry),es[i]?=some e->∃ p,l[i]?=some p/\e.key=eh p.1:=by
  have h1:lb.size=1:=by simpa using hlen.symm
  obtain ⟨v,hv⟩:∃ v,lb=#[v]:=Array.size_eq_one_iff.1 h1;subst hv;have h2:=hr 0 _ v rfl rfl
  cases h2 with
  | ref cs pb po z g hg hr'=>
   have h3:=hr' 0 _ rfl;have h4:=hg 0 _ rfl;generalize g 0=u at h3 h4
   cases h3 with
   | mapv xs b es clock hm hb hl' h2' hk hv=>
    refine ⟨pb,po,b,es,clock,rfl,by simpa using h4,hm,hb,by simpa [j8] using hl',fun i e he=>?_⟩
    have hi:i<l.length:=by
     have:=(aX.1 he).1;have:(j8 l).length=es.size:=hl';simp [j8] at this; omega
    exact ⟨l[i],ai hi,(hk i _ e _ (by simp [j8,hi]:(j8 l)[i]?=some [keyA l[i].1,l[i].2]) he rfl).keyA⟩
 subst hlb
 have hnd:(l.map (·.1)).Nodup:=by
  rw [List.Nodup,eF];intro i j hi hj hij z;simp only [ay] at hi hj;simp only [List.getElem_map] at z;have hi':i<es.size:=by omega
  have hj':j<es.size:=by omega
  obtain ⟨p,p1,p2⟩:=B i _ (aE hi');obtain ⟨q,q1,q2⟩:=B j _ (aE hj')
  have:=D.2.2 i j _ _ (aE hi') (aE hj') (by
   rw [p2,q2];rw [ai hi] at p1;rw [ai hj] at q1;cases p1; cases q1;rw [z])
  omega
 have A:∀ e∈es.toList,∃ i,es[i]?=some e:=fun e he=>by
  obtain ⟨i,hi,rfl⟩:=cI he;exact ⟨i,by rw [<- cU]; exact ai hi⟩
 have hbl:∀ e∈es.toList,e.born<clock:=fun e he=>let ⟨i,hi⟩:=A e he; D.1 i e hi
 have hbu:∀ e∈es.toList,∀ f∈es.toList,f.born=e.born->f=e:=fun e he f hf h=>by
  obtain ⟨i,hi⟩:=A e he;obtain ⟨j,hj⟩:=A f hf;have:=D.2.1 j i f e hj hi h;subst this;rw [hi] at hj; cases hj; rfl
 have hkm:∀ e∈es.toList,∃ x,e.key=eh x/\x∈l.map (·.1):=fun e he=>by
  obtain ⟨i,hi⟩:=A e he;obtain ⟨p,p1,p2⟩:=B i e hi;exact ⟨p.1,p2,LU (aC p1)⟩
 -- what goes over the map
 obtain ⟨r,hrr⟩:∃ r,W.heap.size=r:=⟨_,rfl⟩
 let rel:Array Nat->List (List Int)->Prop:=fun seen p=>∀ e∈es.toList,∀ x,e.key=eh x->(seen.contains e.born=true↔x∈p)
 let J2:List (List Int)×Option (List Int)->World->Prop:=fun q w=>J q.1 w/\∃ seen,w.heap[r]?=some (.mapIter (some b) clock seen clock) /\
  match q.2 with
  | none=>rel seen q.1
  | some x=>(x∈l.map (·.1)/\x ∉ q.1/\q.1.length<l.length)/\rel seen (q.1++[x])/\∃ e∈es.toList,e.key=eh x/\seen.back?=some e.born
 let Y:YB (List (List Int)×Option (List Int)) (List Int):=⟨Tryz.prog,F,n,14,m,lp,J2,fun _=>Jx,fun q x=>q.2=some x,fun q x=>(q.1++[x],none),fun k=>#[eh k],[(0,.lit (.func (.yield lp) #[] #[])),(5,.lit (.pointer (some ⟨r,0,none⟩)))]⟩
 have hY:Y.OK:=by
  refine ⟨fun W hgs=>⟨hfn,hdep,hal,bj,L,hgs⟩,hro,fun q W1 W2 h1 h2=>?_,fun _ W1 W2 h1 h2=>habx W1 W2 h1 h2.toI,fun q x W1 hq hJ hm=>?_⟩
  ·obtain ⟨g1,seen,g2,g3⟩:=h1;exact ⟨hab _ W1 W2 g1 h2.toI,seen,(h2.below.block _ (aX.1 g2).1).trans g2,g3⟩
  ·obtain ⟨g1,seen,g2,g3⟩:=hJ;have hq':q.2=some x:=hq;rw [hq'] at g3;obtain ⟨g3,g5,_⟩:=g3;obtain ⟨fn,tmps,asg,bd,q1,q2⟩:=hyld q.1 x W1 g3 g1 hm;refine ⟨fn,tmps,asg,bd,q1,q2.mono fun e W' h=>h.imp (fun ⟨h1,h2,h3,h4⟩=>⟨h1,⟨h2,seen,h4 _ _ g2 rfl,g5⟩,h3⟩) id⟩
 have hwb:∀ w,m.sub w->w.heap[b]?=some (.map es clock):=fun w h=>h.map b _ hm2
 have hrN:∀ (w:World) (d:Nat) (seen:Array Nat) (o:Obj),uc o->w.heap[r]?=some (.mapIter (some b) clock seen clock)->Mb W.heap.size w ((jc w d).putObj r o):=fun w d seen o ho h=>
  ⟨rfl,rfl,rfl,(by simp [World.putObj,jc]),(fun c z hc2=>dg (fun e=>by
   subst e;rcases hc2 with h1 | h1
   ·omega
   ·rw [h] at h1; cases h1)),⟨(by show w.drawn<=w.drawn+d; omega)⟩⟩
 have Z:∀ (w:World) (d:Nat) (seen:Array Nat) (o:Obj),m.sub w->w.heap[r]?=some (.mapIter (some b) clock seen clock)->m.sub ((jc w d).putObj r o):=fun w d seen o h hr=>
  ⟨fun c q v hv=>by
   have h1:=h.cell c q v hv;simp only [World.cell?] at h1 ⊢;rw [dg (fun e=>by subst e; rw [hr] at h1; cases h1)]; exact h1,
   fun c x hx=>by
   have h1:=h.map c x hx;rw [dg (fun e=>by subst e; rw [hr] at h1; cases h1)]; exact h1⟩
 refine callsIn_of_wp Tryz.func354 rfl (hfn 354) ?_ hro;refine wpIn_seq (fT ?_);have hΓ:cr.OK ⟨Tryz.prog,F,n,W,m,14⟩:=⟨hfn,hdep,hal,bj,L,L.sub hs⟩
 -- the first region
 obtain ⟨a0,Q⟩:∃ a0:Act,a0={ tmps:=#[Value.func (.yield lp) #[] #[]]++#[Value.pointer (some ⟨pb,po,none⟩)]++Array.replicate (Tryz.f354.ntmps - (#[Value.func (.yield lp) #[] #[]]++#[Value.pointer (some ⟨pb,po,none⟩)]).size) Go.undef,defers:=[] }:=⟨_,rfl⟩;rw [<- Q];have hz0:a0.tmps.size=14:=by rw [Q]; simp [Tryz.ntmps354]
 have hd0:a0.defers=[]:=by rw [Q]
 have e00:a0.tmps.getD 0 Go.undef = .func (.yield lp) #[] #[]:=by rw [Q]; simp [aJ]
 have e01:a0.eval (.tmp 1) = .pointer (some ⟨pb,po,none⟩):=by
  show a0.tmps.getD 1 Go.undef=_;rw [Q]; simp [aJ,Array.getElem?_append]
 clear Q
 have hrun0:(load ⟨pb,po,none⟩).run Tryz.prog W = .ok (.map (some b)) W:=by
  have z:=hs.cell pb po _ hm1;simp [load,Sem.run,z]
 refine mW (i:=0) (l:=[1]) (o:={ dst:=some 4,op := .load 375 (.tmp 1),type:=375,pos:=_,after:=_,guard:=none }) rfl rfl ?_;refine cX (Γ:=⟨Tryz.prog,F,n,W,m,14⟩) hΓ (fun c z=>by cases z) (v := .map (some b)) (w':=W) ?_ ?_
 ·simp only [execOp,e01,Instr.loadAt,Instr.sureAddr,loadVar,aD,aL,aw,Tryz.isAgg375,br,cv,hrun0]
 have e04:(a0.put (some 4) (.map (some b))).eval (.tmp 4) = .map (some b):=by
  show (a0.put (some 4) (.map (some b))).tmps.getD 4 Go.undef=_;rw [fM _ _ _ _ am,aV rfl]
 refine mW (i:=1) (l:=[]) (o:={ dst:=some 5,op := .range 375 (.tmp 4),type:=0,pos:=_,after:=_,guard:=none }) rfl rfl ?_;refine cX (Γ:=⟨Tryz.prog,F,n,W,m,14⟩) hΓ (fun c z=>by cases z) (v := .pointer (some ⟨W.heap.size,0,none⟩)) (w':=W.alloc (.mapIter (some b) clock #[] clock)) ?_ ?_
 ·simp only [execOp,e04,aD,Go.AI.run_range_map Tryz.underlying375 (hwb W hs),aw,aL]
 simp only [wpOpsIn];obtain ⟨a1,ha1⟩:∃ a1:Act,a1=(a0.put (some 4) (.map (some b))).put (some 5) (.pointer (some ⟨W.heap.size,0,none⟩)):=⟨_,rfl⟩;show Code.wpIn _ _ _ _ _ ((a0.put (some 4) (.map (some b))).put (some 5) (.pointer (some ⟨W.heap.size,0,none⟩))) _;rw [<- ha1];have hG:Gr W (W.alloc (.mapIter (some b) clock #[] clock)):=⟨(abs _ W).alloc (ba _) _,.alloc W (fun _ _ _ h=>nomatch h)⟩
 have U:m.sub (W.alloc (.mapIter (some b) clock #[] clock)):=⟨fun c q v hv=>by
   have h1:=hs.cell c q v hv
   have z:c<W.heap.size:=by
    unfold World.cell? at h1;split at h1
    ·exact (aX.1 ‹_›).1
    ·cases h1
   rw [lS _ _ _ (show (⟨c,q,none⟩:Addr).block<_ from z)]; exact h1,
   fun c x hx=>by
   have h1:=hs.map c x hx;exact (gI _ _ _ (aX.1 h1).1).trans h1⟩
 have hYI:YI Y (false,([],none)) ⟨Y.tm,[]⟩ a1 (W.alloc (.mapIter (some b) clock #[] clock)):=by
  have E:∀ (d:Nat) (x:AV),get Y.tm d=some x->RD m x (a1.tmps.getD d Go.undef):=fun d x hx=>by
   have hx:get [(0,AV.lit (.func (.yield lp) #[] #[])),(5,AV.lit (.pointer (some ⟨r,0,none⟩)))] d=some x:=hx;simp only [bf] at hx;rw [ha1,fM _ _ _ _ (by rw [fI]; omega)];split at hx
   ·rename_i hd;cases hx;subst hd;rw [aY am,fM _ _ _ _ am,aY am,e00];exact .lit _ rfl rfl
   ·split at hx
    ·rename_i hd;cases hx;rw [aV hd,hrr];exact .lit _ rfl rfl
    ·cases hx
  refine rX (Y:=Y) ?_ U (by rw [ha1,fI,fI]; exact hz0) E (by rw [ha1,er,er]; exact hd0) E rfl (L.sub U);refine ⟨hab [] W _ hJ0 hG.toI,#[],by rw [<- hrr]; exact fx _ _,fun e he x hx=>?_⟩;simp
 -- the loop
 have hyp:YP Y (false,([],none)) ⟨Y.tm,[]⟩ (match Tryz.f354.body with | some (.seq _ c)=>c | _ => .skip) (fun e g' s'=>(e = .ret\/e = .normal)/\((∃ p,p.Perm (l.map (·.1))/\g'=(false,(p,none)))\/g'.1=true)):=by
  refine YP.block (YP.loop (X:=List (List Int)) (fun p=>((false,(p,none)),⟨Y.tm,[]⟩)) (fun p=>p.Nodup/\∀ x∈p,x∈l.map (·.1)) (fun p=>l.length - p.length) [] ⟨fE,by simp⟩ rfl (.refl _) (fun p hp=>?_));obtain ⟨hpn,hpk⟩:=hp;refine YP.seq (K1:=fun e g s=>e = .normal/\((g=(false,(p,none))/\s=⟨(7,.bool false)::Y.tm,[]⟩/\∀ x∈l.map (·.1),x∈p)\/∃ x,g=(false,(p,some x))/\s=⟨(7,.bool true)::Y.tm,[]⟩/\x∈l.map (·.1)/\x ∉ p)) ?_ ?_ ?_
  ·-- one step
   intro a w M;have hJ:=M.now hY;obtain ⟨gJ,seen,gr,G⟩:=hJ;have t:=M.sub;have hnt:a.tmps.size=14:=M.nt
   have e5:a.eval (.tmp 5) = .pointer (some ⟨r,0,none⟩):=by
    have h1:=M.tm 5 (.lit (.pointer (some ⟨r,0,none⟩))) rfl;show a.tmps.getD 5 Go.undef=_;generalize a.tmps.getD 5 Go.undef=u at h1;cases h1; rfl
   have E:∀ (v6 v7:Value) (d:Nat) (x:AV),get Y.tm d=some x->RD m x (((a.put (some 6) v6).put (some 7) v7).tmps.getD d Go.undef):=fun v6 v7 d x hx=>by
    have h1:=M.tm d x hx;have hx:get [(0,AV.lit (.func (.yield lp) #[] #[])),(5,AV.lit (.pointer (some ⟨r,0,none⟩)))] d=some x:=hx
    have hd:d=0\/d=5:=by
     simp only [bf] at hx;split at hx
     ·left; assumption
     ·split at hx
      ·right; assumption
      ·cases hx
    rw [fM _ _ _ _ (by rw [fI]; omega),aY am,fM _ _ _ _ am,aY am];exact h1
   have htm7:∀ (v6:Value) (bo:Bool) (d:Nat) (x:AV),get ((7,AV.bool bo)::Y.tm) d=some x->RD m x (((a.put (some 6) v6).put (some 7) (.bool bo)).tmps.getD d Go.undef):=fun v6 bo d x hx=>by
    rw [bf] at hx;split at hx
    ·rename_i hd;cases hx;rw [fM _ _ _ _ (by rw [fI]; omega),aV hd];exact .bool bo
    ·exact E _ _ d x hx
   have e6:∀ v6:Value,(a.put (some 6) v6).eval (.tmp 6)=v6:=fun v6=>by
    show (a.put (some 6) v6).tmps.getD 6 Go.undef=_;rw [fM _ _ _ _ am,aV rfl]
   refine fT ?_;refine mW (i:=0) (l:=[1]) (o:={ dst:=some 6,op := .next (.tmp 5) false,type:=0,pos:=_,after:=_,guard:=none }) rfl rfl ?_;rcases Go.AI.run_next_map (P:=Tryz.prog) 0 gr (hwb w t) hbl with ⟨d,h1,h2⟩ | ⟨e,d,h1,h2,h3⟩
   ·refine cX (Γ:=⟨Tryz.prog,F,n,W,m,14⟩) hΓ (fun c z=>by cases z) (v := .tuple #[.bool false]) (w':=jc w d) ?_ ?_
    ·simp only [execOp,e5,aD,h1,aw,aL]
    refine mW (i:=1) (l:=[]) (o:={ dst:=some 7,op := .extract (.tmp 6) 0,type:=4,pos:=_,after:=_,guard:=none }) rfl rfl ?_;refine cX (Γ:=⟨Tryz.prog,F,n,W,m,14⟩) hΓ (fun c z=>by cases z) (v := .bool false) (w':=jc w d) ?_ ?_
    ·simp only [execOp,e6,Instr.extract,aD,aL,aw];rfl
    simp only [wpOpsIn];refine ⟨(false,(p,none)),⟨(7,.bool false)::Y.tm,[]⟩,rX (Y:=Y) ?_ ⟨t.cell,t.map⟩ (by rw [fI,fI]; exact hnt) (E _ _) (by rw [er,er]; exact M.df) (htm7 _ _) rfl (L.sub ⟨t.cell,t.map⟩),(by trivial),.inl ⟨rfl,rfl,fun x hx=>?_⟩⟩
    ·exact ⟨hab p w _ gJ (Gr.toI ⟨⟨rfl,rfl,rfl,ba _,fun _ _=>rfl⟩,⟨We _ _⟩⟩),seen,gr,G⟩
    ·obtain ⟨q,hq,rfl⟩:=bp.1 hx;obtain ⟨i,hi,rfl⟩:=cI hq;have hi':i<es.size:=by omega
     obtain ⟨q',q1,q2⟩:=B i _ (aE hi');rw [ai hi] at q1;cases q1;have hme:es[i]∈es.toList:=by simp
     exact (G _ hme _ q2).1 (h2 _ hme)
   ·obtain ⟨x,H,N⟩:=hkm e h1
    have hxp:x ∉ p:=fun z=>by
     have:=(G e h1 x H).2 z;rw [h2] at this; cases this
    refine cX (Γ:=⟨Tryz.prog,F,n,W,m,14⟩) hΓ (fun c z=>by cases z) (v := .tuple #[.bool true,e.key,e.val]) (w':=(jc w d).putObj r (.mapIter (some b) clock (seen.push e.born) clock)) ?_ ?_
    ·simp only [execOp,e5,aD,h3,aw,aL]
    refine mW (i:=1) (l:=[]) (o:={ dst:=some 7,op := .extract (.tmp 6) 0,type:=4,pos:=_,after:=_,guard:=none }) rfl rfl ?_;refine cX (Γ:=⟨Tryz.prog,F,n,W,m,14⟩) hΓ (fun c z=>by cases z) (v := .bool true) (w':=(jc w d).putObj r (.mapIter (some b) clock (seen.push e.born) clock)) ?_ ?_
    ·simp only [execOp,e6,Instr.extract,aD,aL,aw];rfl
    simp only [wpOpsIn];refine ⟨(false,(p,some x)),⟨(7,.bool true)::Y.tm,[]⟩,rX (Y:=Y) ?_ (Z w d seen _ t gr) (by rw [fI,fI]; exact hnt) (E _ _) (by rw [er,er]; exact M.df) (htm7 _ _) rfl (L.sub (Z w d seen _ t gr)),(by trivial),.inr ⟨x,rfl,rfl,N,hxp⟩⟩;refine ⟨hab p w _ gJ (hrN w d seen _ (fun _ _ _ h=>nomatch h) gr),seen.push e.born,oN (aX.1 gr).1,⟨N,hxp,?_⟩,fun f hf y hy=>?_,e,h1,H,by simp⟩
    ·have:=wH (p:=p++[x]) (k:=l.map (·.1)) (by
      rw [wj];refine ⟨hpn,by simp,fun a ha b hb=>?_⟩;simp only [cg] at hb;subst hb;intro e; subst e; exact hxp ha) (fun y hy=>by
      rcases eY.1 hy with hy | hy
      ·exact hpk y hy
      ·simp only [cg] at hy; subst hy; exact N)
     simp at this;show p.length<l.length;omega
    rw [Array.contains_push];simp only [cu,Nl,eY,cg];rw [G f hf y hy];refine or_congr Iff.rfl ⟨fun h=>?_,fun h=>?_⟩
    ·have:=hbu e h1 f hf h;subst this;rw [H] at hy;exact (uH hy)
    ·subst h;have:f.key=e.key:=by rw [hy,H]
     obtain ⟨i,hi⟩:=A e h1;obtain ⟨j,hj⟩:=A f hf;have:=D.2.2 j i f e hj hi this;subst this;rw [hi] at hj; cases hj; rfl
  ·rintro g s ⟨_,⟨rfl,rfl,hall⟩ | ⟨x,rfl,rfl,H,N⟩⟩
   ·refine YP.seq (K1:=fun e g s=>e = .exit 0/\g=(false,(p,none))) ?_ (by rintro g s ⟨h,_⟩; cases h) ?_
    ·refine fB (keep:=[]) hY af _ _ _ _ aK aK ?_;exact aa (fun h=>Bool.noConfusion h) (fun _=>⟨rfl,rfl⟩)
    ·rintro e g s _ ⟨rfl,rfl⟩;exact ⟨.inr rfl,.inl ⟨p,Bx hpn hnd fun x=>⟨hpk x,hall x⟩,rfl⟩⟩
   ·obtain ⟨q,hq,hqx⟩:=bp.1 H;have hlx:=hl q hq;rw [hqx] at hlx
    obtain ⟨u,v,rfl⟩:∃ u v,x=[u,v]:=by
     match x,hlx with
     | [u,v],_=>exact ⟨u,v,rfl⟩
    refine YP.seq (K1:=fun e g' s'=>e = .normal/\g'=(false,(p,some [u,v]))/\s'=⟨(7,.bool true)::Y.tm,[]⟩) ?_ ?_ (by rintro e g s h ⟨rfl,_⟩; exact absurd rfl h)
    ·refine fB (keep:=[]) hY af _ _ _ _ aK aK ?_;exact aa (fun _=>⟨rfl,rfl,rfl⟩) (fun h=>Bool.noConfusion h)
    rintro g s ⟨_,rfl,rfl⟩;refine YP.block (YP.seq (K1:=fun e g' s'=>e = .normal/\g'=(false,(p,some [u,v]))/\s'=⟨(3,.loc 3 0)::(9,.agg [.int .i64 u,.int .i64 v])::Y.tm,[(3,[.int .i64 u,.int .i64 v]),(3,[.int .i64 0,.int .i64 0])]⟩) ?_ ?_ (by rintro e g s h ⟨rfl,_⟩; exact absurd rfl h))
    ·intro a w M;obtain ⟨gJ,seen,gr,hx1',G,e,he,hek,hback⟩:=M.now hY;have t:=M.sub;have hnt:a.tmps.size=14:=M.nt
     have e5:a.eval (.tmp 5) = .pointer (some ⟨r,0,none⟩):=by
      have h1:=M.tm 5 (.lit (.pointer (some ⟨r,0,none⟩))) rfl;show a.tmps.getD 5 Go.undef=_;generalize a.tmps.getD 5 Go.undef=u at h1;cases h1; rfl
     have e8:∀ v6:Value,(a.put (some 8) v6).eval (.tmp 8)=v6:=fun v6=>by
      show (a.put (some 8) v6).tmps.getD 8 Go.undef=_;rw [fM _ _ _ _ am,aV rfl]
     have E:∀ (v6 v7:Value) (d:Nat) (x:AV),get Y.tm d=some x->RD m x (((a.put (some 8) v6).put (some 9) v7).tmps.getD d Go.undef):=fun v6 v7 d x hx=>by
      have h1:=M.tm d x hx;have hx:get [(0,AV.lit (.func (.yield lp) #[] #[])),(5,AV.lit (.pointer (some ⟨r,0,none⟩)))] d=some x:=hx
      have hd:d=0\/d=5:=by
       simp only [bf] at hx;split at hx
       ·left; assumption
       ·split at hx
        ·right; assumption
        ·cases hx
      rw [fM _ _ _ _ (by rw [fI]; omega),aY am,fM _ _ _ _ am,aY am];exact h1
     refine fT ?_;refine mW (i:=0) (l:=[1,2,3]) (o:={ dst:=some 8,op := .entry (.tmp 5),type:=0,pos:=_,after:=_,guard:=none }) rfl rfl ?_;refine cX (Γ:=⟨Tryz.prog,F,n,W,m,14⟩) hΓ (fun c z=>by cases z) (v := .tuple #[e.key,e.val]) (w':=w) ?_ ?_
     ·simp only [execOp,e5,aD,Go.AI.run_entry_map gr (hwb w t) hback he (hbu e he),aw,aL]
     refine mW (i:=1) (l:=[2,3]) (o:={ dst:=some 9,op := .extract (.tmp 8) 0,type:=76,pos:=_,after:=_,guard:=none }) rfl rfl ?_;refine cX (Γ:=⟨Tryz.prog,F,n,W,m,14⟩) hΓ (fun c z=>by cases z) (v:=e.key) (w':=w) ?_ ?_
     ·simp only [execOp,e8,Instr.extract,aD,aL,aw];rfl
     have hI2:YI Y (false,(p,some [u,v])) ⟨(9,.agg [.int .i64 u,.int .i64 v])::Y.tm,[]⟩ ((a.put (some 8) (.tuple #[e.key,e.val])).put (some 9) e.key) w:=by
      refine rX (Y:=Y) (M.now hY) t (by rw [fI,fI]; exact hnt) (E _ _) (by rw [er,er]; exact M.df) (fun d x hx=>?_) rfl (L.sub t);rw [bf] at hx;split at hx
      ·rename_i hd;cases hx;rw [fM _ _ _ _ (by rw [fI]; omega),aV hd,hek];exact vR m [u,v]
      ·exact E _ _ d x hx
     refine jK (T:=jT) (guards:=[]) hY af (eB aK) aK [{ dst:=some 3,op := .alloc 76,type:=0,pos := "iter.go:27",after:=#[],guard:=none },{ dst:=none,op := .store 76 (.tmp 3) (.tmp 9),type:=0,pos := "iter.go:27",after:=#[{ on:=2,ground := .data },{ on:=1,ground := .data },{ on:=0,ground := .phase },{ on:=1,ground := .phase },{ on:=2,ground := .phase }],guard:=none }] 2 (false,(p,some [u,v])) ⟨(9,.agg [.int .i64 u,.int .i64 v])::Y.tm,[]⟩ _ _ (fun g s=>g=(false,(p,some [u,v]))/\s=⟨(3,.loc 3 0)::(9,.agg [.int .i64 u,.int .i64 v])::Y.tm,[(3,[.int .i64 u,.int .i64 v]),(3,[.int .i64 0,.int .i64 0])]⟩) (fun j=>?_) ?_ hI2 (fun g' s' a' w' h1 h2=>⟨g',s',h2,rfl,h1⟩)
     ·match j with
      | 0=>rfl
      | 1=>rfl
      | j+2=>rw [fW dc,fW (by simp; omega)]
     ·conv=>whnf
      exact aa rfl rfl
    ·rintro g s ⟨_,rfl,rfl⟩;refine fB (keep:=[0,5,13]) hY af _ _ _ _ aK aK ?_;refine aa rfl (ae [u,v] (aa rfl (aa rfl (aa ?_ ?_))))
     ·refine cZ ?_;refine ae (p++[[u,v]]) (aa ⟨?_,?_⟩ (aa ?_ (aa rfl (LE))))
      ·rw [wj];refine ⟨hpn,by simp,fun a ha b hb=>?_⟩;simp only [cg] at hb;subst hb;intro e; subst e; exact N ha
      ·intro y hy;rcases eY.1 hy with hy | hy
       ·exact hpk y hy
       ·simp only [cg] at hy; subst hy; exact H
      ·have h1:(p++[[u,v]]).length<=(l.map (·.1)).length:=by
        refine wH ?_ ?_
        ·rw [wj];refine ⟨hpn,by simp,fun a ha b hb=>?_⟩;simp only [cg] at hb;subst hb;intro e; subst e; exact N ha
        ·intro y hy;rcases eY.1 hy with hy | hy
         ·exact hpk y hy
         ·simp only [cg] at hy; subst hy; exact H
       simp at h1 ⊢;omega
     ·refine cY ?_;exact ⟨.inl rfl,.inr rfl⟩
  ·rintro e g s h ⟨rfl,_⟩; exact absurd rfl h
 refine dm (hyp a1 _ hYI) ?_;rintro e a' w' ⟨g',s',hI',he,hg⟩
 have hpost:a'.defers=[]/\∃ v,(results Tryz.f354 a'.tmps).run Tryz.prog w' = .ok v w'/\((∃ u,Ending.returned v = .returned u)/\((∃ p,p.Perm (l.map (·.1))/\J p w')\/Jx w')):=by
  refine ⟨hI'.df,.tuple #[],by simp [results,Tryz.f354],⟨_,rfl⟩,?_⟩;rcases hg with ⟨p,hp,rfl⟩ | hg
  ·exact .inl ⟨p,hp,(hI'.now hY).1⟩
  ·right;obtain ⟨⟨W0,h1,h2,h3,_⟩,_⟩:=hI';rw [hg] at h1;obtain ⟨⟨cx,hW,_⟩,_⟩:=h2;exact habx W0 w' h1 (Gr.toI ⟨hW.ext.toBelow h3,h3.more⟩)
 rcases he with rfl | rfl <;> exact hpost
end Go.Proofs
