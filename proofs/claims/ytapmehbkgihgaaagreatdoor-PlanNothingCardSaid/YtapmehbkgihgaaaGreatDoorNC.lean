/- Part 3 of the proof: an abstract interpreter for the code, contracts of the functions, and plain facts; the conditions are those typed. -/
import Derived.Test.YtapmehbkgihgaaaGreatDoorNB
import Derived.Shelf.SlSortCmp.WholeK
import Derived.Shelf.SlSortCmp.NoneTotal
import Derived.Shelf.Slices.In.SortNone
import Derived.Shelf.Slices.In.CompactI
import Derived.Sort.EveryDepth
import Derived.Sort.OwnSortedInts
import Derived.Lib.SliceRun
import Derived.ProofKit
import Derived.LaidMore
import Derived.OpenShut
import Derived.Stop.Joined
import Derived.KernelRfl
import Derived.Test.YtapmehbkgihgaaaGreatDoorProg
set_option linter.unusedSectionVars false
set_option linter.unusedVariables false
set_option linter.unusedSimpArgs false
namespace Go.AI
open Go
theorem aa {a b:Prop} (h:a) (k:b):a∧b:=And.intro h k
theorem ae.{u} {α:Sort u} {p:α→Prop} (w:α) (h:p w):Exists p:=Exists.intro w h
theorem ak {a b:Prop} (h:a):a∨b:=Or.inl h
abbrev au:=@Int.natCast_nonneg
abbrev aH:=@of_decide_eq_true
abbrev aU:=@Nat.zero_le
abbrev aW:=@of_decide_eq_false
abbrev bE:=@List.take_of_length_le
abbrev fE:=@Bool.eq_iff_iff
abbrev fO:=@List.pairwise_iff_getElem
abbrev gO:=@Nat.mul_one
abbrev iu:=@List.length_filter_le
abbrev iK:=@Option.some.inj
abbrev jx:=@decide_eq_false_iff_not
abbrev jy:=@Nat.lt_succ_self
abbrev kO:=@Nat.ble_eq_true_of_le
abbrev nO:=@Go.Calls.mono
abbrev n4:=@List.append_assoc
abbrev oP:=@Array.getElem?_modify
abbrev qg:=@List.all_cons
abbrev qu:=@Go.IntKind.wrap_i64
abbrev rR:=@Go.calls_of_every_depth
abbrev BF:=@List.length_mergeSort
abbrev IZ:=@beq_eq_false_iff_ne
abbrev RT:=@Nat.lt_or_ge
abbrev RV:=@List.all_nil
abbrev R6:=@Go.Sort.heap_grow_old
abbrev Vs:=@Nat.le_add_right
abbrev aaN:=@List.append_cancel_left
end Go.AI
namespace Go.AI
open Go
open Go.RowKit (Below)
structure YM (ι α:Type) where
 P:Program
 F:Fence
 n:Nat
 nt:Nat
 m:dI
 l:Nat
 J:ι->dI->World->Prop
 Jx:ι->World->Prop
 ok:ι->α->Prop
 nxt:ι->α->ι
 avs:α->List AV
def YM.base {ι α:Type} (Y:YM ι α) (m0:dI) (W:World):ce:=⟨Y.P,Y.F,Y.n,W,m0,Y.nt⟩
structure YM.OK {ι α:Type} (Y:YM ι α):Prop where
 base:∀ m0 W,Y.m.le m0->m0.sub W->(Y.base m0 W).OK
 round:Y.F.round=none
 ab:∀ k m1 m2 b c,Y.J k m1 b->Gr b c->m1.le m2->m2.sub c->m1.News (b.heap.size<=·) m2 c->Y.J k m2 c
 abx:∀ k b c,Y.Jx k b->Gr b c->Y.Jx k c
 yld:∀ k x m1 b (vs:Array Value),Y.ok k x->Y.m.le m1->m1.sub b->Y.J k m1 b->(Y.avs x).length=vs.size->(∀ (i:Nat) (a:AV) (v:Value),(Y.avs x)[i]?=some a->vs[i]?=some v->RD m1 a v) ->
  YieldAt Y.F (Y.n - 1) Y.P Y.l vs b fun e d=>(e = .returned (.bool true)/\Y.J (Y.nxt k x) m1 d/\m1.sub d)\/(e = .returned (.bool false)/\Y.Jx (Y.nxt k x) d/\m1.sub d)
structure MI {ι α:Type} (Y:YM ι α) (g:sQ ι) (s:St) (a:Act) (w:World):Prop where
 ex:∃ b m0,Y.m.le m0/\(bif g.1 then Y.Jx g.2 b else Y.J g.2 m0 b)/\jo (Y.base m0 b) s a w/\NC b w/\m0.sub b
 df:a.defers=[]
inductive io {ι α:Type} (Y:YM ι α) (g:sQ ι) (s:St) (c:Code) (K:Exit->sQ ι->St->Prop):Prop
 | mk (h:∀ a w,MI Y g s a w->c.wpIn Y.F Y.n Y.P (fun e d w'=>∃ b s',MI Y b s' d w'/\K e b s') a w)
section
variable {ι α:Type} {Y:YM ι α}
theorem io.out {g} {s} {c} {K} (h:io Y g s c K):∀ a w,MI Y g s a w->c.wpIn Y.F Y.n Y.P (fun e d w'=>∃ b s',MI Y b s' d w'/\K e b s') a w:=by cases h; assumption
theorem MI.less {g} {s s'} {a} {w} (h:MI Y g s a w) (hle:s.le s'):MI Y g s' a w:=
 ⟨let ⟨b,m0,h1,h2,d,c⟩:=h.ex; ⟨b,m0,h1,h2,d.less hle,c⟩,h.df⟩
theorem MI.inv {g} {s} {a} {w} (h:MI Y g s a w) (c:Y.F.round=none):∃ b m0,Y.m.le m0/\(bif g.1 then Y.Jx g.2 b else Y.J g.2 m0 b)/\d5 (Y.base m0 b) s a w/\NC b w/\m0.sub b:=by
 obtain ⟨⟨b,m0,f,h1,h2,i⟩,d⟩:=h;exact ⟨b,m0,f,h1,⟨h2.ex,h2.size,⟨[],by simpa [kV] using d,eP,by simp⟩,fun _ e=>nomatch (show none=some _ from c ▸ e)⟩,i⟩
theorem io.mono {g} {s} {c} {K K'} (h:io Y g s c K) (d:∀ e g s,K e g s->K' e g s):io Y g s c K':=
 ⟨fun a w f=>db (h.out a w f) fun e _ _ ⟨b,s',h1,h2⟩=>⟨b,s',h1,d e b s' h2⟩⟩
theorem AH {g} {s} {c} {K} (m:mW [1000000000] (oI c)=true) (h:∀ b m0,(Y.base m0 b).OK->m0.sub b->aJ (Y.base m0 b) s c fun e s'=>K e g s') (hY:Y.OK):io Y g s c K:=by
 refine ⟨fun a w j=>?_⟩;obtain ⟨b,m0,l,h1,h2,i,d⟩:=j.inv hY.round;refine db ((h b m0 (hY.base m0 b l d) d).out a w h2) ?_;rintro e r w' ⟨n,q,s',f,o⟩;exact ⟨g,s',⟨⟨b,m0,l,h1,f.toT,i.trans n,d⟩,by rw [q.defers fun p=>dN m cU p]; exact j.df⟩,o⟩
theorem io.pure {g} {s} {c} {K} {e} (d:∀ {F:Fence} {n:Nat} {P:Program} {Q:Exit->Act->World->Prop} {a:Act} {w:World},Q e a w->c.wpIn F n P Q a w) (h:K e g s):io Y g s c K:=
 ⟨fun _ _ b=>d ⟨g,s,b,h⟩⟩
theorem io.skip {g} {s} {K} (h:K .normal g s):io Y g s .skip K:=io.pure wpIn_skip h
theorem io.label {g} {s} {K} {l} (h:K .normal g s):io Y g s (.label l) K:=io.pure wpIn_label h
theorem io.ret {g} {s} {K} (h:K .ret g s):io Y g s .ret K:=io.pure wpIn_ret h
theorem io.exit {g} {s} {K} {j} (h:K (.exit j) g s):io Y g s (.exit j) K:=io.pure wpIn_exit h
theorem io.seq {g} {s} {x y} {K} (h:io Y g s x fun e d s'=>match e with | .normal=>io Y d s' y K | e=>K e d s'):io Y g s (.seq x y) K:=by
 refine ⟨fun a w i=>wpIn_seq (db (h.out a w i) fun e m w' j=>?_)⟩;obtain ⟨d,s',b,f⟩:=j
 cases e with
 | normal=>exact f.out m w' b
 | exit id=>exact ⟨d,s',b,f⟩
 | goto l=>exact ⟨d,s',b,f⟩
 | ret=>exact ⟨d,s',b,f⟩
 | panic c=>exact ⟨d,s',b,f⟩
 | outgrown=>exact ⟨d,s',b,f⟩
theorem io.block {g} {s} {id} {c} {K} (h:io Y g s c fun e g s=>match e with | .exit j=>bif Nat.beq j id then K .normal g s else K (.exit j) g s | e=>K e g s):io Y g s (.block id c) K:=by
 refine ⟨fun a w m=>aaC (db (h.out a w m) fun e o w' n=>?_)⟩;obtain ⟨f,s',b,d⟩:=n
 cases e with
 | exit j=>
  simp only at d;unfold Exit.inBlock
  cases i:Nat.beq j id with
  | true=>rw [i] at d; simp only [aj i,c5]; exact ⟨f,s',b,d⟩
  | false=>rw [i] at d; simp only [de i,cu]; exact ⟨f,s',b,d⟩
 | normal=>exact ⟨f,s',b,d⟩
 | goto l=>exact ⟨f,s',b,d⟩
 | ret=>exact ⟨f,s',b,d⟩
 | panic c=>exact ⟨f,s',b,d⟩
 | outgrown=>exact ⟨f,s',b,d⟩
theorem io.loop {g} {s} {c} {K} {X:Type} (f:X->sQ ι×St) (I:X->Prop) (μ:X->Nat) (x0) (p:I x0) (q:(f x0).1=g) (hle:s.le (f x0).2)
  (body:∀ x,I x->io Y (f x).1 (f x).2 c fun e d s'=>match e with | .normal=>∃ i,I i/\μ i<μ x/\(f i).1=d/\s'.le (f i).2 | e=>K e d s'):io Y g s (.loop c) K:=by
 refine ⟨fun a0 w t=>?_⟩
 have key:∀ (m:Nat) (x:X) (a:Act) (w1:World),I x->μ x<m->MI Y (f x).1 (f x).2 a w1 ->
   Code.roundsIn Y.F Y.n Y.P c (fun e j w'=>∃ d s',MI Y d s' j w'/\K e d s') m a w1:=by
  intro m
  induction m with
  | zero=>intro x a w1 _ hm; omega
  | succ m u=>
   intro x a w1 hx hm o;rw [roundsIn_succ];refine db ((body x hx).out a w1 o) fun e j w' r=>?_;obtain ⟨d,s',b,h⟩:=r
   cases e with
   | normal=>
    obtain ⟨i,g1,g2,g3,g4⟩:=h;exact u i j w' g1 ar (by rw [g3]; exact b.less g4)
   | exit id=>exact ⟨d,s',b,h⟩
   | goto l=>exact ⟨d,s',b,h⟩
   | ret=>exact ⟨d,s',b,h⟩
   | panic c=>exact ⟨d,s',b,h⟩
   | outgrown=>exact ⟨d,s',b,h⟩
 exact Xy (μ x0+1) (key _ x0 a0 w p ar (by rw [q]; exact t.less hle))
theorem io.cond {g} {s} {c} {x y} {t} {K} (f:ev s c = .bool t) (h:(t=true->io Y g s x K)/\(t=false->io Y g s y K)):io Y g s (.cond c x y) K:=by
 refine ⟨fun a w b=>?_⟩;obtain ⟨i,m0,_,_,⟨⟨e,j,d⟩,_⟩,_,_⟩:=b.ex
 have he:RC e (.bool t) (a.eval c):=by
  have:=cc d c;rwa [f] at this
 exact CS he.bool (fun g1=>(h.1 g1).out a w b) (fun g1=>(h.2 g1).out a w b)
end
def TX (t:List (Nat×AV)):List (Nat×AV):=iX AV.pub t
section
variable {ι α:Type} (Y:YM ι α) (T:eS)
def CO (g:sQ ι) (s:St) (o:Oper) (K:sQ ι->St->Prop):Prop:=match o.op,o.dst with
 | .call c,some d=>match c.callee with
  | .value f=>match g with
   |(false,k)=>ev s f = .lit (.func (.yield Y.l) #[] #[])/\∃ x,Y.ok k x/\c.args.toList.map (fun z=>(ev s z).pub)=Y.avs x /\
     (∀ t,t=TX s.t->K (false,Y.nxt k x) ⟨(d,.bool true)::t,[]⟩/\K (true,Y.nxt k x) ⟨(d,.bool false)::t,[]⟩)
   | _=>False
  | _=>False
 | _,_=>False
def pB (all:List Oper) (guards:List Nat):List Oper->sQ ι->St->(sQ ι->St->Prop)->Prop
 | [],g,s,K=>K g s
 | o::rest,g,s,K=>match j3 all s o with
  | 0=>bif rN s o then CO Y g s o fun g s=>pB all guards rest g s K
   else Wo T (aq Y.P) s o.dst o.type o.op fun s=>Dv o.op s fun s=>gL guards o.dst s fun s=>pB all guards rest g s K
  | 1=>fx s o.dst .undef fun s=>pB all guards rest g s K
  | _=>False
end
section
variable {ι α:Type} {Y:YM ι α} (hY:Y.OK) {T:eS} (hT:T.OK Y.P) {keep:List Nat} {Q:Exit->Act->World->Prop} {next:Act->World->Prop}
include hY in
theorem tG {g} {s} {o} {a} {w} {K} (hI:MI Y g s a w) (E:∀ d,o.dst=some d->d<Y.nt) (h:CO Y g s o K)
  (hn:∀ g' s' a' w',K g' s'->MI Y g' s' a' w'->next a' w'):o.wpIn Y.F Y.n Y.P a w next Q:=by
 obtain ⟨W0,m0,H,hJ,G,A,X⟩:=hI.inv hY.round;have hG:=hY.base m0 W0 H X;unfold CO at h;split at h
 ·rename_i c d D hd;split at h
  ·rename_i f M;split at h
   ·rename_i k;obtain ⟨hf,x,hx,N,hK⟩:=h;obtain ⟨hK1,hK2⟩:=hK _ rfl;obtain ⟨⟨j,r,ht⟩,L,hdf⟩:=G
    have hfv:a.eval f = .func (.yield Y.l) #[] #[]:=by
     have:=cc ht f;rw [hf] at this;have this:RD j.m _ _:=this;generalize a.eval f=u at this;cases this;rfl
    have p:Y.m.le j.m:=H.trans r.le0;have hJw:Y.J k j.m w:=hY.ab k m0 j.m W0 w hJ ⟨r.ext.toBelow A,A.more⟩ r.le0 r.sub (r.new.unfree r.sub A)
    obtain ⟨fn,tmps,assign,body,hy,hR⟩:=hY.yld k x j.m w (c.args.map a.eval) hx p r.sub hJw (by rw [<- N]; simp) (fun i z v h1 h2=>by
     rw [<- N,aQ] at h1;obtain ⟨q,hq,rfl⟩:=aA.1 h1;rw [NF] at h2;obtain ⟨q',Z,rfl⟩:=aA.1 h2
     have:q=q':=by
      rw [cL] at hq;rw [hq] at Z; cases Z; rfl
     subst this;exact (cc ht q).pub)
    have U:(execOp a.eval o).run Y.P w = .ok (.round Y.l fn tmps assign body) w:=by
     simp only [execOp,D,aD,resolve,M,hfv,Deferred.ofValue,aL,aw,invoke];simpa using hy
    refine ⟨fun f _=>hG.fn f,?_⟩;rw [ju _ _ _ (by rw [D]; intro c hc; cases hc),U,Oper.uponIn_round];refine ⟨fun h=>(by rw [show Y.F.depth=none from hG.depth] at h; cases h),hR.mono ?_⟩
    have fin:∀ (b:Bool) (w':World),j.m.sub w'->(bif !b then Y.Jx (Y.nxt k x) w' else Y.J (Y.nxt k x) j.m w')->MI Y (!b,Y.nxt k x) ⟨(d,.bool b)::TX s.t,[]⟩ (a.put o.dst (.bool b)) w':=by
     intro b w' hm hj;have hdl:d<a.tmps.size:=by rw [L]; exact E d hd
     refine ⟨⟨w',j.m,p,hj,⟨⟨_,nD (Γ:=Y.base j.m w') hm rfl,fun e y hy=>?_⟩,by rw [fC]; exact L⟩,.refl _,hm⟩,by rw [el]; exact hI.df⟩;refine RC.of_RD (c:=⟨_,_,_,j.m,_,_⟩) ?_;simp only [a8] at hy;split at hy
     ·rename_i B;cases hy;rw [hd,fD _ _ _ _ hdl,aX B];exact RD.bool b
     ·rename_i B;rw [TX,dG] at hy;obtain ⟨z,hz,rfl⟩:=aA.1 hy;rw [hd,fD _ _ _ _ hdl,aV B];exact (ht e z hz).pub
    rintro e w' (⟨rfl,hj,hm⟩ | ⟨rfl,hj,hm⟩)
    ·exact hn _ _ _ _ hK1 (fin true w' hm hj)
    ·exact hn _ _ _ _ hK2 (fin false w' hm hj)
   ·exact h.elim
  ·exact h.elim
 ·exact h.elim
include hY hT in
theorem ly {all:List Oper} {guards:List Nat} (b:∀ j d,jt all j=some d->d<Y.nt):∀ (l:List Oper) (k:Nat) (g:sQ ι) (s:St) (a:Act) (w:World) (K:sQ ι->St->Prop),
  (∀ j,l[j]?=all[k+j]?)->pB Y T all guards l g s K->MI Y g s a w->(∀ A s' t w',K A s'->MI Y A s' t w'->Q .normal t w')->wpOpsIn Y.F Y.n Y.P all.toArray Q (List.range' k l.length) a w
 | [],k,g,s,a,w,K,_,h,u,x=>x g s a w h u
 | o::rest,k,g,s,a,w,K,G,h,u,x=>by
  have E:all.toArray[k]?=some o:=by simpa using (G 0).symm
  have h0':all[k]?=some o:=by simpa using E
  have hk':∀ j,rest[j]?=all[k+1+j]?:=fun j=>by have:=G (j+1); simpa [dV,n3 1 j] using this
  have e:∀ d,o.dst=some d->d<Y.nt:=fun d J=>b k d (by rw [eF,h0']; exact J);obtain ⟨r,m0,m,H,c,y,i⟩:=u.inv hY.round;have hG:=hY.base m0 r m i;simp only [bt,ff,wpOpsIn,E];simp only [pB] at h;split at h
  ·rename_i D;rw [dx (Γ:=Y.base m0 r) b c 0 D ar];simp only [ea,c5]
   cases hy:rN s o with
   | true=>
    rw [hy,aR] at h;exact tG hY u e h fun A s' t w' z q=>ly b rest (k+1) A s' t w' K hk' z q x
   | false=>
    rw [hy,br] at h;refine ld (Γ:=Y.base m0 r) hG hT rfl c e h ?_;intro s' t w' z q M L;rw [uy] at z;obtain ⟨s2,p,hle⟩:=iZ z;refine ly b rest (k+1) g s2 t w' K hk' p (MI.less ⟨⟨r,m0,m,H,q.toT,y.trans M,i⟩,?_⟩ hle) x;obtain ⟨v,rfl⟩:=L;rw [el]; exact u.df
  ·rename_i D;rw [dx (Γ:=Y.base m0 r) b c 1 D ar];simp only [Nat.reduceBEq,bv,cu];obtain ⟨s2,p,B⟩:=fT c e h;exact ⟨fun f _=>hG.fn f,ly b rest (k+1) g s2 _ w K hk' p ⟨⟨r,m0,m,H,B.toT,y,i⟩,by rw [el]; exact u.df⟩ x⟩
  ·exact h.elim
include hY hT in
theorem io.reg (keep) {g} {s} {K} {id} {ops} (c:dC Y.nt (.region id ops false)=true)
  (h:pB Y T ops.toList (dw ops.toList ops.toList) ops.toList g s fun g s=>ga keep s (K .normal g)):io Y g s (.region id ops false) K:=by
 refine ⟨fun a w d=>?_⟩;obtain ⟨l⟩:=ops;refine fP ?_;rw [show (⟨l⟩:Array Oper).size=l.length from rfl,c6];refine ly hY hT (ew c) l 0 g s a w _ (fun j=>by simp) h d ?_;intro f s' i w' e b;obtain ⟨s2,h2,hle⟩:=eb e;exact ⟨f,s2,b.less hle,h2⟩
end
theorem iA.of {P} {α:Type} {avs:α->List AV} {f:FuncId} {fn:Func} {body:Code} {cap:List AV} {items:List α} (hf:P.funcs[f]?=some fn) (hb:fn.body=some body)
  (j:(fn.name == "runtime.NumGoroutine")=false) (hm:P.follows .mixedOrders=true) (hn:cap.length+1<=fn.ntmps) (r:fn.results=#[])
  (h:∀ (F:Fence) (n:Nat) (m:dI) (l:Nat) (J:Nat->dI->World->Prop) (Jx:Nat->World->Prop),YM.OK ⟨P,F,n,fn.ntmps,m,l,J,Jx,fun k x=>items[k]?=some x,fun k _=>k+1,avs⟩ ->
   io ⟨P,F,n,fn.ntmps,m,l,J,Jx,fun k x=>items[k]?=some x,fun k _=>k+1,avs⟩ (false,0) ⟨params 0 (.lit (.func (.yield l) #[] #[])::cap),[]⟩ body fun e g s=>iL items.length e g s):iA P avs f cap items:=by
 refine ⟨gC hf j hb,fun m lb hl hr F n t D M y l J Jx W hs E w b z G=>?_⟩
 let Y:YM Nat α:=⟨P,F,n,fn.ntmps,m,l,fun k=>J (items.take k),fun _=>Jx,fun k x=>items[k]?=some x,fun k _=>k+1,avs⟩
 have hY:Y.OK:=⟨fun m0 W h1 h2=>⟨t,D,M,hm,E.trans h1,E.sub (h1.sub h2)⟩,y,fun k m1 m2 A H h1 h2=>w _ m1 m2 A H h1 h2.toI,fun _ A H h1 h2=>b A H h1 h2.toI,fun k x m1 A vs hx hle N i U Z=>by
  have hlt:=(am.1 hx).1;have hxx:=(am.1 hx).2;have htk:items.take (k+1)=items.take k++[x]:=by rw [ef,hx]; rfl
  have hz:=z _ x m1 A vs ⟨items.drop (k+1),by grind [List.drop_eq_getElem_cons,List.take_append_drop]⟩ hle N i U Z;grind [BJ,id]⟩
 have hp:=(h F n m l _ _ hY).out
 have X:∀ (d:Nat) (x:AV),get (params 0 (.lit (.func (.yield l) #[] #[])::cap)) d=some x->RD m x ((#[Value.func (.yield l) #[] #[]]++lb++Array.replicate (fn.ntmps - (#[Value.func (.yield l) #[] #[]]++lb).size) Go.undef).getD d Go.undef):=by
  intro d x hx;obtain ⟨_,h2⟩:=jR _ _ _ _ hx;simp only [nZ] at h2;have hdl:=(am.1 h2).1;simp only [bt] at hdl;rw [aG,co (by simp; omega)]
  cases d with
  | zero=>
   simp at h2;subst h2;rw [co cU];exact .lit (.func (.yield l) #[] #[]) rfl rfl
  | succ d=>
   grind
 refine callsIn_of_wp hf hb (t f) (db (hp _ W ⟨⟨W,m,.refl _,G,⟨⟨_,nD (Γ:=Y.base m W) hs rfl,fun d x hx=>RC.of_RD (c:=⟨_,_,_,m,_,_⟩) (X d x hx)⟩,?_⟩,.refl _,hs⟩,rfl⟩) ?_) y
 ·grind [YM.base,Array.size_append,Array.size_replicate,List.size_toArray,List.length_cons,List.length_nil]
 ·rintro e a' w' ⟨g',s',hI,⟨he,B⟩⟩
  have o:a'.defers=[]/\∃ v,(results fn a'.tmps).run P w' = .ok v w'/\((∃ u,Ending.returned v = .returned u)/\((∃ p m',p=items/\J p m' w')\/Jx w')):=by
   refine ⟨hI.df,.tuple #[],by simp [results,r],⟨_,rfl⟩,?_⟩;obtain ⟨W0,m0,hm0,i,L,a,_⟩:=hI.ex;obtain ⟨⟨c,q,_⟩,_⟩:=L;rcases B with rfl | hg
   ·exact .inl ⟨items,c.m,rfl,w _ m0 c.m _ _ (by have i:J (items.take items.length) m0 W0:=i; rwa [dl] at i) (Gr.toI ⟨q.ext.toBelow a,a.more⟩) q.le0 q.sub (q.new.unfree q.sub a)⟩
   ·rw [hg] at i;exact .inr (b _ _ i (Gr.toI ⟨q.ext.toBelow a,a.more⟩))
  rcases he with rfl | rfl <;> exact o
open Go
open Go.RowKit (Below)
structure Hi (b:Nat) (w w':World):Prop where
 os:w'.os=w.os
 tape:w'.tape=w.tape
 output:w'.output=w.output
 size:w.heap.size<=w'.heap.size
 block:∀ k,k<w.heap.size->k≠b->w'.heap[k]?=w.heap[k]?
 soft:ej w' b
def Ob (w:World) (b n:Nat):Prop:=∃ c T,w.heap[b]?=some (.cells c T (0,0))/\n<=c.size
theorem Ob.soft {w} {b n} (h:Ob w b n):ej w b:=by
 obtain ⟨c,T,h,_⟩:=h;exact ⟨c,T,h⟩
structure lZ (P:Program) (f:FuncId) (sz:Nat) (rows:List (List Int)) (args:List AV) (Q:AV->List (List Int)->Prop):Prop where
 enters:∀ (args:Array Value) (w:World),(callFunc f args).run P w = .ok (.enter f args) w
 runs:∀ (m:dI) (w:World) (vs:List Value) (b cap:Nat),m.sub w->(gf P).le m->(∀ o,m b o=none)->Ob w b (cap*sz)->rows.length<=cap ->
  (∀ (i j:Nat) (r:List Int) (n:Int),rows[i]?=some r->r[j]?=some n->w.cell? ⟨b,i*sz+j,none⟩=some (.int .i64 n)) ->
  args.length=vs.length->(∀ (i:Nat) (x:AV) (v:Value),args[i]?=some x->vs[i]?=some v->RD m x v) ->
  Calls P f (Value.slice (some ⟨b,0,none⟩) rows.length cap::vs).toArray w fun e w'=>∃ v m' r c,e = .returned v/\Q r c/\RD m' r v/\c.length=rows.length/\(∀ x∈c,x.length=sz) /\
   (∀ (i j:Nat) (r:List Int) (n:Int),c[i]?=some r->r[j]?=some n->m' b (i*sz+j)=some (.int .i64 n))/\m.le m'/\dI.sub m' w'/\Hi b w w' /\
   (∀ k o v,m' k o=some v->m k o=some v\/(k=b\/w.heap.size<=k)/\ej w' k)/\(∀ k x,m'.maps k=some x->m.maps k=some x\/w.heap.size<=k)/\iG w w'
def AV.thin1:AV->Bool
 | .junk | .undef | .int _ _ | .bool _ | .str _ | .lit _ | .fn _ | .clo _ [] | .loc _ _ | .sl .no _ [] | .sl .full _ []=>true
 | _=>false
def AV.thin:AV->Bool
 | .agg cs=>cs.all AV.thin1
 | x=>x.thin1
def AV.thinned (x:AV):AV:=bif x.thin then x else .junk
def yS:List (Nat×List AV)->List (Nat×List AV)
 | []=>[]
 |(d,cs)::r=>bif cs.all AV.thin1 then (d,cs)::yS r else (d,[])::yS r
theorem fp.thin {c c'} (y:c'.ρ=c.ρ) {x} {v} (h:fp c x v) (i:x.thin1=true):fp c' x v:=by
 cases x with
 | junk=>exact RD.junk v
 | undef=>
  have h:RD c.m .undef v:=h;cases h; exact RD.undef
 | int k n=>
  have h:RD c.m (.int k n) v:=h;cases h; exact RD.int k n
 | bool b=>
  have h:RD c.m (.bool b) v:=h;cases h; exact RD.bool b
 | str s=>
  have h:RD c.m (.str s) v:=h;cases h; exact RD.str s
 | lit u=>
  have h:RD c.m (.lit u) v:=h;cases h with | lit _ h1 h2=>exact RD.lit _ h1 h2
 | fn f=>
  have h:RD c.m (.fn f) v:=h;cases h; exact RD.fn f
 | clo f cap=>
  have h:RD c.m (.clo f cap) v:=h
  cases cap with
  | nil=>cases h with | clo _ _ vs hl _=>exact RD.clo f [] vs hl cU
  | cons a r=>cases i
 | loc d off=>show v=_; rw [y]; exact h
 | sl o sz xs=>
  cases xs with
  | cons a r=>cases o <;> cases i
  | nil=>
   cases o with
   | id k=>cases i
   | no=>
    have h:RD c.m (.sl .no sz []) v:=h;cases h with | sl _ _ _ base len cap p hf hl q j e b off l g hm t=>exact RD.sl _ _ _ _ _ _ p hf hl q j e b off l g cU cU
   | full=>
    have h:RD c.m (.sl .full sz []) v:=h;cases h with | sl _ _ _ base len cap p hf hl q j e b off l g hm t=>exact RD.sl _ _ _ _ _ _ p hf hl q j e b off l g cU cU
 | agg cs=>cases i
 | tup vs=>cases i
 | ref cs=>cases i
 | mapv xs=>cases i
 | pin k b off cs=>cases i
 | me g k n xs=>cases i
theorem RC.thinned {c c'} (e:c'.ρ=c.ρ) {x} {v} (h:RC c x v):RC c' x.thinned v:=by
 unfold AV.thinned
 cases d:x.thin with
 | false=>exact RC.of_RD (RD.junk v)
 | true=>
  rw [aR]
  cases x with
  | agg cs=>
   obtain ⟨vs,rfl,h1,h2,j⟩:=h;exact ⟨vs,rfl,h1,h2,fun i y u f l=>(j i y u f l).thin e (aN.1 d y (aC f))⟩
  | _=>exact (ec (by intro cs b; cases b)).2 (((ec (by intro cs b; cases b)).1 h).thin e d)
theorem oj:∀ {bx:List (Nat×List AV)} {d:Nat} {cs:List AV},get (yS bx) d=some cs->cs≠[]->get bx d=some cs/\cs.all AV.thin1=true
 | [],d,cs,h,_=>by simp [yS,get] at h
 |(e,ds)::r,d,cs,h,b=>by
  simp only [yS] at h
  cases f:ds.all AV.thin1 with
  | true=>
   rw [f,aR,a8] at h;rw [a8];split at h
   ·rename_i c; rw [aX c]; cases h; exact ⟨rfl,f⟩
   ·rename_i c; rw [aV c]; exact oj h b
  | false=>
   rw [f,br,a8] at h;rw [a8];split at h
   ·cases h; exact absurd rfl b
   ·rename_i c; rw [aV c]; exact oj h b
def ek (rows:List (List Int)):List (List AV):=rows.map fun r=>r.map (AV.int .i64)
def dI.without (m:dI) (b:Nat):dI:=m.with fun x o=>if x=b then none else m x o
def SO (C:FuncId->Nat->List (List Int)->List AV->(AV->List (List Int)->Prop)->Prop) (s:St) (o:Oper) (K:St->Prop):Prop:=match o.op with
 | .call call=>match call.callee,call.args.toList with
  | .value f,(.tmp d)::rest=>match ev s f,s.tmp d with
   | .fn f,.sl (.id k) sz xs=>Nat.blt k 5000000=true/\∃ rows R,C f sz rows (rest.map fun x=>(ev s x).pub) R/\xs=ek rows/\rows≠[]/\0<sz/\(∀ x∈rows,x.length=sz)/\(rest.all fun x=>(ev s x).pub.thin)=true /\
     ∀ r c,R r c->c.length=rows.length->(∀ x∈c,x.length=sz)->fx ⟨(d,.sl .no sz (ek c))::iX AV.thinned s.t,yS s.b⟩ o.dst r K
   | _,_=>False
  | _,_=>False
 | _=>False
theorem j9 {rows} {i:Nat} {x} (h:(ek rows)[i]?=some x):∃ r,rows[i]?=some r/\x=r.map (AV.int .i64):=by
 simp only [ek,aQ,aA] at h;obtain ⟨r,h1,h2⟩:=h;exact ⟨r,h1,h2.symm⟩
theorem yr {x:AV} (h:x.thin=true):x.thinned=x:=by unfold AV.thinned; rw [h]; rfl
section
variable {Γ:ce} (hΓ:Γ.OK) {s:St} {a:Act} {w:World} {o:Oper} {next:Act->World->Prop} {Q:Exit->Act->World->Prop} {K:St->Prop}
theorem dI.sub.not_free {m:dI} {w} (b:m.sub w) {k o} {v} (h:m k o=some v):¬ free w k:=fun hf=>by
 have:=b.cell k o v h;unfold World.cell? at this;rcases hf with hf | hf
 ·rw [show w.heap[k]?=none from jZ hf] at this; cases this
 ·simp only [hf] at this; cases this
theorem WI.ocall {c} {bx} {w'} (n:WI Γ c bx w) (D:Γ.m0.sub Γ.w0) {b} (B:free Γ.w0 b) (A:∃ o v,c.m b o=some v) (l:ej w b) {m'} (h1:(c.m.without b).le m') (h2:dI.sub m' w') (p:Hi b w w')
  (F:∀ k o v,m' k o=some v->(c.m.without b) k o=some v\/(k=b\/w.heap.size<=k)/\ej w' k) (Z:∀ k x,m'.maps k=some x->(c.m.without b).maps k=some x\/w.heap.size<=k) (h6:iG w w') :
  WI Γ ⟨c.ρ,fun _ => .slice none 0 0,fun _=>0,m',fun _=>none,c.xn⟩ (yS bx) w'/\NC w w':=by
 have hB:=n.ext.size;have z:∀ k o v,Γ.m0 k o=some v->k≠b:=fun k o v h=>j8 (D.not_free h) B;have L:b<w.heap.size:=by obtain ⟨cs,U,r⟩:=l; exact (aO.1 r).1
 have hs':∀ k,ej w k->ej w' k:=fun k q=>by
  by_cases e:k=b
  ·rw [e]; exact p.soft
  ·obtain ⟨cs,U,r⟩:=q;exact ⟨cs,U,(p.block k (aO.1 r).1 e).trans r⟩
 have u:∀ d cs,get bx d=some cs->cs≠[]->c.ρ d≠b:=fun d cs h f e=>by
  obtain ⟨o,v,hv⟩:=A;have:=(n.box d cs h f).2.1 o;rw [e,hv] at this; cases this
 refine ⟨⟨n.ext.trans ⟨p.os,p.tape,p.output,p.size,fun k q=>p.block k (by have:=not_free q; omega) (j8 q B)⟩,h2,?_,⟨fun k o v h=>?_,fun k x h=>?_⟩,fun d cs h f=>?_,fun X H c1 c2 g1 g2 n1 n2 hρ=>?_,fun k=>?_,fun k b' o h=>nomatch h⟩,⟨p.size,fun k o q ho=>?_,h6,hs'⟩⟩
 ·refine ⟨fun k o v h=>h1.cell k o v ?_,fun k x h=>h1.map k x (n.le0.map k x h)⟩;have:=z k o v h;show (if k=b then none else c.m k o)=some v;rw [aV this];exact n.le0.cell k o v h
 ·rcases F k o v h with h | h
  ·simp only [dI.without,dI.with] at h;split at h
   ·cases h
   ·exact (n.new.cell k o v h).imp id fun ⟨y,E⟩=>⟨y,hs' k E⟩
  ·refine .inr ⟨?_,h.2⟩;rcases h.1 with h | h
   ·rw [h]; exact B
   ·exact iJ ar
 ·rcases Z k x h with h | h
  ·exact n.new.map k x h
  ·exact .inr (iJ ar)
 ·obtain ⟨y,E⟩:=oj h f;obtain ⟨r1,r2,J,vs,U,N,r5,M⟩:=n.box d cs y f;have hne':=u d cs y f;have G:=n.lt_box y f;refine ⟨r1,fun o=>?_,J,vs,U,(p.block _ G hne').trans N,r5,fun i x v g1 g2=>fp.thin (c:=c) (c':=⟨c.ρ,fun _ => .slice none 0 0,fun _=>0,m',fun _=>none,c.xn⟩) rfl (M i x v g1 g2) (aN.1 E x (aC g1))⟩;show m' (c.ρ d) o=none
  cases hm:m' (c.ρ d) o with
  | none=>rfl
  | some v=>
   rcases F _ _ _ hm with h | h
   ·simp only [dI.without,dI.with,aV hne'] at h;rw [r2 o] at h; cases h
   ·rcases h.1 with h | h
    ·exact absurd h hne'
    ·omega
 ·exact n.inj X H c1 c2 (oj g1 n1).1 (oj g2 n2).1 n1 n2 hρ
 ·exact ⟨fun g t=>(nomatch t),.inl rfl,fun g d cs t=>(nomatch t),fun g j t=>(nomatch t)⟩
 ·by_cases e:k=b
  ·obtain ⟨cs,U,r⟩:=l;rw [e,r] at q; cases q; cases ho
  ·exact (p.block k (aO.1 q).1 e).trans q
include hΓ in
theorem Ia (hm0:Γ.m0.sub Γ.w0) (hI:d5 Γ s a w) (M:∀ d,o.dst=some d->d<Γ.nt) (h:SO (lZ Γ.P) s o K) (hn:∀ s' a' w',K s'->d5 Γ s' a' w'->NC w w'->FT o.dst.toList a a'->next a' w'):o.wpIn Γ.F Γ.n Γ.P a w next Q:=by
 unfold SO at h;split at h
 ·rename_i call hop;split at h
  ·rename_i fo d0 rest hcal hargs;split at h
   ·rename_i f k sz xs hf hx;obtain ⟨hk5,rows,R,hC,rfl,hne,hsz,hlen,hthin,hK⟩:=h;obtain ⟨c,L,ht⟩:=hI.ex
    have hgx:get s.t d0=some (.sl (.id k) sz (ek rows)):=by
     unfold St.tmp at hx;split at hx
     ·rename_i v hv; rw [hv,hx]
     ·cases hx
    have hv0:=(ec (by intro cs hc; cases hc)).1 (ht d0 _ hgx);obtain ⟨v0,B⟩:∃ v0,v0=a.tmps.getD d0 Go.undef:=⟨_,rfl⟩;rw [<- B] at hv0;obtain ⟨hτ,hsp,H⟩:=hv0;have p:0<rows.length:=Lh.2 hne
    cases H with
    | sl _ _ _ base len cap ho hfl hl hc hsz' hcell b off hb g hm hr=>
     have hll:rows.length=len:=by simpa [ek] using hl
     subst hll;have Z:=hb p;subst Z
     obtain ⟨he,hB⟩:(⟨b,off,none⟩:Addr)=⟨b,0,none⟩/\free Γ.w0 b:=by
      rcases (L.own k).shape with h | ⟨base',len',cap',h1,_,h3⟩
      ·rw [<- hτ] at h; cases h
      ·rw [<- hτ] at h1;cases h1;exact ⟨(h3 _ rfl p).1,.inl ((h3 _ rfl p).2.resolve_right (fun h=>by have:=ah hk5; omega))⟩
     cases he
     -- the row's cells
     have hcm:∀ (i j:Nat) (r:List Int) (n:Int),rows[i]?=some r->r[j]?=some n->c.m b (i*sz+j)=some (.int .i64 n):=fun i j r n h1 h2=>by
      have g1:(ek rows)[i]?=some (r.map (AV.int .i64)):=by simp [ek,h1]
      have g2:(r.map (AV.int .i64))[j]?=some (.int .i64 n):=by simp [h2]
      have g3:=hm i _ j _ g1 g2;have g4:=hr i _ j _ g1 g2;rw [bI] at g3;generalize g i j=u at g3 g4;cases g4;exact g3
     obtain ⟨r0,H⟩:∃ r0,rows[0]?=some r0:=⟨_,ai p⟩;have hr0l:=hlen r0 (aC H);obtain ⟨n0,hn0⟩:∃ n0,r0[0]?=some n0:=⟨_,ai ar⟩;have hbm:=hcm 0 0 r0 n0 H hn0
     have D:ej w b:=by
      rcases L.new.cell b _ _ hbm with h | h
      ·exact absurd hB (hm0.not_free h)
      ·exact h.2
     have N:Ob w b (cap*sz):=by
      obtain ⟨cs,U,hcs⟩:=D;refine ⟨cs,U,hcs,?_⟩;by_cases E:rows.length<cap
      ·obtain ⟨q1,_⟩:=hsp (by simpa [j5] using E);obtain ⟨len',cap',T',cells',g1,g2,g3,_⟩:=(L.own k).blk b (by rw [dc,<- hτ]; simp [kW,j5,E]);rw [<- hτ] at g1;cases g1;rw [hcs] at g2;cases g2;rw [g3,q1]; exact ba _
      ·have hce:cap=rows.length:=by omega
       obtain ⟨rl,hrl⟩:∃ rl,rows[rows.length - 1]?=some rl:=⟨_,ai ar⟩;have hrll:=hlen rl (aC hrl);obtain ⟨nl,hnl⟩:∃ nl,rl[sz - 1]?=some nl:=⟨_,ai ar⟩;have hcc:=L.sub.cell _ _ _ (hcm _ _ _ _ hrl hnl);simp only [World.cell?,hcs] at hcc;have hlt:=(aO.1 hcc).1;rw [hce]
       have e1:rows.length*sz=(rows.length - 1)*sz+sz:=by
        conv=>lhs; rw [show rows.length=(rows.length - 1)+1 by omega]
        rw [dk,ni]
       omega
     have hsubw:(c.m.without b).sub w:=⟨fun k o v h=>by
      simp only [dI.without,dI.with] at h;split at h
      ·cases h
      ·exact L.sub.cell k o v h,L.sub.map⟩
     obtain ⟨ct,hct⟩:∃ ct:dE,ct=⟨c.ρ,c.τ,c.σ,c.m.without b,c.x,c.xn⟩:=⟨_,rfl⟩
     have hrun:=hC.runs (c.m.without b) w (rest.map a.eval) b cap hsubw ⟨fun k o v h=>(by
      simp only [dI.without,dI.with];split
      ·rename_i e; subst e; rw [Tn hΓ hB] at h; cases h
      ·exact (hΓ.gm.trans L.le0).cell k o v h),fun k x h=>nomatch h⟩ (fun o=>by simp [dI.without,dI.with]) N hc (fun i j r n h1 h2=>L.sub.cell _ _ _ (hcm i j r n h1 h2)) cU (fun i x v h1 h2=>by
      rw [aQ] at h1 h2;obtain ⟨q,hq,rfl⟩:=aA.1 h1;rw [hq] at h2;simp only [bH,aB] at h2;subst h2;have h3:=aN.1 hthin q (aC hq)
      have h4:RC ct ((ev s q).pub) (a.eval q):=by
       have:=(RC.of_RD (c:=c) (cc ht q).pub).thinned (c':=ct) (by rw [hct]);rwa [yr h3] at this
      have h5:=h4.pub;rw [hct] at h5
      have h6:(ev s q).pub.pub=(ev s q).pub:=by
       generalize ev s q=z
       cases z with
       | agg cs=>simp only [AV.pub,AV.agg.injEq,List.map_map]; apply eG; intro x _; cases x <;> first | rfl | (rename_i o _ _ _; cases o <;> rfl)
       | sl o _ _=>cases o <;> rfl
       | _=>rfl
      rwa [h6] at h5)
     have hfv:a.eval fo = .func (.func f) #[] #[]:=by
      have:=cc ht fo;rw [hf] at this;exact this.fn
     have hev0:a.eval (.tmp d0) = .slice (some ⟨b,0,none⟩) rows.length cap:=B.symm
     have hexe:(execOp a.eval o).run Γ.P w = .ok (.enter f (Value.slice (some ⟨b,0,none⟩) rows.length cap::rest.map a.eval).toArray) w:=by
      simp only [execOp,hop,aD,resolve,hcal,hfv,Deferred.ofValue,aL,aw,invoke,hC.enters _ w]
      congr 2
      apply pW;simp [hargs,hev0]
     refine ⟨fun f _=>hΓ.fn f,?_⟩;rw [ju _ _ _ (by rw [hop]; intro c hc; cases hc),hexe,oM];refine ⟨fun h=>(by rw [hΓ.depth] at h; cases h),(gM hΓ hrun _).mono ?_⟩;rintro e w' ⟨v,m',r,l,rfl,q1,q2,q3,q4,q5,q6,q7,q8,q9,q10,q11⟩;obtain ⟨W1,W2⟩:=L.ocall hm0 hB ⟨_,_,hbm⟩ D q6 q7 q8 q9 q10 q11;have J:=hK r l q1 q3 q4;obtain ⟨c',hc'⟩:∃ c':dE,c'=⟨c.ρ,fun _ => .slice none 0 0,fun _=>0,m',fun _=>none,c.xn⟩:=⟨_,rfl⟩;rw [<- hc'] at W1;have hcm':c'.m=m':=by rw [hc']
     have hts:∀ e z,get ((d0,AV.sl .no sz (ek l))::iX AV.thinned s.t) e=some z->RC c' z (a.tmps.getD e Go.undef):=fun e z hz=>by
      rw [a8] at hz;split at hz
      ·rename_i he;cases hz;subst he;rw [<- B];refine RC.of_RD ?_;rw [hcm'];refine RD.sl _ _ _ _ _ _ (by intro k X; cases X) (by intro X; cases X) (by simp [ek,q3]) hc (fun x hx=>?_) (fun x hx z hz=>?_) b 0 (fun _=>rfl) (fun i j=>match l[i]? with | some r=>(match r[j]? with | some n=>Value.int .i64 n | none=>Go.undef) | none=>Go.undef) (fun i x j z h1 h2=>?_) (fun i x j z h1 h2=>?_)
       ·obtain ⟨y,hy,rfl⟩:=bp.1 hx;simpa using q4 y hy
       ·obtain ⟨y,hy,rfl⟩:=bp.1 hx;obtain ⟨n,_,rfl⟩:=bp.1 hz;rfl
       ·obtain ⟨y,hy,rfl⟩:=j9 h1;simp only [aQ,aA] at h2;obtain ⟨n,G,rfl⟩:=h2;simp only [hy,G,bI];exact q5 i j y n hy G
       ·obtain ⟨y,hy,rfl⟩:=j9 h1;simp only [aQ,aA] at h2;obtain ⟨n,G,rfl⟩:=h2;simp only [hy,G];exact .int _ _
      ·rw [dG] at hz;obtain ⟨z',hz',rfl⟩:=aA.1 hz;exact (ht e z' hz').thinned (by rw [hc'])
     cases A:o.dst with
     | none=>
      rw [A] at J;exact hn _ _ _ J (hI.next W2 W1 (d:=none) (v:=v) (by intro k X; cases X) hts) W2 (FT.put ⟨v,by rw [A]⟩)
     | some d=>
      rw [A] at J;exact hn _ _ _ J (hI.next W2 W1 (d:=some d) (v:=v) (by intro k X; cases X; exact M _ A) (eA hts (by rw [hI.size]; exact M d A) (RC.of_RD (by rw [hcm']; exact q2)))) W2 (FT.put ⟨v,by rw [A]⟩)
   ·exact h.elim
  ·exact h.elim
 ·exact h.elim
end
section
variable {Γ:ce} (hΓ:Γ.OK) {T:eS} (hT:T.OK Γ.P) {Q:Exit->Act->World->Prop}
def lx (T:eS) (P:Program) (step:St->Oper->(St->Prop)->Prop) (all:List Oper) (guards:List Nat) (n:Nat) (s:St) (K:St->Prop):Prop:=
 lg T (aq P) (bX P) all guards (all.take n) s fun s1=>match all.drop n with
  | o::post=>bif o.guard.isNone then step s1 o fun s2=>lg T (aq P) (bX P) all guards post s2 K else False
  | []=>False
theorem sH:∀ (l r:List Oper),eE (l++r)=eE l++eE r
 | [],_=>rfl
 | o::l,r=>by simp only [gT,eE,sH l r,n4]
include hΓ hT in
theorem kh {step} (u:∀ (s:St) (a:Act) (w:World) (o:Oper) (K:St->Prop) (next:Act->World->Prop) (Q:Exit->Act->World->Prop),d5 Γ s a w->(∀ d,o.dst=some d->d<Γ.nt)->step s o K ->
   (∀ s' m w',K s'->d5 Γ s' m w'->NC w w'->FT o.dst.toList a m->next m w')->o.wpIn Γ.F Γ.n Γ.P a w next Q) (keep) (n) {s} {K} {id} {ops} (ho:dC Γ.nt (.region id ops false)=true)
  (h:lx T Γ.P step ops.toList (dw ops.toList ops.toList) n s fun s'=>ga keep s' (K .normal)):aJ Γ s (.region id ops false) K:=by
 refine ⟨fun a w L=>?_⟩;obtain ⟨all⟩:=ops;have f:=ew (l:=all) ho;refine fP ?_;unfold lx at h;simp only at h;rw [show (⟨all⟩:Array Oper).size=all.length from rfl,c6]
 cases c:all.drop n with
 | nil=>
  rw [c] at h;have M:all.length<=n:=by simpa using c
  have U:all.take n=all:=bE M;rw [U] at h;have:=jE (Q:=fun e m w'=>NC w w'/\FT (oI (.region id ⟨all⟩ false)) a m/\∃ s',d5 Γ s' m w'/\K e s') hΓ hT 0 f all 0 s a w _ (fun j o h=>by simpa using h) h L (fun _ _ _ h=>h.elim);simpa using this
 | cons o post=>
  rw [c] at h
  have M:n<all.length:=by
   rcases RT n all.length with h | h
   ·exact h
   ·rw [dg h] at c; cases c
  have b:all.take n++o::post=all:=by rw [<- c,BE]
  have i:(all.take n).length=n:=by simp; omega
  have hlen:all.length=n+(post.length+1):=by have:=ax List.length b; simp only [bY,bt,i] at this; omega
  have q:all[n]?=some o:=by rw [<- b,cF ar,i]; simp
  rw [hlen]
  have:=jE (Q:=fun e m w'=>NC w w'/\FT (oI (.region id ⟨all⟩ false)) a m/\∃ s',d5 Γ s' m w'/\K e s') hΓ hT (post.length+1) f (all.take n) 0 s a w _ (fun j o h=>by
   rw [bI];rw [dL] at h;split at h
   ·exact h
   ·cases h) h L (fun s1 a1 w1 h1 y E A=>?_)
  ·rw [i] at this; exact this
  ·rw [i,bI,ff];have X:(all.toArray)[n]?=some o:=by simpa using q
   simp only [wpOpsIn,X];simp only at h1
   cases p:o.guard with
   | some g=>rw [p] at h1; simp only [Option.isNone_some,br] at h1
   | none=>
    rw [p] at h1;simp only [Option.isNone_none,aR] at h1;simp only [Region.wanted,p,c5];have J:∀ d,o.dst=some d->d<Γ.nt:=fun d c=>f n d (by rw [eF,q]; exact c);refine u _ _ _ _ _ _ _ y J h1 (fun s2 a2 w2 z x G H=>?_)
    have t:eE all=eE (all.take n)++(o.dst.toList++eE post):=by
     conv=>lhs; rw [<- b]
     rw [sH]; rfl
    refine kE hΓ hT f post (n+1) s2 a2 w2 _ (fun j=>?_) z x (fun s3 a3 w3 r D B v=>?_)
    ·conv=>rhs; rw [<- b]
     rw [cF ar,i,show n+1+j - n=j+1 by omega,fg]
    ·obtain ⟨N,Z,hle⟩:=eb r;refine ⟨(E.trans G).trans B,?_,N,D.less hle,Z⟩;show FT (eE all) a a3;rw [t];exact ((A.mono fun d c=>bc _ c).trans (H.mono fun d c=>bj _ (bc _ c))).trans (v.mono fun d c=>bj _ (bj _ c))
include hΓ hT in
theorem Vp (b:Γ.m0.sub Γ.w0) (keep) (n) {s} {K} {id} {ops} (d:dC Γ.nt (.region id ops false)=true)
  (h:lx T Γ.P (SO (lZ Γ.P)) ops.toList (dw ops.toList ops.toList) n s fun s'=>ga keep s' (K .normal)):aJ Γ s (.region id ops false) K:=
 kh hΓ hT (fun _ _ _ _ _ _ _ e c h f=>Ia hΓ b e c h f) keep n d h
end
theorem Hc {P} {T} (hT:T.OK P) {f} {fn} {body} {args} {R} (hf:P.funcs[f]?=some fn) (E:fn.body=some body)
  (b:(fn.name == "runtime.NumGoroutine")=false) (hm:P.follows .mixedOrders=true) (hn:args.length<=fn.ntmps)
  (h:∀ (F:Fence) (n:Nat) (w0:World) (m0:dI),ce.OK ⟨P,F,n,w0,m0,fn.ntmps⟩->F.round=none->9<=n->m0.sub w0->SP ⟨P,F,n,w0,m0,fn.ntmps⟩ ⟨params 0 args,[]⟩ body (fun e s=>∃ r,R r/\Ends T fn.results.toList r e s)):jW P f args R:=by
 refine ⟨gC hf b E,fun m w vs A p hlen U=>?_⟩;have hG:ce.OK ⟨P,Fence.wide,9,w,m,fn.ntmps⟩:=⟨fun _=>trivial,rfl,rfl,hm,p,p.sub A⟩;refine Cx.1 (mC (n:=9) hf E trivial ?_);have M:=h Fence.wide 9 w m hG rfl (ba _) A;refine db (M _ w ⟨⟨_,nD (Γ:=⟨P,Fence.wide,9,w,m,fn.ntmps⟩) A rfl,fun d x hx=>?_⟩,by simp; omega,⟨[],rfl,eP,by simp⟩,fun _ h=>nomatch h⟩) ?_
 ·obtain ⟨_,h2⟩:=jR _ _ _ _ hx;simp only [nZ] at h2;have X:d<args.length:=(am.1 h2).1;refine RC.of_RD (c:=⟨_,_,_,m,_,_⟩) (U d x _ h2 ?_);rw [aG,co (by simp; omega)];simp [ai (show d<vs.length by omega)]
 ·intro e a w' ⟨B,_,s',N,⟨r,y,⟨he,hR⟩⟩⟩
  have i:LeavesInM Fence.wide 9 P fn a.tmps (fun e w'=>∃ r,R r/\∃ v m',e = .returned v/\RD m' r v/\m.le m'/\dI.sub m' w'/\RowKit.Below w.heap.size w w'/\m.News (w.heap.size<=·) m' w'/\iG w w') a.defers .returning w':=by
   obtain ⟨⟨c,j,J⟩,_,⟨Z,u,z,l⟩,_⟩:=N;rw [u];refine rM Z w' (j.ext.toBelow B) j.sub z (fun D G=>⟨(l D G).1,(l D G).2⟩) fun w2 h1 h2 H L=>?_;obtain ⟨v,q,t⟩:=nb (a:=a) hT (j.keep (.ofBelow h1) h2 H) J hR;exact ⟨v,q,r,y,v,c.m,rfl,t,j.le0,h2,h1,(j.new.unfree j.sub B).keep fun _ ⟨c,T,h⟩=>⟨c,T,H _ _ h rfl⟩,B.more.trans L⟩
  rcases he with rfl | rfl <;> exact i
theorem rG {P} {T} (hT:T.OK P) {f} {fn} {body} {args} {r} (hf:P.funcs[f]?=some fn) (d:fn.body=some body)
  (b:(fn.name == "runtime.NumGoroutine")=false) (hm:P.follows .mixedOrders=true) (e:args.length<=fn.ntmps)
  (h:∀ (F:Fence) (n:Nat) (w0:World) (m0:dI),ce.OK ⟨P,F,n,w0,m0,fn.ntmps⟩->F.round=none->9<=n->m0.sub w0->aJ ⟨P,F,n,w0,m0,fn.ntmps⟩ ⟨params 0 args,[]⟩ body (Ends T fn.results.toList r)):aq P f args r:=
 jW.one (Hc hT hf d b hm e fun F n w0 m0 h1 h2 c i=>(h F n w0 m0 h1 h2 c i).out.mono fun _ _ he=>⟨_,rfl,he⟩)
open Go
open Go.RowKit (Below)
def Vq (T:eS) (rs:List ResultVar) (s:St) (N:List Nat) (r:AV):Prop:=match rs with
 | [x]=>match HX T s x with
  | some (.me .sl k n [])=>r = .me .sl k n []/\dj N k=true
  | _=>False
 | _=>False
theorem NA {Γ} {T} (hT:T.OK Γ.P) {s} {a:Act} {w} {c} {fn} {N I} {r} (o:WI Γ c s.b w) (m:∀ d x,get s.t d=some x->RC c x (a.tmps.getD d Go.undef)) (h:Vq T fn.results.toList s N r) :
  ∃ v,(results fn a.tmps).run Γ.P w = .ok v w/\RR (c.only N I) N r v:=by
 have e:results fn a.tmps=(do let vs <- fn.results.toList.mapM (y8 a.tmps); pure (if h:vs.toArray.size=1 then vs.toArray[0] else .tuple vs.toArray)):=by
  unfold results;rw [vE];simp only [bind_map_left]
  congr 2
 rw [e];unfold Vq at h;split at h
 ·rename_i x hx;split at h
  ·rename_i k n hv;obtain ⟨rfl,f⟩:=h;have f:=gi f;obtain ⟨u,i,l⟩:=sV hT o m hv;refine ⟨u,?_,f,RX.only f (fun j hj=>by simp [sg,WB] at hj) (show RX c .sl k n [] u from l)⟩;rw [hx];simp [Hg,aD,i,aw]
  ·exact h.elim
 ·exact h.elim
theorem RR.of_RD {c:dE} {N I} {r} {v} (h:RD c.m r v):RR (c.only N I) N r v:=by
 cases r with
 | me g k n xs=>exact nomatch h
 | _=>exact h
def Mm (N:List Nat) (args:List AV) (body:Code):Bool:=N.all (fun k=>Nat.blt k 7000000)||(!dj (oI body) 0&&N.all fun k=>Nat.blt k 7000000||(match args with | .me .sl k' _ _::_=>Nat.beq k' k | _=>false))
def OC (N:List Nat) (s:St):Bool:=N.all fun k=>Nat.blt k 7000000||(match get s.t 0 with | some (.me .sl k' _ _)=>Nat.beq k' k | _=>false)
structure gc (T:eS) (rs:List ResultVar) (N I:List Nat) (R:AV->List (Nat×AV)->Prop) (e:Exit) (s:St):Prop where
 ex:e = .ret\/e = .normal
 ok:∃ r a,R r a/\(Lc T rs s r\/Vq T rs s N r)/\gI s (ku a)=some a/\((ku a).all (dj N)&&((sg a).all (dj I)&&OC N s))=true
theorem lP.ofB {P} {T} (hT:T.OK P) {f} {fn} {body} {N I} {args} {L} {R} (hf:P.funcs[f]?=some fn) (l:fn.body=some body)
  (hname:(fn.name == "runtime.NumGoroutine")=false) (hm:P.follows .mixedOrders=true) (hn:args.length<=fn.ntmps)
  (h:∀ (F:Fence) (n:Nat) (w0:World) (m0:dI),ce.OK ⟨P,F,n,w0,m0,fn.ntmps⟩->F.round=none->9<=n->aJ ⟨P,F,n,w0,m0,fn.ntmps⟩ ⟨BK L++params 0 args,[]⟩ body (gc T fn.results.toList N I R)) (hkp:Mm N args body=true:=by rfl):lP P f N I args L R:=by
 refine ⟨gC hf hname l,fun c w vs hL hgm hgw hlen hr=>?_⟩;obtain ⟨Γ,t⟩:∃ Γ:ce,Γ=⟨P,Fence.wide,9,lF w (eR c N I),c.m,fn.ntmps⟩:=⟨_,rfl⟩;have E:Γ.w0=lF w (eR c N I):=by rw [t]
 have hm0:Γ.m0=c.m:=by rw [t]
 have hP:Γ.P=P:=by rw [t]
 have hT':T.OK Γ.P:=by rw [hP]; exact hT
 have hG:ce.OK ⟨P,Fence.wide,9,lF w (eR c N I),c.m,fn.ntmps⟩:=⟨fun _=>trivial,rfl,rfl,hm,hgm,hgw⟩;refine Cx.1 (mC (n:=9) hf l trivial ?_);have H:=(h Fence.wide 9 (lF w (eR c N I)) c.m hG rfl (ba _)).out;rw [<- t] at H
 have hW0:WI Γ c [] w:=by
  have q:=hL.wi;rw [t];exact ⟨q.ext,q.sub,q.le0,q.new,q.box,q.inj,fun k=>⟨(q.own k).blk,(q.own k).shape,(q.own k).box,(q.own k).apart⟩,fun k b o hx=>⟨(q.xo k b o hx).new,(q.xo k b o hx).obj,(q.xo k b o hx).kept,(q.xo k b o hx).mem,(q.xo k b o hx).map,(q.xo k b o hx).box,(q.xo k b o hx).own,(q.xo k b o hx).inj⟩⟩
 have hI0:d5 Γ ⟨BK L++params 0 args,[]⟩ ⟨vs.toArray++Array.replicate (fn.ntmps - vs.toArray.size) Go.undef,[]⟩ w:=by
  refine ⟨⟨c,hW0,fun d x hx=>?_⟩,by rw [t]; simp; omega,⟨[],rfl,eP,by simp⟩,fun _ h=>by rw [t] at h; exact nomatch h⟩;rw [eD] at hx
  cases hg:get (BK L) d with
  | some y=>
   rw [hg] at hx;cases hx;obtain ⟨p,H,rfl,rfl⟩:=Dx hg;obtain ⟨_,g,n,xs,e,_⟩:=hL.shape p H;have:=hL.ent p H ((vs.toArray++Array.replicate (fn.ntmps - vs.toArray.size) Go.undef).getD (xk p.1) Go.undef);rw [e] at this ⊢;exact this
  | none=>
   rw [hg] at hx;obtain ⟨_,h2⟩:=jR _ _ _ _ (show get (params 0 args) d=some x from hx);simp only [nZ] at h2;have hdl:d<args.length:=(am.1 h2).1;refine hr d x _ h2 ?_;rw [aG,co (by simp; omega)];grind
 have hp2:=H _ w hI0;rw [t] at hp2;refine db hp2 ?_;rw [<- t];intro e a w' ⟨hN,hFT,s',hI,⟨he,r,L',hR,A,hent,z⟩⟩
 have hpost:LeavesInM Fence.wide 9 P fn a.tmps (fun e w'=>∃ r L' v c',R r L'/\e = .returned v/\RR c' N r v/\Vv P c' N I L' w'/\c.m.le c'.m/\NE (eR c N I) w w' /\
   (∀ b,eR c' N I b->eR c N I b\/w.heap.size<=b)/\c.m.News (fun b=>eR c N I b\/w.heap.size<=b) c'.m w'/\NC w w'/\∀ k∈N,7000000<=k->AJ c.x c'.x c.xn c'.xn k) a.defers .returning w':=by
  obtain ⟨⟨c1,hW,ht⟩,_,⟨Ds,hD1,hD2,hD3⟩,_⟩:=hI;rw [hD1];have hsz:Γ.w0.heap.size=w.heap.size:=by rw [E,mR]
  refine rM (B:=w.heap.size) (w0:=w') Ds w' (.refl _ _) hW.sub hD2 (fun D hD=>⟨(hD3 D hD).1,hsz ▸ (hD3 D hD).2⟩) fun w2 h1 h2 h3 h4=>?_;have i:=hW.keep (hW.ext.trans (.of h1 ar)) h2 h3
  obtain ⟨v,hv1,hv2⟩:∃ v,(results fn a.tmps).run P w2 = .ok v w2/\RR (c1.only N I) N r v:=by
   rcases A with A | A
   ·obtain ⟨v,hv1,hv2⟩:=nb (a:=a) hT' i ht A;grind [RR.of_RD]
   ·have:=NA (a:=a) (I:=I) hT' i ht A;grind
  have M:NC w w2:=⟨bC hN.size h1.size,fun b o l ho=>(h1.block b (aO.1 l).1).trans (hN.same b o l ho),hN.more.trans h4,fun b l=>by
   obtain ⟨cs,U,G⟩:=hN.soft b l;exact ⟨cs,U,h3 b _ G rfl⟩⟩
  have J:∀ b o,w2.heap[b]?=some o->se o=true->w.heap[b]?≠some (Obj.deferred none):=fun b o l ho G=>by
   rw [M.same b _ G rfl] at l; cases l; cases ho
  simp only [al,aN] at z
  have hB:∀ b,eR (c1.only N I) N I b->eR c N I b\/w.heap.size<=b:=fun b l=>by
   have hb':=ta.1 l;obtain ⟨hf,_⟩:=i.lent_free hb';rw [E] at hf;rcases jS hf with h | h | h
   ·exact .inr h
   ·exact .inl h
   ·rcases hb' with ⟨k,_,o,hx⟩ | ⟨j,_,hj⟩
    ·exact absurd h (J b o (i.xo k b o hx).obj (i.xo k b o hx).kept)
    ·obtain ⟨_,_,_,_,_,q,_⟩:=(i.own j).blk b hj;exact absurd h (J b _ q rfl)
  have X:∀ k∈N,7000000<=k->AJ c.x (c1.only N I).x c.xn (c1.only N I).xn k:=fun k hk h7=>by
   have hn7:Nat.blt k 7000000=false:=by
    cases l:Nat.blt k 7000000 with
    | false=>rfl
    | true=>have:=ah l; omega
   have h0:OC N s'=true:=z.2.2;have h0:=aN.1 h0 k hk;rw [hn7,gP] at h0;have g0:=hkp;simp only [Mm,cq] at g0;rcases g0 with g0 | g0
   ·grind
   ·simp only [al,cI] at g0;obtain ⟨g1,g2⟩:=g0;have g2:=aN.1 g2 k hk;rw [hn7,gP] at g2;split at h0
    ·rename_i k1 n1 x1 he1;have e1:=aj h0;subst e1;split at g2
     ·rename_i k2 n2 x2 rest _;have e2:=aj g2;subst e2;have q1:=ht _ _ he1;have hlen':0<vs.length:=by rw [<- hlen]; simp
      have q0:=hr 0 _ vs[0] rfl (ai hlen');have hnot:0 ∉ oI body:=fun h=>by rw [(dv).2 h] at g1; cases g1
      have Z:=FT.tmps hFT hnot ar;rw [Z] at q1
      have hv0:(vs.toArray++Array.replicate (fn.ntmps - vs.toArray.size) Go.undef).getD 0 Go.undef=vs[0]:=by
       rw [aG,co (by simpa using hlen')];simp [ai hlen']
      rw [hv0] at q1;obtain ⟨b1,Q,T1,cap1,r1,r2,r3,r4⟩:=(show RX c1 .sl k2 n1 x1 vs[0] from q1);obtain ⟨b0,cells0,T0,cap0,p1,p2,p3,p4⟩:=(show RX c .sl k2 n2 x2 vs[0] from q0);rw [p2] at r2;simp only [VF,aB] at r2;obtain ⟨r21,r22,r23⟩:=r2;have r24:b0=b1:=by cases r21; rfl
      refine ⟨?_,fun b cells T h=>?_⟩
      ·show (c1.only N I).xn k2=c.xn k2;have:(c1.only N I).xn k2=c1.xn k2:=rfl;grind
      ·rw [p1] at h;cases h;refine ⟨Q,T1,?_⟩;show (if k2∈N then c1.x k2 else none)=_;rw [aX hk,r1,r24]
     ·cases g2
    ·cases h0
  refine ⟨v,hv1,r,L',v,c1.only N I,hR,rfl,hv2,⟨i.lend hL.big rfl rfl,fun p H u=>?_,fun p H=>?_,fun j hj=>gi (z.2.1 j hj),fun k hk=>aV hk,fun j hj=>aV hj,hL.big⟩,?_,⟨?_,?_,?_,?_,fun k hk hnB=>?_⟩,hB,⟨fun b o v l=>?_,fun b x l=>?_⟩,M,X⟩
  ·obtain ⟨_,e2,g,n,xs,e3,e4⟩:=kB hent p H;have hr:=ht _ _ e2;have hpN:p.1∈N:=gi (z.1 _ (s8 H));obtain ⟨pk,pv⟩:=p;simp only at e3;subst e3;exact RX.any e4 (RX.only hpN (fun j hj=>gi (z.2.1 j (uw H hj))) (show RX c1 g pk n xs _ from hr))
  ·grind [kB,gi,s8]
  ·have:=hW.le0; rw [hm0] at this; exact this
  ·have:=i.ext.os; rw [E] at this; exact this
  ·have:=i.ext.tape; rw [E] at this; exact this
  ·have:=i.ext.output; rw [E] at this; exact this
  ·exact M.size
  ·by_cases hd:w.heap[k]?=some (Obj.deferred none)
   ·rw [hd]; exact M.same k _ hd rfl
   ·have hnf:¬ free Γ.w0 k:=fun hf=>by
     grind [jS]
    have:=i.ext.block k hnf;rw [this,E,lf hnB]
  ·have G:=i.new.cell b o v l;rw [hm0,E] at G;refine G.imp id fun ⟨h5,h6⟩=>⟨?_,h6⟩;rcases jS h5 with h | h | h
   ·exact .inr h
   ·exact .inl h
   ·obtain ⟨cs,U,G⟩:=h6;exact absurd h (J b _ G rfl)
  ·have G:=i.new.map b x l;rw [hm0,E] at G;refine G.imp id fun h5=>?_;rcases jS h5 with h | h | h
   ·exact .inr h
   ·exact .inl h
   ·exact absurd h (J b _ (i.sub.map b x l) rfl)
 rcases he with rfl | rfl <;> exact hpost
def Hj (d k b:Nat) (fr:List AV):AV->AV
 | .loc a off=>bif Nat.beq d a then .pin k b off (fr.drop off) else .loc a off
 | .me g k' n xs=>bif Nat.beq k k' then .junk else .me g k' n xs
 | x=>x
def St.pin (s:St) (d k b:Nat) (cs:List AV):St:=⟨(xk k,.me .box k b [cs.drop (lo k)])::iX (Hj d k b ((cs.take (lo k)).map AV.pub1)) s.t,(d,[])::s.b⟩
section
variable {Γ:ce} {c:dE} {bx:List (Nat×List AV)} {w:World}
theorem WI.pin (l:WI Γ c bx w) {d k:Nat} {cs:List AV} (h:get bx d=some cs) (n:cs≠[]) {vs:Array Value} {T:TypeId} (hv:w.heap[c.ρ d]?=some (.cells vs T (0,0))) :
  let c':dE:={ c with m:=c.m.with fun b o=>if b=c.ρ d then (if o<lo k then vs[o]? else none) else c.m b o,x:=fun j=>if j=k then some (c.ρ d,.cells vs T (0,0)) else c.x j }
  WI Γ c' ((d,[])::bx) w/\c.leX k c':=by
 intro c';obtain ⟨h1,h2,h3,Q,T',E,Z,h6⟩:=l.box d cs h n;rw [hv] at E;cases E
 have hle:c.m.le c'.m:=⟨fun b o v hm=>by
  show (if b=c.ρ d then _ else _)=_;grind,fun _ _ h=>h⟩
 have F:c.leX k c':=⟨hle,rfl,rfl,rfl,fun j hj=>⟨aV hj,rfl⟩⟩
 have A:c.m.maps (c.ρ d)=none:=by
  cases hm:c.m.maps (c.ρ d) with
  | none=>rfl
  | some x=>have:=l.sub.map _ x hm; rw [hv] at this; cases this
 refine ⟨⟨l.ext,⟨fun b o v hm=>?_,l.sub.map⟩,l.le0.trans hle,⟨fun b o v hm=>?_,l.new.map⟩,fun q ds a f=>?_,fun J G c1 c2 g1 g2 n1 n2 X=>?_,fun j=>?_,fun j b o hx=>?_⟩,F⟩
 ·simp only [c',dI.with] at hm;split at hm
  ·grind [World.cell?]
  ·exact l.sub.cell b o v hm
 ·simp only [c',dI.with] at hm;split at hm
  ·rename_i H; exact .inr (by rw [H]; exact ⟨h1,vs,T,hv⟩)
  ·exact l.new.cell b o v hm
 ·rw [a8] at a;split at a
  ·grind
  ·rename_i r;obtain ⟨g1,g2,g3,us,U,g4,g5,g6⟩:=l.box q ds a f;refine ⟨g1,fun o=>?_,g3,us,U,g4,g5,fun i x v y D=>(g6 i x v y D).leX_cell F (g3 x (aC y))⟩;show (if c.ρ q=c.ρ d then _ else _)=_;rw [aV (fun e=>r (l.inj q d ds cs a h f n e))]; exact g2 o
 ·rw [a8] at g1 g2;split at g1
  ·grind
  ·split at g2
   ·grind
   ·exact l.inj J G c1 c2 g1 g2 n1 n2 X
 ·have t:=l.own j;refine ⟨fun g u=>?_,t.shape,fun g q ds u a f=>?_,t.apart⟩
  ·obtain ⟨len,cap,U,cells,y,D,L,N,M⟩:=t.blk g u;refine ⟨len,cap,U,cells,y,D,L,fun o z=>?_,M⟩;show (if g=c.ρ d then _ else _)=_;rw [aV (fun e=>t.box g d cs u h n e.symm)]; exact N o z
  ·rw [a8] at a;split at a
   ·grind
   ·exact t.box g q ds u a f
 ·simp only [c'] at hx;split at hx
  ·rename_i hj;cases hx;refine ⟨h1,hv,rfl,fun i hi=>?_,A,fun q ds a f=>?_,fun i hi=>(l.own i).box _ d cs hi h n rfl,fun i o' hi=>?_⟩
   ·show (if c.ρ d=c.ρ d then (if i<lo k then vs[i]? else none) else _)=none;grind
   ·rw [a8] at a;split at a
    ·grind
    ·rename_i r;exact fun e=>r (l.inj q d ds cs a h f n e)
   ·simp only [c'] at hi;split at hi
    ·rename_i e; rw [e,hj]
    ·exact absurd rfl ((l.xo i _ o' hi).box d cs h n)
  ·rename_i hj;have p:=l.xo j b o hx;have B:b≠c.ρ d:=fun e=>p.box d cs h n e.symm;refine ⟨p.new,p.obj,p.kept,fun i hi=>?_,p.map,fun q ds a f=>?_,p.own,fun i o' hi=>?_⟩
   ·show (if b=c.ρ d then _ else _)=_;rw [aV B]; exact p.mem i hi
   ·rw [a8] at a;split at a
    ·grind
    ·exact p.box q ds a f
   ·simp only [c'] at hi;split at hi
    ·grind
    ·exact p.inj i o' hi
end
section
variable {Γ:ce} {T:eS} {s:St} {K:Exit->St->Prop}
theorem aJ.pin {c} (d k) {cs} (h1:get s.b d=some cs) (f:s7 cs=true) (m:Nat.ble (lo k) cs.length=true) (h:∀ b,aJ Γ (s.pin d k b cs) c K):aJ Γ s c K:=by
 refine ⟨fun a w N=>?_⟩;obtain ⟨⟨o,E,J⟩,Z,H,r⟩:=N;have f:cs≠[]:=fun e=>by rw [e] at f; cases f
 have m:=ah m;obtain ⟨q1,q2,q,vs,U,Q,q5,F⟩:=E.box d cs h1 f;obtain ⟨M,A⟩:=E.pin (k:=k) h1 f Q;refine (h (o.ρ d)).out a w ⟨⟨_,M,fun e z hz=>?_⟩,Z,H,r⟩;simp only [St.pin] at hz;rw [a8] at hz;split at hz
 ·cases hz;refine ⟨vs,U,_,aX rfl,rfl,?_,fun y hy=>q y (gh hy),fun i y u g1 g2=>?_⟩
  ·grind
  ·rw [da] at g1;have p:=q y (aC g1);exact vu p ((F _ y u g1 g2).leX_cell A p)
 ·rw [dG] at hz;obtain ⟨D,B,rfl⟩:=aA.1 hz;have G:=J e D B;have l:=G.leX A
  cases D with
  | loc X off=>
   simp only [Hj]
   cases L:Nat.beq d X with
   | false=>exact l
   | true=>
    have:=aj L;subst this;rw [aR];have hl:a.tmps.getD e Go.undef = .pointer (some ⟨o.ρ d,off,none⟩):=G;rw [hl];refine RC.of_RD ?_
    have j:∀ (i:Nat) (y:AV),(((cs.take (lo k)).map AV.pub1).drop off)[i]?=some y->∃ x v,cs[off+i]?=some x/\vs[off+i]?=some v/\y=x.pub1/\off+i<lo k:=by
     intro i y hy;rw [da,aQ] at hy;obtain ⟨x,hx,rfl⟩:=aA.1 hy;rw [dL] at hx;split at hx
     ·have t:off+i<vs.size:=by have:=(am.1 hx).1; omega
      exact ⟨x,_,hx,aE t,rfl,by assumption⟩
     ·cases hx
    refine .pin _ _ _ _ (fun y hy=>?_) (fun i=>(vs[off+i]?).getD Go.undef) (fun i y hy=>?_) (fun i y hy=>?_)
    ·obtain ⟨i,hi⟩:=cn hy;obtain ⟨x,v,g1,_,rfl,_⟩:=j i y hi;exact fK (q x (aC g1))
    ·obtain ⟨x,v,g1,g2,_,g3⟩:=j i y hy;show (if o.ρ d=o.ρ d then (if off+i<lo k then vs[off+i]? else none) else _)=_;grind
    ·obtain ⟨x,v,g1,g2,rfl,_⟩:=j i y hy;rw [g2];have p:=q x (aC g1);exact ((F _ x v g1 g2).leX_cell A p).pub
  | me g k' n xs=>exact l
  | _=>exact l
def AV.reN (k k':Nat):AV->AV
 | .me g j n xs=>bif Nat.beq k j then .me g k' n xs else bif Nat.beq k' j then .junk else .me g j n xs
 | x=>x
theorem RX.reN {c c'} {g} {k k' n} {xs} {v} (hx:c'.x k'=c.x k) (o:c'.xn k'=c.xn k) (E:c'.τ=c.τ) (D:c'.σ=c.σ) (hm:c'.m=c.m) (p:lo k'=lo k) (h:RX c g k n xs v):RX c' g k' n xs v:=by
 cases g with
 | box=>
  obtain ⟨cells,T,own,r1,f,a,d,t⟩:=h;exact ⟨cells,T,own,by rw [hx]; exact r1,f,by rw [p]; exact a,d,fun i y u h1 h2=>(t i y u h1 (by rw [<- p]; exact h2)).mono E D (by rw [hm]; exact .refl _)⟩
 | sl=>grind [RX]
 | ptr sz j=>simp only [RX,hx] at h ⊢; exact h
 | arr=>
  obtain ⟨b,cells,T,r1,r0,f,a,d⟩:=h;exact ⟨b,cells,T,by rw [hx]; exact r1,by rw [o]; exact r0,f,a,fun i r j y h1 h2=>let ⟨u,q,A⟩:=d i r j y h1 h2; ⟨u,q,by rw [hm]; exact A⟩⟩
 | row b cap=>
  obtain ⟨cells,T,r1,r0,f,a,d⟩:=h;exact ⟨cells,T,by rw [hx]; exact r1,by rw [o]; exact r0,f,a,fun i r j y h1 h2=>let ⟨u,q,A⟩:=d i r j y h1 h2; ⟨u,q,by rw [hm]; exact A⟩⟩
 | mp=>simp only [RX,hx] at h ⊢; exact h
 | sub sz l=>grind [RX]
 | ents=>
  obtain ⟨es,clock,r1,f,a,d,t,B⟩:=h;exact ⟨es,clock,by rw [hx]; exact r1,f,a,d,fun i x e y h1 h2 z=>by rw [hm]; exact t i x e y h1 h2 z,fun i x e y h1 h2 z=>by rw [hm]; exact B i x e y h1 h2 z⟩
theorem gq {c} (k k') {g} {n} {xs} (q:(Nat.beq (lo k') (lo k)&&(!Nat.beq k' k&&iD g))=true) (h1:get s.t (xk k)=some (.me g k n xs)) (h:aJ Γ ⟨(xk k',.me g k' n xs)::(xk k,.junk)::iX (AV.reN k k') s.t,s.b⟩ c K):aJ Γ s c K:=by
 refine ⟨fun a w hI=>h.out a w ?_⟩;obtain ⟨⟨l,p,Q⟩,hs,J,F⟩:=hI;simp only [al,cI] at q;have D:=aj q.1;have A:=de q.2.1;obtain ⟨c',f⟩:∃ c':dE,c'={ l with x:=fun j=>if j=k' then l.x k else if j=k then none else l.x j,xn:=fun j=>if j=k' then l.xn k else l.xn j }:=⟨_,rfl⟩;have hx':c'.x k'=l.x k:=by rw [f]; exact aX rfl
 have hxn':c'.xn k'=l.xn k:=by rw [f]; exact aX rfl
 have Z:∀ {x:AV} {u:Value},fp l x u->x.isCell=true->fp c' x u:=fun {x u} y hx=>by rw [f]; exact y.xs_cell _ _ hx
 have B:∀ {x:AV} {u:Value},RC l x u->RC c' (x.reN k k') u:=fun {x u} y=>by
  cases x with
  | me g j n xs=>
   simp only [AV.reN]
   cases X:Nat.beq k j with
   | true=>
    have:=aj X;subst this;exact RX.reN hx' hxn' (by rw [f]) (by rw [f]) (by rw [f]) D (show RX l g k n xs u from y)
   | false=>
    rw [br];have G:=de X
    cases L:Nat.beq k' j with
    | true=>exact RD.junk u
    | false=>
     have r:=de L;refine RX.reN (k:=j) (k':=j) ?_ ?_ (by rw [f]) (by rw [f]) (by rw [f]) rfl (show RX l g j n xs u from y)
     ·rw [f]; simp only; rw [aV (Ne.symm r),aV (Ne.symm G)]
     ·rw [f]; simp only; rw [aV (Ne.symm r)]
  | agg cs=>obtain ⟨vs,r1,r2,N,r4⟩:=y; exact ⟨vs,r1,r2,N,fun i x u h1 h2=>Z (r4 i x u h1 h2) (N x (aC h1))⟩
  | loc d off=>show u=_; rw [show c'.ρ=l.ρ from by rw [f]]; exact y
  | sl o sz xs=>exact (ec (by intro cs H; cases H)).2 (Z ((ec (by intro cs H; cases H)).1 y) rfl)
  | _=>show RD c'.m _ u; rw [show c'.m=l.m from by rw [f]]; exact y
 refine ⟨⟨c',⟨p.ext,by rw [f]; exact p.sub,by rw [f]; exact p.le0,by rw [f]; exact p.new,fun d cs J A=>?_,by rw [f]; exact p.inj,fun j=>by rw [f]; exact ⟨(p.own j).blk,(p.own j).shape,(p.own j).box,(p.own j).apart⟩,fun j E o hx=>?_⟩,fun e z hz=>?_⟩,hs,J,F⟩
 ·obtain ⟨q1,q2,q3,us,U,q4,q5,q6⟩:=p.box d cs J A;have e1:c'.ρ=l.ρ:=by rw [f]
  grind
 ·rw [f] at hx ⊢;simp only at hx
  have key:∀ i o',(if i=k' then l.x k else if i=k then none else l.x i)=some (E,o')->l.x (if i=k' then k else i)=some (E,o'):=fun i o' hi=>by
   grind
  have key2:∀ i o',(if i=k' then l.x k else if i=k then none else l.x i)=some (E,o')->¬ (i≠k'/\i=k):=fun i o' hi hh=>by
   grind
  have v:=p.xo _ E o (key j o hx);refine ⟨v.new,v.obj,v.kept,fun i hi=>v.mem i ?_,v.map,v.box,v.own,fun i o' hi=>?_⟩
  ·grind
  ·have h3:=v.inj _ o' (key i o' hi);grind
 ·rw [a8] at hz;split at hz
  ·rename_i he;cases hz;exact RX.any q.2.2 (RX.reN hx' hxn' (by rw [f]) (by rw [f]) (by rw [f]) D (show RX l g k n xs _ from Q _ _ h1))
  ·rw [a8] at hz;split at hz
   ·cases hz; exact RC.of_RD (RD.junk _)
   ·rw [dG] at hz;obtain ⟨z',M,rfl⟩:=aA.1 hz;exact B (Q e z' M)
variable (hΓ:Γ.OK) (hT:T.OK Γ.P)
include hΓ hT
theorem dH (keep es:List Nat) {id} {ops} (d:dC Γ.nt (.region id ops false)=true)
  (h:lg T (aq Γ.P) (bX Γ.P) ops.toList (es.map (3000000000+·)++dw ops.toList ops.toList) ops.toList s fun s'=>ga keep s' (K .normal)):aJ Γ s (.region id ops false) K:=by
 refine ⟨fun a w e=>?_⟩;obtain ⟨l⟩:=ops;refine fP ?_;rw [show (⟨l⟩:Array Oper).size=l.length from rfl,c6];refine kE hΓ hT (ew d) l 0 s a w _ (fun j=>by simp) h e ?_;intro s' n w' f b i m;obtain ⟨s2,h2,hle⟩:=eb f;exact ⟨i,m,s2,b.less hle,h2⟩
theorem dh (keep es:List Nat) {id} {ops} (d:dC Γ.nt (.region id ops true)=true) (h:rU T (aq Γ.P) (bX Γ.P) (es.map (3000000000+·)) keep ops.toList s (K .normal)):aJ Γ s (.region id ops true) K:=by
 refine ⟨fun a w e=>?_⟩;obtain ⟨l⟩:=ops;refine sK hΓ hT (ew d) h e ?_;intro s' _ m w' i _ b j f;obtain ⟨s2,h2,hle⟩:=eb i;exact ⟨j,f,s2,b.less hle,h2⟩
def Ie (P:Program) (s:St) (o:Oper) (K:St->Prop):Prop:=match o.op,o.dst with
 | .call call,some d=>match call.callee with
  | .value f=>match ev s f with
   | .fn g=>∃ N I L R,(gI s (ku L)=some L/\Qn N I L (call.args.toList.map (ev s))=true/\lP P g N I ((call.args.toList.map fun x=>(ev s x).pubE)++[]) L R)/\∀ r a,R r a->match (s.demMany I).unmeMany N with | ⟨t,b⟩=>(⟨(d,r)::(BK a++t),b⟩:St).go K
   | _=>False
  | _=>False
 | _,_=>False
theorem jh (keep) (n) {id} {ops} (x:dC Γ.nt (.region id ops false)=true)
  (h:lx T Γ.P (Ie Γ.P) ops.toList (dw ops.toList ops.toList) n s fun s'=>ga keep s' (K .normal)):aJ Γ s (.region id ops false) K:=by
 refine kh hΓ hT (fun s a w o K next Q y m h B=>?_) keep n x h;unfold Ie at h;split at h
 ·rename_i call d j e;split at h
  ·rename_i f i;split at h
   ·rename_i g p;obtain ⟨N,I,L,R,⟨h1,h2,A⟩,u⟩:=h;refine zM hΓ y j i (cap:=[]) (.inr ⟨p,rfl⟩) A h1 h2 e (m d e) (K:=K) (fun r l z=>?_) (fun s' q w' D v E F=>B s' q w' D v E (FT.put F));have:=u r l z;have this:(⟨(d,r)::(BK l++((s.demMany I).unmeMany N).t),(s.demMany I).b⟩:St).go K:=this;rw [St.go_eq] at this;exact this
   ·exact h.elim
  ·exact h.elim
 ·exact h.elim
end
open Go
section
variable {Γ:ce} {s:St} {K:Exit->St->Prop}
theorem CC {c} {bx} {w} (l:WI Γ c bx w) {d} {cs n} (h:get bx d=some cs) (j:cs≠[]) (hl:n.length=cs.length) (H:∀ x∈n,x.isCell=true)
  (E:∀ (vs:Array Value) (T:TypeId),w.heap[c.ρ d]?=some (.cells vs T (0,0))->(∀ (i:Nat) (x:AV) (v:Value),cs[i]?=some x->vs[i]?=some v->fp c x v)->∀ (i:Nat) (x:AV) (v:Value),n[i]?=some x->vs[i]?=some v->fp c x v):WI Γ c ((d,n)::bx) w:=by
 obtain ⟨h1,h2,F,vs,T,B,D,G⟩:=l.box d cs h j;refine ⟨l.ext,l.sub,l.le0,l.new,fun q ds a f=>?_,fun A y c1 c2 g1 g2 n1 n2 r=>?_,fun k=>?_,fun k b o hx=>?_⟩
 ·rw [a8] at a;split at a
  ·grind
  ·exact l.box q ds a f
 ·rw [a8] at g1 g2;split at g1
  ·rename_i u;split at g2
   ·rename_i t; rw [u,t]
   ·rename_i t;rw [u] at r ⊢;exact l.inj d y cs c2 h g2 j n2 r
  ·rename_i u;split at g2
   ·rename_i t;rw [t] at r ⊢;exact l.inj A d c1 cs g1 h n1 j r
   ·exact l.inj A y c1 c2 g1 g2 n1 n2 r
 ·have p:=l.own k;refine ⟨p.blk,p.shape,fun g q ds z a f=>?_,p.apart⟩;rw [a8] at a;split at a
  ·rename_i e; rw [e]; exact p.box g d cs z h j
  ·exact p.box g q ds z a f
 ·have m:=l.xo k b o hx;refine ⟨m.new,m.obj,m.kept,m.mem,m.map,fun q ds a f=>?_,m.own,m.inj⟩;rw [a8] at a;split at a
  ·rename_i e; rw [e]; exact m.box d cs h j
  ·exact m.box q ds a f
theorem ii {c} (d j k sz) {cs} (h1:get s.b d=some cs) (h2:cs[j]?=some (.sl .full 0 [])) (h:aJ Γ ⟨(s.dem k).t,(d,dD (cs.map (AV.dem1 k)) j (.sl (.id k) sz []))::(s.dem k).b⟩ c K):aJ Γ s c K:=by
 refine ⟨fun a w N=>h.out a w ?_⟩;obtain ⟨⟨E,D,H⟩,Q,F,r⟩:=N;have n:cs≠[]:=fun e=>by rw [e] at h2; simp at h2
 obtain ⟨_,_,_,vs,T,P,q5,J⟩:=D.box d cs h1 n;have L:=(am.1 h2).1;have hv:vs[j]?=some (vs[j]'(by omega)):=aE ar;generalize vs[j]'(by omega)=v at hv;have hx:RD E.m (.sl .full 0 []) v:=J j _ v h2 hv
 have l:j5 v=false/\nc (sfree Γ.w0 k) v:=by
  cases hx with
  | sl _ _ _ base len cap ho hf u hc=>
   have:=hf rfl;exact ⟨by simp [j5,this],.inr ⟨_,_,_,rfl,fun _=>this.symm,fun a _ Z=>by simp at u; omega⟩⟩
 have hx':RD E.m (.sl .no sz []) v:=(bK:(AV.sl .full 0 []).weak (.sl .no sz [])) _ _ hx;have o:=D.own_none k sz v l.2 l.1;have B:get (s.dem k).b d=some (cs.map (AV.dem1 k)):=by rw [rP,h1]; rfl
 have f:cs.map (AV.dem1 k)≠[]:=by simpa using n
 refine ⟨⟨_,CC (bx:=(s.dem k).b) o B f (fQ _ _ _) (fun x hx=>?_) (fun A T' U X i x G p1 p2=>?_),fun e y hy=>?_⟩,Q,F,r⟩
 ·obtain ⟨p,q⟩:=cn hx;rw [eh] at q;split at q
  ·cases q; rfl
  ·exact (o.box d _ B f).2.2.1 x (aC q)
 ·have e:A=vs:=by
   have M:=P.symm.trans U;cases M; rfl
  rw [eh] at p1;split at p1
  ·rename_i hj;cases p1
   have ev:G=v:=by
    rw [e,<- hj.1] at p2;exact iK (p2.symm.trans hv)
   subst ev;refine ⟨by simp [dE.own],fun h=>(by rw [l.1] at h; cases h),hx'⟩
  grind
 ·rw [mB] at hy;obtain ⟨z,hz,rfl⟩:=aA.1 hy;exact (H e z hz).reown (.refl _)
end
open Go
open Go.RowKit (Below)
def L9 (C:FuncId->Nat->List (List Int)->List AV->(AV->List (List Int)->Prop)->Prop) (s:St) (o:Oper) (K:St->Prop):Prop:=match o.op with
 | .call call=>match call.callee,call.args.toList with
  | .value f,d::rest=>match ev s f,ev s d with
   | .fn f,.me .sl k _ _=>match iH s k with
    | some (sz,xs)=>∃ rows R,C f sz rows (rest.map fun x=>(ev s x).pub) R/\xs=ek rows/\(∀ x∈rows,x.length=sz) /\
      ∀ r c,R r c->c.length=rows.length->(∀ x∈c,x.length=sz)->fx ⟨iX (vF k sz (ek c)) s.t,s.b⟩ o.dst r K
    | none=>False
   | _,_=>False
  | _,_=>False
 | _=>False
section
variable {Γ:ce} (hΓ:Γ.OK) {s:St} {a:Act} {w:World} {o:Oper} {next:Act->World->Prop} {Q:Exit->Act->World->Prop} {K:St->Prop}
theorem WI.ocallX {c} {bx} {w'} (n:WI Γ c bx w) {k b} {cells} {T} (hx:c.x k=some (b,.cells cells T (0,0))) {m'} (h1:c.m.le m') (h2:dI.sub m' w') (p:Hi b w w')
  (L:∀ k o v,m' k o=some v->c.m k o=some v\/(k=b\/w.heap.size<=k)/\ej w' k) (M:∀ k x,m'.maps k=some x->c.m.maps k=some x\/w.heap.size<=k) (h6:iG w w') :
  WI Γ { c with m:=m',x:=fun j=>if j=k then none else c.x j } bx w'/\c.leX k { c with m:=m',x:=fun j=>if j=k then none else c.x j }/\NC w w':=by
 have hB:=n.ext.size;have A:=n.xo k b _ hx;have N:c.leX k { c with m:=m',x:=fun j=>if j=k then none else c.x j }:=⟨h1,rfl,rfl,rfl,fun j hj=>⟨aV hj,rfl⟩⟩
 have hs':∀ k,ej w k->ej w' k:=fun k hk=>by
  by_cases e:k=b
  ·rw [e]; exact p.soft
  ·obtain ⟨cs,U,Z⟩:=hk;exact ⟨cs,U,(p.block k (aO.1 Z).1 e).trans Z⟩
 have u:∀ j o,j<w.heap.size->j≠b->c.m j o=none->m' j o=none:=fun j o hj f h=>by
  cases hm:m' j o with
  | none=>rfl
  | some v=>
   rcases L j o v hm with l | l
   ·rw [h] at l; cases l
   ·rcases l.1 with l | l
    ·exact absurd l f
    ·omega
 have X:=A.new;refine ⟨⟨n.ext.trans ⟨p.os,p.tape,p.output,p.size,fun j hj=>p.block j (by have:=not_free hj; omega) (j8 hj X)⟩,h2,n.le0.trans h1,⟨fun j o v h=>?_,fun j x h=>?_⟩,fun d cs h f=>?_,n.inj,fun j=>?_,fun j y o h=>?_⟩,N,⟨p.size,fun j o hj z=>?_,h6,hs'⟩⟩
 ·rcases L j o v h with h | h
  ·exact (n.new.cell j o v h).imp id fun ⟨E,G⟩=>⟨E,hs' j G⟩
  ·refine .inr ⟨?_,h.2⟩;rcases h.1 with h | h
   ·rw [h]; exact X
   ·exact iJ ar
 ·rcases M j x h with h | h
  ·exact n.new.map j x h
  ·exact .inr (iJ ar)
 ·obtain ⟨r1,r2,J,vs,U,r4,r5,r6⟩:=n.box d cs h f;have hne':=A.box d cs h f;have H:=n.lt_box h f;exact ⟨r1,fun o=>u _ o H hne' (r2 o),J,vs,U,(p.block _ H hne').trans r4,r5,fun i x v g1 g2=>(r6 i x v g1 g2).leX_cell N (J x (aC g1))⟩
 ·have z:=n.own j;refine ⟨fun g D=>?_,z.shape,z.box,z.apart⟩;obtain ⟨len,cap,U,r,E,G,q3,q4,q5⟩:=z.blk g D;have B:g≠b:=fun e=>A.own j (by rw [<- e]; exact D);have q:=n.lt_own D;exact ⟨len,cap,U,r,E,(p.block g q B).trans G,q3,fun o F=>u g o q B (q4 o F),q5⟩
 ·simp only at h;split at h
  ·cases h
  ·rename_i hj;have t:=n.xo j y o h;have f:y≠b:=fun e=>by subst e; exact hj (A.inj j _ h)
   have q:=n.lt_x h;refine ⟨t.new,(p.block y q f).trans t.obj,t.kept,fun i hi=>u y i q f (t.mem i hi),?_,t.box,t.own,fun j' o' l=>?_⟩
   ·show m'.maps y=none
    cases hm:m'.maps y with
    | none=>rfl
    | some v=>
     rcases M _ _ hm with l | l
     ·rw [t.map] at l; cases l
     ·omega
   ·simp only at l;split at l
    ·cases l
    ·exact t.inj j' o' l
 ·by_cases e:j=b
  ·rw [e,A.obj] at hj; cases hj; cases z
  ·exact (p.block j (aO.1 hj).1 e).trans hj
include hΓ in
theorem Df (hI:d5 Γ s a w) (J:∀ d,o.dst=some d->d<Γ.nt) (h:L9 (lZ Γ.P) s o K) (hn:∀ s' a' w',K s'->d5 Γ s' a' w'->NC w w'->FT o.dst.toList a a'->next a' w'):o.wpIn Γ.F Γ.n Γ.P a w next Q:=by
 unfold L9 at h;split at h
 ·rename_i call hop;split at h
  ·rename_i fo x0 rest hcal L;split at h
   ·rename_i f k n zs hf hx;split at h
    ·rename_i sz xs B;obtain ⟨rows,R,hC,rfl,hlen,hK⟩:=h;obtain ⟨c,hW,M⟩:=hI.ex;obtain ⟨b,cells,U,e1,⟨e2,e2'⟩,e3,e4,e5⟩:=rj M B;have hq:=hW.xo k b _ e1;have hrx:=cc M x0;rw [hx] at hrx;obtain ⟨b',p,U',cap,f1,f2,⟨f3,f4⟩,f5⟩:=(show RX c .sl k n zs (a.eval x0) from hrx);rw [e1] at f1;cases f1;have hrl:(ek rows).length=rows.length:=by simp [ek]
     have hnl:n=rows.length:=by omega
     subst hnl
     have X:=hC.runs c.m w (rest.map a.eval) b cap hW.sub (hΓ.gm.trans hW.le0) (hq.none (n8 B)) ⟨_,_,hq.obj,by rw [f4]; exact e2'⟩ f5 (fun i j r n h1 h2=>by
      have g1:(ek rows)[i]?=some (r.map (AV.int .i64)):=by simp [ek,h1]
      have g2:(r.map (AV.int .i64))[j]?=some (.int .i64 n):=by simp [h2]
      obtain ⟨u,u1,u2⟩:=e5 i _ j _ g1 g2;cases u2;simp only [World.cell?,hq.obj];exact u1) cU (fun i x v h1 h2=>by
      rw [aQ] at h1 h2;obtain ⟨q,hq,rfl⟩:=aA.1 h1;rw [hq] at h2;simp only [bH,aB] at h2;subst h2;exact (cc M q).pub)
     have hfv:a.eval fo = .func (.func f) #[] #[]:=by
      have:=cc M fo;rw [hf] at this;exact this.fn
     have N:(execOp a.eval o).run Γ.P w = .ok (.enter f (Value.slice (some ⟨b,0,none⟩) rows.length cap::rest.map a.eval).toArray) w:=by
      simp only [execOp,hop,aD,resolve,hcal,hfv,Deferred.ofValue,aL,aw,invoke,hC.enters _ w]
      congr 2
      apply pW;simp [L,f2]
     refine ⟨fun f _=>hΓ.fn f,?_⟩;rw [ju _ _ _ (by rw [hop]; intro c hc; cases hc),N,oM];refine ⟨fun h=>(by rw [hΓ.depth] at h; cases h),(gM hΓ X _).mono ?_⟩;rintro e w' ⟨v,m',r,l,rfl,q1,q2,q3,q4,q5,q6,q7,q8,q9,q10,q11⟩;obtain ⟨W1,L1,W2⟩:=hW.ocallX e1 q6 q7 q8 q9 q10 q11;have D:=hK r l q1 q3 q4
     have key:∀ d n',RX c .sl k n' [] (a.tmps.getD d Go.undef)->RD m' (.sl .no sz (ek l)) (a.tmps.getD d Go.undef):=fun d n' hz=>by
      obtain ⟨b',p,U',cap',g1,g2,⟨g3,g4⟩,g5⟩:=hz;rw [e1] at g1;cases g1;rw [g2];refine RD.sl _ _ _ _ _ _ (by intro k E; cases E) (by intro E; cases E) (by simp [ek,q3]; omega) g5 (fun x hx=>?_) (fun x hx z hz=>?_) b 0 (fun _=>rfl) (fun i j=>match l[i]? with | some r=>(match r[j]? with | some n=>Value.int .i64 n | none=>Go.undef) | none=>Go.undef) (fun i x j z h1 h2=>?_) (fun i x j z h1 h2=>?_)
      ·obtain ⟨y,hy,rfl⟩:=bp.1 hx;simpa using q4 y hy
      ·obtain ⟨y,hy,rfl⟩:=bp.1 hx;obtain ⟨n,_,rfl⟩:=bp.1 hz;rfl
      ·obtain ⟨y,hy,rfl⟩:=j9 h1;simp only [aQ,aA] at h2;obtain ⟨n,G,rfl⟩:=h2;simp only [hy,G,bI];exact q5 i j y n hy G
      ·obtain ⟨y,hy,rfl⟩:=j9 h1;simp only [aQ,aA] at h2;obtain ⟨n,G,rfl⟩:=h2;simp only [hy,G];exact .int _ _
     obtain ⟨c',hc'⟩:∃ c':dE,c'={ c with m:=m',x:=fun j=>if j=k then none else c.x j }:=⟨_,rfl⟩;rw [<- hc'] at W1 L1;have hcm':c'.m=m':=by rw [hc']
     have Z:∀ e z,get (iX (vF k sz (ek l)) s.t) e=some z->RC c' z (a.tmps.getD e Go.undef):=fun e z hz=>by
      rw [dG] at hz;obtain ⟨z',hz',rfl⟩:=aA.1 hz;have hr:=M e z' hz';have H:=hr.leX L1
      cases z' with
      | me g k' n' zs'=>
       simp only [vF,AV.unme] at H ⊢
       cases hb:Nat.beq k k' with
       | false=>rw [hb] at H; exact H
       | true=>
        have E:=aj hb;subst E
        cases g with
        | sl=>
         refine RC.of_RD ?_;rw [hcm'];exact key e n' (by obtain ⟨b',p,U',cap,f⟩:=(show RX c .sl k n' zs' _ from hr); exact ⟨b',p,U',cap,f⟩)
        | _=>exact RC.of_RD (RD.junk _)
      | _=>exact H
     cases A:o.dst with
     | none=>
      rw [A] at D;exact hn _ _ _ D (hI.next W2 W1 (d:=none) (v:=v) (by intro k E; cases E) Z) W2 (FT.put ⟨v,by rw [A]⟩)
     | some d=>
      rw [A] at D;exact hn _ _ _ D (hI.next W2 W1 (d:=some d) (v:=v) (by intro k E; cases E; exact J _ A) (eA Z (by rw [hI.size]; exact J d A) (RC.of_RD (by rw [hcm']; exact q2)))) W2 (FT.put ⟨v,by rw [A]⟩)
    ·exact h.elim
   ·exact h.elim
  ·exact h.elim
 ·exact h.elim
variable {T:eS} (hT:T.OK Γ.P)
include hΓ hT in
theorem r8 (keep) (n) {s} {K} {id} {ops} (c:dC Γ.nt (.region id ops false)=true)
  (h:lx T Γ.P (L9 (lZ Γ.P)) ops.toList (dw ops.toList ops.toList) n s fun s'=>ga keep s' (K .normal)):aJ Γ s (.region id ops false) K:=
 kh hΓ hT (fun _ _ _ _ _ _ _ d b h e=>Df hΓ d b h e) keep n c h
end
open Go
open Go.RowKit (Below)
theorem Tk {w w':World} (a:Below w.heap.size w w') (c:w.drawn<=w'.drawn):∃ q os,w'=Sort.grow (w.drewN q) os:=by
 refine ⟨w'.drawn - w.drawn,w'.heap.extract w.heap.size w'.heap.size,?_⟩
 have l:w'.heap=w.heap++w'.heap.extract w.heap.size w'.heap.size:=by
  apply Array.ext_getElem?;intro i;by_cases hi:i<w.heap.size
  ·rw [co hi,a.block i hi]
  ·grind
 have h1:=a.os;have h2:=a.tape;have b:=a.output;obtain ⟨h,t,d,o,u⟩:=w;obtain ⟨f,e,m,o',j⟩:=w';simp only [Sort.grow,World.drewN] at *;rw [h1,h2,b]
 congr 1
 omega
theorem vx (m:dI) (k:List Int):RD m (Go.AI.keyA k) (d9 k):=by
 unfold Go.AI.keyA d9;refine .agg _ _ cU (fun x hx=>?_) (fun i x u h1 h2=>?_)
 ·obtain ⟨n,_,rfl⟩:=bp.1 hx; rfl
 ·simp only [aQ,aA,eN] at h1 h2;obtain ⟨n,b,rfl⟩:=h1;obtain ⟨c,a,rfl⟩:=h2;grind [RD.int]
section
variable {P:Program} {α:Type} [Inhabited α] (encI:α->List Int) (k:Nat) (cf:α->α->Int)
def ol (x:α):List Value:=(encI x).map (Value.int .i64)
theorem IB {l:List α} {i j:Nat} {x:α} (hx:l[i]?=some x) (hj:j<k):(Sort.flatK (ol encI) k l.toArray)[i*k+j]! = (ol encI x)[j]!/\i*k+j<(Sort.flatK (ol encI) k l.toArray).size:=by
 have hi:i<l.length:=(am.1 hx).1
 have a:i*k+j<l.toArray.size*k:=by
  have:(i+1)*k<=l.length*k:=bg _ hi;rw [dk,ni] at this;simpa using (by omega:i*k+j<l.length*k)
 have c:=Sort.get_flatK (ol encI) k l.toArray (i*k+j) a;have b:0<k:=by omega
 have d:(i*k+j) / k=i:=by rw [AF,Nat.mul_add_div b,Nat.div_eq_of_lt hj,ee]
 grind [Nat.mul_comm,Nat.mul_add_mod,Nat.mod_eq_of_lt,Sort.size_flatK]
structure Ny (lt:α->α->Bool) (l c:List α) (blk off:Nat) (w a:World):Prop where
 perm:c.Perm l
 sorted:c.Pairwise fun x y=>lt y x=false
 cell:∀ (i:Nat) (x:α) (j:Nat),c[i]?=some x->j<k->a.cell? ⟨blk,off+(i*k+j),none⟩=some ((ol encI x)[j]!)
 other:∀ b,b≠blk->b<w.heap.size->a.heap[b]?=w.heap[b]?
 soft:ej a blk
 os:a.os=w.os
 tape:a.tape=w.tape
 output:a.output=w.output
 size:w.heap.size<=a.heap.size
 more:iG w a
theorem lS (w:World) (blk off m:Nat) (a:Array α) (os:Array Obj) (b:Nat) (c:b<w.heap.size):(Proofs.sortWorldK (ol encI) k w blk off m a os).heap[b]?=if blk=b then (w.heap[b]?).map (Sort.onCells (Sort.putCells id off (Sort.flatK (ol encI) k a))) else w.heap[b]?:=by
 unfold Proofs.sortWorldK Sort.grow Sort.putRowK Sort.putRow Sort.mapBlock;simp only;rw [co (by simpa [Sort.ahead] using c),oP];rfl
theorem WJ {w:World} {blk:Nat} (a:(gf P).sub w) (f:∀ o,gf P blk o=none) (off m:Nat) (d:Array α) (os:Array Obj):(gf P).sub (Proofs.sortWorldK (ol encI) k w blk off m d os):=⟨fun b o v h=>by
 have h1:=a.cell b o v h
 have i:b<w.heap.size:=by
  refine pR fun hle=>?_;simp [World.cell?,jZ hle] at h1
 have c:blk≠b:=fun e=>by grind
 simp only [World.cell?] at h1 ⊢;rw [lS encI k w blk off m d os b i,aV c];exact h1,fun b x h=>nomatch h⟩
theorem MB {g:FuncId} (h:∀ x y,aq P g [keyA (encI x),keyA (encI y)] (.int .i64 (cf x y))) (blk off size:Nat) (w:World) (c:(gf P).sub w) (b:∀ o,gf P blk o=none):Proofs.CmpLays P g #[] (ol encI) k cf blk off size w:=by
 intro m os d l x y
 have n:=(h x y).runs (gf P) (Proofs.sortWorldK (ol encI) k w blk off m d os) [d9 (encI x),d9 (encI y)] (WJ encI k c b off m d os) (.refl _) rfl (fun i a v h1 h2=>by
  grind [vx])
 refine nO n ?_;rintro e w' ⟨v,m',rfl,h1,_,_,j,_,f⟩;exact ⟨by rw [h1.int_eq],Tk j f.drawn⟩
set_option maxHeartbeats 1000000 in
theorem Ss {ρ:Shelf.Ren} (L:Proofs.SlLaysF0.n6 P ρ) (hk:∀ x,(encI x).length=k) (Z:∀ w,(isAgg (ρ.t 24)).run P w = .ok true w) (zE:∀ w,(Go.sizeOf (ρ.t 24)).run P w = .ok k w) (hO:Sort.SWO (Proofs.ltOf cf)) {g:FuncId}
  (z:∀ x y,aq P g [keyA (encI x),keyA (encI y)] (.int .i64 (cf x y))) (eg:∀ args w,(callFunc g args).run P w = .ok (.enter g args) w) (l:List α) (blk off cap:Nat) (w:World)
  (q:∀ (i:Nat) (x:α) (j:Nat),l[i]?=some x->j<k->w.cell? ⟨blk,off+(i*k+j),none⟩=some ((ol encI x)[j]!)) (hs:ej w blk) (E:l.length<4611686018427387904) (H:(gf P).sub w) (G:∀ o,gf P blk o=none) :
  Calls P (ρ.f 6) #[.slice (some ⟨blk,off,none⟩) l.length cap,.func (.func g) #[] #[]] w fun e X=>e = .returned (.tuple #[])/\∃ l',Ny encI k (Proofs.ltOf cf) l l' blk off w X:=by
 obtain ⟨cs,U,a⟩:=hs;have d:=(aO.1 a).1;have M:∀ o,w.frozen? ⟨blk,o,none⟩=false:=fun o=>by simp [World.frozen?,a]
 have Q:Sort.HoldsK (ol encI) k w blk off l.toArray:=by
  intro t B;refine ⟨?_,M _⟩;rw [Sort.size_flatK] at B;have h0:0<k:=Nat.pos_of_ne_zero fun h=>by subst h; simp at B
  have u:t / k<l.length:=by
   have:t<l.length*k:=by simpa using B
   exact Nat.div_lt_of_lt_mul (by rwa [AF])
  have r:t % k<k:=nd _ h0;have e:t / k*k+t % k=t:=by rw [AF]; exact Nat.div_add_mod t k
  have h1:=q (t / k) l[t / k] (t % k) (ai u) r;have h2:=(IB encI k (l:=l) (i:=t / k) (j:=t % k) (ai u) r).1;rw [e] at h1 h2;rw [h1,id,h2]
 have hc:=Proofs.AnyQ.slices_SortFunc L k Z zE (ol encI) (fun x=>by simp [ol,hk]) (fun x v hv=>by
  obtain ⟨n,_,rfl⟩:=bp.1 hv;rfl) cf hO g #[] blk off cap l.toArray w eg (MB encI k cf z blk off _ w H G) Q d (by simpa using E)
 refine nO (by simpa using hc) ?_;rintro e X ⟨rfl,c,N,F,n,os,rfl⟩;refine ⟨rfl,c.toList,?_⟩;have p:c.size=l.length:=by have:=N.1; simpa using this
 have J:=Proofs.holdsK_sortWorldK_c (ol encI) k w blk off l.toArray c n os Q d (by simpa using p);have m:=Proofs.size_sortWorldK_c (ol encI) k w blk off n c os;refine ⟨?_,?_,fun i x j hx hj=>?_,fun b hb A=>?_,?_,rfl,rfl,rfl,m,⟨by show w.drawn<=w.drawn+n; omega⟩⟩
 ·have:=N.2.2;have h2:(c.extract 0 l.length).toList=c.toList:=by simp [bE,p]
  grind
 ·rw [fO];intro i j hi hj D;have:=F i j (aU _) D (by simpa [p] using hj);grind
 ·have h2:=IB encI k (l:=c.toList) hx hj;simp only [Array.toArray_toList] at h2;have:=(J _ h2.2).1;rw [this,id,h2.1]
 ·rw [lS _ _ _ _ _ _ _ _ _ A,aV (Ne.symm hb)]
 ·refine ⟨Sort.putCells id off (Sort.flatK (ol encI) k c) cs,U,?_⟩;rw [lS encI k w blk off n c os blk d,aX rfl,a];rfl
end
open Go
open Go.RowKit (Below)
section
variable {Γ:ce} {s:St} {K:Exit->St->Prop}
theorem AA {c:Code} (d j k sz:Nat) {cs:List AV} (h1:get s.b d=some cs) (h2:cs[j]?=some (.sl (.id k) 0 [])) (h:aJ Γ ⟨s.t,(d,dD cs j (.sl (.id k) sz []))::s.b⟩ c K):aJ Γ s c K:=by
 refine ⟨fun a w F=>h.out a w ?_⟩;obtain ⟨⟨u,r,B⟩,J,z,o⟩:=F;have f:cs≠[]:=fun e=>by rw [e] at h2; simp at h2
 refine ⟨⟨u,r.rebox h1 f (fQ _ _ _) (fun x hx=>?_) (fun vs l i x v m y=>?_),B⟩,J,z,o⟩
 ·obtain ⟨p,n⟩:=cn hx;rw [eh] at n;split at n
  ·cases n; rfl
  ·exact (r.box d cs h1 f).2.2.1 x (aC n)
 ·rw [eh] at m;split at m
  ·rename_i hj;cases m;have H:=l i _ v (by rw [<- hj.1]; exact h2) y;obtain ⟨r1,L,A⟩:=(show fp u (.sl (.id k) 0 []) v from H);refine ⟨r1,fun q=>absurd (L q).2 ar,?_⟩
   match A with
   | .sl _ _ _ base len cap G hf hl E _ _ b off D g _ _=>exact .sl _ _ _ _ _ _ G hf hl E cU cU b off D g cU cU
  ·exact l i x v m y
end
open Go
open Go.RowKit (Below)
def kk (l:List Int):List (List Int):=l.map fun z=>[z]
structure wM (P:Program) (f:FuncId) (xs c:List Int):Prop where
 enters:∀ (args:Array Value) (w:World),(callFunc f args).run P w = .ok (.enter f args) w
 len:c.length=xs.length
 runs:∀ (w:World) (b cap:Nat) (cells:Array Value) (T:TypeId),w.heap[b]?=some (.cells cells T (0,0))->xs.length<=cap->(∀ (i:Nat) (n:Int),xs[i]?=some n->cells[i]?=some (.int .i64 n)) ->
  Calls P f #[.slice (some ⟨b,0,none⟩) xs.length cap] w fun e w'=>e = .returned (.tuple #[])/\∃ n os,w'=Sort.grow (Sort.putRow (Value.int .i64) (Sort.ahead w n) b 0 c.toArray) os
theorem qR {w:World} {b:Nat} {cells:Array Value} {T:TypeId} (c:w.heap[b]?=some (.cells cells T (0,0))) {xs:List Int} (h:∀ (i:Nat) (n:Int),xs[i]?=some n->cells[i]?=some (.int .i64 n)):Sort.Holds (Value.int .i64) w b 0 xs.toArray:=fun j hj=>by
 have hj':j<xs.length:=by simpa using hj
 have h1:=h j xs[j] (by simp [hj']);refine ⟨?_,by simp [World.frozen?,c]⟩;simp only [World.cell?,c,bI];simp [h1,hj']
theorem DZ {P:Program} {ρ:Shelf.Ren} (L:Proofs.Lays.n189 P ρ) (es:∀ args w,(callFunc (ρ.f 189) args).run P w = .ok (.enter (ρ.f 189) args) w) (l:List Int) (c:l.length<4611686018427387904) :
  wM P (ρ.f 189) l (l.mergeSort fun x y=>decide (x<=y)):=
 ⟨es,BF _,fun w b cap cells T d _ e=>rR fun D=>Proofs.AnyS.slices_Sort_int_alone L D b 0 cap l w (qR d e) (aO.1 d).1 c⟩
theorem ye {w:World} {b:Nat} {cells:Array Value} {T:TypeId} {fr:Nat×Nat} (h:w.heap[b]?=some (.cells cells T fr)) (f:Array Value->Array Value):Sort.mapBlock w b f=w.setRow b (f cells):=by
 unfold Sort.mapBlock World.setRow
 congr 1
 apply Array.ext_getElem?;intro k;rw [oP,oP];split
 ·rename_i c; subst c; rw [h]; rfl
 ·rfl
theorem WI.ahead {Γ:ce} {c:dE} {bx:List (Nat×List AV)} {w:World} (b:WI Γ c bx w) (n:Nat):WI Γ c bx (Sort.ahead w n):=by
 induction n with
 | zero=>exact b
 | succ n d=>rw [<- Sort.ahead_drew]; exact d.drew
theorem NC.ahead (w:World) (n:Nat):NC w (Sort.ahead w n):=⟨ba _,fun _ _ h _=>h,⟨Vs _ _⟩,fun _ h=>h⟩
theorem Vt (w:World) (os:Array Obj):NC w (Sort.grow w os):=
 ⟨by simp [Sort.grow],fun b o h _=>by rw [R6 _ _ (aO.1 h).1]; exact h,⟨ba _⟩,fun b h=>by
  obtain ⟨c,T,h⟩:=h;exact ⟨c,T,by rw [R6 _ _ (aO.1 h).1]; exact h⟩⟩
theorem uf {b:List Int} {cells:Array Value} (h:b.length<=cells.size) {j:Nat} {z:Int} (hz:b[j]?=some z):(Sort.putCells (Value.int .i64) 0 b.toArray cells)[j]?=some (.int .i64 z):=by
 have hj:j<b.length:=(am.1 hz).1;have d:j<cells.size:=by omega
 have c:b[j]=z:=(am.1 hz).2;simp [Sort.putCells,BG,hj,d,c]
theorem sw {b:List Int} {cells:Array Value}:(Sort.putCells (Value.int .i64) 0 b.toArray cells).size=cells.size:=by simp [Sort.putCells]
theorem yk {P:Program} {ρ:Shelf.Ren} (L:Proofs.Lays2.n20 P ρ) (es:∀ args w,(callFunc (ρ.f 20) args).run P w = .ok (.enter (ρ.f 20) args) w)
  (d:List Int) (hsz:d.length<=9223372036854775807) :
  lZ P (ρ.f 20) 1 (kk d) [] (fun r rows'=>r = .sl .no 1 (ek (kk (Lib.compact d)))):=by
 refine ⟨es,fun m w vs b cap hs hgm hmb H F N hl hr=>?_⟩;have X:=H.soft
 obtain rfl:vs=[]:=by
  match vs,hl with
  | [],_=>rfl
 obtain ⟨c0,U,E⟩:=X;have hblk:b<w.heap.size:=(aO.1 E).1;have hrl:(kk d).length=d.length:=by simp [kk]
 have hcl:∀ (i:Nat) (n:Int),d[i]?=some n->c0[i]?=some (.int .i64 n):=fun i n h=>by
  have h1:=N i 0 [n] n (by simp [kk,h]) rfl;simpa [World.cell?,E] using h1
 have hcs:d.length<=c0.size:=by
  rcases RT c0.size d.length with h | h
  ·have:=hcl c0.size d[c0.size] (by simp [h]);simp at this
  ·exact h
 rw [hrl] at F ⊢;have Z:=rR fun D=>Proofs.AnyS.slices_Compact_int_in L D b 0 cap d w (qR E hcl) hsz F;refine nO Z ?_;rintro e w2 ⟨rfl,q,rfl⟩
 have hle:(Lib.compact d).length<=d.length:=by
  unfold Lib.compact Lib.compactUpTo;rw [az];exact bC (iu _ _) cU
 generalize hcz:Lib.compact d=cz at *;obtain ⟨A,M⟩:∃ A,A=cz++List.replicate (d.length - cz.length) 0:=⟨_,rfl⟩;rw [<- M];have hyl:A.length=d.length:=by rw [M]; simp; omega
 have hyg:∀ (i:Nat) (n:Int),cz[i]?=some n->A[i]?=some n:=fun i n h=>by rw [M,dp (am.1 h).1]; exact h
 have c:=heap_sortedI (w:=w) (n:=q) (os:=#[]) A.toArray E;have t:=grownBy_sortedI (w:=w) (g:=b) (n:=q) (os:=#[]) A.toArray;rw [Sort.grow_empty] at c t;have J:iG w (Sort.putRow (Value.int .i64) (Sort.ahead w q) b 0 A.toArray):=⟨Vs _ _⟩
 have p:∀ (j:Nat) (z:Int),A[j]?=some z->(Sort.putRow (Value.int .i64) (Sort.ahead w q) b 0 A.toArray).cell? ⟨b,j,none⟩=some (.int .i64 z):=fun j z h=>by
  simp only [World.cell?,c];simpa using uf ar h
 generalize Sort.putRow (Value.int .i64) (Sort.ahead w q) b 0 A.toArray=w2 at *;have v:∀ x,x<w.heap.size->x≠b->w2.heap[x]?=w.heap[x]?:=fun x hx G=>t.block x hx (fun e=>by simp at e; exact G e)
 have B:∀ x o u,m x o=some u->x<w.heap.size/\x≠b:=fun x o u h=>by
  refine ⟨?_,fun e=>by rw [e,hmb o] at h; cases h⟩;have h1:=hs.cell x o u h;unfold World.cell? at h1;split at h1
  ·rename_i hh; exact (aO.1 hh).1
  ·cases h1
 refine ⟨_,⟨fun x o=>if x=b then w2.cell? ⟨b,o,none⟩ else m x o,m.maps⟩,_,kk A,rfl,rfl,?_,by simp [kk,hyl],fun x hx=>?_,fun i j r n h1 h2=>?_,⟨fun x o u h=>?_,fun _ _ h=>h⟩,⟨fun x o u h=>?_,fun x y h=>?_⟩,
  ⟨t.os,t.tape,t.output,t.size,v,⟨_,U,c⟩⟩,fun x o u h=>?_,fun x y h => .inl h,J⟩
 ·refine RD.sl _ _ _ _ _ _ (by intro k hk; cases hk) (by intro hk; cases hk) (by simp [ek,kk]) ar (fun x hx=>?_) (fun x hx z hz=>?_) b 0 (fun _=>rfl) (fun i _=>match cz[i]? with | some n=>Value.int .i64 n | none=>Go.undef) (fun i x j z h1 h2=>?_) (fun i x j z h1 h2=>?_)
  ·obtain ⟨y,hy,rfl⟩:=bp.1 hx;obtain ⟨n,_,rfl⟩:=bp.1 hy;rfl
  ·obtain ⟨y,hy,rfl⟩:=bp.1 hx;obtain ⟨n,_,rfl⟩:=bp.1 hz;rfl
  ·obtain ⟨y,hy,rfl⟩:=j9 h1;simp only [kk,aQ,aA] at hy h2;obtain ⟨n,hn,rfl⟩:=hy;obtain ⟨n',l,rfl⟩:=h2
   have hj:j=0:=by
    have:=(am.1 l).1;simp at this; exact this
   subst hj;simp only [bw,aB] at l;subst l;simp only [hn,bI,gO,ee,c5];exact p i n (hyg i n hn)
  ·obtain ⟨y,hy,rfl⟩:=j9 h1;simp only [kk,aQ,aA] at hy h2;obtain ⟨n,hn,rfl⟩:=hy;obtain ⟨n',l,rfl⟩:=h2
   have hj:j=0:=by
    have:=(am.1 l).1;simp at this; exact this
   subst hj;simp only [bw,aB] at l;subst l;simp only [hn];exact .int _ _
 ·obtain ⟨y,_,rfl⟩:=bp.1 hx; rfl
 ·simp only [kk,aQ,aA] at h1;obtain ⟨x,hx,rfl⟩:=h1
  have hj:j=0:=by
   have:=(am.1 h2).1;simp at this; exact this
  subst hj;simp only [bw,aB] at h2;subst h2;show (if b=b then w2.cell? ⟨b,i*1+0,none⟩ else _)=_;rw [aX rfl,gO,ee];exact p i _ hx
 ·show (if x=b then _ else m x o)=some u;rw [aV (B x o u h).2]; exact h
 ·simp only at h;split at h
  ·rename_i e; rw [e]; exact h
  ·have E:=B x o u h;have h1:=hs.cell x o u h;simp only [World.cell?] at h1 ⊢;rw [v x E.1 E.2]; exact h1
 ·have h1:=hs.map x y h;have hx:=(aO.1 h1).1;have G:x≠b:=fun e=>by rw [e,E] at h1; cases h1
  exact (v x hx G).trans h1
 ·simp only at h;split at h
  ·rename_i e; exact .inr ⟨.inl e,by rw [e]; exact ⟨_,U,c⟩⟩
  ·exact .inl h
theorem BT {m:dI} {o:Own} {sz:Nat} {u:Value} (hu:RD m (.sl o sz []) u):∃ p cap,u = .slice p 0 cap:=by
 match hu with
 | .sl _ _ _ base len cap _ _ b _ _ _ _ _ _ _ _ _=>exact ⟨base,cap,by rw [<- show ([]:List (List AV)).length=len from b]; rfl⟩
theorem yt {P:Program} {ρ:Shelf.Ren} (L:Proofs.Lays.n189 P ρ) (es:∀ args w,(callFunc (ρ.f 189) args).run P w = .ok (.enter (ρ.f 189) args) w) (sz:Nat) {o:Own}:aq P (ρ.f 189) [.sl o sz []] (.tup []):=by
 refine ⟨es,fun m w vs c d hl b=>?_⟩
 obtain ⟨u,rfl⟩:∃ u,vs=[u]:=by
  match vs,hl with
  | [u],_=>exact ⟨u,rfl⟩
 obtain ⟨p,cap,rfl⟩:=BT (b 0 _ u rfl rfl);refine nO (rR fun D=>Proofs.AnyS.slices_Sort_int_none_in { L with } D p cap w) ?_;rintro e w' ⟨rfl,rfl⟩;exact ⟨_,m,rfl,.tup _ _ rfl cU,.refl m,c,.refl _ _,⟨fun _ _ _ h => .inl h,fun _ _ h => .inl h⟩,.refl _⟩
theorem vH {P:Program} {ρ:Shelf.Ren} (L:Proofs.Lays2.n20 P ρ) (es:∀ args w,(callFunc (ρ.f 20) args).run P w = .ok (.enter (ρ.f 20) args) w) (sz d:Nat) {o:Own}:aq P (ρ.f 20) [.sl o sz []] (.sl .no d []):=by
 refine ⟨es,fun m w vs t r hl n=>?_⟩
 obtain ⟨u,rfl⟩:∃ u,vs=[u]:=by
  match vs,hl with
  | [u],_=>exact ⟨u,rfl⟩
 have hu:=n 0 _ u rfl rfl;obtain ⟨p,cap,rfl⟩:=BT hu;refine nO (rR fun D=>Proofs.AnyS.slices_Compact_int_empty_in L D p cap w) ?_;rintro e w' ⟨rfl,rfl⟩;refine ⟨_,m,rfl,?_,.refl m,t,.refl _ _,⟨fun _ _ _ h => .inl h,fun _ _ h => .inl h⟩,.refl _⟩
 match hu with
 | .sl _ _ _ _ _ _ x hf j v l i b off q g hm n=>exact .sl _ _ _ _ _ _ (by intro k c; cases c) (by intro c; cases c) j v cU cU b off q g cU cU
def Si (C:FuncId->List Int->List Int->Prop) (s:St) (o:Oper) (K:St->Prop):Prop:=match o.op with
 | .call call=>match call.callee,call.args.toList with
  | .value f,[e]=>match ev s f,ev s e with
   | .fn f,.me .sl k _ _=>qa k s.t=true/\match iH s k with
    | some (sz,xs)=>∃ d c,C f d c/\sz=1/\xs=ek (kk d)/\fx ⟨(xk k,.me .arr k 1 (ek (kk c)))::s.t,s.b⟩ o.dst (.tup []) K
    | none=>False
   | _,_=>False
  | _,_=>False
 | _=>False
section
variable {Γ:ce} (hΓ:Γ.OK) {s:St} {a:Act} {w:World} {o:Oper} {next:Act->World->Prop} {Q:Exit->Act->World->Prop} {K:St->Prop}
include hΓ in
theorem Hx (hI:d5 Γ s a w) (G:∀ d,o.dst=some d->d<Γ.nt) (h:Si (wM Γ.P) s o K) (hn:∀ s' a' w',K s'->d5 Γ s' a' w'->NC w w'->FT o.dst.toList a a'->next a' w'):o.wpIn Γ.F Γ.n Γ.P a w next Q:=by
 unfold Si at h;split at h
 ·rename_i call hop;split at h
  ·rename_i fo x0 hcal N;split at h
   ·rename_i f k n qs hf hx;obtain ⟨hna,h⟩:=h;split at h
    ·rename_i sz xs E;obtain ⟨zs,Z,hC,rfl,rfl,hK⟩:=h;have D:∀ g d n xs,iD g=true->get s.t d=some (.me g k n xs)->d=xk k:=fun g d n xs hg=>jP hg hna;obtain ⟨c,hW,ht⟩:=hI.ex;obtain ⟨b,cells,U,H,⟨e2,e2'⟩,e3,e4,e5⟩:=rj ht E;have hq:=hW.xo k b _ H;have hrx:=cc ht x0;rw [hx] at hrx;obtain ⟨b',cells',U',cap,f1,f2,⟨f3,f4⟩,f5⟩:=(show RX c .sl k n qs (a.eval x0) from hrx);rw [H] at f1;cases f1;have X:∀ l:List Int,(ek (kk l)).length=l.length:=fun l=>by simp [ek,kk]
     rw [X] at e2 e3;have hnl:n=zs.length:=by omega
     subst hnl;have hget:∀ (l:List Int) (i:Nat) (z:Int),l[i]?=some z->(ek (kk l))[i]?=some [.int .i64 z]:=fun l i z h=>by simp [ek,kk,h]
     have hrun:=hC.runs w b cap cells U hq.obj f5 (fun i z h=>by
      obtain ⟨u,u1,u2⟩:=e5 i _ 0 _ (hget zs i z h) rfl;cases u2;simpa using u1)
     have hfv:a.eval fo = .func (.func f) #[] #[]:=by
      have:=cc ht fo;rw [hf] at this;exact this.fn
     have hexe:(execOp a.eval o).run Γ.P w = .ok (.enter f #[.slice (some ⟨b,0,none⟩) zs.length cap]) w:=by
      simp only [execOp,hop,aD,resolve,hcal,hfv,Deferred.ofValue,aL,aw,invoke,hC.enters _ w]
      congr 2
      apply pW;simp [N,f2]
     refine ⟨fun f _=>hΓ.fn f,?_⟩;rw [ju _ _ _ (by rw [hop]; intro c hc; cases hc),hexe,oM];refine ⟨fun h=>(by rw [hΓ.depth] at h; cases h),(gM hΓ hrun _).mono ?_⟩;rintro e w' ⟨rfl,q,os,rfl⟩;have hobj:(Sort.ahead w q).heap[b]?=some (.cells cells U (0,0)):=hq.obj;have hput:Sort.putRow (Value.int .i64) (Sort.ahead w q) b 0 Z.toArray=(Sort.ahead w q).setRow b (Sort.putCells (Value.int .i64) 0 Z.toArray cells):=ye hobj _;rw [hput];have hyl:=hC.len;have hcz:zs.length<=cells.size:=by omega
     obtain ⟨W1,L1,N1⟩:=(hW.ahead q).storeX H (Sort.putCells (Value.int .i64) 0 Z.toArray cells) (hq.ag (n8 E));have W2:=W1.grown (row:=none) (w':=Sort.grow ((Sort.ahead w q).setRow b (Sort.putCells (Value.int .i64) 0 Z.toArray cells)) os) ⟨rfl,rfl,rfl,by simp [Sort.grow],fun k J _=>R6 _ _ J⟩ (by intro r h; cases h);have N2:=((NC.ahead w q).trans N1).trans (Vt _ os)
     have hts:∀ d z,get ((xk k,AV.me .arr k 1 (ek (kk Z)))::s.t) d=some z->RC { c with x:=fun j=>if j=k then some (b,.cells (Sort.putCells (Value.int .i64) 0 Z.toArray cells) U (0,0)) else c.x j } z (a.tmps.getD d Go.undef):=fun d z hz=>by
      rw [a8] at hz;split at hz
      ·rename_i hd;cases hz;refine ⟨b,_,U,aX rfl,⟨by rw [X,hyl]; exact e2,by rw [sw]; exact e2'⟩,by rw [X,hyl,sw]; exact e3,fun r hr=>?_,fun i r j y h1 h2=>?_⟩
       ·obtain ⟨y,hy,rfl⟩:=bp.1 hr;obtain ⟨m,_,rfl⟩:=bp.1 hy;exact ⟨rfl,fun y hy=>by simp at hy; subst hy; rfl⟩
       ·obtain ⟨y',hy',rfl⟩:=j9 h1;simp only [kk,aQ,aA] at hy' h2;obtain ⟨m,hm,rfl⟩:=hy';obtain ⟨m',M,rfl⟩:=h2
        have hj:j=0:=by
         have:=(am.1 M).1;simp at this; exact this
        subst hj;simp only [bw,aB] at M;subst M;exact ⟨_,by rw [gO,ee]; exact uf ar hm,.int _ _⟩
      ·have hz':=ht d z hz
       cases z with
       | me g k' n' B=>
        by_cases J:k'=k
        ·subst J
         cases g with
         | sl=>
          obtain ⟨p1,p2,p3,p4,p⟩:=(show RX c .sl k' n' B _ from hz');exact ⟨p1,_,U,p4,by rw [show c.x k'=_ from H] at p; simp only [aB,er] at p; rw [<- p.1.1]; exact aX rfl,p.2⟩
         | ptr L j2=>
          obtain ⟨p1,p2,p3,p⟩:=(show RX c (.ptr L j2) k' n' B _ from hz');exact ⟨p1,_,U,by rw [show c.x k'=_ from H] at p; simp only [aB,er] at p; rw [<- p.1.1]; exact aX rfl,p.2⟩
         | arr=>exact absurd (D _ _ _ _ rfl hz) bf
         | row _ _=>exact absurd (D _ _ _ _ rfl hz) bf
         | box=>exact absurd (D _ _ _ _ rfl hz) bf
         | mp=>
          obtain ⟨p1,p2,p3,p,_⟩:=(show RX c .mp k' n' B _ from hz');rw [show c.x k'=_ from H] at p; cases p
         | ents=>
          obtain ⟨p2,p3,p,_⟩:=(show RX c .ents k' n' B Go.undef from hz');rw [show c.x k'=_ from H] at p; cases p
         | sub L l2=>
          obtain ⟨p1,p2,p3,p4,p6,p,p7⟩:=(show RX c (.sub L l2) k' n' B _ from hz');exact ⟨p1,_,U,p4,p6,by rw [show c.x k'=_ from H] at p; simp only [aB,er] at p; rw [<- p.1]; exact aX rfl,p7⟩
        ·have:=hz'.leX L1;simp only [AV.unme,show Nat.beq k k'=false from by cases hb:Nat.beq k k' with | false=>rfl | true=>exact absurd (aj hb).symm J] at this;exact this
       | _=>exact hz'.leX L1
     cases A:o.dst with
     | none=>
      rw [A] at hK;exact hn _ _ _ hK (hI.next N2 W2 (d:=none) (v := .tuple #[]) (by intro k J; cases J) hts) N2 (FT.put ⟨.tuple #[],by rw [A]⟩)
     | some d=>
      rw [A] at hK;exact hn _ _ _ hK (hI.next N2 W2 (d:=some d) (v := .tuple #[]) (by intro k J; cases J; exact G _ A) (eA hts (by rw [hI.size]; exact G d A) (RC.of_RD (.tup _ _ rfl cU)))) N2 (FT.put ⟨.tuple #[],by rw [A]⟩)
    ·exact h.elim
   ·exact h.elim
  ·exact h.elim
 ·exact h.elim
variable {T:eS} (hT:T.OK Γ.P)
include hΓ hT in
theorem r9 (keep:List Nat) (n:Nat) {s:St} {K:Exit->St->Prop} {id:Nat} {ops:Array Oper} (c:dC Γ.nt (.region id ops false)=true)
  (h:lx T Γ.P (Si (wM Γ.P)) ops.toList (dw ops.toList ops.toList) n s fun s'=>ga keep s' (K .normal)):aJ Γ s (.region id ops false) K:=
 kh hΓ hT (fun _ _ _ _ _ _ _ d b h e=>Hx hΓ d b h e) keep n c h
end
open Go
open Go.RowKit (Below)
def lA (l:List (Int×Int)):List (List AV):=l.map fun p=>[.int .i64 p.1,.int .i64 p.2]
def mm:List (Int×Int)->Int->Int
 | [],_=>0
 | p::r,x=>if p.1=x then p.2 else mm r x
def oa (x y:Int):List (Int×Int)->List (Int×Int)
 | []=>[(x,y)]
 | p::r=>if p.1=x then (x,y)::r else p::oa x y r
structure AK (P:Program) (t:TypeId):Prop where
 ex:∃ b et,P.underlying t=some (.map b et)/\P.underlying b=some (.int .i64)/\∀ w,(zeroValue et).run P w = .ok (.int .i64 0) w
def EL:List MapEntry->List (Int×Int)->Prop
 | [],[]=>True
 | e::es,p::l=>(e.key = .int .i64 p.1/\e.val = .int .i64 p.2)/\EL es l
 | _,_=>False
theorem EL.len:∀ {es:List MapEntry} {l:List (Int×Int)},EL es l->es.length=l.length
 | [],[],_=>rfl
 | e::es,p::l,h=>by rw [bt,bt,EL.len h.2]
 | [],_::_,h=>h.elim
 | _::_,[],h=>h.elim
theorem EL.get:∀ {es:List MapEntry} {l:List (Int×Int)},EL es l->∀ (j:Nat) (e:MapEntry) (p:Int×Int),es[j]?=some e->l[j]?=some p->e.key = .int .i64 p.1/\e.val = .int .i64 p.2
 | [],[],_,j,e,p,h1,_=>by simp at h1
 | e::es,p::l,h,0,_,_,h1,h2=>by
  simp only [bw,aB] at h1 h2;subst h1; subst h2; exact h.1
 | e::es,p::l,h,j+1,_,_,h1,h2=>EL.get h.2 j _ _ (by simpa using h1) (by simpa using h2)
 | [],_::_,h,_,_,_,_,_=>h.elim
 | _::_,[],h,_,_,_,_,_=>h.elim
theorem EL.of:∀ {es:List MapEntry} {l:List (Int×Int)},es.length=l.length->(∀ (j:Nat) (e:MapEntry) (p:Int×Int),es[j]?=some e->l[j]?=some p->e.key = .int .i64 p.1/\e.val = .int .i64 p.2)->EL es l
 | [],[],_,_=>trivial
 | e::es,p::l,h,b=>⟨b 0 e p rfl rfl,EL.of (by simpa using h) fun j e p h1 h2=>b (j+1) e p (by simpa using h1) (by simpa using h2)⟩
 | [],_::_,h,_=>by simp at h
 | _::_,[],h,_=>by simp at h
theorem zI (x:Int):∀ (es:List MapEntry) (l:List (Int×Int)) (n:Nat),EL es l ->
  (Instr.findNow (.int .i64) (.int .i64 x) es n=some none/\mm l x=0/\(∀ e∈es,e.key≠.int .i64 x)/\∀ y,oa x y l=l++[(x,y)]) \/
  ∃ j e,Instr.findNow (.int .i64) (.int .i64 x) es n=some (some (n+j,.int .i64 (mm l x)))/\es[j]?=some e/\e.key = .int .i64 x/\∀ y,oa x y l=l.set j (x,y)
 | [],[],n,_ => .inl ⟨rfl,rfl,by simp,fun _=>rfl⟩
 | e::es,p::l,n,h=>by
  obtain ⟨⟨c,hv⟩,h2⟩:=h;by_cases hx:p.1=x
  ·refine .inr ⟨0,e,?_,rfl,by rw [c,hx],fun y=>by simp [oa,hx]⟩;simp [Instr.findNow,Instr.sameNow,c,hv,hx,mm]
  ·have i:Instr.sameNow (.int .i64) (.int .i64 x) e.key=some false:=by
    simp only [Instr.sameNow,c,c5,aB,IZ,AN];exact fun h=>hx h.symm
   rcases zI x es l (n+1) h2 with ⟨b,f,m,d⟩ | ⟨j,e',b,f,m,d⟩
   ·refine .inl ⟨?_,by simp [mm,hx,f],fun e' he=>?_,fun y=>by simp [oa,hx,d]⟩
    ·simp only [Instr.findNow,i,b]
    grind
   ·refine .inr ⟨j+1,e',?_,by simpa using f,m,fun y=>by simp [oa,hx,d]⟩;simp only [Instr.findNow,i,b,mm,aV hx];grind
 | [],_::_,_,h=>h.elim
 | _::_,[],_,h=>h.elim
section
variable {P:Program} {w:World}
theorem lq {kt} (h2:P.underlying kt=some (.int .i64)) (em) (x):(Instr.checkKey em 10000 kt (.int .i64 x)).run P w = .ok () w:=by
 rw [show (10000:Nat)=9999+1 from rfl,Instr.checkKey];simp only [aD,aY h2,aw,aL]
theorem y2 {t} (hM:AK P t) {b} {es} {clock} {l} (d:w.heap[b]?=some (.map es clock)) (h:EL es.toList l) (x) :
  (Instr.lookup t (.map (some b)) (.int .i64 x) false).run P w = .ok (.int .i64 (mm l x)) w:=by
 obtain ⟨m,et,h1,h2,i⟩:=hM.ex;rcases zI x es.toList l 0 h with ⟨c,f,_⟩ | ⟨j,e,c,_⟩
 ·simp only [Instr.lookup,aD,aY h1,aw,cY d,aL,lq h2,Instr.findKey,aY h2,c,i,f,bv,cu]
 ·simp only [Instr.lookup,aD,aY h1,aw,cY d,aL,lq h2,Instr.findKey,aY h2,c,bv,cu]
theorem A1 (x):(Instr.keyThatStays (.int .i64 x) (.int .i64 x)).run P w = .ok (.int .i64 x) w:=by
 have b:Instr.sameBits 10000 (.int .i64 x) (.int .i64 x)=true:=by
  rw [show (10000:Nat)=9999+1 from rfl];simp [Instr.sameBits]
 simp [Instr.keyThatStays,b]
theorem ua {t} (hM:AK P t) {b} {es} {clock} {l} (d:w.heap[b]?=some (.map es clock)) (h:EL es.toList l) (x) (v) :
  ((Instr.mapUpdate t (.map (some b)) (.int .i64 x) v).run P w = .ok () (w.putObj b (.map (es.push ⟨.int .i64 x,v,clock⟩) (clock+1)))/\(∀ e∈es.toList,e.key≠.int .i64 x)/\∀ y,oa x y l=l++[(x,y)]) \/
  ∃ j e,(Instr.mapUpdate t (.map (some b)) (.int .i64 x) v).run P w = .ok () (w.putObj b (.map (es.modify j fun e=>{ e with key := .int .i64 x,val:=v }) clock))/\es[j]?=some e/\e.key = .int .i64 x/\∀ y,oa x y l=l.set j (x,y):=by
 obtain ⟨n,et,h1,h2,p⟩:=hM.ex;rcases zI x es.toList l 0 h with ⟨i,_,c,f⟩ | ⟨j,e,i,m,c,f⟩
 ·refine .inl ⟨?_,c,f⟩;simp only [Instr.mapUpdate,aD,aY h1,aw,cY d,lq h2,Instr.findKey,aY h2,i,aL,oN _ d];rfl
 ·have f2':es[j]?=some e:=by simpa using m
  refine .inr ⟨j,e,?_,f2',c,f⟩;simp only [Instr.mapUpdate,aD,aY h1,aw,cY d,lq h2,Instr.findKey,aY h2,i,aL,bI,f2',bH,lL,c,A1,oN _ d];rfl
end
theorem BW {l} {i:Nat} {x} (h:(lA l)[i]?=some x):∃ p,l[i]?=some p/\x=[.int .i64 p.1,.int .i64 p.2]:=by
 grind [lA,Option.map_eq_some_iff]
theorem RX.toEL {c} {k b} {l} {u} (h:RX c .ents k b (lA l) u):∃ es clock,c.x k=some (b,.map es clock)/\li es clock/\EL es.toList l:=by
 obtain ⟨es,clock,f,i,m,q,d,n⟩:=h;have hl:l.length=es.size:=by simpa [lA] using m
 refine ⟨es,clock,f,i,EL.of (by simp [hl]) fun j e p h1 h2=>?_⟩;have h1':es[j]?=some e:=by simpa using h1
 have h2':(lA l)[j]?=some [.int .i64 p.1,.int .i64 p.2]:=by simp [lA,h2]
 exact ⟨(d j _ e _ h2' h1' rfl).int_eq,(n j _ e _ h2' h1' rfl).int_eq⟩
theorem Xt {c} {k b} {l} {es} {clock} (h1:c.x k=some (b,.map es clock)) (h2:li es clock) (d:EL es.toList l) (u):RX c .ents k b (lA l) u:=by
 refine ⟨es,clock,h1,h2,by have:=d.len; simp [lA]; simpa using this.symm,fun x hx=>?_,fun i x e y g1 g2 g3=>?_,fun i x e y g1 g2 g3=>?_⟩
 ·obtain ⟨p,_,rfl⟩:=bp.1 hx; rfl
 ·obtain ⟨p,p1,rfl⟩:=BW g1;simp only [bw,aB] at g3;subst g3;rw [(d.get i e p (by simpa using g2) p1).1]; exact .int _ _
 ·obtain ⟨p,p1,rfl⟩:=BW g1;simp only [fg,bw,aB] at g3;subst g3;rw [(d.get i e p (by simpa using g2) p1).2]; exact .int _ _
theorem EL.push {es} {l} {clock} (q:li es clock) (h:EL es.toList l) {x y} (v:∀ e∈es.toList,e.key≠.int .i64 x) :
  li (es.push ⟨.int .i64 x,.int .i64 y,clock⟩) (clock+1)/\EL (es.push ⟨.int .i64 x,.int .i64 y,clock⟩).toList (l++[(x,y)]):=by
 have hlen:es.size=l.length:=by have:=h.len; simpa using this
 have d:∀ (n:Nat) (f:MapEntry),es[n]?=some f->f∈es.toList:=fun n f hf=>by grind
 refine ⟨⟨fun i e he=>?_,fun i u e e' b c m=>?_,fun i u e e' b c m=>?_⟩,EL.of (by simp [hlen]) fun j e p h1 h2=>?_⟩
 ·rw [gE] at he;split at he
  ·cases he; simp
  ·have:=q.1 i e he; omega
 ·rw [gE] at b c;split at b <;> split at c
  ·omega
  ·cases b; have:=q.1 _ _ c; simp only at m; omega
  ·cases c; have:=q.1 _ _ b; simp only at m; omega
  ·exact q.2.1 i u e e' b c m
 ·rw [gE] at b c;split at b <;> split at c
  ·omega
  ·cases b; exact absurd m.symm (v _ (d _ _ c))
  ·cases c; exact absurd m (v _ (d _ _ b))
  ·exact q.2.2 i u e e' b c m
 ·rw [cL,gE] at h1;by_cases hj:j<l.length
  ·rw [dp hj] at h2;rw [aV ar] at h1;exact h.get j e p (by simpa using h1) h2
  ·rw [cF ar] at h2
   have r:j=l.length:=by
    have:=(am.1 h2).1;simp at this; omega
   subst r;simp at h2;subst h2;rw [aX hlen.symm] at h1;cases h1;exact ⟨rfl,rfl⟩
theorem EL.put {es} {l} {clock j} {e0} (E:li es clock) (h:EL es.toList l) {x y} (h2:es[j]?=some e0) (G:e0.key = .int .i64 x) :
  li (es.modify j fun e=>{ e with key := .int .i64 x,val := .int .i64 y }) clock/\EL (es.modify j fun e=>{ e with key := .int .i64 x,val := .int .i64 y }).toList (l.set j (x,y)):=by
 have hlen:es.size=l.length:=by have:=h.len; simpa using this
 have d:∀ n,(es.modify j fun e=>{ e with key := .int .i64 x,val := .int .i64 y })[n]?=if j=n then (es[n]?).map (fun e=>{ e with key := .int .i64 x,val := .int .i64 y }) else es[n]?:=fun n=>by
  rw [oP]
 have b:∀ (n:Nat) (f:MapEntry),(es.modify j fun e=>{ e with key := .int .i64 x,val := .int .i64 y })[n]?=some f->∃ c,es[n]?=some c/\c.born=f.born/\c.key=f.key:=fun n f hf=>by
  rw [d] at hf;split at hf
  ·rename_i v;subst v;rw [h2] at hf;simp only [bH,aB] at hf;subst hf;exact ⟨e0,h2,rfl,G⟩
  ·exact ⟨f,hf,rfl,rfl⟩
 refine ⟨⟨fun i e he=>?_,fun i u e e' B D z=>?_,fun i u e e' B D z=>?_⟩,EL.of (by simp [hlen]) fun n e p h1 r=>?_⟩
 ·obtain ⟨c,g1,g2,_⟩:=b i e he;rw [<- g2]; exact E.1 i c g1
 ·obtain ⟨c,g1,g2,_⟩:=b i e B;obtain ⟨A,q,m,_⟩:=b u e' D;exact E.2.1 i u c A g1 q (by rw [g2,m,z])
 ·obtain ⟨c,g1,_,g2⟩:=b i e B;obtain ⟨A,q,_,m⟩:=b u e' D;exact E.2.2 i u c A g1 q (by rw [g2,m,z])
 ·rw [cL,d] at h1;have F:n<l.length:=by have:=(am.1 r).1; simpa using this
  by_cases hj:j=n
  ·subst hj;rw [aX rfl,h2] at h1;simp only [bH,aB] at h1;subst h1;rw [List.getElem?_set_self F] at r;cases r;exact ⟨rfl,rfl⟩
  ·rw [aV hj] at h1;rw [List.getElem?_set_ne hj] at r;exact h.get n e p (by simpa using h1) r
def S0 (T:eS) (C:FuncId->List AV->AV->Prop) (M:TypeId->Prop) (s:St) (o:Oper) (K:St->Prop):Prop:=match o.op with
 | .lookup t x y false=>match ev s x,ev s y,o.dst with
  | .lit (.map (some b)),.int .i64 n,some d=>M t/\∃ k l,get s.t (xk k)=some (.me .ents k b (lA l))/\K ⟨(d,.int .i64 (mm l n))::s.t,s.b⟩
  | _,_,_=>False
 | .mapUpdate t x y z=>match ev s x,ev s y,ev s z,o.dst with
  | .lit (.map (some b)),.int .i64 n,.int .i64 v,none=>M t/\∃ k l,get s.t (xk k)=some (.me .ents k b (lA l))/\qa k s.t=true/\K ⟨(xk k,.me .ents k b (lA (oa n v l)))::s.t,s.b⟩
  | _,_,_,_=>False
 | .binOp .eql t x (.const (.slice none 0 0)) _=>match ev s x,get T t with
  | .sl _ _ xs,some i=>bif Nat.beq i.kind 3 then (xs=[]->fx s o.dst (.bool true) K)/\fx s o.dst (.bool false) K else False
  | _,_=>False
 | op=>Wo T C s o.dst o.type op K
def rT (T:eS) (C:FuncId->List AV->AV->Prop) (M:TypeId->Prop) (all:List Oper) (guards:List Nat):List Oper->St->(St->Prop)->Prop
 | [],s,K=>K s
 | o::rest,s,K=>match j3 all s o with
  | 0=>S0 T C M s o fun s=>Dv o.op s fun s=>gL guards o.dst s fun s=>rT T C M all guards rest s K
  | 1=>fx s o.dst .undef fun s=>rT T C M all guards rest s K
  | _=>False
section
variable {Γ:ce} (hΓ:Γ.OK) {T:eS} (hT:T.OK Γ.P) {M:TypeId->Prop} (hM:∀ t,M t->AK Γ.P t) {s:St} {a:Act} {w:World} {o:Oper} {next:Act->World->Prop} {Q:Exit->Act->World->Prop} {K:St->Prop}
include hΓ hT hM
theorem Im (hI:d5 Γ s a w) (hd:∀ d,o.dst=some d->d<Γ.nt) (h:S0 T (aq Γ.P) M s o K) (hn:dO Γ a o.dst w K next):o.wpIn Γ.F Γ.n Γ.P a w next Q:=by
 unfold S0 at h;split at h
 ·rename_i t x y B;split at h
  ·rename_i b n d hx hy E;obtain ⟨Z,k,l,L,hK⟩:=h;obtain ⟨c,hW,G⟩:=hI.ex;obtain ⟨es,clock,J,q1,q2⟩:=(show RX c .ents k b (lA l) (a.tmps.getD (xk k) Go.undef) from G _ _ L).toEL;have hq:=hW.xo k b _ J;have r:RD c.m (.lit (.map (some b))) (a.eval x):=by have:=cc G x; rwa [hx] at this
   have U:a.eval x = .map (some b):=by generalize a.eval x=u at r; cases r; rfl
   have hvy:a.eval y = .int .i64 n:=by have:=cc G y; rw [hy] at this; exact this.int
   have hK':fx s o.dst (.int .i64 (mm l n)) K:=by rw [E]; obtain ⟨t,b⟩:=s; exact hK
   refine od hΓ hI hd hW G (by rw [B]; intro c hc; cases hc) (x := .int .i64 (mm l n)) (v := .int .i64 (mm l n)) (RC.of_RD (.int _ _)) ?_ hK' hn;simp only [execOp,B,aD,U,hvy,y2 (hM t Z) hq.obj q2 n,aw,aL]
  ·exact h.elim
 ·rename_i t x y z B;split at h
  ·rename_i b n v hx hy hz E;obtain ⟨Z,k,l,L,hna,hK⟩:=h;have hcl:∀ d n xs,get s.t d=some (.me .ents k n xs)->d=xk k:=fun d n xs=>jP rfl hna;obtain ⟨c,hW,G⟩:=hI.ex;obtain ⟨es,clock,J,q1,q2⟩:=(show RX c .ents k b (lA l) (a.tmps.getD (xk k) Go.undef) from G _ _ L).toEL;have hq:=hW.xo k b _ J;have r:RD c.m (.lit (.map (some b))) (a.eval x):=by have:=cc G x; rwa [hx] at this
   have U:a.eval x = .map (some b):=by generalize a.eval x=u at r; cases r; rfl
   have hvy:a.eval y = .int .i64 n:=by have:=cc G y; rw [hy] at this; exact this.int
   have hvz:a.eval z = .int .i64 v:=by have:=cc G z; rw [hz] at this; exact this.int
   have fin:∀ (D:Array MapEntry) (f:Nat),(Instr.mapUpdate t (.map (some b)) (.int .i64 n) (.int .i64 v)).run Γ.P w = .ok () (w.putObj b (.map D f))->li D f->EL D.toList (oa n v l)->o.wpIn Γ.F Γ.n Γ.P a w next Q:=by
    intro D f H X hrel;obtain ⟨W1,W2,W3⟩:=hW.putX J (.map D f) rfl (fun _ _ _ h=>nomatch h);refine mG hΓ (by rw [B]; intro c hc; cases hc) (w':=w.putObj b (.map D f)) (by simp only [execOp,B,aD,U,hvy,hvz,H,aw,aL]) ?_;rw [E];refine hn _ _ _ hK (hI.next W3 W1 (d:=none) (v:=Go.undef) (by intro k L; cases L) (fun d z' hz=>?_)) W3 (lB E);rw [a8] at hz;split at hz
    ·cases hz;exact Xt (aX rfl) X hrel Go.undef
    ·rename_i hd;have hz':=G d z' hz
     cases z' with
     | me g k' n' A=>
      by_cases hk':k'=k
      ·subst hk'
       cases g with
       | sl=>obtain ⟨p1,p2,p3,p4,q,_⟩:=(show RX c .sl k' n' A (a.tmps.getD d Go.undef) from hz'); rw [J] at q; cases q
       | ptr N j2=>obtain ⟨p1,p2,p3,q,_⟩:=(show RX c (.ptr N j2) k' n' A (a.tmps.getD d Go.undef) from hz'); rw [J] at q; cases q
       | arr=>obtain ⟨p1,p2,p3,q,_⟩:=(show RX c .arr k' n' A (a.tmps.getD d Go.undef) from hz'); rw [J] at q; cases q
       | row b0 c0=>obtain ⟨p1,p2,q,_⟩:=(show RX c (.row b0 c0) k' n' A (a.tmps.getD d Go.undef) from hz'); rw [J] at q; cases q
       | mp=>
        obtain ⟨p1,p2,p3,q,p6⟩:=(show RX c .mp k' n' A (a.tmps.getD d Go.undef) from hz');rw [J] at q; cases q;exact ⟨b,D,f,aX rfl,p6⟩
       | ents=>grind
       | sub N l2=>obtain ⟨p1,p2,p3,p4,p6,q,_⟩:=(show RX c (.sub N l2) k' n' A (a.tmps.getD d Go.undef) from hz'); rw [J] at q; cases q
       | box=>obtain ⟨p1,p2,p3,q,_⟩:=(show RX c .box k' n' A (a.tmps.getD d Go.undef) from hz'); rw [J] at q; cases q
      ·have:=hz'.leX W2;simp only [AV.unme,show Nat.beq k k'=false from by cases hb:Nat.beq k k' with | false=>rfl | true=>exact absurd (aj hb).symm hk'] at this;exact this
     | _=>exact hz'.leX W2
   rcases ua (hM t Z) hq.obj q2 n (.int .i64 v) with ⟨h1,h2,h3⟩ | ⟨j,e,h1,h2,h3,h4⟩
   ·grind [EL.push]
   grind [EL.put]
  ·exact h.elim
 ·rename_i t x p B;split at h
  ·rename_i ow sz xs i hx hi
   cases L:Nat.beq i.kind 3 with
   | false=>grind
   | true=>
    rw [L] at h;have hu:=d6 hT hi (aj L);obtain ⟨c,hW,G⟩:=hI.ex;have r:=(cc G x).pub;rw [hx] at r
    obtain ⟨base,len,cap,hv,hlen,hb⟩:∃ base len cap,a.eval x = .slice base len cap/\xs.length=len/\(0<len->base≠none):=by
     generalize a.eval x=u at r;have h2:∃ ow',RD c.m (.sl ow' sz xs) u:=by cases ow <;> exact ⟨_,r⟩
     obtain ⟨ow',h2⟩:=h2
     cases h2 with
     | sl _ _ _ base len cap ho hf hl hc hsz hcell b off hb g hm hr=>grind
    have H:(execOp a.eval o).run Γ.P w = .ok (.value (.bool base.isNone)) w:=by
     have hc:a.eval (.const (.slice none 0 0)) = .slice none 0 0:=rfl;simp only [execOp,B,aD,hv,hc];simp [eqGuard,Lib.run_eql_slice_nil w t _ base len cap 0 0 hu]
    have fin:fx s o.dst (.bool base.isNone) K->o.wpIn Γ.F Γ.n Γ.P a w next Q:=fun hK=>
     od hΓ hI hd hW G (by grind) (x := .bool base.isNone) (v := .bool base.isNone) (RC.of_RD (.bool _)) H hK hn
    cases hbn:base with
    | some z=>rw [hbn] at fin; exact fin h.2
    | none=>
     rw [hbn] at fin hb;have h0:xs=[]:=yl.1 (by rw [hlen]; rcases ne len with h | h; exact h; exact absurd rfl (hb h));exact fin (h.1 h0)
  ·exact h.elim
 ·exact ld hΓ hT rfl hI hd h hn
theorem nU {all:List Oper} {guards:List Nat} (b:∀ j d,jt all j=some d->d<Γ.nt):∀ (l:List Oper) (k:Nat) (s:St) (a:Act) (w:World) (K:St->Prop),(∀ j,l[j]?=all[k+j]?)->rT T (aq Γ.P) M all guards l s K->d5 Γ s a w ->
  (∀ s' p w',K s'->d5 Γ s' p w'->NC w w'->FT (eE l) a p->Q .normal p w')->wpOpsIn Γ.F Γ.n Γ.P all.toArray Q (List.range' k l.length) a w
 | [],k,s,a,w,K,_,h,m,q=>q s a w h m (.refl w) (.refl _ a)
 | o::rest,k,s,a,w,K,D,h,m,q=>by
  have B:all.toArray[k]?=some o:=by simpa using (D 0).symm
  have hk':∀ j,rest[j]?=all[k+1+j]?:=fun j=>by have:=D (j+1); simpa [dV,n3 1 j] using this
  have e:∀ d,o.dst=some d->d<Γ.nt:=fun d c=>b k d (by rw [eF]; rw [show all[k]?=some o from by simpa using B]; exact c);simp only [bt,ff,wpOpsIn,B];simp only [rT] at h;split at h
  ·rename_i x;rw [dx b m 0 x ar];simp only [ea,c5];refine Im hΓ hT hM m e h ?_;intro s' p w' E z H G;rw [uy] at E;obtain ⟨s2,i,hle⟩:=iZ E;exact nU b rest (k+1) s2 p w' K hk' i (z.less hle) (fun A a3 r h1 h2 y v=>q A a3 r h1 h2 (H.trans y) (((FT.put G).mono fun d c=>bc _ c).trans (v.mono fun d c=>bj _ c)))
  ·rename_i x;rw [dx b m 1 x ar];simp only [Nat.reduceBEq,bv,cu];obtain ⟨s2,i,u⟩:=fT m e h;exact ⟨fun f _=>hΓ.fn f,nU b rest (k+1) s2 _ w K hk' i u fun A a3 r h1 h2 y v=>q A a3 r h1 h2 y (((FT.put ⟨_,rfl⟩).mono fun d c=>bc _ c).trans (v.mono fun d c=>bj _ c))⟩
  ·exact h.elim
theorem m9 (keep) {s} {K} {id} {ops} (c:dC Γ.nt (.region id ops false)=true)
  (h:rT T (aq Γ.P) M ops.toList (dw ops.toList ops.toList) ops.toList s fun s'=>ga keep s' (K .normal)):aJ Γ s (.region id ops false) K:=by
 refine ⟨fun a w d=>?_⟩;obtain ⟨l⟩:=ops;refine fP ?_;rw [show (⟨l⟩:Array Oper).size=l.length from rfl,c6];refine nU hΓ hT hM (ew c) l 0 s a w _ (fun j=>by simp) h d ?_;intro s' m w' e b f i;obtain ⟨s2,h2,hle⟩:=eb e;exact ⟨f,i,s2,b.less hle,h2⟩
end
open Go
open Go.RowKit (Below)
section
variable {Γ:ce} (hΓ:Γ.OK) {T:eS} (hT:T.OK Γ.P) {s:St} {K:Exit->St->Prop}
include hΓ hT in
theorem Vo (keep kV) {id} {ops} (c:dC Γ.nt (.region id ops false)=true)
  (h:lg T (aq Γ.P) (bX Γ.P) ops.toList (kV++dw ops.toList ops.toList) ops.toList s fun s'=>ga keep s' (K .normal)):aJ Γ s (.region id ops false) K:=by
 refine ⟨fun a w d=>?_⟩;obtain ⟨l⟩:=ops;refine fP ?_;rw [show (⟨l⟩:Array Oper).size=l.length from rfl,c6];refine kE hΓ hT (ew c) l 0 s a w _ (fun j=>by simp) h d ?_;intro s' m w' e b f i;obtain ⟨s2,h2,hle⟩:=eb e;exact ⟨f,i,s2,b.less hle,h2⟩
def YD (l v:AV):List AV->List AV->Prop
 | [],[]=>True
 | a::r,b::c=>(b=a\/a=l/\b=v)/\YD l v r c
 | _,_=>False
theorem Cq {l v:AV}:∀ {cs b:List AV},YD l v cs b->b.length=cs.length/\∀ (i:Nat) (x:AV),b[i]?=some x->∃ y,cs[i]?=some y/\(x=y\/y=l/\x=v)
 | [],[],_=>⟨rfl,by simp⟩
 | a::r,d::c,h=>by
  obtain ⟨h1,h2⟩:=h;obtain ⟨g1,g2⟩:=Cq h2;refine ⟨by simp [g1],fun i x hx=>?_⟩
  cases i with
  | zero=>simp at hx; subst hx; exact ⟨a,rfl,h1⟩
  | succ i=>exact g2 i x (by simpa using hx)
 | [],_::_,h=>h.elim
 | _::_,[],h=>h.elim
theorem il {c} (k d) {b cap sz} {xs} {cs} (cs') (h1:get s.t (xk k)=some (.me (.row b cap) k sz xs)) (h2:get s.b d=some cs) (h3:YD (.lit (.slice (some ⟨b,0,none⟩) xs.length cap)) (.sl .no sz xs) cs cs')
  (h:aJ Γ ⟨iX (AV.unme k) s.t,(d,cs')::s.b⟩ c K) (h0:Nat.beq (lo k) 0=true:=by rfl):aJ Γ s c K:=by
 refine ⟨fun a w hI=>h.out a w ?_⟩;obtain ⟨⟨cx,N,D⟩,Z,L,o⟩:=hI;obtain ⟨cells,U,e1,⟨e2,e3,J,e4⟩,e5,Q,M⟩:=(show RX cx (.row b cap) k sz xs (a.tmps.getD (xk k) Go.undef) from D _ _ h1);obtain ⟨X,H⟩:=N.freezeX e1;obtain ⟨g1,g2⟩:=Cq h3;by_cases l:cs=[]
 ·subst l;have:cs'=[]:=yl.1 g1;subst this;refine ⟨⟨_,X.less (fun d' ds f B=>?_),fun e z hz=>?_⟩,Z,L,o⟩
  ·rw [a8] at f;split at f
   ·cases f; exact absurd rfl B
   ·exact f
  ·rw [dG] at hz;obtain ⟨E,n,rfl⟩:=aA.1 hz;exact (D e E n).leX H
 ·refine ⟨⟨_,X.rebox h2 l g1 (fun x hx=>?_) (fun vs q i x v p A=>?_),fun e z hz=>?_⟩,Z,L,o⟩
  ·obtain ⟨i,hi⟩:=cn hx;obtain ⟨y,hy,rfl | ⟨_,rfl⟩⟩:=g2 i x hi
   ·obtain ⟨_,_,q3,_⟩:=N.box d cs h2 l;exact q3 x (aC hy)
   ·rfl
  ·obtain ⟨y,hy,rfl | ⟨rfl,rfl⟩⟩:=g2 i x p
   ·exact q i x v hy A
   ·have hv:=(show RD _ (.lit (.slice (some ⟨b,0,none⟩) xs.length cap)) v from q i _ v hy A);cases hv;refine .sl _ _ _ _ _ _ (by intro k F; cases F) (by intro F; cases F) rfl J (fun r G=>(Q r G).1) (fun r G=>(Q r G).2) b 0 (fun _=>rfl) (fun i j=>(cells[i*sz+j]?).getD Go.undef) (fun i r j y h1 h2=>?_) (fun i r j y h1 h2=>?_)
    ·obtain ⟨u,p,A⟩:=M i r j y h1 h2;show (if _ then _ else _)=_; rw [aX rfl,bI,p]; rfl
    ·obtain ⟨u,p,A⟩:=M i r j y h1 h2;rw [p]; exact A.mono H.m
  ·rw [dG] at hz;obtain ⟨E,n,rfl⟩:=aA.1 hz;exact (D e E n).leX H
end
open Go
def iU (listed:List Nat):List Oper->Nat->List Nat
 | [],_=>[]
 | o::r,i=>bif !dj listed i&&(o.after.toList.all fun e => !Region.binds .any e||dj listed e.on) then i::iU listed r (i+1) else iU listed r (i+1)
theorem iB {listed:List Nat}:∀ {l:List Oper} {k i:Nat},i∈iU listed l k↔∃ o,k<=i/\l[i - k]?=some o/\dj listed i=false/\∀ e∈o.after,Region.binds .any e=true->dj listed e.on=true
 | [],k,i=>by simp [iU]
 | o::r,k,i=>by
  have d:=@iB listed r (k+1) i
  have a:∀ P:Oper->Prop,(∃ p,k+1<=i/\r[i - (k+1)]?=some p/\P p)↔∃ p,k+1<=i/\(o::r)[i - k]?=some p/\P p:=by
   intro P;constructor
   ·grind
   ·grind
  have b:(o.after.toList.all fun e => !Region.binds .any e||dj listed e.on)=true↔∀ e∈o.after,Region.binds .any e=true->dj listed e.on=true:=by
   rw [aN];constructor
   ·grind
   ·grind
  have rest:i∈iU listed r (k+1)↔∃ p,k+1<=i/\(o::r)[i - k]?=some p/\dj listed i=false/\∀ e∈p.after,Region.binds .any e=true->dj listed e.on=true:=d.trans (a _);have f:(k<=i↔i=k\/k+1<=i):=by omega
  rw [iU]
  cases c:(!dj listed k&&(o.after.toList.all fun e => !Region.binds .any e||dj listed e.on)) with
  | true=>
   rw [al] at c;simp only [aR,bF];constructor
   ·rintro (rfl | h)
    ·exact ⟨o,ba _,by simp,by simpa using c.1,b.1 c.2⟩
    grind
   grind
  | false=>
   grind
structure Vz (a b:Prop):Prop where
 intro ::
 left:a
 right:b
def MP:List Nat->(Nat->Prop)->Prop
 | [],_=>True
 | i::r,p=>match r with
  | []=>p i
  | _=>Vz (p i) (MP r p)
theorem ou:∀ {l:List Nat} {p:Nat->Prop},MP l p->∀ i∈l,p i
 | [],_,_,i,h=>by cases h
 | [k],p,h,i,hi=>by
  have:i=k:=by simpa using hi
  subst this; exact h
 | k::m::r,p,h,i,hi=>by
  rcases bF.1 hi with rfl | hi
  ·exact h.left
  ·exact ou (l:=m::r) h.right i hi
def evC (s:St):Operand->AV
 | .const (.agg cs)=>bif (cs.toList.map cst).all AV.isCell then .agg (cs.toList.map cst) else .junk
 | x=>ev s x
theorem WZ {c} {s} {a:Act} (b:∀ d x,get s.t d=some x->RC c x (a.tmps.getD d Go.undef)) (x):RC c (evC s x) (a.eval x):=by
 unfold evC;split
 ·rename_i cs
  cases e:(cs.toList.map cst).all AV.isCell with
  | false=>exact RD.junk _
  | true=>
   refine RC.of_RD (.agg _ _ cU (fun x hx=>aN.1 e x hx) fun i x v hx hv=>?_);grind [RD.cst]
 ·exact cc b x
section
variable (T:eS) (C:FuncId->List AV->AV->Prop) (E:vC)
def Dc (guards:List Nat) (s:St) (o:Oper) (K:St->Prop):Prop:=match o.op with
 | .buildSlice _ _ _=>gG T C s.b (evC s) o.type o.op fun v=>v.go fun v=>fx s o.dst v K
 | _=>Hl T C E guards s o K
end
structure TB (Γ:ce) (all:List Oper) (K:St->Prop) (fuel:Nat) (listed:List Nat) (s:St):Prop where
 out:∀ (Q:Exit->Act->World->Prop) (w0:World) (a0:Act),(∀ j d,jt all j=some d->d<Γ.nt)->(∀ s' a w,K s'->d5 Γ s' a w->NC w0 w->FT (eE all) a0 a->Q .normal a w) ->
  ∀ (arr:Array Bool) (a:Act) (w:World),arr.size=all.length->(∀ j,arr.getD j false=dj listed j)->d5 Γ s a w->NC w0 w->FT (eE all) a0 a->wpAnyIn Γ.F Γ.n Γ.P .any all.toArray Q fuel arr a w
section
variable {Γ:ce} (hΓ:Γ.OK) {T:eS} (hT:T.OK Γ.P) {all:List Oper} {Q:Exit->Act->World->Prop} {w0:World} {a0:Act}
include hΓ hT in
theorem s6 {guards} {o} {s} {a} {w} {K} {next} (f:d5 Γ s a w) (r:∀ d,o.dst=some d->d<Γ.nt) (h:Dc T (aq Γ.P) (bX Γ.P) guards s o K) (q:dO Γ a o.dst w K next):o.wpIn Γ.F Γ.n Γ.P a w next Q:=by
 unfold Dc at h;split at h
 ·obtain ⟨c,z,p⟩:=f.ex;refine Cf hΓ hT h rfl z (fun x _=>WZ p x) ?_;intro x v w' c' l hle i m hx;rw [AV.go_eq] at l;obtain ⟨t,b⟩:=s
  cases e:o.dst with
  | none=>
   rw [e] at l;exact q _ _ _ l (f.next m i (d:=none) (v:=v) (by intro k u; cases u) (fun k y hy=>(p k y hy).mono hle)) m (lB e)
  | some d=>
   rw [e] at l;have j:=r d e;exact q _ _ _ l (f.next m i (d:=some d) (v:=v) (by grind) (eA (fun k y hy=>(p k y hy).mono hle) (by rw [f.size]; exact j) hx)) m (gF e)
 ·exact eu hΓ hT f r h q
theorem wh {listed} {arr} (b:arr.size=all.length) (d:∀ j,arr.getD j false=dj listed j) {i} (hi:i∈Region.ready .any all.toArray arr):i∈iU listed all 0:=by
 rw [gB] at hi;obtain ⟨h1,o,h2,c⟩:=hi;have h2:all[i]?=some o:=by simpa using h2
 have a:i<all.length:=(am.1 h2).1;rw [iB];grind
theorem TB.done {K} {listed} {s} (h1:iU listed all 0=[]) (h2:K s):TB Γ all K 0 listed s:=by
 refine ⟨fun Q w0 a0 c f arr a w b h d j e=>⟨?_,f s a w h2 d j e⟩⟩;rw [pU];intro i hi;have:=wh b h hi;grind
include hΓ hT in
theorem TB.step (guards) {K} {fuel} {listed} {s} (h:match iU listed all 0 with
   | []=>K s
   | i::r=>MP (i::r) fun i=>match qj all i with
    | none=>False
    | some o=>match j3 all s o with
     | 0=>Dc T (aq Γ.P) (bX Γ.P) guards s o fun s=>TB Γ all K fuel (i::listed) s
     | 1=>fx s o.dst .undef fun s=>TB Γ all K fuel (i::listed) s
     | _=>False):TB Γ all K (fuel+1) listed s:=by
 refine ⟨fun Q w0 a0 b B arr a w l x n F G=>?_⟩;refine ⟨fun M=>?_,fun i hi=>?_⟩
 ·split at h
  ·grind
  ·rename_i i r he;exfalso;have hm:i∈iU listed all 0:=by rw [he]; exact a7 ..
   rw [iB] at hm;obtain ⟨o,_,h2,D,J⟩:=hm;have h2:all[i]?=some o:=by simpa using h2
   have p:i<all.length:=(am.1 h2).1
   have:i∈Region.ready .any all.toArray arr:=by
    rw [gB];refine ⟨?_,o,by simpa using h2,fun e he A=>by grind⟩;rw [<- D,<- x,aG,aG,aE ar];rfl
   grind
 ·have hm:=wh l x hi;split at h
  ·grind
  ·rename_i i0 r0 he;rw [he] at hm;have h:=ou h i hm;rw [<- he,iB] at hm;obtain ⟨o,_,h2,D,J⟩:=hm;have h2:all[i]?=some o:=by simpa using h2
   have p:i<all.length:=(am.1 h2).1;have c:∀ d,o.dst=some d->d<Γ.nt:=fun d m=>b i d (by rw [eF,h2]; exact m)
   have hA':∀ j,(arr.setIfInBounds i true).getD j false=dj (i::listed) j:=by
    intro j;rw [aG,dn,dj];by_cases hj:i=j
    ·subst hj;rw [aX rfl,aX ar]; simp
    ·rw [aV hj,<- aG,x,show Nat.beq i j=false from by cases A:Nat.beq i j with | false=>rfl | true=>exact absurd (aj A) hj]; rfl
   rw [fj,h2] at h;simp only at h;rw [wpOpIn,show all.toArray[i]?=some o by simpa using h2];simp only;split at h
   ·rename_i y;rw [dx b n 0 y ar];simp only [ea,c5];refine s6 hΓ hT n c h ?_;intro s' H w' L z q u;exact L.out Q w0 a0 b B _ H w' (by simpa using l) hA' z (F.trans q) (G.trans ((FT.put u).mono fun d m=>iW h2 m))
   ·rename_i y;rw [dx b n 1 y ar];simp only [Nat.reduceBEq,bv,cu];refine ⟨fun f _=>hΓ.fn f,?_⟩;obtain ⟨s2,v,t⟩:=fT n c h;exact v.out Q w0 a0 b B _ _ w (by simpa using l) hA' t F (G.trans ((FT.put ⟨_,rfl⟩).mono fun d m=>iW h2 m))
   ·exact h.elim
variable {s:St} {K:Exit->St->Prop}
include hΓ hT in
theorem wT (keep) {id} {ops} (c:dC Γ.nt (.region id ops true)=true)
  (h:TB Γ ops.toList (fun s'=>ga keep s' (K .normal)) ops.toList.length [] s):aJ Γ s (.region id ops true) K:=by
 refine ⟨fun a w d=>?_⟩;obtain ⟨l⟩:=ops;refine CR hΓ.mixed ?_;refine h.out _ w a (ew c) (fun s' m w' e b f i=>?_) _ a _ cU (fun j=>?_) d.drew ⟨ba _,fun _ _ h _=>h,.drew _,fun _ h=>h⟩ (.refl _ a)
 ·obtain ⟨s2,h2,hle⟩:=eb e;exact ⟨f,i,s2,b.less hle,h2⟩
 ·rw [aG,mz];split <;> rfl
include hΓ in
theorem rB {c} (k d) {b cap sz n} {xs} (h1:get s.t (xk k)=some (.me (.row b cap) k sz xs)) (h2:get s.t d=some (.lit (.slice (some ⟨b,0,none⟩) n cap))) (hn:n=xs.length)
  (h:aJ Γ ⟨(d,.sl .no sz xs)::iX (AV.unme k) s.t,s.b⟩ c K) (h0:Nat.beq (lo k) 0=true:=by rfl):aJ Γ s c K:=by
 subst hn;refine ⟨fun a w Z=>h.out a w ?_⟩;obtain ⟨⟨N,M,l⟩,hs,J,f⟩:=Z;obtain ⟨cells,U,e1,⟨e2,e3,B,e4⟩,e5,F,D⟩:=(show RX N (.row b cap) k sz xs (a.tmps.getD (xk k) Go.undef) from l _ _ h1);obtain ⟨X,G⟩:=M.freezeX e1;refine ⟨⟨_,X,fun e z hz=>?_⟩,hs,J,f⟩;rw [a8] at hz;split at hz
 ·rename_i A;subst A;cases hz;have hv:=(show RD _ (.lit (.slice (some ⟨b,0,none⟩) xs.length cap)) (a.tmps.getD e Go.undef) from l e _ h2);generalize a.tmps.getD e Go.undef=v at hv;cases hv;refine (show RD _ _ _ from .sl _ _ _ _ _ _ (by intro k o; cases o) (by intro o; cases o) rfl B (fun r q=>(F r q).1) (fun r q=>(F r q).2) b 0 (fun _=>rfl) (fun i j=>(cells[i*sz+j]?).getD Go.undef) (fun i r j y h1 h2=>?_) (fun i r j y h1 h2=>?_))
  ·obtain ⟨u,p,H⟩:=D i r j y h1 h2;show (if _ then _ else _)=_; rw [aX rfl,bI,p]; rfl
  ·obtain ⟨u,p,H⟩:=D i r j y h1 h2;rw [p]; exact H.mono G.m
 ·rw [dG] at hz;obtain ⟨L,x,rfl⟩:=aA.1 hz;exact (l e L x).leX G
def SV (P:Program) (s:St) (o:Oper) (K:St->Prop):Prop:=match o.op,o.dst with
 | .call call,some d=>match call.callee with
  | .value f=>match ev s f with
   | .clo g cap=>∃ N I L R,(gI s (ku L)=some L/\Qn N I L (call.args.toList.map (ev s))=true/\lP P g N I ((call.args.toList.map fun x=>(ev s x).pubE)++cap) L R)/\∀ r a,R r a->match (s.demMany I).unmeMany N with | ⟨t,b⟩=>(⟨(d,r)::(BK a++t),b⟩:St).go K
   | _=>False
  | _=>False
 | _,_=>False
include hΓ hT in
theorem lJ (keep) (n) {id} {ops} (v:dC Γ.nt (.region id ops false)=true)
  (h:lx T Γ.P (SV Γ.P) ops.toList (dw ops.toList ops.toList) n s fun s'=>ga keep s' (K .normal)):aJ Γ s (.region id ops false) K:=by
 refine kh hΓ hT (fun s a w o K next Q x l h A=>?_) keep n v h;unfold SV at h;split at h
 ·rename_i call d i c;split at h
  ·rename_i f e;split at h
   ·rename_i g cap m;obtain ⟨N,I,L,R,⟨h1,h2,z⟩,q⟩:=h;refine zM hΓ x i e (cap:=cap) (.inl m) z h1 h2 c (l d c) (K:=K) (fun r j y=>?_) (fun s' p w' B u D F=>A s' p w' B u D (FT.put F));have:=q r j y;have this:(⟨(d,r)::(BK j++((s.demMany I).unmeMany N).t),(s.demMany I).b⟩:St).go K:=this;rw [St.go_eq] at this;exact this
   ·exact h.elim
  ·exact h.elim
 ·exact h.elim
def XT (T:eS) (s:St) (o:Oper) (K:St->Prop):Prop:=match o.op,o.dst with
 | .alloc t,some d=>match get T t with
  | some i=>match i.zero.cells? with
   | some cs=>bif cs.all (fun c=>c.isCell) then K ⟨(d,.loc d 0)::unloc d s.t,(d,cs)::s.b⟩ else False
   | none=>False
  | none=>False
 | _,_=>False
include hΓ hT in
theorem AB (keep) (n) {id} {ops} (m:dC Γ.nt (.region id ops false)=true)
  (h:lx T Γ.P (XT T) ops.toList (dw ops.toList ops.toList) n s fun s'=>ga keep s' (K .normal)):aJ Γ s (.region id ops false) K:=by
 refine kh hΓ hT (fun s a w o K next Q p l h r=>?_) keep n m h;unfold XT at h;split at h
 ·rename_i t d f b;split at h
  ·rename_i i hi;split at h
   ·rename_i cs e
    cases j:cs.all (fun c=>c.isCell) with
    | false=>grind
    | true=>
     rw [j] at h;exact HP hΓ hT f p l b hi e (fun x hx=>aN.1 j x hx) K h (fun s' y w' u q v z=>r s' y w' u q v (FT.put (b ▸ z)))
   ·exact h.elim
  ·exact h.elim
 ·exact h.elim
theorem ji {c} (l) (h:Bd l s fun s' _=>aJ Γ s' c K):aJ Γ s c K:=by
 refine ⟨fun a w b=>?_⟩;obtain ⟨e,d,f⟩:=b.ex;obtain ⟨s',i,c',g1,g2,g3,g4,g5,g6⟩:=pu _ s _ e h d f;exact g1.out a w ⟨⟨c',g3,g4⟩,b.size,b.defers,b.rnd⟩
end
open Go
def sU:Nat->List Nat
 | 0=>[]
 | k+1=>k::sU k
theorem qN {k j}:j∈sU k↔j<k:=by
 induction k with
 | zero=>simp [sU]
 | succ k a=>grind [sU]
theorem zn {l} {k} (h:k∈l):dj l k=true:=dv.2 h
def OZ (all:List Oper):Nat->List Nat->List Nat
 | 0,R=>R
 | i+1,R=>OZ all i (bif dj R i then (match qj all i with | some o=>cR o++R | none=>R) else R)
theorem tl {all:List Oper} {M:Nat->Bool} (a:∀ i o,all[i]?=some o->M i=true->∀ e∈cR o,M e=true):∀ (i:Nat) (R:List Nat),(∀ x∈R,M x=true)->∀ x∈OZ all i R,M x=true
 | 0,R,h,x,hx=>h x hx
 | i+1,R,h,x,hx=>by
  refine tl a i _ ?_ x hx
  cases c:dj R i with
  | false=>simpa using h
  | true=>
   rw [aR,fj]
   cases b:all[i]? with
   | none=>simpa using h
   | some o=>
    grind [gi]
def WL (o:Oper):List Nat:=match o.guard with
 | some (j,_)=>[j]
 | none=>[]
def C1 (k:Nat) (all:List Oper):Bool:=Nat.blt 0 k&&Nat.ble k all.length&&(sU k).all (fun i=>match qj all i with | some o=>(cR o).all (Nat.blt · i)&&(WL o).all (Nat.blt · k) | none=>false) &&
 (sU k).all (dj (OZ all k [k - 1]))&&(all.drop k).all fun o=>dj (cR o) (k - 1)
structure Vk (k:Nat) (all:List Oper):Prop where
 pos:0<k
 le:k<=all.length
 edge:∀ i o,i<k->all[i]?=some o->∀ e∈cR o,e<i
 gd:∀ i o,i<k->all[i]?=some o->∀ j b,o.guard=some (j,b)->j<k
 last:∀ M:Nat->Bool,(∀ i o,all[i]?=some o->M i=true->∀ e∈cR o,M e=true)->M (k - 1)=true->∀ i,i<k->M i=true
 suf:∀ i o,k<=i->all[i]?=some o->k - 1∈cR o
theorem C0 {k} {all} (h:C1 k all=true):Vk k all:=by
 simp only [C1,al] at h;obtain ⟨⟨⟨⟨h1,h2⟩,c⟩,d⟩,f⟩:=h;rw [aN] at c d f;have hu:∀ i,i<k->i∈sU k:=fun i hi=>qN.2 hi;refine ⟨ah h1,ah h2,fun i o hi a e he=>?_,fun i o hi a j b hj=>?_,fun M l hl i hi=>?_,fun i o hi a=>?_⟩
 ·have:=c i (hu i hi);rw [fj,a] at this;simp only [al,aN] at this;exact ah (this.1 e he)
 ·have:=c i (hu i hi);rw [fj,a] at this;simp only [al,aN] at this;exact ah (this.2 j (by simp [WL,hj]))
 ·exact tl l k [k - 1] (by simpa using hl) i (gi (d i (hu i hi)))
 ·exact gi (f o (List.mem_iff_getElem?.2 ⟨i - k,by grind⟩))
def Pm (F:Fence) (n:Nat) (P:Program) (all:List Oper) (k:Nat) (Q:Exit->Act->World->Prop):Exit->Act->World->Prop:=fun e a w=>match e with
 | .normal=>∀ B:Array Bool,B.size=all.length->(∀ j,B.getD j false=Nat.blt j k)->wpAnyIn F n P .any all.toArray Q (all.length - k) B a w
 | e=>Q e a w
theorem AX {F} {n} {P} {all} {k} (h:Vk k all) {Q}:∀ (fuel:Nat) (A B:Array Bool) (a:Act) (w:World),A.size=k->B.size=all.length->(∀ j,B.getD j false=A.getD j false) ->
  (∀ i o,all[i]?=some o->B.getD i false=true->∀ e∈cR o,B.getD e false=true)->kR (fun i=>A.getD i false) k+fuel=k ->
  wpAnyIn F n P .any (all.take k).toArray (Pm F n P all k Q) fuel A a w->wpAnyIn F n P .any all.toArray Q (fuel+(all.length - k)) B a w:=by
 have v:∀ (A B:Array Bool) (a:Act) (w:World),A.size=k->B.size=all.length->(∀ j,B.getD j false=A.getD j false)->(∀ i,i<k->A.getD i false=true)->Pm F n P all k Q .normal a w->wpAnyIn F n P .any all.toArray Q (all.length - k) B a w:=by
  intro A B a w L H c q hq;refine hq B H fun j=>?_;rw [c]
  cases hj:Nat.blt j k with
  | true=>exact q j (ah hj)
  | false=>
   have:¬ j<k:=fun J=>by rw [show Nat.blt j k=true from kO J] at hj; cases hj
   grind
 intro fuel
 induction fuel with
 | zero=>
  intro A B a w L H c G J U;rw [bI];exact v A B a w L H c (fun i hi=>yD k ar i hi) U.2
 | succ fuel ih=>
  intro A B a w L H c G J U
  -- the last one of the first part is not there yet
  have l:¬ ∀ i,i<k->A.getD i false=true:=fun q=>by
   have:∀ m,(∀ i,i<m->A.getD i false=true)->kR (fun i=>A.getD i false) m=m:=by
    intro m
    induction m with
    | zero=>intro _; rfl
    | succ m im=>grind [kR]
   grind
  have r:A.getD (k - 1) false=false:=by
   cases hl:A.getD (k - 1) false with
   | false=>rfl
   | true=>
    exfalso;refine l fun i hi=>?_;rw [<- c];exact h.last (fun i=>B.getD i false) G (by rw [c]; exact hl) i hi
  have y:∀ i,i∈Region.ready .any all.toArray B->i<k/\i∈Region.ready .any (all.take k).toArray A:=by
   intro i hi;rw [gB] at hi;obtain ⟨h1,o,h2,h3⟩:=hi;have h2':all[i]?=some o:=by simpa using h2
   have f:i<k:=by
    refine pR fun J=>?_;obtain ⟨x,hx,z,N⟩:=gX.1 (h.suf i o J h2');have:=h3 x hx z;rw [N,c,r] at this;cases this
   refine ⟨f,?_⟩;rw [gB];refine ⟨?_,o,?_,fun e he z=>by grind⟩
   ·grind
   ·grind
  rw [show fuel+1+(all.length - k)=fuel+(all.length - k)+1 by omega];refine ⟨fun hr=>?_,fun i hi=>?_⟩
  ·exfalso
   -- the first one that is not there is ready
   have:∃ i,i<k/\A.getD i false=false/\∀ j,j<i->A.getD j false=true:=by
    have key:∀ m,(∀ i,i<m->A.getD i false=true)\/∃ i,i<m/\A.getD i false=false/\∀ j,j<i->A.getD j false=true:=by
     intro m
     induction m with
     | zero=>grind
     | succ m im=>
      grind
    rcases key k with h1 | h1
    ·exact absurd h1 l
    ·exact h1
   obtain ⟨i,hi,D,hj⟩:=this;obtain ⟨o,Z⟩:∃ o,all[i]?=some o:=⟨_,ai (by have:=h.le; omega)⟩
   have:i∈Region.ready .any all.toArray B:=by
    rw [gB];refine ⟨?_,o,by simpa using Z,fun e he z=>?_⟩
    ·grind
    ·rw [c];exact hj _ (h.edge i o hi Z e.on (gX.2 ⟨e,he,z,rfl⟩))
   grind
  ·obtain ⟨f,u⟩:=y i hi;have hx:=U.2 i u;rw [gB] at u;obtain ⟨h1,o,h2,h3⟩:=u
   have D:A.getD i false=false:=by
    rw [<- h1,aG,aG,aE ar];rfl
   have h2':all[i]?=some o:=by
    have:(all.take k)[i]?=some o:=by simpa using h2
    rw [dL,aX f] at this;exact this
   have d:∀ (C:Array Bool),i<C.size->∀ j,(C.setIfInBounds i true).getD j false=(C.getD j false||decide (j=i)):=by
    intro C hC j;rw [aG,dn];by_cases hj:i=j
    ·grind
    ·rw [aV hj,<- aG,show decide (j=i)=false from by grind,fu]
   have hle:=h.le
   have t:∀ a w,wpAnyIn F n P .any (all.take k).toArray (Pm F n P all k Q) fuel (A.setIfInBounds i true) a w->wpAnyIn F n P .any all.toArray Q (fuel+(all.length - k)) (B.setIfInBounds i true) a w:=by
    intro a w hh;refine ih _ _ a w (by simpa using L) (by simpa using H) (fun j=>by rw [d B ar,d A ar,c]) (fun m o' E hm e he=>?_) ?_ hh
    ·rw [d B ar] at hm ⊢;rw [cq] at hm ⊢;rcases hm with hm | hm
     ·grind
     ·have:m=i:=by simpa using hm
      subst this;rw [h2'] at E; cases E;obtain ⟨x,hx,z,rfl⟩:=gX.1 he;grind
    ·rw [yC (M:=fun i=>A.getD i false) (M':=fun j=>(A.setIfInBounds i true).getD j false) (i:=i) D (fun j=>d A ar j) k f];omega
   unfold wpOpIn at hx ⊢;rw [show all.toArray[i]?=some o by simpa using h2'];rw [h2] at hx;simp only at hx ⊢
   have hy:Region.wanted o (yielded all.toArray a.tmps)=Region.wanted o (yielded (all.take k).toArray a.tmps):=by
    unfold Region.wanted
    cases hg:o.guard with
    | none=>rfl
    | some p=>
     obtain ⟨j,b⟩:=p;have hj:=h.gd i o f h2' j b hg;grind [yielded]
   rw [hy];split at hx
   ·rename_i X;rw [aX X];exact Oper.wpIn_mono t hx
   grind
section
variable {ι α:Type}
structure VG (Y:YM ι α) (all:List Oper) (K:sQ ι->St->Prop) (fuel:Nat) (listed:List Nat) (g:sQ ι) (s:St):Prop where
 out:∀ (Q:Exit->Act->World->Prop),(∀ j d,jt all j=some d->d<Y.nt)->(∀ b s' a w,K b s'->MI Y b s' a w->Q .normal a w) ->
  ∀ (arr:Array Bool) (a:Act) (w:World),arr.size=all.length->(∀ j,arr.getD j false=dj listed j)->MI Y g s a w->wpAnyIn Y.F Y.n Y.P .any all.toArray Q fuel arr a w
variable {Y:YM ι α} (hY:Y.OK) {T:eS} (hT:T.OK Y.P) {all:List Oper}
theorem VG.done {K} {listed} {g} {s} (h1:iU listed all 0=[]) (h2:K g s):VG Y all K 0 listed g s:=by
 refine ⟨fun Q c e arr a w b f d=>⟨?_,e g s a w h2 d⟩⟩;rw [pU];intro i hi;have:=wh b f hi;grind
include hY hT in
theorem VG.step {K} {fuel} {listed} {g} {s} (h:match iU listed all 0 with
   | []=>False
   | i::r=>MP (i::r) fun i=>match qj all i with
    | none=>False
    | some o=>match j3 all s o with
     | 0=>bif rN s o then CO Y g s o fun g s=>VG Y all K fuel (i::listed) g s
      else Wo T (aq Y.P) s o.dst o.type o.op fun s=>Dv o.op s fun s=>VG Y all K fuel (i::listed) g s
     | 1=>fx s o.dst .undef fun s=>VG Y all K fuel (i::listed) g s
     | _=>False):VG Y all K (fuel+1) listed g s:=by
 refine ⟨fun Q b A arr a w m E y=>?_⟩
 have Z:∀ i,i∈iU listed all 0->i∈Region.ready .any all.toArray arr:=by
  intro i hm;rw [iB] at hm;obtain ⟨o,_,h2,L,N⟩:=hm;have h2:all[i]?=some o:=by simpa using h2
  have z:i<all.length:=(am.1 h2).1;rw [gB];refine ⟨?_,o,by simpa using h2,fun e he H=>by grind⟩;rw [<- L,<- E,aG,aG,aE ar];rfl
 split at h
 ·exact h.elim
 rename_i i0 r0 he;refine ⟨fun hr=>?_,fun i hi=>?_⟩
 ·grind [List.mem_cons_self]
 ·have hm:=wh m E hi;rw [he] at hm;have h:=ou h i hm;rw [<- he,iB] at hm;obtain ⟨o,_,h2,L,N⟩:=hm;have h2:all[i]?=some o:=by simpa using h2
  have z:i<all.length:=(am.1 h2).1;have l:∀ d,o.dst=some d->d<Y.nt:=fun d M=>b i d (by rw [eF,h2]; exact M)
  have hA':∀ j,(arr.setIfInBounds i true).getD j false=dj (i::listed) j:=by
   intro j;rw [aG,dn,dj];by_cases hj:i=j
   ·subst hj;rw [aX rfl,aX ar]; simp
   ·rw [aV hj,<- aG,E,show Nat.beq i j=false from by cases H:Nat.beq i j with | false=>rfl | true=>exact absurd (aj H) hj]; rfl
  rw [fj,h2] at h;simp only at h;rw [wpOpIn,show all.toArray[i]?=some o by simpa using h2];simp only;obtain ⟨t,m0,p,J,c,u,n⟩:=y.inv hY.round;have hG:=hY.base m0 t p n;split at h
  ·rename_i G;rw [dx (Γ:=Y.base m0 t) b c 0 G ar];simp only [ea,c5]
   cases hy:rN s o with
   | true=>
    rw [hy,aR] at h;exact tG hY y l h fun g' s' D w' x q=>x.out Q b A _ D w' (by simpa using m) hA' q
   | false=>
    rw [hy,br] at h;refine ld (Γ:=Y.base m0 t) hG hT rfl c l h ?_;intro s' D w' x q U X;rw [uy] at x;refine x.out Q b A _ D w' (by simpa using m) hA' ⟨⟨t,m0,p,J,q.toT,u.trans U,n⟩,?_⟩;obtain ⟨v,rfl⟩:=X;rw [el]; exact y.df
  ·rename_i G;rw [dx (Γ:=Y.base m0 t) b c 1 G ar];simp only [Nat.reduceBEq,bv,cu];obtain ⟨s2,F,B⟩:=fT c l h;exact ⟨fun f _=>hG.fn f,F.out Q b A _ _ w (by simpa using m) hA' ⟨⟨t,m0,p,J,B.toT,u,n⟩,by rw [el]; exact y.df⟩⟩
  ·exact h.elim
theorem Cj (k j):dj (sU k) j=Nat.blt j k:=by
 cases h:dj (sU k) j with
 | true=>exact (kO (qN.1 (gi h))).symm
 | false=>
  cases a:Nat.blt j k with
  | false=>rfl
  | true=>
   have:=zn (qN.2 (ah a));rw [h] at this; cases this
def I3 (Y:YM ι α) (T:eS) (gs:List Nat) (ops:List Oper) (s:St) (K:St->Prop):Prop:=match s with
 | ⟨t,b⟩=>XR (unlocMany (kd ops) t) fun t=>LN T (aq Y.P) (bX Y.P) ops gs ops [] ⟨t,b⟩ fun a s'=>T3 ⟨t,b⟩ ops a.reverse=true/\K s'
include hY hT in
theorem RU (k) (keep) {g} {s} {K} {id} {ops} (U:dC Y.nt (.region id ops true)=true) (y:C1 k ops.toList=true)
  (c:dj (eE (ops.toList.take k)) 1000000000=false)
  (h:I3 Y T (dw ops.toList ops.toList) (ops.toList.take k) s fun s'=>VG Y ops.toList (fun g s=>ga keep s (K .normal g)) (ops.toList.length - k) (sU k) g s'):io Y g s (.region id ops true) K:=by
 refine ⟨fun a w z=>?_⟩;obtain ⟨all⟩:=ops;obtain ⟨t,b⟩:=s;simp only [I3,qT] at h;simp only at U y c h;have f:=ew U;obtain ⟨A,m0,r,hJ,q,L,p⟩:=z.inv hY.round;have hG:=hY.base m0 A r p;obtain ⟨tr,s',X,e,F⟩:=oe T (aq Y.P) (bX Y.P) (all.take k) [] _ h;rw [bR,He] at e;obtain ⟨g1,g2,g3⟩:=xZ.all T (aq Y.P) (bX Y.P) X;obtain ⟨an,hF⟩:=wI e;have N:=C0 y;refine CR hG.mixed ?_;have G:=(q.drew).unlocMany (kd (all.take k))
 have hz:∀ n i,(Array.replicate n false).getD i false=false:=by
  intro n i;rw [aG,mz];split <;> rfl
 have u:∀ {α:Type} (E:Nat->List (Nat×α)) (b:List (Nat×α)) m n,tF E b (fun i=>(Array.replicate m false).getD i false) n=b:=by
  intro α E b m n
  induction n with
  | zero=>rfl
  | succ n M=>simp only [tF]; rw [hz m n,br]; exact M
 have x:∀ m n,kR (fun i=>(Array.replicate m false).getD i false) n=0:=by
  intro m n
  induction n with
  | zero=>rfl
  | succ n M=>simp only [kR]; rw [hz m n,M]; rfl
 have l:(all.take k).length=k:=by simp [N.le]
 have hall':∀ j d,jt (all.take k) j=some d->d<Y.nt:=fun j d c=>by
  rw [eF,dL] at c;split at c
  ·exact f j d (by rw [eF]; exact c)
  ·cases c
 have J:all.length=k+(all.length - k):=by have:=N.le; omega
 show wpAnyIn _ _ _ _ _ _ all.length _ _ _;rw [J];refine AX N k (Array.replicate k false) _ a _ cU (by simp; try omega) (fun j=>by rw [hz,hz]) (fun i o _ hi=>nomatch (hz _ _).symm.trans hi) (by rw [x]; omega) ?_;refine zT (Γ:=Y.base m0 A) hG hT (all:=all.take k) (w0:=w) (a0:=a) hF g1 hall' g2 (fun Z w' v D H=>?_) k (Array.replicate k false) a w.drew (by simp [g1,l]) (by rw [x,g1,l]; omega) (fun m st _ hm=>nomatch (hz _ _).symm.trans hm) (by rw [u,u]; exact G) ⟨ba _,fun _ _ h _=>h,.drew _,fun _ h=>h⟩ (.refl _ a)
 ·rw [g1,<- g3] at v;intro B hB Q;refine F.out _ f (fun g' s' a w F z=>?_) B Z w' hB (fun j=>by rw [Q,Cj]) ⟨⟨A,m0,r,hJ,v.toT,L.trans D,p⟩,?_⟩
  ·obtain ⟨s2,h2,hle⟩:=eb F;exact ⟨g',s2,z.less hle,h2⟩
  ·rw [H.defers fun hc=>by rw [zn hc] at c; cases c]; exact z.df
end
theorem lZ.ofB {P} {T} (hT:T.OK P) {f} {fn} {body} {sz} {rows} {args} {Q} (hf:P.funcs[f]?=some fn) (N:fn.body=some body)
  (hname:(fn.name == "runtime.NumGoroutine")=false) (hm:P.follows .mixedOrders=true) (hn:args.length+1<=fn.ntmps) (hrl:∀ x∈rows,x.length=sz) (hkp:dj (oI body) 0=false)
  (h:∀ (F:Fence) (n:Nat) (w0:World) (m0:dI),ce.OK ⟨P,F,n,w0,m0,fn.ntmps⟩->F.round=none->9<=n->aJ ⟨P,F,n,w0,m0,fn.ntmps⟩ ⟨(xk 5000000,.me .arr 5000000 sz (ek rows))::params 0 (.me .sl 5000000 rows.length []::args),[]⟩ body
   fun e s=>(e = .ret\/e = .normal)/\∃ r l,Q r l/\Lc T fn.results.toList s r/\get s.t 0=some (.sl .no sz (ek l))/\l.length=rows.length/\∀ x∈l,x.length=sz):lZ P f sz rows args Q:=by
 refine ⟨gC hf hname N,fun m w vs b cap hs hgm hmb M hcap hcell hlen hr=>?_⟩;have hsoft:=M.soft;obtain ⟨cells,U,hcs,hrm⟩:=M;have hbw:b<w.heap.size:=(aO.1 hcs).1;obtain ⟨wm,hwm⟩:∃ wm,wm=lF w (·=b):=⟨_,rfl⟩
 have hgw:(gf P).sub wm:=⟨fun k i v h=>by
  have hne:k≠b:=fun e=>by
   have:=hgm.cell k i v h;grind
  have h1:=(hgm.sub hs).cell k i v h;grind [World.cell?,lf],fun k x h=>nomatch h⟩
 obtain ⟨c,p⟩:∃ c:dE,c=⟨fun _=>0,fun _ => .slice none 0 0,fun _=>0,m,fun k=>if k=5000000 then some (b,.cells cells U (0,0)) else none,fun _=>(rows.length,cap)⟩:=⟨_,rfl⟩;have J:c.m=m:=by rw [p]
 have hmaps:m.maps b=none:=by
  cases hx:m.maps b with
  | none=>rfl
  | some x=>have:=hs.map b x hx; rw [hcs] at this; cases this
 obtain ⟨Γ,E⟩:∃ Γ:ce,Γ=⟨P,Fence.wide,9,wm,m,fn.ntmps⟩:=⟨_,rfl⟩;have G:Γ.w0=lF w (·=b):=by rw [E,hwm]
 have H:Γ.m0=m:=by rw [E]
 have hP:Γ.P=P:=by rw [E]
 have hT':T.OK Γ.P:=by rw [hP]; exact hT
 have hG:ce.OK ⟨P,Fence.wide,9,wm,m,fn.ntmps⟩:=⟨fun _=>trivial,rfl,rfl,hm,hgm,hgw⟩;refine Cx.1 (mC (n:=9) hf N trivial ?_);have hp:=(h Fence.wide 9 wm m hG rfl (ba _)).out;rw [<- E] at hp;have hown:∀ k,dc c k=none:=fun k=>by rw [p]; rfl
 have hW0:WI Γ c [] w:=by
  refine ⟨?_,by rw [J]; exact hs,by rw [H,J]; exact .refl _,by rw [H,J]; exact ⟨fun _ _ _ h => .inl h,fun _ _ h => .inl h⟩,fun _ _ h=>(nomatch h),fun _ _ _ _ h=>(nomatch h),fun k=>⟨fun g hg=>(by grind),.inl (by rw [p]),fun g _ _ hg=>(by grind),fun g j hg=>(by grind)⟩,fun k b' o hx=>?_⟩
  ·rw [G];refine ⟨rfl,rfl,rfl,by rw [mR]; exact ba _,fun k Z=>?_⟩;refine (lf (B:=(·=b)) fun hB=>Z (.inr ?_)).symm;grind [qP]
  ·rw [p] at hx;simp only at hx;split at hx
   ·cases hx;refine ⟨by rw [G]; exact .inr (qP (B:=(·=b)) rfl hbw),hcs,rfl,fun i _=>by rw [J]; exact hmb i,by rw [J]; exact hmaps,fun _ _ h=>(nomatch h),fun j=>by grind,fun j o' hj=>?_⟩;rename_i Z;rw [p] at hj;grind
   ·cases hx
 obtain ⟨v0,hv0⟩:∃ v0,v0=Value.slice (some ⟨b,0,none⟩) rows.length cap:=⟨_,rfl⟩;have hxk:c.x 5000000=some (b,.cells cells U (0,0)):=by rw [p]; simp
 have hxn:c.xn 5000000=(rows.length,cap):=by rw [p]
 have hir:(ek rows).length=rows.length:=by simp [ek]
 have harr:∀ u,RX c .arr 5000000 sz (ek rows) u:=fun u=>by
  refine ⟨b,cells,U,hxk,⟨by rw [hxn,hir],by rw [hxn]; exact hrm⟩,by rw [hir]; exact bC (bg _ hcap) hrm,fun r X=>?_,fun i r j y h1 h2=>?_⟩
  ·simp only [ek,bp] at X;obtain ⟨q,hq,rfl⟩:=X;refine ⟨by grind,fun y hy=>?_⟩;obtain ⟨z,_,rfl⟩:=bp.1 hy;rfl
  ·obtain ⟨q,hq,rfl⟩:=j9 h1;rw [aQ] at h2;obtain ⟨z,hz,rfl⟩:=aA.1 h2;grind [World.cell?,RD.int]
 have hI0:d5 Γ ⟨(xk 5000000,.me .arr 5000000 sz (ek rows))::params 0 (.me .sl 5000000 rows.length []::args),[]⟩ ⟨(v0::vs).toArray++Array.replicate (fn.ntmps - (v0::vs).toArray.size) Go.undef,[]⟩ w:=by
  refine ⟨⟨c,hW0,fun d x hx=>?_⟩,by rw [E]; simp; omega,⟨[],rfl,eP,by simp⟩,fun _ h=>by rw [E] at h; exact nomatch h⟩;rw [a8] at hx;split at hx
  ·cases hx;exact harr Go.undef
  ·obtain ⟨_,h2⟩:=jR _ _ _ _ hx;simp only [nZ] at h2;have hdl:d<(AV.me .sl 5000000 rows.length []::args).length:=(am.1 h2).1;rw [bt] at hdl;rw [aG,co (by simp; omega)]
   cases d with
   | zero=>
    simp only [bw,aB] at h2;subst h2;simp only [eN,bw,lL];rw [hv0];exact (show RX c .sl 5000000 rows.length [] _ from ⟨b,cells,U,cap,hxk,rfl,by grind,hcap⟩)
   | succ d=>
    grind [List.getElem?_cons_succ,List.getElem?_eq_getElem,RC.of_RD]
 have hp2:=hp _ w hI0;rw [E] at hp2;rw [<- hv0];refine db hp2 ?_;rw [<- E];intro e a w' ⟨hN,hFT,s',hI,⟨he,r,l,hQ,hRet,hg0,hl',X⟩⟩
 have ha0:a.tmps.getD 0 Go.undef=v0:=by
  have hnot:0 ∉ oI body:=fun h=>by rw [(dv).2 h] at hkp; cases hkp
  rw [FT.tmps hFT hnot ar,aG,co cU];rfl
 obtain ⟨RR',hRR⟩:∃ RR:Ending->World->Prop,RR=fun e w'=>∃ v m' r l,e = .returned v/\Q r l/\RD m' r v/\l.length=rows.length/\(∀ x∈l,x.length=sz) /\
   (∀ (i j:Nat) (r:List Int) (n:Int),l[i]?=some r->r[j]?=some n->m' b (i*sz+j)=some (.int .i64 n))/\m.le m'/\dI.sub m' w'/\Hi b w w' /\
   (∀ k o v,m' k o=some v->m k o=some v\/(k=b\/w.heap.size<=k)/\ej w' k)/\(∀ k x,m'.maps k=some x->m.maps k=some x\/w.heap.size<=k)/\iG w w':=⟨_,rfl⟩
 rw [<- hRR]
 have hpost:LeavesInM Fence.wide 9 P fn a.tmps RR' a.defers .returning w':=by
  obtain ⟨⟨c1,hW,ht⟩,_,⟨Ds,hD1,hD2,hD3⟩,_⟩:=hI;rw [hD1];have hsz:Γ.w0.heap.size=w.heap.size:=by rw [G,mR]
  refine rM (B:=w.heap.size) (w0:=w') Ds w' (.refl _ _) hW.sub hD2 (fun D hD=>⟨(hD3 D hD).1,hsz ▸ (hD3 D hD).2⟩) fun w2 h1 h2 h3 h4=>?_;have A:=hW.keep (hW.ext.trans (.of h1 ar)) h2 h3;obtain ⟨v,hv1,hv2⟩:=nb (a:=a) hT' A ht hRet;rw [hP] at hv1
  have L:NC w w2:=⟨bC hN.size h1.size,fun b o N ho=>(h1.block b (aO.1 N).1).trans (hN.same b o N ho),hN.more.trans h4,fun b N=>by
   obtain ⟨cs,U,p⟩:=hN.soft b N;exact ⟨cs,U,h3 b _ p rfl⟩⟩
  have hno:∀ b o,w2.heap[b]?=some o->se o=true->w.heap[b]?≠some (Obj.deferred none):=fun b o N ho p=>by
   rw [L.same b _ p rfl] at N; cases N; cases ho
  have hsb:=L.soft b hsoft;refine ⟨v,hv1,?_⟩;rw [hRR];refine ⟨v,c1.m,r,l,rfl,hQ,hv2,hl',X,fun i j r n g1 g2=>?_,by have:=hW.le0; rw [H] at this; exact this,A.sub,⟨?_,?_,?_,L.size,fun k Z hne=>?_,hsb⟩,fun k o v Z=>?_,fun k x Z=>?_,L.more⟩
  ·have hx:=ht 0 _ hg0;rw [ha0,hv0] at hx;have hx:RD c1.m (.sl .no sz (ek l)) (.slice (some ⟨b,0,none⟩) rows.length cap):=hx;have q1:(ek l)[i]?=some (r.map (AV.int .i64)):=by simp [ek,g1]
   have q2:(r.map (AV.int .i64))[j]?=some (.int .i64 n):=by simp [g2]
   have hpos:0<(ek l).length:=by have:=(am.1 q1).1; omega
   cases hx with
   | sl _ _ _ base len cap ho hfl hl p hsz' hcell b2 off hb2 g hm2 hr2=>
    have hbe:=hb2 ar;cases hbe;have g3:=hm2 i _ j _ q1 q2;have g4:=hr2 i _ j _ q1 q2;rw [bI] at g3;generalize g i j=u at g3 g4;cases g4;exact g3
  ·have:=A.ext.os; rw [G] at this; exact this
  ·have:=A.ext.tape; rw [G] at this; exact this
  ·have:=A.ext.output; rw [G] at this; exact this
  ·by_cases hd:w.heap[k]?=some (Obj.deferred none)
   ·rw [hd]; exact L.same k _ hd rfl
   ·have hnf:¬ free Γ.w0 k:=fun hf=>by
     grind [jS]
    have:=A.ext.block k hnf;grind [lf]
  ·have p:=A.new.cell k o v Z;rw [H,G] at p;refine p.imp id fun ⟨h5,h6⟩=>⟨?_,h6⟩;rcases jS h5 with h | h | h
   ·exact .inr h
   ·exact .inl h
   ·obtain ⟨cs,U,p⟩:=h6;exact absurd h (hno k _ p rfl)
  ·have p:=A.new.map k x Z;rw [H,G] at p;refine p.imp id fun h5=>?_;have hmx:=A.sub.map k x Z;rcases jS h5 with h | h | h
   ·exact h
   ·exfalso;obtain ⟨cs,U,hcc⟩:=hsb;grind
   ·exact absurd h (hno k _ hmx rfl)
 rcases he with rfl | rfl <;> exact hpost
open Go
open Go.RowKit (Below)
def VA (k:Nat):AV->AV
 | .me .sl k' n xs => .me .sl k' n xs
 | x=>x.unme k
def T7 (T:eS) (s:St) (o:Oper) (K:St->Prop):Prop:=match o.op,o.dst with
 | .call { callee := .builtin .clear,args:=args,argTypes:=e },none=>match args.toList,e.toList with
  | [x],[t]=>match get T t with
   | some i=>match get T i.elem with
    | some j=>match j.zero.cells?,ev s x with
     | some c,.me (.sub sz l) k n _=>match iH s k with
      | some (d,xs)=>bif Nat.beq i.kind 3&&(Nat.beq sz d&&(Nat.beq j.size sz&&(Nat.beq c.length j.size&&(c.all AV.isCell&&Nat.blt 0 sz)))) then l+n<=xs.length/\K ⟨(xk k,.me .arr k sz (xs.take l++(List.replicate n c++xs.drop (l+n))))::iX (VA k) s.t,s.b⟩ else False
      | none=>False
     | _,_=>False
    | none=>False
   | none=>False
  | _,_=>False
 | _,_=>False
theorem AW (z) (n p) (h:p<n*z.size):(Builtin.zeroCells z n)[p]?=z[p % z.size]?:=by
 have b:0<z.size:=by
  rcases ne z.size with c | c
  ·rw [c] at h; omega
  ·exact c
 have hm:=nd p b;simp only [Builtin.zeroCells,NF,Array.getElem?_range,h,c5,bH];grind
section
variable {Γ:ce} (hΓ:Γ.OK) {T:eS} (hT:T.OK Γ.P) {s:St} {K:St->Prop} {o:Oper} {a:Act} {w:World}
 {next:Act->World->Prop} {Q:Exit->Act->World->Prop}
include hΓ hT in
theorem IV (hI:d5 Γ s a w) (h:T7 T s o K) (hn:∀ s' a' w',K s'->d5 Γ s' a' w'->NC w w'->FT o.dst.toList a a'->next a' w'):o.wpIn Γ.F Γ.n Γ.P a w next Q:=by
 unfold T7 at h;split at h
 case h_2=>exact h.elim
 rename_i args ts hop X;split at h
 case h_2=>exact h.elim
 rename_i x t ha hts;split at h
 case h_2=>exact h.elim
 rename_i i hi;split at h
 case h_2=>exact h.elim
 rename_i j hj;split at h
 case h_2=>exact h.elim
 rename_i L sz l k n ys hz hx;split at h
 case h_2=>exact h.elim
 rename_i sz2 xs hc
 cases N:(Nat.beq i.kind 3&&(Nat.beq sz sz2&&(Nat.beq j.size sz&&(Nat.beq L.length j.size&&(L.all AV.isCell&&Nat.blt 0 sz))))) with
 | false=>grind
 | true=>
  rw [N] at h;simp only [al] at N;obtain ⟨b1,b2,b3,b4,b5,b6⟩:=N;obtain ⟨hle,h⟩:=h;have q1:=aj b2;have q2:=aj b3;have q3:=aj b4;subst q1;have hpos:0<sz:=ah b6;obtain ⟨c,hW,ht⟩:=hI.ex;obtain ⟨b,cells,U,e1,⟨e2,e2'⟩,e3,e4,e5⟩:=rj ht hc;have hq:=hW.xo k b _ e1;have hrx:=cc ht x;rw [hx] at hrx;obtain ⟨b',cells',U',off,cap,f1,f2,f3,f4,f5⟩:=(show RX c (.sub sz l) k n ys (a.eval x) from hrx);rw [e1] at f1;cases f1;have hu:=d6 hT hi (aj b1);obtain ⟨q,z,p1,p2,p3,p4,p5,p6⟩:=jn (c:=c) w hT hj hz q3;obtain ⟨zv,g1,g2,g3⟩:=mH (w:=w) hT hj hz;have hzs:zv.cells.size=sz:=by rw [<- g2,q3,q2]
  obtain ⟨args⟩:=args;obtain ⟨ts⟩:=ts;simp only at ha hts;subst ha;subst hts;obtain ⟨news,D⟩:∃ news,news=(Builtin.zeroCells zv.cells n).toList:=⟨_,rfl⟩;have H:news.length=n*sz:=by rw [D]; simp [Builtin.zeroCells,hzs]
  have hng:∀ p,p<n*sz->news[p]?=zv.cells[p % sz]?:=fun p hp=>by
   grind [AW]
  have Z:∀ v∈news,v.oneCell'=true:=fun v hv=>by
   obtain ⟨p,hp⟩:=cn hv;have hlt:p<n*sz:=by rw [<- H]; exact (am.1 hp).1
   rw [hng p hlt] at hp;have hm:=nd p hpos;obtain ⟨y,hy⟩:∃ y,L[p % sz]?=some y:=⟨_,ai ar⟩;exact ((g3 c.m _ y v hy hp).one (aN.1 b5 y (aC hy))).1
  have hlm:(l+n)*sz<=cells.size:=bC (bg _ hle) e3;rw [dk] at hlm;have hlen:(xs.take l++(List.replicate n L++xs.drop (l+n))).length=xs.length:=by simp; omega
  have hin:∀ r∈xs.take l++(List.replicate n L++xs.drop (l+n)),r.length=sz/\∀ y∈r,y.isCell=true:=fun r hr=>by
   grind
  obtain ⟨f,A⟩:∃ f,f=(cells.toList.take (l*sz)++news++cells.toList.drop (l*sz+news.length)).toArray:=⟨_,rfl⟩;have hsize2:f.size=cells.size:=by rw [A]; simp [H]; omega
  have hrow:∀ p,f[p]?=if l*sz<=p/\p<l*sz+n*sz then news[p - l*sz]? else cells[p]?:=fun p=>by
   rw [A,yw cells.toList news (l*sz) p (by grind),H];simp
  obtain ⟨M,J⟩:∃ M,M=if n=0 then w else w.setRow b f:=⟨_,rfl⟩
  have hrun:(Builtin.clear_ #[t] o.type #[a.eval x]).run Γ.P w = .ok (.tuple #[]) M:=by
   rw [f2];by_cases E:n=0
   ·subst E;simp only [Builtin.clear_,eN,bw,aD,aY hu,aw,aL];rw [J,aX rfl]
   ·have hoff:off=l*sz:=f3.resolve_right fun h=>E h.1;subst hoff;have hst:=oJ Γ.P b (l*sz) U news 0 cells w hq.obj ar Z;simp only [ee] at hst;simp only [Builtin.clear_,eN,bw,aD,aY hu,aw,g1,<- D,hst,aL];grind
  have hgo:∃ c2 cl,WI Γ c2 s.b M/\c.leX k c2/\NC w M/\c2.x k=some (b,.cells cl U (0,0))/\cl.size=cells.size/\c2.xn=c.xn/\c2.m=c.m/\∀ p,cl[p]?=if l*sz<=p/\p<l*sz+n*sz then news[p - l*sz]? else cells[p]?:=by
   by_cases E:n=0
   ·rw [J,aX E];refine ⟨c,cells,hW,⟨.refl _,rfl,rfl,rfl,fun j _=>⟨rfl,rfl⟩⟩,.refl _,e1,rfl,rfl,rfl,fun p=>?_⟩;grind
   ·rw [J,aV E];obtain ⟨W1,W2,W3⟩:=hW.storeX e1 f (hq.ag (n8 hc));grind
  obtain ⟨c2,cl,W1,W2,W3,hx2,hs2,hxn2,hm2,hcl⟩:=hgo;refine cT hΓ (by grind) (v := .tuple #[]) (w':=M) ?_ ?_
  ·simp only [execOp,hop,aD,d3,aw,invoke,builtin,ez,cp,eU,hrun,aL]
  ·rw [show a.put o.dst (.tuple #[])=a by rw [X]; rfl];refine hn _ _ _ h ?_ W3 (.refl _ _);refine hI.next W3 W1 (d:=none) (v:=Go.undef) (by intro k hk; cases hk) (fun d y hy=>?_);rw [a8] at hy;split at hy
   ·cases hy;refine (show RX c2 .arr k sz (xs.take l++(List.replicate n L++xs.drop (l+n))) Go.undef from ⟨b,cl,U,hx2,⟨by grind,by grind⟩,by rw [hlen,hs2]; exact e3,hin,fun p r p' z' h1 h2=>?_⟩);have hrl:=(hin r (aC h1)).1;have hp':p'<sz:=by rw [<- hrl]; exact (am.1 h2).1
    have hl1:(xs.take l).length=l:=by simp; omega
    rw [hcl,hm2];by_cases c1:p<l
    ·rw [dp ar,dL,aX c1] at h1;have:(p+1)*sz<=l*sz:=bg _ c1;grind
    ·rw [cF ar,hl1] at h1;have g0:l*sz<=p*sz:=bg _ ar;by_cases c3:p - l<n
     ·rw [dp (by simpa using c3),yn,aX c3] at h1;cases h1;have g5:(p+1)*sz<=(l+n)*sz:=bg _ ar;rw [dk,dk,ni] at g5
      have e:p*sz+p' - l*sz=(p - l)*sz+p':=by
       rw [Nat.sub_mul]; omega
      rw [aX ⟨by omega,by omega⟩,hng _ ar,e,AF,Nat.mul_add_mod,lM hp'];grind
     ·rw [cF (by simpa using c3),List.length_replicate,da,show l+n+(p - l - n)=p by omega] at h1;have:(l+n)*sz<=p*sz:=bg _ ar;grind
   ·rw [dG] at hy;obtain ⟨z0,hz0,rfl⟩:=aA.1 hy;have hz':=ht d z0 hz0;by_cases hsl:∃ G,z0 = .me .sl k G []\/∃ u,z0 = .me .sl k G u
    ·obtain ⟨G,hh⟩:=hsl;obtain ⟨u,rfl⟩:∃ u,z0 = .me .sl k G u:=by grind
     obtain ⟨m1,m2,m3,m4,m5,m6,m7,m8⟩:=(show RX c .sl k G u _ from hz');rw [e1] at m5;cases m5;exact (show RX c2 .sl k G u _ from ⟨b,cl,U,m4,hx2,m6,by rw [hxn2]; exact m7,m8⟩)
    ·have B:=hz'.leX W2
     cases z0 with
     | me g k' G u=>
      cases g with
      | sl=>
       by_cases hk:k'=k
       ·grind
       ·have e:AV.unme k (.me .sl k' G u) = .me .sl k' G u:=by
         unfold AV.unme;simp only;rw [show Nat.beq k k'=false from by cases N:Nat.beq k k' with | false=>rfl | true=>exact absurd (aj N).symm hk]; rfl
        rw [e] at B;exact B
      | _=>exact B
     | _=>exact B
include hΓ hT in
theorem RN (keep) (n) {s} {K} {id} {ops} (b:dC Γ.nt (.region id ops false)=true)
  (h:lx T Γ.P (T7 T) ops.toList (dw ops.toList ops.toList) n s fun s'=>ga keep s' (K .normal)):aJ Γ s (.region id ops false) K:=
 kh hΓ hT (fun _ _ _ _ _ _ _ c _ h d=>IV hΓ hT c h d) keep n b h
end
open Go
section
variable {Γ:ce}
theorem Lb {s} {c} {K} (k) (o:get s.t k=none) (h:aJ Γ ⟨(k,.junk)::s.t,s.b⟩ c K):aJ Γ s c K:=by
 refine ⟨fun a w j=>h.out a w ?_⟩;obtain ⟨⟨l,i,m⟩,n,f,d⟩:=j;refine ⟨⟨l,i,fun e z hz=>?_⟩,n,f,d⟩;rw [a8] at hz;split at hz
 ·cases hz;exact RC.of_RD (RD.junk _)
 ·exact m e z hz
end
open Go
def Yr (T:eS) (s:St) (d:Nat) (i:List TypeId) (y:AV) (K:St->Prop):Prop:=match i with
 | [t,h]=>match get T t with
  | some f=>match get T f.elem with
   | some j=>match y with
    | .lit (.slice (some a) n _)=>∃ k,match get s.t (xk k) with
     | some (.me (.row b _) k' sz xs)=>bif Nat.beq a.off 0&&(a.spot.isNone&&(Nat.beq k k'&&(Nat.beq f.kind 3&&(Nat.beq t h&&(nP j&&(Nat.blt 0 j.size&&Nat.beq j.size sz)))))) then a.block=b/\n=xs.length/\0<xs.length/\gK xs.length j.bytes/\xs.length<=4611686018427387904 /\
       ∀ e c,K ⟨(d,.lit (.slice (some ⟨e,0,none⟩) xs.length c))::(xk d,.me (.row e c) d j.size xs)::iX (AV.unme d) s.t,s.b⟩ else False
     | _=>False
    | _=>False
   | none=>False
  | none=>False
 | _=>False
def Yl (T:eS) (C:FuncId->List AV->AV->Prop) (E:vC) (guards:List Nat) (s:St) (o:Oper) (K:St->Prop):Prop:=match o.op,o.dst with
 | .call { callee := .builtin .append,args:=args,argTypes:=b },some d=>match args.toList with
  | [x,y]=>match ev s x,ev s y with
   | .sl .full _ [],.lit v=>Yr T s d b.toList (.lit v) K
   | _,_=>Dc T C E guards s o K
  | _=>Dc T C E guards s o K
 | _,_=>Dc T C E guards s o K
section
variable {Γ:ce} (hΓ:Γ.OK) {T:eS} (hT:T.OK Γ.P) {s:St} {K:St->Prop} {o:Oper} {a:Act} {w:World}
 {next:Act->World->Prop} {Q:Exit->Act->World->Prop}
include hΓ hT in
theorem Mk {args} {ts} {x y} {d sz0} {vy} (hop:o.op = .call { callee := .builtin .append,args:=args,argTypes:=ts }) (ha:args.toList=[x,y]) (hI:d5 Γ s a w) (H:o.dst=some d) (hdlt:d<Γ.nt)
  (hx:ev s x = .sl .full sz0 []) (hy:ev s y = .lit vy) (h:Yr T s d ts.toList (.lit vy) K) (hn:dO Γ a o.dst w K next):o.wpIn Γ.F Γ.n Γ.P a w next Q:=by
 obtain ⟨c,hW,ht⟩:=hI.ex;unfold Yr at h;split at h
 case h_2=>exact h.elim
 rename_i t t' hts;split at h
 case h_2=>exact h.elim
 rename_i A hi;split at h
 case h_2=>exact h.elim
 rename_i j hj;split at h
 case h_2=>exact h.elim
 rename_i ad n l hve;cases hve;obtain ⟨k,h⟩:=h;split at h
 case h_2=>exact h.elim
 rename_i b cap0 k' sz xs hg
 cases hb:(Nat.beq ad.off 0&&(ad.spot.isNone&&(Nat.beq k k'&&(Nat.beq A.kind 3&&(Nat.beq t t'&&(nP j&&(Nat.blt 0 j.size&&Nat.beq j.size sz))))))) with
 | false=>grind
 | true=>
  rw [hb] at h;simp only [al] at hb;obtain ⟨b2,b3,b4,b5,b6,b7,b8,b9⟩:=hb;obtain ⟨e1,hnl,h0,X,hmax,h⟩:=h;have e2:=aj b2;have e3:ad.spot=none:=by cases hp:ad.spot with | none=>rfl | some _=>rw [hp] at b3; cases b3
  have e4:=aj b4;have e6:=aj b6;have e9:=aj b9;have hpos:0<j.size:=ah b8;obtain ⟨ab,ao,ap⟩:=ad;simp only at e1 e2 e3;subst e1; subst e2; subst e3; subst e4; subst e6; subst e9;subst hnl;unfold nP at b7;split at b7
  case h_2=>cases b7
  rename_i zs hz;have hzl:=aj b7;have hu:=d6 hT hi (aj b5);obtain ⟨q,z,q1,q2,q3,q4,q5,_⟩:=jn (c:=c) w hT hj hz hzl;obtain ⟨cells,U,p1,⟨p2,p3,p4,p5⟩,p6,p7,p8⟩:=(show RX c (.row ab cap0) k j.size xs (a.tmps.getD (xk k) Go.undef) from ht _ _ hg);have hq:=hW.xo k ab _ p1;have hrx:=cc ht x;rw [hx] at hrx;have hx':RD c.m (.sl .full sz0 []) (a.eval x):=hrx
  have hu0:∃ base,a.eval x = .slice base 0 0:=by
   generalize hav:a.eval x=av at hx'
   cases hx' with
   | sl _ _ _ base len cap ho hf hl hc=>
    grind
  obtain ⟨base,Z⟩:=hu0;have hry:=cc ht y;rw [hy] at hry
  have hyv:a.eval y = .slice (some ⟨ab,0,none⟩) xs.length l:=by
   have h:RD c.m (.lit (.slice (some ⟨ab,0,none⟩) xs.length l)) (a.eval y):=hry;generalize a.eval y=v at h;cases h;rfl
  obtain ⟨k2,hk2⟩:∃ k2,k2=cells.toList.take (xs.length*j.size):=⟨_,rfl⟩;have G:k2.length=xs.length*j.size:=by rw [hk2]; simp; omega
  have hkg:∀ p,p<xs.length*j.size->k2[p]?=cells[p]?:=fun p hp=>by grind
  have B:∀ p v,k2[p]?=some v->w.cell? ((⟨ab,0,none⟩:Addr).add p)=some v:=fun p v hp=>by
   have hlt:p<xs.length*j.size:=by rw [<- G]; exact (am.1 hp).1
   rw [hkg p hlt] at hp;rw [fm,bI];simp only [World.cell?,hq.obj];exact hp
  have hr47:xs.length*j.bytes<=140737488355328:=by unfold gK at X; omega
  have M:=vL (need:=xs.length) (old:=0) (bytes:=q.bytes) ar (by rw [q3]; exact hr47);have N:=Ls w xs.length 0 A.elem;obtain ⟨cl,hcl⟩:∃ cl,cl=k2.toArray++Builtin.zeroCells z.cells (grownCap w xs.length 0 A.elem - xs.length):=⟨_,rfl⟩
  have J:(Builtin.append_ #[t,t] o.type #[a.eval x,a.eval y]).run Γ.P w = .ok (.slice (some ⟨w.heap.size,0,none⟩) xs.length (grownCap w xs.length 0 A.elem)) (w.drew.alloc (.cells cl A.elem)):=by
   rw [Z,hyv]
   cases base with
   | none=>
    have:=Lr (P:=Γ.P) w t o.type A.elem q z hu q1 q4 ⟨ab,0,none⟩ xs.length l k2 (by rw [G,q2]) B h0 ar (by rw [q3]; omega);rw [this,hcl]
   | some a0=>
    have:=su (P:=Γ.P) w t o.type A.elem q z hu q1 q4 a0 0 0 [] cU cU ⟨ab,0,none⟩ xs.length l k2 (by rw [G,q2]) B ar ar (by simpa using M);grind
  obtain ⟨f,D⟩:∃ f,f=grownCap w xs.length 0 A.elem:=⟨_,rfl⟩;rw [<- D] at J N
  have L:f*j.size<=cl.size:=by
   rw [hcl]; simp only [n7,iO,vI,q5,G,<- D]; rw [<- dk]; exact bg _ ar
  have E:∀ (p:Nat) (r:List AV) (q:Nat) (y:AV),xs[p]?=some r->r[q]?=some y->∃ u,cl[p*j.size+q]?=some u/\RD c.m y u:=fun p r q' y' h1 h2=>by
   obtain ⟨u,g1,g2⟩:=p8 p r q' y' h1 h2;have hrl:=(p7 r (aC h1)).1;have hql:q'<j.size:=by rw [<- hrl]; exact (am.1 h2).1
   have hmul:(p+1)*j.size<=xs.length*j.size:=bg _ (by grind);grind
  obtain ⟨args⟩:=args;obtain ⟨ts⟩:=ts;simp only at ha hts;subst ha;subst hts;obtain ⟨W1,W2,W3⟩:=hW.drew.newX d (xs.length,f) (.cells cl A.elem (0,0)) rfl (ed _ _);refine cT hΓ (by grind) (v := .slice (some ⟨w.heap.size,0,none⟩) xs.length f) (w':=w.drew.alloc (.cells cl A.elem)) ?_ ?_
  ·simp only [execOp,hop,aD,d3,aw,invoke,builtin,ez,cp,eU,J,aL]
  ·have hN:NC w (w.drew.alloc (.cells cl A.elem (0,0))):=NC.trans (show NC w w.drew from ⟨ba _,fun _ _ h _=>h,.drew _,fun _ h=>h⟩) W3;rw [H];rw [H] at hn;refine hn _ _ _ (h w.heap.size f) (hI.next hN W1 (d:=some d) (by grind) (eA (fun e z hz=>?_) (by rw [hI.size]; exact hdlt) ?_)) hN ⟨_,rfl⟩
   ·rw [a8] at hz;split at hz
    ·cases hz;exact (show RX _ (.row w.heap.size f) d j.size xs Go.undef from ⟨cl,A.elem,by rw [<- nm w]; exact aX rfl,⟨by simp,by simp,N,L⟩,bC (bg _ N) L,p7,fun i r j' y' h1 h2=>E i r j' y' h1 h2⟩)
    ·rw [dG] at hz;obtain ⟨z',hz',rfl⟩:=aA.1 hz;exact (ht e z' hz').leX W2
   ·exact RC.of_RD (.lit _ rfl rfl)
include hΓ hT in
theorem L7 {guards} (c:d5 Γ s a w) (b:∀ d,o.dst=some d->d<Γ.nt) (h:Yl T (aq Γ.P) (bX Γ.P) guards s o K) (e:dO Γ a o.dst w K next):o.wpIn Γ.F Γ.n Γ.P a w next Q:=by
 grind [Yl,Mk,s6]
end
section
variable {Γ:ce} (hΓ:Γ.OK) {T:eS} (hT:T.OK Γ.P) {all:List Oper}
include hΓ hT in
theorem Vh (guards) {K} {fuel} {listed} {s} (h:match iU listed all 0 with
   | []=>False
   | i::r=>MP (i::r) fun i=>match qj all i with
    | none=>False
    | some o=>match j3 all s o with
     | 0=>Yl T (aq Γ.P) (bX Γ.P) guards s o fun s=>TB Γ all K fuel (i::listed) s
     | 1=>fx s o.dst .undef fun s=>TB Γ all K fuel (i::listed) s
     | _=>False):TB Γ all K (fuel+1) listed s:=by
 refine ⟨fun Q w0 a0 b B arr a w l x n E F=>?_⟩;split at h
 ·exact h.elim
 rename_i i0 r0 he;refine ⟨fun L=>?_,fun i hi=>?_⟩
 ·exfalso;have hm:i0∈iU listed all 0:=by rw [he]; exact a7 ..
  rw [iB] at hm;obtain ⟨o,_,h2,D,H⟩:=hm;have h2:all[i0]?=some o:=by simpa using h2
  have p:i0<all.length:=(am.1 h2).1
  have:i0∈Region.ready .any all.toArray arr:=by
   rw [gB];refine ⟨?_,o,by simpa using h2,fun e he A=>by grind⟩;rw [<- D,<- x,aG,aG,aE ar];rfl
  grind
 ·have hm:=wh l x hi;rw [he] at hm;have h:=ou h i hm;rw [<- he,iB] at hm;obtain ⟨o,_,h2,D,H⟩:=hm;have h2:all[i]?=some o:=by simpa using h2
  have p:i<all.length:=(am.1 h2).1;have c:∀ d,o.dst=some d->d<Γ.nt:=fun d m=>b i d (by rw [eF,h2]; exact m)
  have hA':∀ j,(arr.setIfInBounds i true).getD j false=dj (i::listed) j:=by
   intro j;rw [aG,dn,dj];by_cases hj:i=j
   ·subst hj;rw [aX rfl,aX ar]; simp
   ·rw [aV hj,<- aG,x,show Nat.beq i j=false from by cases A:Nat.beq i j with | false=>rfl | true=>exact absurd (aj A) hj]; rfl
  rw [fj,h2] at h;simp only at h;rw [wpOpIn,show all.toArray[i]?=some o by simpa using h2];simp only;split at h
  ·rename_i y;rw [dx b n 0 y ar];simp only [ea,c5];refine L7 hΓ hT n c h ?_;intro s' G w' J z q u;exact J.out Q w0 a0 b B _ G w' (by simpa using l) hA' z (E.trans q) (F.trans ((FT.put u).mono fun d m=>iW h2 m))
  ·rename_i y;rw [dx b n 1 y ar];simp only [Nat.reduceBEq,bv,cu];refine ⟨fun f _=>hΓ.fn f,?_⟩;obtain ⟨s2,v,t⟩:=fT n c h;exact v.out Q w0 a0 b B _ _ w (by simpa using l) hA' t E (F.trans ((FT.put ⟨_,rfl⟩).mono fun d m=>iW h2 m))
  ·exact h.elim
end
open Go
def rJ (j:TI):Bool := !(Nat.beq j.kind 1||Nat.beq j.kind 2)
def opA (T:eS) (C:FuncId->List AV->AV->Prop) (E:vC) (guards:List Nat) (s:St) (o:Oper) (K:St->Prop):Prop:=match o.op with
 | .load t x=>match ev s x with
  | .loc b off=>match get T t with
   | some j=>bif rJ j then match get s.b b with
     | some cs=>∃ v,cs[off]?=some v/\fx s o.dst v fun s=>gL guards o.dst s K
     | none=>False
    else Hl T C E guards s o K
   | none=>False
  | _=>Hl T C E guards s o K
 | .store t a x=>match o.dst,ev s a,(ev s x).cells? with
  | none,.loc b off,some [v]=>match get T t,get s.b b with
   | some j,some cs=>bif Nat.beq 1 j.size&&v.isCell then off<cs.length/\v.go fun v=>K ⟨s.t,(b,dD cs off v)::s.b⟩ else Hl T C E guards s o K
   | _,_=>False
  | _,_,_=>Hl T C E guards s o K
 | .index t x n=>match ev s n,ev s x with
  | .int _ i,.agg cs=>match get T t with
   | some c=>match get T c.elem with
    | some j=>bif Nat.beq c.kind 2&&(Nat.beq j.size 1&&rJ j) then 0<=i/\i<c.arr/\∃ v,cs[i.toNat]?=some v/\fx s o.dst v fun s=>gL guards o.dst s K else Hl T C E guards s o K
    | none=>False
   | none=>False
  | _,_=>Hl T C E guards s o K
 | _=>Hl T C E guards s o K
section
variable {Γ:ce} (hΓ:Γ.OK) {T:eS} (hT:T.OK Γ.P) {s:St} {K:St->Prop} {o:Oper} {a:Act} {w:World}
 {next:Act->World->Prop} {Q:Exit->Act->World->Prop}
theorem sD {j} {cs:List AV} {off} {v} (hj:rJ j=true) (h:cs[off]?=some v):eO j (cs.drop off)=some v:=by
 unfold rJ at hj;unfold eO;rw [show (Nat.beq j.kind 1||Nat.beq j.kind 2)=false from by simpa using hj,br];grind [List.drop_eq_getElem_cons,List.getElem?_eq_getElem]
theorem HK (v):∀ (l:List AV) (n:Nat),tZ l n [v]=dD l n v:=fun l n=>by rw [lm]; rfl
theorem qW {x} {l} (h:∀ k n xs,ev s x≠.me .sl k n xs) (b:kA s l K):kA s (x::l) K:=by
 grind [kA,absurd]
include hΓ hT in
theorem PI {guards} (p:d5 Γ s a w) (m:∀ d,o.dst=some d->d<Γ.nt) (h:opA T (aq Γ.P) (bX Γ.P) guards s o K) (r:dO Γ a o.dst w K next):o.wpIn Γ.F Γ.n Γ.P a w next Q:=by
 have c:∀ {s1:St},gL guards o.dst s1 K->∀ {y w'},d5 Γ s1 y w'->NC w w'->(∃ v,y=a.put o.dst v)->next y w':=fun q y w' N Z hP=>by
  obtain ⟨s2,h2,hle⟩:=iZ q;exact r s2 y w' h2 (N.less hle) Z hP
 unfold opA at h;split at h
 ·rename_i t x l;split at h
  ·rename_i b off hx;split at h
   ·rename_i j hj
    cases f:rJ j with
    | false=>grind [eu]
    | true=>
     rw [f,aR] at h;split at h
     ·rename_i cs G;obtain ⟨v,hv,q⟩:=h;refine ld (K:=fun s=>gL guards o.dst s K) hΓ hT rfl p m ?_ (fun s' y w' h1 h2 M H=>c h1 h2 M H);rw [l];simp only [Wo,hx,ng,gG,hj,G,sD f hv,AV.go_eq];exact q
     ·exact h.elim
   ·exact h.elim
  ·exact eu hΓ hT p m h r
 ·rename_i t X x l;split at h
  ·rename_i b off v B D z;split at h
   ·rename_i j cs hj G
    cases f:(Nat.beq 1 j.size&&v.isCell) with
    | false=>rw [f] at h; exact eu hΓ hT p m h r
    | true=>
     rw [f,aR] at h;obtain ⟨u,q⟩:=h;rw [AV.go_eq] at q;simp only [al] at f;refine ld (K:=K) hΓ hT rfl p m ?_ r;rw [l];have E:Nat.ble (off+1) cs.length=true:=kO u
     have key:ng T (aq Γ.P) s o.dst o.type (.store t X x) K:=by
      simp only [ng,B,hj,D,z,bt,AR,bI,f.1,qg,RV,f.2,Bool.and_self,aR,CY,G,E,HK];exact q
     simp only [Wo,D];refine qW (fun k n xs e=>?_) key;rw [e] at z; simp [AV.cells?] at z
   ·exact h.elim
  ·exact eu hΓ hT p m h r
 ·rename_i t x n l;split at h
  ·rename_i ik i cs A hx;split at h
   ·rename_i ti L;split at h
    ·rename_i j hj
     cases f:(Nat.beq ti.kind 2&&(Nat.beq j.size 1&&rJ j)) with
     | false=>rw [f] at h; exact eu hΓ hT p m h r
     | true=>
      rw [f,aR] at h;obtain ⟨U,h1,v,hv,q⟩:=h;simp only [al] at f;obtain ⟨s1,s2,s3⟩:=f;have J:=aj s2;have u:=(am.1 hv).1;refine ld (K:=fun s=>gL guards o.dst s K) hΓ hT rfl p m ?_ (fun s' y w' h1 h2 M H=>c h1 h2 M H);rw [l]
      have key:ng T (aq Γ.P) s o.dst o.type (.index t x n) (fun s=>gL guards o.dst s K):=by
       simp only [ng,gG,L,hj,A,hx,s1,aR,J,gO,sD s3 hv,AV.go_eq];exact ⟨U,h1,u,q⟩
      simp only [Wo];refine qW (fun k n xs e=>by rw [hx] at e; cases e) (qW (fun k n xs e=>by rw [A] at e; cases e) key)
    ·exact h.elim
   ·exact h.elim
  ·exact eu hΓ hT p m h r
 ·exact eu hΓ hT p m h r
end
def uQ (T:eS) (C:FuncId->List AV->AV->Prop) (E:vC) (all:List Oper) (guards:List Nat):List Oper->St->(St->Prop)->Prop
 | [],s,K=>K s
 | o::rest,s,K=>match j3 all s o with
  | 0=>opA T C E guards s o fun s=>uQ T C E all guards rest s K
  | 1=>fx s o.dst .undef fun s=>uQ T C E all guards rest s K
  | _=>False
section
variable {Γ:ce} (hΓ:Γ.OK) {T:eS} (hT:T.OK Γ.P) {Q:Exit->Act->World->Prop}
include hΓ hT in
theorem nW {all:List Oper} {guards:List Nat} (b:∀ j d,jt all j=some d->d<Γ.nt):∀ (l:List Oper) (k:Nat) (s:St) (a:Act) (w:World) (K:St->Prop),(∀ j,l[j]?=all[k+j]?)->uQ T (aq Γ.P) (bX Γ.P) all guards l s K->d5 Γ s a w ->
  (∀ s' m w',K s'->d5 Γ s' m w'->NC w w'->FT (eE l) a m->Q .normal m w')->wpOpsIn Γ.F Γ.n Γ.P all.toArray Q (List.range' k l.length) a w
 | [],k,s,a,w,K,_,h,i,p=>p s a w h i (.refl w) (.refl _ a)
 | o::rest,k,s,a,w,K,B,h,i,p=>by
  have A:all.toArray[k]?=some o:=by simpa using (B 0).symm
  have hk':∀ j,rest[j]?=all[k+1+j]?:=fun j=>by have:=B (j+1); simpa [dV,n3 1 j] using this
  have e:∀ d,o.dst=some d->d<Γ.nt:=fun d c=>b k d (by rw [eF]; rw [show all[k]?=some o from by simpa using A]; exact c);simp only [bt,ff,wpOpsIn,A];simp only [uQ] at h;split at h
  ·rename_i v;rw [dx b i 0 v ar];simp only [ea,c5];refine PI hΓ hT i e h ?_;intro s' m w' D y G E;exact nW b rest (k+1) s' m w' K hk' D y (fun z a3 q h1 h2 x t=>p z a3 q h1 h2 (G.trans x) (((FT.put E).mono fun d c=>bc _ c).trans (t.mono fun d c=>bj _ c)))
  ·rename_i v;rw [dx b i 1 v ar];simp only [Nat.reduceBEq,bv,cu];obtain ⟨s2,u,r⟩:=fT i e h;exact ⟨fun f _=>hΓ.fn f,nW b rest (k+1) s2 _ w K hk' u r fun z a3 q h1 h2 x t=>p z a3 q h1 h2 x (((FT.put ⟨_,rfl⟩).mono fun d c=>bc _ c).trans (t.mono fun d c=>bj _ c))⟩
  ·exact h.elim
variable {s:St} {K:Exit->St->Prop}
include hΓ hT in
theorem oE (keep es:List Nat) {id} {ops} (c:dC Γ.nt (.region id ops false)=true)
  (h:uQ T (aq Γ.P) (bX Γ.P) ops.toList (es.map (3000000000+·)++dw ops.toList ops.toList) ops.toList s fun s'=>ga keep s' (K .normal)):aJ Γ s (.region id ops false) K:=by
 refine ⟨fun a w d=>?_⟩;obtain ⟨l⟩:=ops;refine fP ?_;rw [show (⟨l⟩:Array Oper).size=l.length from rfl,c6];refine nW hΓ hT (ew c) l 0 s a w _ (fun j=>by simp) h d ?_;intro s' m w' e b f i;obtain ⟨s2,h2,hle⟩:=eb e;exact ⟨f,i,s2,b.less hle,h2⟩
end
open Go
def NM:AV->AV->Prop
 | .sl _ _ [],.sl .no _ []=>True
 | y,a=>a=y
theorem NM.rfl' (y):NM y y:=by
 unfold NM;grind
theorem Hw {y y'} (h:NM y y'):y'=y\/∃ o sz a,y = .sl o sz []/\y' = .sl .no a []:=by
 unfold NM at h;grind
def Hv:List AV->List AV->Prop
 | [],[]=>True
 | y::r,b::a=>NM y b/\Hv r a
 | _,_=>False
def Zv:List (List AV)->List (List AV)->Prop
 | [],[]=>True
 | y::r,b::a=>Hv y b/\Zv r a
 | _,_=>False
theorem vS:∀ {l b:List AV},Hv l b->b.length=l.length/\∀ (i:Nat) (c:AV),b[i]?=some c->∃ y,l[i]?=some y/\NM y c
 | [],[],_=>⟨rfl,by simp⟩
 | a::r,e::d,h=>by
  obtain ⟨g1,g2⟩:=vS h.2;refine ⟨by simp [g1],fun i y hy=>?_⟩
  cases i with
  | zero=>simp at hy; subst hy; exact ⟨a,rfl,h.1⟩
  | succ i=>grind
 | [],_::_,h=>h.elim
 | _::_,[],h=>h.elim
theorem yO:∀ {l b:List (List AV)},Zv l b->b.length=l.length/\∀ (i:Nat) (c:List AV),b[i]?=some c->∃ y,l[i]?=some y/\Hv y c
 | [],[],_=>⟨rfl,by simp⟩
 | a::r,e::d,h=>by
  obtain ⟨g1,g2⟩:=yO h.2;refine ⟨by simp [g1],fun i y hy=>?_⟩
  cases i with
  | zero=>simp at hy; subst hy; exact ⟨a,rfl,h.1⟩
  | succ i=>grind
 | [],_::_,h=>h.elim
 | _::_,[],h=>h.elim
theorem Hv.rfl':∀ l:List AV,Hv l l
 | []=>trivial
 | y::r=>⟨NM.rfl' y,Hv.rfl' r⟩
theorem Sg {m} {n} {xs a} {cells:Array Value} (p:Zv xs a) (h1:∀ r∈xs,r.length=n/\∀ y∈r,y.isCell=true)
  (h2:∀ (i:Nat) (r:List AV) (j:Nat) (y:AV),xs[i]?=some r->r[j]?=some y->∃ u,cells[i*n+j]?=some u/\RD m y u) :
  (∀ r∈a,r.length=n/\∀ y∈r,y.isCell=true)/\∀ (i:Nat) (r:List AV) (j:Nat) (y:AV),a[i]?=some r->r[j]?=some y->∃ u,cells[i*n+j]?=some u/\RD m y u:=by
 obtain ⟨hl,f⟩:=yO p;refine ⟨fun r d=>?_,fun i r j y d hy=>?_⟩
 ·obtain ⟨i,hi⟩:=cn d;obtain ⟨r0,g1,g2⟩:=f i r hi;obtain ⟨q,e⟩:=vS g2;obtain ⟨v,t⟩:=h1 r0 (aC g1);refine ⟨by omega,fun y hy=>?_⟩;obtain ⟨j,hj⟩:=cn hy;obtain ⟨h,l,c⟩:=e j y hj;rcases Hw c with rfl | ⟨o,sz,b,rfl,rfl⟩
  ·grind
  ·rfl
 ·obtain ⟨r0,g1,g2⟩:=f i r d;obtain ⟨q,e⟩:=vS g2;obtain ⟨h,l,c⟩:=e j y hy;obtain ⟨u,c1,c2⟩:=h2 i r0 j h g1 l;refine ⟨u,c1,?_⟩;rcases Hw c with rfl | ⟨o,sz,b,rfl,rfl⟩
  ·exact c2
  ·exact (bK:(AV.sl o sz []).weak (.sl .no b [])) _ _ c2
section
variable {Γ:ce} {s:St} {K:Exit->St->Prop}
theorem Vl {c} (k) {n} {xs xs'} (h1:get s.t (xk k)=some (.me .arr k n xs)) (j:Zv xs xs') (h:aJ Γ ⟨(xk k,.me .arr k n xs')::s.t,s.b⟩ c K):aJ Γ s c K:=by
 refine ⟨fun a w p=>h.out a w ?_⟩;obtain ⟨⟨f,u,l⟩,r,m,d⟩:=p;refine ⟨⟨f,u,fun e z hz=>?_⟩,r,m,d⟩;rw [a8] at hz;split at hz
 ·rename_i i;subst i;cases hz;obtain ⟨b,cells,T,v,q,x,y,o⟩:=(show RX f .arr k n xs (a.tmps.getD (xk k) Go.undef) from l _ _ h1);obtain ⟨A,B⟩:=Sg j y o;have hl:=(yO j).1;exact (show RX f .arr k n xs' (a.tmps.getD (xk k) Go.undef) from ⟨b,cells,T,v,by rw [hl]; exact q,by rw [hl]; exact x,A,B⟩)
 ·exact l e z hz
end
open Go
theorem IR {all} {k d} (h:d∈eE (all.take k)):d∈eE all:=by
 induction all generalizing k with
 | nil=>simpa using h
 | cons o r a=>
  cases k with
  | zero=>simp [eE] at h
  | succ k=>
   grind [eE,id]
def LI (k:Nat) (all:List Oper):Bool:=Nat.ble k all.length&&(sU k).all (fun i=>match qj all i with | some o=>(cR o).all (Nat.blt · i)&&(WL o).all (Nat.blt · k) | none=>false) &&
 (all.drop k).all fun o=>(sU k).all (dj (OZ all all.length (cR o)))
structure Vj (k:Nat) (all:List Oper):Prop where
 le:k<=all.length
 edge:∀ i o,i<k->all[i]?=some o->∀ e∈cR o,e<i
 gd:∀ i o,i<k->all[i]?=some o->∀ j b,o.guard=some (j,b)->j<k
 sufA:∀ M:Nat->Bool,(∀ i o,all[i]?=some o->M i=true->∀ e∈cR o,M e=true)->∀ i o,k<=i->all[i]?=some o->(∀ e∈cR o,M e=true)->∀ j,j<k->M j=true
theorem HH {k} {all} (h:LI k all=true):Vj k all:=by
 simp only [LI,al] at h;obtain ⟨⟨h2,c⟩,d⟩:=h;rw [aN] at c d;have hu:∀ i,i<k->i∈sU k:=fun i hi=>qN.2 hi;refine ⟨ah h2,fun i o hi a e he=>?_,fun i o hi a j b hj=>?_,fun M f i o hi a he j hj=>?_⟩
 ·have:=c i (hu i hi);rw [fj,a] at this;simp only [al,aN] at this;exact ah (this.1 e he)
 ·have:=c i (hu i hi);rw [fj,a] at this;simp only [al,aN] at this;exact ah (this.2 j (by simp [WL,hj]))
 ·have:=d o (List.mem_iff_getElem?.2 ⟨i - k,by grind⟩);rw [aN] at this;exact tl f all.length _ he j (gi (this j (hu j hj)))
theorem yM {F} {n} {P} {all} {k} (h:Vj k all) {Q}:∀ (fuel:Nat) (A B:Array Bool) (a:Act) (w:World),A.size=k->B.size=all.length->(∀ j,B.getD j false=A.getD j false) ->
  (∀ i o,all[i]?=some o->B.getD i false=true->∀ e∈cR o,B.getD e false=true)->kR (fun i=>A.getD i false) k+fuel=k ->
  wpAnyIn F n P .any (all.take k).toArray (Pm F n P all k Q) fuel A a w->wpAnyIn F n P .any all.toArray Q (fuel+(all.length - k)) B a w:=by
 have v:∀ (A B:Array Bool) (a:Act) (w:World),A.size=k->B.size=all.length->(∀ j,B.getD j false=A.getD j false)->(∀ i,i<k->A.getD i false=true)->Pm F n P all k Q .normal a w->wpAnyIn F n P .any all.toArray Q (all.length - k) B a w:=by
  intro A B a w L H c r hq;refine hq B H fun j=>?_;rw [c]
  cases hj:Nat.blt j k with
  | true=>exact r j (ah hj)
  | false=>
   have:¬ j<k:=fun J=>by rw [show Nat.blt j k=true from kO J] at hj; cases hj
   grind
 intro fuel
 induction fuel with
 | zero=>
  intro A B a w L H c G J U;rw [bI];exact v A B a w L H c (fun i hi=>yD k ar i hi) U.2
 | succ fuel ih=>
  intro A B a w L H c G J U
  -- the last one of the first part is not there yet
  have q:¬ ∀ i,i<k->A.getD i false=true:=fun r=>by
   have:∀ m,(∀ i,i<m->A.getD i false=true)->kR (fun i=>A.getD i false) m=m:=by
    intro m
    induction m with
    | zero=>intro _; rfl
    | succ m im=>grind [kR]
   grind
  have y:∀ i,i∈Region.ready .any all.toArray B->i<k/\i∈Region.ready .any (all.take k).toArray A:=by
   intro i hi;rw [gB] at hi;obtain ⟨h1,o,h2,Z⟩:=hi;have h2':all[i]?=some o:=by simpa using h2
   have f:i<k:=by
    refine pR fun J=>q fun i' N=>?_;rw [<- c];refine h.sufA (fun i=>B.getD i false) G i o J h2' (fun e he=>?_) i' N;obtain ⟨x,hx,z,rfl⟩:=gX.1 he;exact Z x hx z
   refine ⟨f,?_⟩;rw [gB];refine ⟨?_,o,?_,fun e he z=>by grind⟩
   ·grind
   ·grind
  rw [show fuel+1+(all.length - k)=fuel+(all.length - k)+1 by omega];refine ⟨fun hr=>?_,fun i hi=>?_⟩
  ·exfalso
   -- the first one that is not there is ready
   have:∃ i,i<k/\A.getD i false=false/\∀ j,j<i->A.getD j false=true:=by
    have key:∀ m,(∀ i,i<m->A.getD i false=true)\/∃ i,i<m/\A.getD i false=false/\∀ j,j<i->A.getD j false=true:=by
     intro m
     induction m with
     | zero=>grind
     | succ m im=>
      grind
    rcases key k with h1 | h1
    ·exact absurd h1 q
    ·exact h1
   obtain ⟨i,hi,D,hj⟩:=this;obtain ⟨o,X⟩:∃ o,all[i]?=some o:=⟨_,ai (by have:=h.le; omega)⟩
   have:i∈Region.ready .any all.toArray B:=by
    rw [gB];refine ⟨?_,o,by simpa using X,fun e he z=>?_⟩
    ·grind
    ·rw [c];exact hj _ (h.edge i o hi X e.on (gX.2 ⟨e,he,z,rfl⟩))
   grind
  ·obtain ⟨f,u⟩:=y i hi;have hx:=U.2 i u;rw [gB] at u;obtain ⟨h1,o,h2,Z⟩:=u
   have D:A.getD i false=false:=by
    rw [<- h1,aG,aG,aE ar];rfl
   have h2':all[i]?=some o:=by
    have:(all.take k)[i]?=some o:=by simpa using h2
    rw [dL,aX f] at this;exact this
   have d:∀ (C:Array Bool),i<C.size->∀ j,(C.setIfInBounds i true).getD j false=(C.getD j false||decide (j=i)):=by
    intro C hC j;rw [aG,dn];by_cases hj:i=j
    ·grind
    ·rw [aV hj,<- aG,show decide (j=i)=false from by grind,fu]
   have hle:=h.le
   have l:∀ a w,wpAnyIn F n P .any (all.take k).toArray (Pm F n P all k Q) fuel (A.setIfInBounds i true) a w->wpAnyIn F n P .any all.toArray Q (fuel+(all.length - k)) (B.setIfInBounds i true) a w:=by
    intro a w hh;refine ih _ _ a w (by simpa using L) (by simpa using H) (fun j=>by rw [d B ar,d A ar,c]) (fun m o' E hm e he=>?_) ?_ hh
    ·rw [d B ar] at hm ⊢;rw [cq] at hm ⊢;rcases hm with hm | hm
     ·grind
     ·have:m=i:=by simpa using hm
      subst this;rw [h2'] at E; cases E;obtain ⟨x,hx,z,rfl⟩:=gX.1 he;grind
    ·rw [yC (M:=fun i=>A.getD i false) (M':=fun j=>(A.setIfInBounds i true).getD j false) (i:=i) D (fun j=>d A ar j) k f];omega
   unfold wpOpIn at hx ⊢;rw [show all.toArray[i]?=some o by simpa using h2'];rw [h2] at hx;simp only at hx ⊢
   have hy:Region.wanted o (yielded all.toArray a.tmps)=Region.wanted o (yielded (all.take k).toArray a.tmps):=by
    unfold Region.wanted
    cases hg:o.guard with
    | none=>rfl
    | some p=>
     obtain ⟨j,b⟩:=p;have hj:=h.gd i o f h2' j b hg;grind [yielded]
   rw [hy];split at hx
   ·rename_i t;rw [aX t];exact Oper.wpIn_mono l hx
   ·rename_i t;rw [aV t];exact ⟨hx.1,l _ _ hx.2⟩
section
variable {Γ:ce} (hΓ:Γ.OK) {T:eS} (hT:T.OK Γ.P)
def I2 (Γ:ce) (T:eS) (gs:List Nat) (ops:List Oper) (s:St) (K:St->Prop):Prop:=match s with
 | ⟨t,b⟩=>XR (unlocMany (kd ops) t) fun t=>LN T (aq Γ.P) (bX Γ.P) ops gs ops [] ⟨t,b⟩ fun a s'=>T3 ⟨t,b⟩ ops a.reverse=true/\K s'
include hΓ hT in
theorem RP (k) (keep) {s} {K} {id} {ops} (L:dC Γ.nt (.region id ops true)=true) (u:LI k ops.toList=true)
  (h:I2 Γ T (dw ops.toList ops.toList) (ops.toList.take k) s fun s'=>TB Γ ops.toList (fun s=>ga keep s (K .normal)) (ops.toList.length - k) (sU k) s'):aJ Γ s (.region id ops true) K:=by
 refine ⟨fun a w N=>?_⟩;obtain ⟨all⟩:=ops;obtain ⟨t,b⟩:=s;simp only [I2,qT] at h;simp only at L u h;have f:=ew L;obtain ⟨X,s',M,e,x⟩:=oe T (aq Γ.P) (bX Γ.P) (all.take k) [] _ h;rw [bR,He] at e;obtain ⟨g1,g2,g3⟩:=xZ.all T (aq Γ.P) (bX Γ.P) M;obtain ⟨Z,A⟩:=wI e;have G:=HH u;refine CR hΓ.mixed ?_;have y:=(N.drew).unlocMany (kd (all.take k))
 have hz:∀ n i,(Array.replicate n false).getD i false=false:=by
  intro n i;rw [aG,mz];split <;> rfl
 have q:∀ {α:Type} (E:Nat->List (Nat×α)) (b:List (Nat×α)) m n,tF E b (fun i=>(Array.replicate m false).getD i false) n=b:=by
  intro α E b m n
  induction n with
  | zero=>rfl
  | succ n F=>simp only [tF]; rw [hz m n,br]; exact F
 have r:∀ m n,kR (fun i=>(Array.replicate m false).getD i false) n=0:=by
  intro m n
  induction n with
  | zero=>rfl
  | succ n F=>simp only [kR]; rw [hz m n,F]; rfl
 have p:(all.take k).length=k:=by simp [G.le]
 have hall':∀ j d,jt (all.take k) j=some d->d<Γ.nt:=fun j d l=>by
  rw [eF,dL] at l;split at l
  ·exact f j d (by rw [eF]; exact l)
  ·cases l
 have D:all.length=k+(all.length - k):=by have:=G.le; omega
 show wpAnyIn _ _ _ _ _ _ all.length _ _ _;rw [D];refine yM G k (Array.replicate k false) _ a _ cU (by simp; try omega) (fun j=>by rw [hz,hz]) (fun i o _ hi=>nomatch (hz _ _).symm.trans hi) (by rw [r]; omega) ?_;refine zT hΓ hT (all:=all.take k) (w0:=w) (a0:=a) A g1 hall' g2 (fun J w' c v z=>?_) k (Array.replicate k false) a w.drew (by simp [g1,p]) (by rw [r,g1,p]; omega) (fun m st _ hm=>nomatch (hz _ _).symm.trans hm) (by rw [q,q]; exact y) ⟨ba _,fun _ _ h _=>h,.drew _,fun _ h=>h⟩ (.refl _ a);rw [g1,<- g3] at c;intro B Q H;refine x.out _ w a f (fun s' J w' x c U A=>?_) B J w' Q (fun j=>by rw [H,Cj]) c v (z.mono fun d l=>IR l);obtain ⟨s2,h2,hle⟩:=eb x;exact ⟨U,A,s2,c.less hle,h2⟩
end
open Go
section
variable {Γ:ce} {s:St} {K:Exit->St->Prop}
theorem La {c} (k d) {b} {rows} (h1:get s.t (xk k)=some (.me .ents k b rows)) (h2:get s.t d=some (.lit (.map (some b)))) (h:aJ Γ ⟨(d,.mapv rows)::iX (AV.unme k) s.t,s.b⟩ c K):aJ Γ s c K:=by
 refine ⟨fun a w x=>h.out a w ?_⟩;obtain ⟨⟨D,B,l⟩,y,u,i⟩:=x;have hx:=(show RX D .ents k b rows (a.tmps.getD (xk k) Go.undef) from l _ _ h1);have j:=hx;obtain ⟨es,clock,r,_⟩:=j;obtain ⟨E,q⟩:=B.freezeMap r;refine ⟨⟨_,E,fun e z hz=>?_⟩,y,u,i⟩;rw [a8] at hz;split at hz
 ·rename_i o;subst o;cases hz;have p:=(show RD _ (.lit (.map (some b))) (a.tmps.getD e Go.undef) from l e _ h2);generalize a.tmps.getD e Go.undef=v at p;cases p
  exact hx.mapv q.m fun F f he=>by
   rw [r] at he;cases he;exact aX rfl
 ·rw [dG] at hz;obtain ⟨A,n,rfl⟩:=aA.1 hz;exact (l e A n).leX q
end
open Go
def Do:AV->Bool
 | .int _ _=>true
 | _=>false
def pSl (T:eS) (s:St) (o:Oper) (t:TypeId) (x hi:Operand) (K:St->Prop):Prop:=match ev s x,ev s hi with
 | .pin _ b off _,.int _ n=>match get T t with
  | some c=>match get T c.elem with
   | some _=>bif Nat.beq c.kind 2 then (0<=n/\n<=c.arr)/\fx s o.dst (.lit (.slice (some ⟨b,off,none⟩) n.toNat c.arr)) K else False
   | none=>False
  | none=>False
 | _,_=>False
def Y2 (T:eS) (s:St) (d:Nat) (f:List TypeId) (y:AV) (K:St->Prop):Prop:=match f with
 | [t,e]=>match get T t with
  | some c=>match get T c.elem with
   | some j=>match y with
    | .lit (.slice (some a) n _)=>∃ k,match get s.t (xk k) with
     | some (.me .box k' b [own])=>bif a.spot.isNone&&(Nat.beq k k'&&(Nat.beq (lo k) 0&&(Nat.beq c.kind 3&&(Nat.beq t e&&(nP j&&Nat.beq j.size 1))))) then
       a.block=b/\a.off+n<=own.length/\((own.drop a.off).take n).all Do=true/\0<n/\gK n j.bytes/\n<=4611686018427387904 /\
       K ⟨(d,.me .sl d n [])::(xk d,.me .arr d 1 (((own.drop a.off).take n).map fun y=>[y]))::iX (AV.unme d) s.t,s.b⟩ else False
     | _=>False
    | _=>False
   | none=>False
  | none=>False
 | _=>False
def opB (T:eS) (C:FuncId->List AV->AV->Prop) (E:vC) (guards:List Nat) (s:St) (o:Oper) (K:St->Prop):Prop:=match o.op with
 | .slice t x lo hi e=>match ev s x,lo,hi,e with
  | .pin _ _ _ _,none,some h,none=>pSl T s o t x h K
  | _,_,_,_=>Hl T C E guards s o K
 | .binOp .eql t x y _=>match ev s x,y with
  | .lit (.slice (some _) _ _),.const (.slice none _ _)=>(match get T t with
   | some b=>bif Nat.beq b.kind 3 then fx s o.dst (.bool false) fun s=>gL guards o.dst s K else False
   | none=>False)
  | _,_=>Hl T C E guards s o K
 | .call { callee := .builtin .append,args:=args,argTypes:=c }=>match o.dst,args.toList with
  | some d,[x,y]=>match ev s x,ev s y with
   | .sl .full _ [],.lit v=>Y2 T s d c.toList (.lit v) K
   | _,_=>Hl T C E guards s o K
  | _,_=>Hl T C E guards s o K
 | _=>Hl T C E guards s o K
section
variable {Γ:ce} (hΓ:Γ.OK) {T:eS} (hT:T.OK Γ.P) {s:St} {K:St->Prop} {o:Oper} {a:Act} {w:World}
 {next:Act->World->Prop} {Q:Exit->Act->World->Prop}
include hΓ hT in
theorem Pz {t} {x hi} (r:o.op = .slice t x none (some hi) none) (z:d5 Γ s a w) (B:∀ d,o.dst=some d->d<Γ.nt) (h:pSl T s o t x hi K) (G:dO Γ a o.dst w K next):o.wpIn Γ.F Γ.n Γ.P a w next Q:=by
 obtain ⟨c,H,p⟩:=z.ex;unfold pSl at h;split at h
 case h_2=>exact h.elim
 rename_i k b off cs ik n hx D;split at h
 case h_2=>exact h.elim
 rename_i u l;split at h
 case h_2=>exact h.elim
 rename_i j hj
 cases A:Nat.beq u.kind 2 with
 | false=>grind
 | true=>
  rw [A,aR] at h;obtain ⟨⟨E,h1⟩,J⟩:=h;have hu:=k9 hT l (aj A);obtain ⟨L,_,y,_,_⟩:=ei hT hj;have f:=cc p x;rw [hx] at f;obtain ⟨i,_⟩:=lh (show RD c.m (.pin k b off cs) (a.eval x) from f);have e:=cc p hi;rw [D] at e
  have q:a.eval hi = .int ik n:=by
   have h:RD c.m (.int ik n) (a.eval hi):=e;generalize a.eval hi=v at h;cases h; rfl
  refine od hΓ z B H p (by grind) (x := .lit (.slice (some ⟨b,off,none⟩) n.toNat u.arr)) (v := .slice (some ⟨b,off,none⟩) n.toNat u.arr) (RC.of_RD (.lit _ rfl rfl)) ?_ J G;simp only [execOp,r,i,bH,AP,q,Instr.sliceAt,aD,aY hu,aw,Instr.sureAddr,Instr.sliceBounds,Instr.sliceBound,asIntOf,aL,E,h1,and_self,c5,run_sizeOf w y,nZ,RS];split <;> simp [Addr.add]
include hΓ hT in
theorem MM {args} {ts} {x y} {d sz0} {vy} (hop:o.op = .call { callee := .builtin .append,args:=args,argTypes:=ts }) (ha:args.toList=[x,y]) (hI:d5 Γ s a w) (M:o.dst=some d) (hdlt:d<Γ.nt)
  (hx:ev s x = .sl .full sz0 []) (hy:ev s y = .lit vy) (h:Y2 T s d ts.toList (.lit vy) K) (hn:dO Γ a o.dst w K next):o.wpIn Γ.F Γ.n Γ.P a w next Q:=by
 obtain ⟨c,hW,ht⟩:=hI.ex;unfold Y2 at h;split at h
 case h_2=>exact h.elim
 rename_i t t' hts;split at h
 case h_2=>exact h.elim
 rename_i A hi;split at h
 case h_2=>exact h.elim
 rename_i j hj;split at h
 case h_2=>exact h.elim
 rename_i ad n l hve;cases hve;obtain ⟨k,h⟩:=h;split at h
 case h_2=>exact h.elim
 rename_i k' b own hg
 cases hb:(ad.spot.isNone&&(Nat.beq k k'&&(Nat.beq (lo k) 0&&(Nat.beq A.kind 3&&(Nat.beq t t'&&(nP j&&Nat.beq j.size 1)))))) with
 | false=>grind
 | true=>
  rw [hb] at h;simp only [al] at hb;obtain ⟨b3,b4,b0,b5,b6,b7,b9⟩:=hb;obtain ⟨e1,hin,hisI,h0,E,hmax,h⟩:=h;have e0:=aj b0;have e3:ad.spot=none:=by cases hp:ad.spot with | none=>rfl | some _=>rw [hp] at b3; cases b3
  have e4:=aj b4;have e6:=aj b6;have e9:=aj b9;obtain ⟨ab,B,ap⟩:=ad;simp only at e1 e3 hin hisI;subst e1; subst e3; subst e4; subst e6;have hpos:0<j.size:=by omega
  obtain ⟨xs,hxs⟩:∃ xs:List (List AV),xs=((own.drop B).take n).map fun y=>[y]:=⟨_,rfl⟩;have hxl:xs.length=n:=by rw [hxs]; simp; omega
  have hxg:∀ (i:Nat) (r:List AV),xs[i]?=some r->∃ y,own[B+i]?=some y/\r=[y]/\Do y=true:=fun i r hr=>by
   grind
  rw [<- hxs] at h;rw [<- hxl] at h0 E hmax h hin hy;clear hxl;unfold nP at b7;split at b7
  case h_2=>cases b7
  rename_i zs hz;have hzl:=aj b7;have hu:=d6 hT hi (aj b5);obtain ⟨q,z,q1,q2,q3,q4,q5,_⟩:=jn (c:=c) w hT hj hz hzl;obtain ⟨cells,U,own',p1,p2,p3,p4,p5⟩:=(show RX c .box k ab [own] (a.tmps.getD (xk k) Go.undef) from ht _ _ hg);simp only [gy,tq] at p2;subst p2;have hq:=hW.xo k ab _ p1;rw [e0,bI] at p3;have p5':∀ (i:Nat) (y:AV) (u:Value),own[i]?=some y->cells[i]?=some u->RO c y u:=fun i y u h1 h2=>p5 i y u h1 (by grind)
  have p7:∀ r∈xs,r.length=j.size/\∀ y∈r,y.isCell=true:=fun r hr=>by
   grind
  have p8:∀ (i:Nat) (r:List AV) (q:Nat) (y:AV),xs[i]?=some r->r[q]?=some y->∃ u,cells[B+i*j.size+q]?=some u/\RD c.m y u:=fun i r q y h1 h2=>by
   obtain ⟨y0,y1,rfl,y3⟩:=hxg i r h1;have hq0:q=0:=by have:=(am.1 h2).1; simp at this; exact this
   subst hq0;simp only [bw,aB] at h2;subst h2;have J:B+i<cells.size:=by rw [p3]; exact (am.1 y1).1
   refine ⟨_,by rw [e9,gO,ee]; exact aE J,?_⟩;have:=p5' _ _ _ y1 (aE J)
   cases y0 with
   | int k z=>exact this
   | _=>cases y3
  have hcsz:B+xs.length*j.size<=cells.size:=by rw [p3,e9,gO]; exact hin
  have hrx:=cc ht x;rw [hx] at hrx;have hx':RD c.m (.sl .full sz0 []) (a.eval x):=hrx
  have hu0:∃ base,a.eval x = .slice base 0 0:=by
   generalize hav:a.eval x=av at hx'
   cases hx' with
   | sl _ _ _ base len cap ho hf hl hc=>
    grind
  obtain ⟨base,Z⟩:=hu0;have hry:=cc ht y;rw [hy] at hry
  have hyv:a.eval y = .slice (some ⟨ab,B,none⟩) xs.length l:=by
   have h:RD c.m (.lit (.slice (some ⟨ab,B,none⟩) xs.length l)) (a.eval y):=hry;generalize a.eval y=v at h;cases h;rfl
  obtain ⟨k2,hk2⟩:∃ k2,k2=(cells.toList.drop B).take (xs.length*j.size):=⟨_,rfl⟩;have L:k2.length=xs.length*j.size:=by rw [hk2]; simp; omega
  have hkg:∀ p,p<xs.length*j.size->k2[p]?=cells[B+p]?:=fun p hp=>by grind
  have D:∀ p v,k2[p]?=some v->w.cell? ((⟨ab,B,none⟩:Addr).add p)=some v:=fun p v hp=>by
   have J:p<xs.length*j.size:=by rw [<- L]; exact (am.1 hp).1
   rw [hkg p J] at hp;rw [fm];simp only [World.cell?,hq.obj];exact hp
  have hr47:xs.length*j.bytes<=140737488355328:=by unfold gK at E; omega
  have X:=vL (need:=xs.length) (old:=0) (bytes:=q.bytes) ar (by rw [q3]; exact hr47);have hge:=Ls w xs.length 0 A.elem;obtain ⟨cl,hcl⟩:∃ cl,cl=k2.toArray++Builtin.zeroCells z.cells (grownCap w xs.length 0 A.elem - xs.length):=⟨_,rfl⟩
  have N:(Builtin.append_ #[t,t] o.type #[a.eval x,a.eval y]).run Γ.P w = .ok (.slice (some ⟨w.heap.size,0,none⟩) xs.length (grownCap w xs.length 0 A.elem)) (w.drew.alloc (.cells cl A.elem)):=by
   rw [Z,hyv]
   cases base with
   | none=>
    have:=Lr (P:=Γ.P) w t o.type A.elem q z hu q1 q4 ⟨ab,B,none⟩ xs.length l k2 (by rw [L,q2]) D h0 ar (by rw [q3]; omega);rw [this,hcl]
   | some a0=>
    have:=su (P:=Γ.P) w t o.type A.elem q z hu q1 q4 a0 0 0 [] cU cU ⟨ab,B,none⟩ xs.length l k2 (by rw [L,q2]) D ar ar (by simpa using X);grind
  obtain ⟨f,G⟩:∃ f,f=grownCap w xs.length 0 A.elem:=⟨_,rfl⟩;rw [<- G] at N hge
  have hsz2:f*j.size<=cl.size:=by
   rw [hcl]; simp only [n7,iO,vI,q5,L,<- G]; rw [<- dk]; exact bg _ ar
  have H:∀ (p:Nat) (r:List AV) (q:Nat) (y:AV),xs[p]?=some r->r[q]?=some y->∃ u,cl[p*j.size+q]?=some u/\RD c.m y u:=fun p r q' y' h1 h2=>by
   grind
  obtain ⟨args⟩:=args;obtain ⟨ts⟩:=ts;simp only at ha hts;subst ha;subst hts;obtain ⟨W1,W2,W3⟩:=hW.drew.newX d (xs.length,f) (.cells cl A.elem (0,0)) rfl (ed _ _);refine cT hΓ (by grind) (v := .slice (some ⟨w.heap.size,0,none⟩) xs.length f) (w':=w.drew.alloc (.cells cl A.elem)) ?_ ?_
  ·simp only [execOp,hop,aD,d3,aw,invoke,builtin,ez,cp,eU,N,aL]
  ·have hN:NC w (w.drew.alloc (.cells cl A.elem (0,0))):=NC.trans (show NC w w.drew from ⟨ba _,fun _ _ h _=>h,.drew _,fun _ h=>h⟩) W3;rw [M];rw [M] at hn;refine hn _ _ _ h (hI.next hN W1 (d:=some d) (by grind) (eA (fun e z hz=>?_) (by rw [hI.size]; exact hdlt) ?_)) hN ⟨_,rfl⟩
   ·rw [a8] at hz;split at hz
    ·cases hz;exact (show RX _ .arr d 1 xs Go.undef from ⟨w.heap.size,cl,A.elem,by rw [<- nm w]; exact aX rfl,⟨by simp,by grind⟩,by rw [e9] at hsz2; omega,fun r hr=>by grind,fun i r j' y' h1 h2=>by have:=H i r j' y' h1 h2; rw [e9] at this; exact this⟩)
    ·rw [dG] at hz;obtain ⟨z',hz',rfl⟩:=aA.1 hz;exact (ht e z' hz').leX W2
   ·exact (show RX _ .sl d xs.length [] _ from ⟨w.heap.size,cl,A.elem,f,by rw [<- nm w]; exact aX rfl,rfl,⟨by simp,by simp⟩,hge⟩)
include hΓ hT in
theorem PH {guards} (i:d5 Γ s a w) (j:∀ d,o.dst=some d->d<Γ.nt) (h:opB T (aq Γ.P) (bX Γ.P) guards s o K) (p:dO Γ a o.dst w K next):o.wpIn Γ.F Γ.n Γ.P a w next Q:=by
 have e:∀ {s1:St},gL guards o.dst s1 K->∀ {l w'},d5 Γ s1 l w'->NC w w'->(∃ v,l=a.put o.dst v)->next l w':=fun N l w' D hN hP=>by
  obtain ⟨s2,h2,hle⟩:=iZ N;exact p s2 l w' h2 (D.less hle) hN hP
 unfold opB at h;split at h
 ·grind [lo,Pz,eu]
 ·rename_i t x y u b;split at h
  ·rename_i A n E r c' hx;split at h
   ·rename_i Z B
    cases J:Nat.beq Z.kind 3 with
    | false=>grind
    | true=>
     rw [J,aR] at h;obtain ⟨c,L,H⟩:=i.ex;have hu:=d6 hT B (aj J);have q:=cc H x;rw [hx] at q
     have z:a.eval x = .slice (some A) n E:=by
      have h:RD c.m (.lit (.slice (some A) n E)) (a.eval x):=q;generalize a.eval x=v at h;cases h; rfl
     refine od (K:=fun s=>gL guards o.dst s K) hΓ i j L H (by rw [b]; intro c G; cases G) (x := .bool false) (v := .bool false) (RC.of_RD (.bool _)) ?_ h (fun s' l w' h1 h2 X M=>e h1 h2 X M);have G:a.eval (.const (.slice none r c')) = .slice none r c':=rfl;simp only [execOp,b,aD,z,G];simp [eqGuard,Lib.run_eql_slice_nil w t _ (some A) n E r c' hu]
   ·exact h.elim
  ·exact eu hΓ hT i j h p
 ·rename_i args ts b;split at h
  ·rename_i d x y f ha;split at h
   ·rename_i U vy hx hy;exact MM hΓ hT b ha i f (j d f) hx hy h p
   ·exact eu hΓ hT i j h p
  ·exact eu hΓ hT i j h p
 ·exact eu hΓ hT i j h p
end
def uP (T:eS) (C:FuncId->List AV->AV->Prop) (E:vC) (all:List Oper) (guards:List Nat):List Oper->St->(St->Prop)->Prop
 | [],s,K=>K s
 | o::rest,s,K=>match j3 all s o with
  | 0=>opB T C E guards s o fun s=>uP T C E all guards rest s K
  | 1=>fx s o.dst .undef fun s=>uP T C E all guards rest s K
  | _=>False
section
variable {Γ:ce} (hΓ:Γ.OK) {T:eS} (hT:T.OK Γ.P) {Q:Exit->Act->World->Prop}
include hΓ hT in
theorem nV {all:List Oper} {guards:List Nat} (b:∀ j d,jt all j=some d->d<Γ.nt):∀ (l:List Oper) (k:Nat) (s:St) (a:Act) (w:World) (K:St->Prop),(∀ j,l[j]?=all[k+j]?)->uP T (aq Γ.P) (bX Γ.P) all guards l s K->d5 Γ s a w ->
  (∀ s' m w',K s'->d5 Γ s' m w'->NC w w'->FT (eE l) a m->Q .normal m w')->wpOpsIn Γ.F Γ.n Γ.P all.toArray Q (List.range' k l.length) a w
 | [],k,s,a,w,K,_,h,i,p=>p s a w h i (.refl w) (.refl _ a)
 | o::rest,k,s,a,w,K,B,h,i,p=>by
  have A:all.toArray[k]?=some o:=by simpa using (B 0).symm
  have hk':∀ j,rest[j]?=all[k+1+j]?:=fun j=>by have:=B (j+1); simpa [dV,n3 1 j] using this
  have e:∀ d,o.dst=some d->d<Γ.nt:=fun d c=>b k d (by rw [eF]; rw [show all[k]?=some o from by simpa using A]; exact c);simp only [bt,ff,wpOpsIn,A];simp only [uP] at h;split at h
  ·rename_i v;rw [dx b i 0 v ar];simp only [ea,c5];refine PH hΓ hT i e h ?_;intro s' m w' D y G E;exact nV b rest (k+1) s' m w' K hk' D y (fun z a3 q h1 h2 x t=>p z a3 q h1 h2 (G.trans x) (((FT.put E).mono fun d c=>bc _ c).trans (t.mono fun d c=>bj _ c)))
  ·rename_i v;rw [dx b i 1 v ar];simp only [Nat.reduceBEq,bv,cu];obtain ⟨s2,u,r⟩:=fT i e h;exact ⟨fun f _=>hΓ.fn f,nV b rest (k+1) s2 _ w K hk' u r fun z a3 q h1 h2 x t=>p z a3 q h1 h2 x (((FT.put ⟨_,rfl⟩).mono fun d c=>bc _ c).trans (t.mono fun d c=>bj _ c))⟩
  ·exact h.elim
variable {s:St} {K:Exit->St->Prop}
include hΓ hT in
theorem K9 (keep es:List Nat) {id} {ops} (c:dC Γ.nt (.region id ops false)=true)
  (h:uP T (aq Γ.P) (bX Γ.P) ops.toList (es.map (3000000000+·)++dw ops.toList ops.toList) ops.toList s fun s'=>ga keep s' (K .normal)):aJ Γ s (.region id ops false) K:=by
 refine ⟨fun a w d=>?_⟩;obtain ⟨l⟩:=ops;refine fP ?_;rw [show (⟨l⟩:Array Oper).size=l.length from rfl,c6];refine nV hΓ hT (ew c) l 0 s a w _ (fun j=>by simp) h d ?_;intro s' m w' e b f i;obtain ⟨s2,h2,hle⟩:=eb e;exact ⟨f,i,s2,b.less hle,h2⟩
end
open Go
section
variable {Γ:ce} {s:St} {a:Act} {w:World}
theorem d5.pinT (L:d5 Γ s a w) (d k) {cs} (h1:get s.b d=some cs) (c:s7 cs=true) (j:Nat.ble (lo k) cs.length=true):∃ b,d5 Γ (s.pin d k b cs) a w:=by
 obtain ⟨⟨l,B,G⟩,Q,F,p⟩:=L;have c:cs≠[]:=fun e=>by rw [e] at c; cases c
 have j:=ah j;obtain ⟨X,q2,o,vs,U,M,Z,D⟩:=B.box d cs h1 c;obtain ⟨J,r⟩:=B.pin (k:=k) h1 c M;refine ⟨l.ρ d,⟨⟨_,J,fun e z hz=>?_⟩,Q,F,p⟩⟩;simp only [St.pin] at hz;rw [a8] at hz;split at hz
 ·cases hz;refine ⟨vs,U,_,aX rfl,rfl,?_,fun y hy=>o y (gh hy),fun i y u g1 g2=>?_⟩
  ·grind
  ·rw [da] at g1;have m:=o y (aC g1);exact vu m ((D _ y u g1 g2).leX_cell r m)
 ·rw [dG] at hz;obtain ⟨A,t,rfl⟩:=aA.1 hz;have E:=G e A t;have h:=E.leX r
  cases A with
  | loc N off=>
   simp only [Hj]
   cases H:Nat.beq d N with
   | false=>exact h
   | true=>
    have:=aj H;subst this;rw [aR];have hl:a.tmps.getD e Go.undef = .pointer (some ⟨l.ρ d,off,none⟩):=E;rw [hl];refine RC.of_RD ?_
    have f:∀ (i:Nat) (y:AV),(((cs.take (lo k)).map AV.pub1).drop off)[i]?=some y->∃ x v,cs[off+i]?=some x/\vs[off+i]?=some v/\y=x.pub1/\off+i<lo k:=by
     intro i y hy;rw [da,aQ] at hy;obtain ⟨x,hx,rfl⟩:=aA.1 hy;rw [dL] at hx;split at hx
     ·have q:off+i<vs.size:=by have:=(am.1 hx).1; omega
      exact ⟨x,_,hx,aE q,rfl,by assumption⟩
     ·cases hx
    refine .pin _ _ _ _ (fun y hy=>?_) (fun i=>(vs[off+i]?).getD Go.undef) (fun i y hy=>?_) (fun i y hy=>?_)
    ·obtain ⟨i,hi⟩:=cn hy;obtain ⟨x,v,g1,_,rfl,_⟩:=f i y hi;exact fK (o x (aC g1))
    ·obtain ⟨x,v,g1,g2,_,g3⟩:=f i y hy;show (if l.ρ d=l.ρ d then (if off+i<lo k then vs[off+i]? else none) else _)=_;grind
    ·obtain ⟨x,v,g1,g2,rfl,_⟩:=f i y hy;rw [g2];have m:=o x (aC g1);exact ((D _ x v g1 g2).leX_cell r m).pub
  | me g k' n xs=>exact h
  | _=>exact h
theorem d5.ownT (Q:d5 Γ s a w) (d j k sz) {cs} (h1:get s.b d=some cs) (h2:cs[j]?=some (.sl .full 0 [])):d5 Γ ⟨(s.dem k).t,(d,dD (cs.map (AV.dem1 k)) j (.sl (.id k) sz []))::(s.dem k).b⟩ a w:=by
 obtain ⟨⟨B,D,E⟩,X,L,q⟩:=Q;have l:cs≠[]:=fun e=>by rw [e] at h2; simp at h2
 obtain ⟨_,_,_,vs,T,U,Z,N⟩:=D.box d cs h1 l;have F:=(am.1 h2).1;have hv:vs[j]?=some (vs[j]'(by omega)):=aE ar;generalize vs[j]'(by omega)=v at hv;have hx:RD B.m (.sl .full 0 []) v:=N j _ v h2 hv
 have f:j5 v=false/\nc (sfree Γ.w0 k) v:=by
  cases hx with
  | sl _ _ _ base len cap ho hf u hc=>
   have:=hf rfl;exact ⟨by simp [j5,this],.inr ⟨_,_,_,rfl,fun _=>this.symm,fun a _ h0=>by simp at u; omega⟩⟩
 have hx':RD B.m (.sl .no sz []) v:=(bK:(AV.sl .full 0 []).weak (.sl .no sz [])) _ _ hx;have n:=D.own_none k sz v f.2 f.1;have A:get (s.dem k).b d=some (cs.map (AV.dem1 k)):=by rw [rP,h1]; rfl
 have c:cs.map (AV.dem1 k)≠[]:=by simpa using l
 refine ⟨⟨_,CC (bx:=(s.dem k).b) n A c (fQ _ _ _) (fun x hx=>?_) (fun r T' H J i x M p1 p2=>?_),fun e y hy=>?_⟩,X,L,q⟩
 ·obtain ⟨p,o⟩:=cn hx;rw [eh] at o;split at o
  ·cases o; rfl
  ·exact (n.box d _ A c).2.2.1 x (aC o)
 ·have e:r=vs:=by
   have G:=U.symm.trans H;cases G; rfl
  rw [eh] at p1;split at p1
  ·rename_i hj;cases p1
   have ev:M=v:=by
    rw [e,<- hj.1] at p2;exact iK (p2.symm.trans hv)
   subst ev;refine ⟨by simp [dE.own],fun h=>(by rw [f.1] at h; cases h),hx'⟩
  grind
 ·rw [mB] at hy;obtain ⟨z,hz,rfl⟩:=aA.1 hy;exact (E e z hz).reown (.refl _)
end
def Tr (Γ:ce) (s:St) (K:St->Prop):Prop:=∀ a w,d5 Γ s a w->∃ s2,d5 Γ s2 a w/\K s2
theorem Tr.done {Γ} {s} {K} (h:K s):Tr Γ s K:=fun _ _ b=>⟨s,b,h⟩
theorem Tr.pin {Γ} {s} {K} (d k) {cs} (h1:get s.b d=some cs) (f:s7 cs=true) (e:Nat.ble (lo k) cs.length=true) (h:∀ b,Tr Γ (s.pin d k b cs) K):Tr Γ s K:=fun a w i=>by
 obtain ⟨b,c⟩:=i.pinT d k h1 f e;exact h b a w c
theorem Tr.own {Γ} {s} {K} (d j k sz) {cs} (h1:get s.b d=some cs) (h2:cs[j]?=some (.sl .full 0 [])) (h:Tr Γ ⟨(s.dem k).t,(d,dD (cs.map (AV.dem1 k)) j (.sl (.id k) sz []))::(s.dem k).b⟩ K):Tr Γ s K:=fun a w c=>h a w (c.ownT d j k sz h1 h2)
section
variable {Γ:ce} (hΓ:Γ.OK) {T:eS} (hT:T.OK Γ.P)
def Hz (Γ:ce) (T:eS) (guards:List Nat) (s:St) (o:Oper) (K:St->Prop):Prop:=Hl T (aq Γ.P) (bX Γ.P) guards s o fun s1=>Tr Γ s1 K
include hΓ hT in
theorem Vn (keep) (n) {s} {K} {id} {ops} (d:dC Γ.nt (.region id ops false)=true)
  (h:lx T Γ.P (Hz Γ T (dw ops.toList ops.toList)) ops.toList (dw ops.toList ops.toList) n s fun s'=>ga keep s' (K .normal)):aJ Γ s (.region id ops false) K:=by
 refine kh hΓ hT (fun s a w o K next Q e c h p=>?_) keep n d h;unfold Hz at h;refine eu hΓ hT e c h fun s1 j w1 l b f q=>?_;obtain ⟨s2,i,m⟩:=l j w1 b;grind [FT.put]
end
open Go
section
variable {Γ:ce} (hΓ:Γ.OK) {T:eS} (hT:T.OK Γ.P)
def yF (step:Nat->St->Oper->(St->Prop)->Prop):List Oper->Nat->St->(St->Prop)->Prop
 | [],_,s,K=>K s
 | o::rest,k,s,K=>bif o.guard.isNone then step k s o fun s1=>yF step rest (k+1) s1 K else False
def VQ (Γ:ce) (T:eS) (guards a vs:List Nat) (k:Nat) (s:St) (o:Oper) (K:St->Prop):Prop:=
 bif a.contains k then Ie Γ.P s o fun s1=>bif vs.contains k then Tr Γ s1 K else K s1
 else bif vs.contains k then Hz Γ T guards s o K else Hl T (aq Γ.P) (bX Γ.P) guards s o K
include hΓ in
theorem Ic {s} {a} {w} {o} {K} {next} {Q} (p:d5 Γ s a w) (m:∀ d,o.dst=some d->d<Γ.nt) (h:Ie Γ.P s o K)
  (x:∀ s' i w',K s'->d5 Γ s' i w'->NC w w'->FT o.dst.toList a i->next i w'):o.wpIn Γ.F Γ.n Γ.P a w next Q:=by
 unfold Ie at h;split at h
 ·rename_i call d j c;split at h
  ·rename_i f e;split at h
   ·rename_i g v;obtain ⟨N,I,L,R,⟨h1,h2,u⟩,B⟩:=h;refine zM hΓ p j e (cap:=[]) (.inr ⟨v,rfl⟩) u h1 h2 c (m d c) (K:=K) (fun r l q=>?_) (fun s' i w' y D z A=>x s' i w' y D z (FT.put A));have:=B r l q;have this:(⟨(d,r)::(BK l++((s.demMany I).unmeMany N).t),(s.demMany I).b⟩:St).go K:=this;rw [St.go_eq] at this;exact this
   ·exact h.elim
  ·exact h.elim
 ·exact h.elim
include hΓ hT in
theorem Hy {guards} {s} {a} {w} {o} {K} {next} {Q} (f:d5 Γ s a w) (e:∀ d,o.dst=some d->d<Γ.nt) (h:Hz Γ T guards s o K)
  (r:∀ s' b w',K s'->d5 Γ s' b w'->NC w w'->FT o.dst.toList a b->next b w'):o.wpIn Γ.F Γ.n Γ.P a w next Q:=by
 unfold Hz at h;refine eu hΓ hT f e h fun s1 j w1 m c l q=>?_;obtain ⟨s2,i,p⟩:=m j w1 c;grind [FT.put]
include hΓ hT in
theorem LF {guards ns vs} {k} {s} {a} {w} {o} {K} {next} {Q} (m:d5 Γ s a w) (l:∀ d,o.dst=some d->d<Γ.nt) (h:VQ Γ T guards ns vs k s o K)
  (j:∀ s' q w',K s'->d5 Γ s' q w'->NC w w'->FT o.dst.toList a q->next q w'):o.wpIn Γ.F Γ.n Γ.P a w next Q:=by
 unfold VQ at h
 cases t:ns.contains k with
 | true=>
  rw [t,aR] at h;refine Ic hΓ m l h fun s1 f w1 e c b i=>?_
  cases hv:vs.contains k with
  | true=>
   rw [hv,aR] at e;obtain ⟨s2,p,r⟩:=e f w1 c;exact j s2 f w1 r p b i
  | false=>
   rw [hv,br] at e;exact j s1 f w1 e c b i
 | false=>
  rw [t,br] at h
  cases hv:vs.contains k with
  | true=>rw [hv,aR] at h; exact Hy hΓ hT m l h j
  | false=>
   rw [hv,br] at h;exact eu hΓ hT m l h fun s1 f w1 e c b u=>j s1 f w1 e c b (FT.put u)
include hΓ hT in
theorem sJ {all:List Oper} {guards v vs:List Nat} {Q:Exit->Act->World->Prop} (b:∀ j d,jt all j=some d->d<Γ.nt):∀ (l:List Oper) (k:Nat) (s:St) (a:Act) (w:World) (K:St->Prop),(∀ j,l[j]?=all[k+j]?)->yF (VQ Γ T guards v vs) l k s K->d5 Γ s a w ->
  (∀ s' i w',K s'->d5 Γ s' i w'->NC w w'->FT (eE l) a i->Q .normal i w')->wpOpsIn Γ.F Γ.n Γ.P all.toArray Q (List.range' k l.length) a w
 | [],k,s,a,w,K,_,h,p,m=>m s a w h p (.refl w) (.refl _ a)
 | o::rest,k,s,a,w,K,t,h,p,m=>by
  have r:all.toArray[k]?=some o:=by simpa using (t 0).symm
  have hk':∀ j,rest[j]?=all[k+1+j]?:=fun j=>by have:=t (j+1); simpa [dV,n3 1 j] using this
  have f:∀ d,o.dst=some d->d<Γ.nt:=fun d e=>b k d (by rw [eF]; rw [show all[k]?=some o from by simpa using r]; exact e);simp only [bt,ff,wpOpsIn,r];simp only [yF] at h
  cases c:o.guard with
  | some g=>rw [c] at h; simp only [Option.isNone_some,br] at h
  | none=>
   rw [c] at h;simp only [Option.isNone_none,aR] at h;simp only [Region.wanted,c,c5];refine LF hΓ hT p f h ?_;intro s' i w' y q D z;exact sJ b rest (k+1) s' i w' K hk' y q (fun B a3 u h1 h2 A x=>m B a3 u h1 h2 (D.trans A) ((z.mono fun d e=>bc _ e).trans (x.mono fun d e=>bj _ e)))
theorem d5.reT {s} {a} {w} (hI:d5 Γ s a w) (k k') {g} {n} {xs} (l:(Nat.beq (lo k') (lo k)&&(!Nat.beq k' k&&iD g))=true) (h1:get s.t (xk k)=some (.me g k n xs)):d5 Γ ⟨(xk k',.me g k' n xs)::(xk k,.junk)::iX (AV.reN k k') s.t,s.b⟩ a w:=by
 obtain ⟨⟨f,h,M⟩,hs,D,E⟩:=hI;simp only [al,cI] at l;have A:=aj l.1;have v:=de l.2.1;obtain ⟨c',c⟩:∃ c':dE,c'={ f with x:=fun j=>if j=k' then f.x k else if j=k then none else f.x j,xn:=fun j=>if j=k' then f.xn k else f.xn j }:=⟨_,rfl⟩;have hx':c'.x k'=f.x k:=by rw [c]; exact aX rfl
 have hxn':c'.xn k'=f.xn k:=by rw [c]; exact aX rfl
 have Q:∀ {x:AV} {u:Value},fp f x u->x.isCell=true->fp c' x u:=fun {x u} r hx=>by rw [c]; exact r.xs_cell _ _ hx
 have y:∀ {x:AV} {u:Value},RC f x u->RC c' (x.reN k k') u:=fun {x u} r=>by
  cases x with
  | me g j n xs=>
   simp only [AV.reN]
   cases N:Nat.beq k j with
   | true=>
    have:=aj N;subst this;exact RX.reN hx' hxn' (by rw [c]) (by rw [c]) (by rw [c]) A (show RX f g k n xs u from r)
   | false=>
    rw [br];have F:=de N
    cases G:Nat.beq k' j with
    | true=>exact RD.junk u
    | false=>
     have p:=de G;refine RX.reN (k:=j) (k':=j) ?_ ?_ (by rw [c]) (by rw [c]) (by rw [c]) rfl (show RX f g j n xs u from r)
     ·rw [c]; simp only; rw [aV (Ne.symm p),aV (Ne.symm F)]
     ·rw [c]; simp only; rw [aV (Ne.symm p)]
  | agg cs=>obtain ⟨vs,r1,r2,L,r4⟩:=r; exact ⟨vs,r1,r2,L,fun i x u h1 h2=>Q (r4 i x u h1 h2) (L x (aC h1))⟩
  | loc d off=>show u=_; rw [show c'.ρ=f.ρ from by rw [c]]; exact r
  | sl o sz xs=>exact (ec (by intro cs J; cases J)).2 (Q ((ec (by intro cs J; cases J)).1 r) rfl)
  | _=>show RD c'.m _ u; rw [show c'.m=f.m from by rw [c]]; exact r
 refine ⟨⟨c',⟨h.ext,by rw [c]; exact h.sub,by rw [c]; exact h.le0,by rw [c]; exact h.new,fun d cs D v=>?_,by rw [c]; exact h.inj,fun j=>by rw [c]; exact ⟨(h.own j).blk,(h.own j).shape,(h.own j).box,(h.own j).apart⟩,fun j B o hx=>?_⟩,fun e z hz=>?_⟩,hs,D,E⟩
 ·obtain ⟨q1,q2,q3,us,U,q4,q5,q6⟩:=h.box d cs D v;have e1:c'.ρ=f.ρ:=by rw [c]
  grind
 ·rw [c] at hx ⊢;simp only at hx
  have key:∀ i o',(if i=k' then f.x k else if i=k then none else f.x i)=some (B,o')->f.x (if i=k' then k else i)=some (B,o'):=fun i o' hi=>by
   grind
  have X:∀ i o',(if i=k' then f.x k else if i=k then none else f.x i)=some (B,o')->¬ (i≠k'/\i=k):=fun i o' hi hh=>by
   grind
  have q:=h.xo _ B o (key j o hx);refine ⟨q.new,q.obj,q.kept,fun i hi=>q.mem i ?_,q.map,q.box,q.own,fun i o' hi=>?_⟩
  ·grind
  ·have h3:=q.inj _ o' (key i o' hi);grind
 ·rw [a8] at hz;split at hz
  ·rename_i he;cases hz;exact RX.any l.2.2 (RX.reN hx' hxn' (by rw [c]) (by rw [c]) (by rw [c]) A (show RX f g k n xs _ from M _ _ h1))
  ·rw [a8] at hz;split at hz
   ·cases hz; exact RC.of_RD (RD.junk _)
   ·rw [dG] at hz;obtain ⟨Z,H,rfl⟩:=aA.1 hz;exact y (M e Z H)
theorem Tr.re {s} {K} (k k') {g} {n} {xs} (c:(Nat.beq (lo k') (lo k)&&(!Nat.beq k' k&&iD g))=true) (h1:get s.t (xk k)=some (.me g k n xs)) (h:Tr Γ ⟨(xk k',.me g k' n xs)::(xk k,.junk)::iX (AV.reN k k') s.t,s.b⟩ K):Tr Γ s K:=fun a w d=>h a w (d.reT k k' c h1)
include hΓ hT in
theorem Vm (keep ns vs) {s} {K} {id} {ops} (d:dC Γ.nt (.region id ops false)=true)
  (h:yF (VQ Γ T (dw ops.toList ops.toList) ns vs) ops.toList 0 s fun s'=>ga keep s' (K .normal)):aJ Γ s (.region id ops false) K:=by
 refine ⟨fun a w e=>?_⟩;obtain ⟨all⟩:=ops;have b:=ew (l:=all) d;refine fP ?_;rw [show (⟨all⟩:Array Oper).size=all.length from rfl,c6];refine sJ hΓ hT b all 0 s a w _ (fun j=>by rw [bI]) h e ?_;intro s' n w' i c m f;obtain ⟨s2,h2,hle⟩:=eb i;exact ⟨m,f,s2,c.less hle,h2⟩
end
open Go
theorem RO.pub1 {c} {x} {v} (hx:x.isCell=true) (h:RO c x v):RO c x.pub1 v:=vu (fK hx) (fp.of_RD (h.toRC1 hx).pub)
section
variable {Γ:ce} {s:St} {a:Act} {w:World} {K:Exit->St->Prop}
theorem d5.pubX (v:d5 Γ s a w) (k j) {n} {own} {y} (h1:get s.t (xk k)=some (.me .box k n [own])) (h2:own[j]?=some y):d5 Γ ⟨(xk k,.me .box k n [dD own j y.pub1])::s.t,s.b⟩ a w:=by
 obtain ⟨⟨f,A,o⟩,x,r,d⟩:=v;refine ⟨⟨f,A,fun e z hz=>?_⟩,x,r,d⟩;rw [a8] at hz;split at hz
 ·rename_i l;subst l;cases hz;obtain ⟨cells,T,q,B,E,D,h,m⟩:=(show RX f .box k n [own] (a.tmps.getD (xk k) Go.undef) from o _ _ h1);cases E;refine (show RX f .box k n _ (a.tmps.getD (xk k) Go.undef) from ⟨cells,T,_,B,rfl,by rw [fQ]; exact D,fun z hz=>?_,fun i z u g1 g2=>?_⟩)
  ·obtain ⟨p,c⟩:=cn hz;rw [eh] at c;split at c
   ·cases c; exact fK (h y (aC h2))
   ·exact h z (aC c)
  ·rw [eh] at g1;split at g1
   ·rename_i hj;cases g1;exact RO.pub1 (h y (aC h2)) (m _ y u (hj.1 ▸ h2) g2)
   ·exact m i z u g1 g2
 ·exact o e z hz
theorem aJ.pubX {c} (k j) {n} {own} {y} (h1:get s.t (xk k)=some (.me .box k n [own])) (h2:own[j]?=some y) (h:aJ Γ ⟨(xk k,.me .box k n [dD own j y.pub1])::s.t,s.b⟩ c K):aJ Γ s c K:=
 ⟨fun a w d=>h.out a w (d.pubX k j h1 h2)⟩
end
open Go
def xx (k:Nat):AV->Bool
 | .int _ _ | .bool _ | .lit _ | .loc _ _ | .undef | .junk=>true
 | .sl (.id j) sz xs=>Nat.beq j k||(Nat.beq sz 0&&xs.isEmpty)
 | .sl .no _ xs | .sl .full _ xs=>xs.isEmpty
 | _=>false
def flatI:AV->Bool
 | .int _ _ | .bool _=>true
 | _=>false
def jL (k:Nat) (v:Value):AV->AV
 | .sl (.id j) sz xs=>bif Nat.beq j k then .lit v else .sl (.id j) sz xs
 | x=>x
theorem RD.flatI {m m'} {x} {v} (h:RD m x v) (hf:flatI x=true):RD m' x v:=by
 cases h <;> first | exact .int _ _ | exact .bool _ | cases hf
theorem RD.nilSl {m m'} {o} {sz} {xs} {v} (h:RD m (.sl o sz xs) v) (hx:xs.isEmpty=true):RD m' (.sl o sz xs) v:=by
 cases xs with
 | nil=>
  cases h with
  | sl _ _ _ base len cap f hf hl p e d b off n g hm q=>exact .sl o sz [] base len cap f hf hl p e d b off n g (fun i x j c h1=>by simp at h1) (fun i x j c h1=>by simp at h1)
 | cons a l=>cases hx
theorem RD.nilCap {m} {o} {sz} {v} (h:RD m (.sl o sz []) v):∃ base cap,v = .slice base 0 cap:=by
 cases h with
 | sl _ _ _ base len cap e hf hl j d c b off f g hm i=>simp at hl; subst hl; exact ⟨_,_,rfl⟩
section
variable {Γ:ce} {s:St} {a:Act} {w:World} {K:Exit->St->Prop}
def CV (c:dE) (k g n cap:Nat) (o:Obj):dE:=
  { c with m:=⟨fun b i=>if b=g then none else c.m b i,fun b=>if b=g then none else c.m.maps b⟩,τ:=fun j=>if j=k\/dc c j=some g then .slice none 0 0 else c.τ j,x:=fun j=>if j=k then some (g,o) else none,xn:=fun _=>(n,cap) }
theorem tN {c} {k g n cap} {o} {j b} (h:dc (CV c k g n cap o) j=some b):j≠k/\dc c j=some b/\b≠g:=by
 unfold dc CV at h;simp only at h;split at h
 ·cases h
 ·rename_i d;refine ⟨fun e=>d (.inl e),h,fun e=>d (.inr (e ▸ h))⟩
theorem d5.unfrz (hI:d5 Γ s a w) (hm0:Γ.m0.sub Γ.w0) (k d0 j0:Nat) {sz} {xs} {cs0} (hk:k<5000000) (hb0:get s.b d0=some cs0) (hj0:cs0[j0]?=some (.sl (.id k) sz xs)) (hne:0<xs.length) (hsz0:0<sz)
  (hxs:(xs.all fun r=>Nat.beq r.length sz&&r.all flatI)=true) (ht:(s.t.all fun p=>xx k p.2)=true) (hb:(s.b.all fun p=>p.2.all (xx k))=true) :
  ∃ g cap,d5 Γ ⟨(xk k,.me (.row g cap) k sz xs)::iX (jL k (.slice (some ⟨g,0,none⟩) xs.length cap)) s.t,Il (jL k (.slice (some ⟨g,0,none⟩) xs.length cap)) s.b⟩ a w:=by
 obtain ⟨⟨c,l,hts⟩,hs,hd,hrn⟩:=hI
 have hlo:lo k=0:=by
  unfold lo;rw [show Nat.blt k 5000000=true from kO hk]; rfl
 have hcs:cs0≠[]:=fun e=>by grind
 obtain ⟨q1,q2,q3,vs,T,q4,q5,q6⟩:=l.box d0 cs0 hb0 hcs;have hjl:=(am.1 hj0).1;obtain ⟨e1,e2,e3⟩:=q6 j0 _ (vs[j0]'(by omega)) hj0 (aE ar);rw [e1] at e2 e3
 -- the row's block
 obtain ⟨g,len,cap,gv,hτ,hlen,hlc,hg0,F⟩:∃ g len cap,∃ gv:Nat->Nat->Value,c.τ k = .slice (some ⟨g,0,none⟩) len cap/\xs.length=len/\len<=cap/\Γ.w0.heap.size<=g /\
   ∀ (i:Nat) (x:List AV) (j:Nat) (y:AV),xs[i]?=some x->x[j]?=some y->c.m g (i*sz+j)=some (gv i j)/\RD c.m y (gv i j):=by
  have hsh:=(l.own k).shape;generalize hu:c.τ k=u at hsh e3 ⊢
  cases e3 with
  | sl _ _ _ base len cap ho hf hl hc hsz hcl b off hb' gv hm hg=>
   have X:=hb' ar;subst X;rcases hsh with h | ⟨base,D,z,h,_,P⟩
   ·cases h
   ·cases h;obtain ⟨h4,h5⟩:=P _ rfl ar
    have hoff:off=0:=by
     have:=ax Addr.off h4;exact this
    subst hoff;refine ⟨b,len,cap,gv,rfl,hl,hc,?_,fun i x j y h1 h2=>⟨?_,hg i x j y h1 h2⟩⟩
    ·rcases h5 with h5 | h5
     ·exact h5
     ·omega
    grind
 have hlen':xs.length=len:=hlen
 -- its last cell
 have N:∀ (i:Nat) (x:List AV),xs[i]?=some x->x.length=sz/\∀ y∈x,flatI y=true:=fun i x hx=>by
  rw [aN] at hxs;have:=hxs x (aC hx);simp only [al,aN] at this;grind [Nat.eq_of_beq_eq_true]
 have hlx:xs[len - 1]?=some (xs[len - 1]'(by omega)):=ai ar;have hly:(xs[len - 1]'(by omega))[sz - 1]?=some ((xs[len - 1]'(by omega))[sz - 1]'(by grind)):=ai _;have J:=(F _ _ _ _ hlx hly).1
 have M:∀ o v,Γ.m0 g o=some v->False:=fun o v h=>by
  have:=hm0.cell g o v h;grind [World.cell?]
 have hm0m:∀ x,Γ.m0.maps g=some x->False:=fun x h=>by
  have:=(aO.1 (hm0.map g x h)).1;omega
 obtain ⟨cells,U,E⟩:ej w g:=by
  rcases l.new.cell g _ _ J with h | h
  ·exact (M _ _ h).elim
  ·exact h.2
 have hcw:∀ o v,c.m g o=some v->cells[o]?=some v:=fun o v h=>by
  have:=l.sub.cell g o v h;grind [World.cell?]
 have H:cap*sz<=cells.size:=by
  by_cases B:len<cap
  ·have Z:dc c k=some g:=by unfold dc; rw [hτ]; simp [kW,B]
   obtain ⟨D,z,T',A,g1,g2,g3,_⟩:=(l.own k).blk g Z;grind [j5]
  ·have h1:=(aO.1 (hcw _ _ J)).1;have h2:cap=len:=by omega
   subst h2
   have P:cap*sz=(cap - 1)*sz+sz:=by
    obtain ⟨n,rfl⟩:∃ n,cap=n+1:=⟨cap - 1,by omega⟩;rw [dk,ni]; rfl
   omega
 have hρ:∀ d cs,get s.b d=some cs->cs≠[]->c.ρ d≠g:=fun d cs h1 h2 e=>by
  have:=(l.box d cs h1 h2).2.1 ((len - 1)*sz+(sz - 1));grind
 have hmap:c.m.maps g=none:=by
  cases h:c.m.maps g with
  | none=>rfl
  | some x=>have:=l.sub.map g x h; rw [E] at this; cases this
 refine ⟨g,cap,?_⟩;rw [hlen']
 -- what the words say in the new context
 have hone:∀ (x:AV) (v:Value),xx k x=true->fp c x v->fp (CV c k g len cap (.cells cells U (0,0))) (jL k (.slice (some ⟨g,0,none⟩) len cap) x) v:=by
  intro x v hf h
  cases x with
  | int _ _=>cases (show RD c.m _ v from h); exact RD.int _ _
  | bool _=>cases (show RD c.m _ v from h); exact RD.bool _
  | undef=>cases (show RD c.m _ v from h); exact RD.undef
  | junk=>exact RD.junk _
  | lit u=>cases (show RD c.m _ v from h) with | lit _ h1 h2=>exact RD.lit _ h1 h2
  | loc d off=>exact h
  | sl o sz' ys=>
   cases o with
   | no=>exact (show RD c.m _ v from h).nilSl hf
   | full=>exact (show RD c.m _ v from h).nilSl hf
   | id j=>
    simp only [jL]
    cases Q:Nat.beq j k with
    | true=>
     have:=aj Q;subst this;rw [aR];obtain ⟨h1,_⟩:=h;rw [h1,hτ];exact RD.lit _ rfl rfl
    | false=>
     rw [br];simp only [xx,Q,gP,al] at hf;obtain ⟨hf1,hf2⟩:=hf;have hz:=aj hf1;subst hz;obtain ⟨h1,h2,P⟩:=h;have hys:ys=[]:=by cases ys with | nil=>rfl | cons _ _=>cases hf2
     subst hys;obtain ⟨base,z,hv⟩:=P.nilCap
     have B:j5 v=false:=by
      cases hs':j5 v with
      | false=>rfl
      | true=>grind
     have Z:dc c j≠some g:=by
      unfold dc;rw [<- h1];rw [hv] at B ⊢;simp only [j5,jx] at B
      cases base with
      | none=>simp [kW]
      | some a=>simp [kW,B]
     have hjn:¬ (j=k\/dc c j=some g):=fun e=>e.elim (fun e=>by grind) Z;refine ⟨?_,fun e=>(by rw [B] at e; cases e),P.nilSl rfl⟩;show v=if j=k\/dc c j=some g then _ else _
     grind
  | _=>cases hf
 have hcellf:∀ x:AV,x.isCell=true->(jL k (.slice (some ⟨g,0,none⟩) len cap) x).isCell=true:=fun x hx=>by
  cases x with
  | sl o _ _=>
   cases o with
   | id j=>simp only [jL]; cases Nat.beq j k <;> rfl
   | _=>exact hx
  | _=>exact hx
 have f:∀ d q,get (Il (jL k (.slice (some ⟨g,0,none⟩) len cap)) s.b) d=some q->∃ cs,get s.b d=some cs/\q=cs.map (jL k (.slice (some ⟨g,0,none⟩) len cap)):=fun d q h=>by
  rw [yz,lu (fun (_:Nat) (v:List AV)=>v.map (jL k (.slice (some ⟨g,0,none⟩) len cap)))] at h;obtain ⟨cs,h1,h2⟩:=aA.1 h;grind
 have hflatB:∀ d cs,get s.b d=some cs->∀ x∈cs,xx k x=true:=fun d cs h=>by
  rw [aN] at hb;have:=hb _ (pa h);grind
 have L:∀ d x,get s.t d=some x->xx k x=true:=fun d x h=>by
  rw [aN] at ht;exact ht _ (pa h)
 have hle:(CV c k g len cap (.cells cells U (0,0))).m.le c.m:=⟨fun b o v h=>by
  grind [CV],fun b x h=>by
  grind [CV]⟩
 refine ⟨⟨CV c k g len cap (.cells cells U (0,0)),⟨l.ext,hle.sub l.sub,⟨fun b o v h=>?_,fun b x h=>?_⟩,⟨fun b o v h=>l.new.cell b o v (hle.cell b o v h),fun b x h=>l.new.map b x (hle.map b x h)⟩,fun d q h hne'=>?_,fun d d' cs q h1 h2 n1 n2=>?_,fun j=>?_,fun j b o h=>?_⟩,fun d x hx=>?_⟩,hs,hd,hrn⟩
 ·simp only [CV];rw [aV (fun (e:b=g)=>M o v (e ▸ h))]; exact l.le0.cell b o v h
 ·simp only [CV];rw [aV (fun (e:b=g)=>hm0m x (e ▸ h))]; exact l.le0.map b x h
 ·obtain ⟨cs,h1,rfl⟩:=f d q h;have hcn:cs≠[]:=fun e=>hne' (by rw [e]; rfl);obtain ⟨p1,p2,p3,ws,T',p4,p5,p6⟩:=l.box d cs h1 hcn;refine ⟨p1,fun o=>?_,fun x hx=>?_,ws,T',p4,by grind,fun i x v hx hv=>?_⟩
  ·simp only [CV];grind
  ·grind
  grind
 ·obtain ⟨G,f1,rfl⟩:=f d cs h1;obtain ⟨cs2,f2,rfl⟩:=f d' q h2;exact l.inj d d' G cs2 f1 f2 (fun e=>n1 (by rw [e]; rfl)) (fun e=>n2 (by rw [e]; rfl))
 ·refine ⟨fun b hbk=>?_,?_,fun b d cs hbk h1 n1=>?_,fun b i h1 h2=>?_⟩
  ·obtain ⟨g1,g2,g3⟩:=tN hbk;obtain ⟨D,z,T',A,f1,f2,f3,f4,f5⟩:=(l.own j).blk b g2;refine ⟨D,z,T',A,?_,f2,f3,fun o ho=>?_,f5⟩
   ·simp only [CV];grind
   ·simp only [CV];split
    ·rfl
    ·exact f4 o ho
  ·simp only [CV];split
   ·exact .inl rfl
   ·exact (l.own j).shape
  ·obtain ⟨_,g2,_⟩:=tN hbk;obtain ⟨G,f1,rfl⟩:=f d cs h1;exact (l.own j).box b d G g2 f1 (fun e=>n1 (by rw [e]; rfl))
  ·exact (l.own j).apart b i (tN h1).2.1 (tN h2).2.1
 ·simp only [CV] at h;split at h
  ·rename_i Q;cases h;refine ⟨.inl hg0,E,rfl,fun i _=>by simp [CV],by simp [CV],fun d cs h1 n1=>?_,fun i e=>?_,fun i o' h2=>?_⟩
   ·obtain ⟨G,f1,rfl⟩:=f d cs h1;exact hρ d G f1 (fun e=>n1 (by rw [e]; rfl))
   ·exact (tN e).2.2 rfl
   grind [CV]
  ·cases h
 ·rw [a8] at hx;split at hx
  ·rename_i hdk;cases hx;refine (show RX (CV c k g len cap (.cells cells U (0,0))) (.row g cap) k sz xs (a.tmps.getD d Go.undef) from ⟨cells,U,?_,⟨hlen',rfl,by omega,H⟩,?_,fun r hr=>?_,fun i r j y h1 h2=>?_⟩)
   ·simp [CV]
   ·rw [hlen']; exact bC (bg _ hlc) H
   ·obtain ⟨i,hi⟩:=cn hr;obtain ⟨h1,h2⟩:=N i r hi;refine ⟨h1,fun y hy=>?_⟩;have:=h2 y hy;cases y <;> first | rfl | cases this
   ·obtain ⟨P,h4⟩:=F i r j y h1 h2;exact ⟨_,hcw _ _ P,h4.flatI ((N i r h1).2 y (aC h2))⟩
  ·rw [dG] at hx;obtain ⟨y,hy,rfl⟩:=aA.1 hx;have hf:=L d y hy;have h0:=hts d y hy;have h2:=hone y (a.tmps.getD d Go.undef) hf (by cases y <;> first | exact h0 | cases hf)
   cases y with
   | sl o _ _=>
    cases o with
    | id j=>simp only [jL] at h2 ⊢; cases hb2:Nat.beq j k <;> rw [hb2] at h2 <;> exact h2
    | _=>exact h2
   | _=>first | exact h2 | cases hf
theorem aJ.unfrz {c} (m:Γ.m0.sub Γ.w0) (k n o:Nat) {sz} {xs} {cs0} (x:Nat.blt k 5000000=true) (e:get s.b n=some cs0) (l:cs0[o]?=some (.sl (.id k) sz xs)) (f:Nat.blt 0 xs.length=true) (d:Nat.blt 0 sz=true)
  (j:(xs.all fun r=>Nat.beq r.length sz&&r.all flatI)=true) (u:(s.t.all fun p=>xx k p.2)=true) (v:(s.b.all fun p=>p.2.all (xx k))=true)
  (h:∀ g cap,aJ Γ ⟨(xk k,.me (.row g cap) k sz xs)::iX (jL k (.slice (some ⟨g,0,none⟩) xs.length cap)) s.t,Il (jL k (.slice (some ⟨g,0,none⟩) xs.length cap)) s.b⟩ c K):aJ Γ s c K:=
 ⟨fun a w q=>by
  obtain ⟨g,cap,i⟩:=q.unfrz m k n o (ah x) e l (ah f) (ah d) j u v;exact (h g cap).out a w i⟩
theorem na {c} (d j) {cs} {x} {v} (h1:get s.b d=some cs) (h2:cs[j]?=some (.lit v)) (hx:x.isCell=true) (B:RD Γ.m0 x v) (h:aJ Γ ⟨s.t,(d,dD cs j x)::s.b⟩ c K):aJ Γ s c K:=by
 refine ⟨fun a w A=>h.out a w ?_⟩;obtain ⟨⟨r,o,D⟩,E,z,n⟩:=A;have f:cs≠[]:=fun e=>by rw [e] at h2; simp at h2
 refine ⟨⟨r,o.rebox h1 f (fQ _ _ _) (fun y hy=>?_) (fun vs q i y u hy hu=>?_),D⟩,E,z,n⟩
 ·obtain ⟨p,l⟩:=cn hy;rw [eh] at l;split at l
  ·cases l; exact hx
  ·exact (o.box d cs h1 f).2.2.1 y (aC l)
 ·rw [eh] at hy;split at hy
  ·rename_i hj;cases hy;have:=q _ (.lit v) u (hj.1 ▸ h2) hu;cases (show RD r.m (.lit v) u from this);exact fp.of_RD (B.mono o.le0)
  ·exact q i y u hy hu
end
def Dm:AV->Value->AV
 | .sl _ _ _,v => .lit v
 | x,_=>x
theorem Lp {P} {T} (X:T.OK P) {f} {fn} {body} {cs} {r} (hf:P.funcs[f]?=some fn) (M:fn.body=some body)
  (b:(fn.name == "runtime.NumGoroutine")=false) (hm:P.follows .mixedOrders=true) (hn:1<=fn.ntmps)
  (h:∀ (F:Fence) (n:Nat) (w0:World) (m0:dI),ce.OK ⟨P,F,n,w0,m0,fn.ntmps⟩->F.round=none->1<=n->m0.sub w0->∀ us:List Value,us.length=cs.length->(∀ (i:Nat) (x:AV) (v:Value),cs[i]?=some x->us[i]?=some v->RD m0 x v) ->
   aJ ⟨P,F,n,w0,m0,fn.ntmps⟩ ⟨[(0,.agg (List.zipWith Dm cs us))],[]⟩ body (Ends T fn.results.toList r)):aq P f [.agg cs] r:=by
 refine ⟨gC hf b M,fun m w vs G q hlen hr=>?_⟩;have hG:ce.OK ⟨P,Fence.wide,1,w,m,fn.ntmps⟩:=⟨fun _=>trivial,rfl,rfl,hm,q,q.sub G⟩
 obtain ⟨v,rfl⟩:∃ v,vs=[v]:=by
  match vs,hlen with
  | [v],_=>exact ⟨v,rfl⟩
 have hv:=hr 0 _ v rfl rfl
 obtain ⟨us,rfl,hul,z,t⟩:∃ us:Array Value,v = .agg us/\cs.length=us.size/\(∀ x∈cs,x.isCell=true)/\∀ (i:Nat) (x:AV) (u:Value),cs[i]?=some x->us[i]?=some u->RD m x u:=by
  cases hv with
  | agg _ us hl hc h=>grind
 have o:RD m (.agg (List.zipWith Dm cs us.toList)) (.agg us):=by
  refine .agg _ us (by grind) (fun x hx=>?_) fun i x u hx hu=>?_
  ·obtain ⟨i,hi⟩:=cn hx;rw [List.getElem?_zipWith] at hi;split at hi
   ·rename_i y u hy hu;cases hi;have:=z y (aC hy);cases y <;> first | exact this | rfl
   ·cases hi
  ·rw [List.getElem?_zipWith] at hx;split at hx
   ·rename_i y u' hy p;cases hx;rw [cL,hu] at p;cases p;have h1:=t i y u hy hu;have h2:=h1.one (z y (aC hy));cases y <;> first | exact h1 | exact .lit u h2.1 h2.2
   ·cases hx
 refine Cx.1 (mC (n:=1) hf M trivial ?_);have hp:=(h Fence.wide 1 w m hG rfl (ba _) G us.toList (by grind) fun i x u hx hu=>t i x u hx (by grind)).out;refine db (hp _ w ⟨⟨_,nD (Γ:=⟨P,Fence.wide,1,w,m,fn.ntmps⟩) G rfl,fun d x hx=>?_⟩,by simp; omega,⟨[],rfl,eP,by simp⟩,fun _ h=>nomatch h⟩) ?_
 ·rw [a8] at hx;split at hx
  ·rename_i hd;cases hx;subst hd;refine RC.of_RD (c:=⟨_,_,_,m,_,_⟩) ?_;rw [aG,co cU];simpa using o
  ·cases hx
 ·intro e a w' ⟨L,_,s',hI,⟨he,hR⟩⟩
  have j:LeavesInM Fence.wide 1 P fn a.tmps (fun e w'=>∃ v m',e = .returned v/\RD m' r v/\m.le m'/\dI.sub m' w'/\RowKit.Below w.heap.size w w'/\m.News (w.heap.size<=·) m' w'/\iG w w') a.defers .returning w':=by
   obtain ⟨⟨c,l,U⟩,_,⟨Ds,J,B,A⟩,_⟩:=hI;rw [J];refine rM Ds w' (l.ext.toBelow L) l.sub B (fun D N=>⟨(A D N).1,(A D N).2⟩) fun w2 h1 h2 Q Z=>?_;obtain ⟨v,E,H⟩:=nb (a:=a) X (l.keep (.ofBelow h1) h2 Q) U hR;exact ⟨v,E,v,c.m,rfl,H,l.le0,h2,h1,(l.new.unfree l.sub L).keep fun _ ⟨c,T,h⟩=>⟨c,T,Q _ _ h rfl⟩,L.more.trans Z⟩
  rcases he with rfl | rfl <;> exact j
open Go
def sy (n:Nat) (l:List Nat):List Nat:=(sU n).filter (dj l)
theorem PO {n} {l} {j} (h:n<=j->dj l j=false):dj (sy n l) j=dj l j:=by
 rw [fE];constructor
 ·intro g;exact (gx.1 (gi g)).2
 ·intro g;refine zn (gx.2 ⟨qN.2 ?_,g⟩);grind
def Zp:List Nat->List Nat->Bool
 | [],[]=>true
 | a::r,b::s=>Nat.beq a b&&Zp r s
 | _,_=>false
theorem TO:∀ {a b:List Nat},Zp a b=true->a=b
 | [],[],_=>rfl
 | a::r,b::s,h=>by
  simp only [Zp,al] at h;rw [aj h.1,TO h.2]
def LX (m:List Nat):List (List Nat)->List (List Nat)
 | []=>[m]
 | a::r=>bif Zp a m then a::r else a::LX m r
theorem Ih (m:List Nat):∀ L,m∈LX m L
 | []=>by simp [LX]
 | a::r=>by
  simp only [LX]
  cases h:Zp a m with
  | true=>rw [TO h]; simp
  | false=>simp [Ih m r]
theorem qO {m x:List Nat}:∀ {L},x∈L->x∈LX m L
 | a::r,h=>by
  simp only [LX]
  cases Zp a m with
  | true=>exact h
  | false=>
   rcases bF.1 h with rfl | h
   ·simp
   ·simp [qO (m:=m) h]
def Xi (n:Nat) (m:List Nat):List Nat->List (List Nat)->List (List Nat)
 | [],L=>L
 | i::r,L=>LX (sy n (i::m)) (Xi n m r L)
theorem xq {n:Nat} {m x:List Nat} {L:List (List Nat)} (h:x∈L):∀ l,x∈Xi n m l L
 | []=>h
 | _::r=>qO (xq h r)
theorem Ij {n:Nat} {m:List Nat} {L:List (List Nat)} {i:Nat}:∀ {l},i∈l->sy n (i::m)∈Xi n m l L
 | j::r,h=>by
  rcases bF.1 h with rfl | h
  ·exact Ih _ _
  ·exact qO (Ij h)
def SS (n:Nat) (all:List Oper):List (List Nat)->List (List Nat)
 | []=>[]
 | m::r=>Xi n m (iU m all 0) (SS n all r)
theorem Ci {n:Nat} {all:List Oper} {m:List Nat} {i:Nat} (hi:i∈iU m all 0):∀ {L},m∈L->sy n (i::m)∈SS n all L
 | x::r,h=>by
  rcases bF.1 h with rfl | h
  ·exact Ij hi
  ·exact xq (Ci hi h) _
section
variable {Γ:ce} (hΓ:Γ.OK) {T:eS} (hT:T.OK Γ.P) {all:List Oper} {Q:Exit->Act->World->Prop} {w0:World} {a0:Act}
include hΓ hT in
theorem Vg (guards) {K} {fuel} {listed} {s} (R:Nat->St->Prop) (H:∀ i s,i∈iU listed all 0->R i s->TB Γ all K fuel (i::listed) s) (h:match iU listed all 0 with
   | []=>K s
   | i::r=>MP (i::r) fun i=>match qj all i with
    | none=>False
    | some o=>match j3 all s o with
     | 0=>Dc T (aq Γ.P) (bX Γ.P) guards s o (R i)
     | 1=>fx s o.dst .undef (R i)
     | _=>False):TB Γ all K (fuel+1) listed s:=by
 refine ⟨fun Q w0 a0 b D arr a w m y p F G=>?_⟩;refine ⟨fun U=>?_,fun i hi=>?_⟩
 ·split at h
  ·grind
  ·rename_i i r he;exfalso;have hm:i∈iU listed all 0:=by rw [he]; exact a7 ..
   rw [iB] at hm;obtain ⟨o,_,h2,E,M⟩:=hm;have h2:all[i]?=some o:=by simpa using h2
   have q:i<all.length:=(am.1 h2).1
   have:i∈Region.ready .any all.toArray arr:=by
    rw [gB];refine ⟨?_,o,by simpa using h2,fun e he B=>by grind⟩;rw [<- E,<- y,aG,aG,aE ar];rfl
   grind
 ·have hm:=wh m y hi;split at h
  ·grind
  ·rename_i i0 r0 he;have l:=hm;rw [he] at hm;have h:=ou h i hm;rw [<- he,iB] at hm;obtain ⟨o,_,h2,E,M⟩:=hm;have h2:all[i]?=some o:=by simpa using h2
   have q:i<all.length:=(am.1 h2).1;have c:∀ d,o.dst=some d->d<Γ.nt:=fun d n=>b i d (by rw [eF,h2]; exact n)
   have hA':∀ j,(arr.setIfInBounds i true).getD j false=dj (i::listed) j:=by
    intro j;rw [aG,dn,dj];by_cases hj:i=j
    ·subst hj;rw [aX rfl,aX ar]; simp
    ·rw [aV hj,<- aG,y,show Nat.beq i j=false from by cases B:Nat.beq i j with | false=>rfl | true=>exact absurd (aj B) hj]; rfl
   rw [fj,h2] at h;simp only at h;rw [wpOpIn,show all.toArray[i]?=some o by simpa using h2];simp only;split at h
   ·rename_i z;rw [dx b p 0 z ar];simp only [ea,c5];refine s6 hΓ hT p c h ?_;intro s' J w' N A t v;exact (H i _ l N).out Q w0 a0 b D _ J w' (by simpa using m) hA' A (F.trans t) (G.trans ((FT.put v).mono fun d n=>iW h2 n))
   ·rename_i z;rw [dx b p 1 z ar];simp only [Nat.reduceBEq,bv,cu];refine ⟨fun f _=>hΓ.fn f,?_⟩;obtain ⟨s2,x,u⟩:=fT p c h;exact (H i _ l x).out Q w0 a0 b D _ _ w (by simpa using m) hA' u F (G.trans ((FT.put ⟨_,rfl⟩).mono fun d n=>iW h2 n))
   ·exact h.elim
end
section
variable {Γ:ce} {all:List Oper} {K:St->Prop} {fuel:Nat}
theorem Xs {l} {s s2} (hle:s.le s2) (h:TB Γ all K fuel (sy all.length l) s2):TB Γ all K fuel l s:=
 ⟨fun Q w0 a0 b f arr a w c i d m e=>h.out Q w0 a0 b f arr a w c (fun j=>by
  rw [PO fun hj=>?_]
  ·exact i j
  grind) (d.less hle) m e⟩
structure Xr {X:Type} (sh:X->List Nat->St) (m:List Nat) (s:St):Prop where
 out:∃ x,s.le (sh x m)
structure LeB (s s':St):Prop where
 out:s.le s'
theorem Xr.go {X} {sh:X->List Nat->St} {m:List Nat} {s:St} (x:X) (h:Zl m fun m=>(sh x m).go fun s'=>LeB s s'):Xr sh m s:=⟨x,by
 rw [Dt,St.go_eq] at h; exact h.out⟩
structure TL (Γ:ce) (all:List Oper) (K:St->Prop) {X:Type} (sh:X->List Nat->St) (fuel:Nat) (L:List (List Nat)):Prop where
 out:∀ m∈L,∀ x,TB Γ all K fuel m (sh x m)
variable {X:Type} {sh:X->List Nat->St} {L:List (List Nat)}
theorem TL.start {s} (sh:X->List Nat->St) (x:X) (hle:s.le (sh x [])) (h:TL Γ all K sh fuel [[]]):TB Γ all K fuel [] s:=
 ⟨fun Q w0 a0 b e arr a w c j d i f=>(h.out [] cU x).out Q w0 a0 b e arr a w c j (d.less hle) i f⟩
theorem TL.done (m) (a:iU m all 0=[]) (h:∀ x,(sh x m).go K):TL Γ all K sh 0 [m]:=
 ⟨fun m' hm x=>by
  grind [St.go_eq,TB.done]⟩
inductive BH {α:Type} (p:α->Prop):List α->Prop where
 | nil:BH p []
 | cons {a:α} {r:List α} (h:p a) (t:BH p r):BH p (a::r)
theorem BH.get {α} {p:α->Prop} {l:List α} (h:BH p l):∀ x∈l,p x:=by
 induction h with
 | nil=>intro x hx; cases hx
 | cons h _ a=>
  grind
def Xq (T:eS) (C:FuncId->List AV->AV->Prop) (E:vC) (all:List Oper) (guards:List Nat) (sh:X->List Nat->St) (m:List Nat) (x:X) (i:Nat):Prop:=match qj all i with
  | none=>False
  | some o=>(sh x m).go fun s0=>match j3 all s0 o with
   | 0=>Dc T C E guards s0 o fun s=>Xr sh (sy all.length (i::m)) s
   | 1=>fx s0 o.dst .undef fun s=>Xr sh (sy all.length (i::m)) s
   | _=>False
structure TLm (T:eS) (C:FuncId->List AV->AV->Prop) (E:vC) (all:List Oper) (guards:List Nat) (sh:X->List Nat->St) (m:List Nat):Prop where
 out:∃ i r,iU m all 0=i::r/\BH (fun i=>∀ x,Xq T C E all guards sh m x i) (i::r)
theorem TLm.mk' {T} {C} {E} {guards} {m} (i) (r) (a:iU m all 0=i::r) (h:BH (fun i=>∀ x,Xq T C E all guards sh m x i) (i::r)):TLm T C E all guards sh m:=⟨i,r,a,h⟩
theorem TL.step (hΓ:Γ.OK) {T} (hT:T.OK Γ.P) (guards) (L') (n:SS all.length all L=L') (h:BH (fun m=>TLm T (aq Γ.P) (bX Γ.P) all guards sh m) L) (c:TL Γ all K sh fuel L'):TL Γ all K sh (fuel+1) L:=by
 subst n;refine ⟨fun m hm x=>Vg hΓ hT guards (fun i s=>Xr sh (sy all.length (i::m)) s) (fun _ _ hi ⟨f,hle⟩=>Xs hle (c.out _ (Ci hi hm) f)) ?_⟩;obtain ⟨i,r,b,h⟩:=h.get m hm;rw [b]
 have a:∀ l:List Nat,(∀ j∈l,Xq T (aq Γ.P) (bX Γ.P) all guards sh m x j)->MP l fun i=>match qj all i with
    | none=>False
    | some o=>match j3 all (sh x m) o with
     | 0=>Dc T (aq Γ.P) (bX Γ.P) guards (sh x m) o fun s=>Xr sh (sy all.length (i::m)) s
     | 1=>fx (sh x m) o.dst .undef fun s=>Xr sh (sy all.length (i::m)) s
     | _=>False:=by
  intro l
  induction l with
  | nil=>intro _; trivial
  | cons j r e=>
   intro g;have g1:=g j cU;have g2:=e fun q d=>g q (by simp [d]);unfold Xq at g1;simp only [St.go_eq] at g1
   cases r with
   | nil=>exact g1
   | cons q r=>exact ⟨g1,g2⟩
 exact a _ fun j hj=>h.get j hj x
end
open Go Go.ChangeShapes Go.WideShapes Go.RowKit
theorem S7 {H} {enc:TypeId×Value->H} {C} {os} {f} {fn} {s} {conds} {fresh handsOn again} {n} {sh} {tb} {laid}
  (own:ownKnob C.prog.godebug=none) (c:os.Started) (m:C.prog.inits.idxOf? f=none) (Z:C.prog.funcs[f]?=some fn)
  (l:∃ (w:World) (tape:Tape) (i:Input),w.os=os/\(w.forCall tape i).Shaped C.prog/\i.vars=[]/\Input.okWide C.prog (w.forCall tape i) .any w.heap.size f i /\
   ((s.pre enc C.prog fn conds false (w.forCall tape i).memory i.args/\laidMetH C.prog laid (w.forCall tape i).memory)/\sizedMet enc C.prog fn (OpenSpec.ofChange s) false (w.forCall tape i).memory i.args)/\({}:Assume).holds C.prog (lone (Frame.enter C.prog f i.args .normal) [] (w.forCall tape i)))
  (a:s.vars=[]) (o:fn.resultTypes=#[tb]) (B:C.prog.underlying tb=some .bool)
  (A:∀ ds:List (DataW H),ds.length=fn.params.size->s.fn H ds={ results:=[.lit (.bool true)],args:=ds })
  (Q:o0 C.prog n fn.params.toList=some sh) (hl:laidOutB C.prog=true) (z:∀ t∈fn.params.toList,C.prog.readableRec t=true/\t<C.prog.types.size)
  (G:∀ W,laidMetH C.prog laid W->(gf C.prog).le (kU W)) (law:∀ avs,vA n sh avs->aq C.prog f avs (.bool true)) :
  ReturnsInHanded {} C os f .any (fun w args=>(s.pre enc C.prog fn conds false w args/\laidMetH C.prog laid w)/\sizedMet enc C.prog fn (OpenSpec.ofChange s) false w args) (s.post enc C.prog fn false fresh handsOn again):=by
 refine returnsInHanded_of_change_and (X:=fun w _=>laidMetH C.prog laid w) (fun _ _ _ hh h=>h.of_heap hh) own c m Z l ?_;intro W base args ds gs before D L _ _ hL _;have hW':=L;have u:=L.lt;obtain ⟨p,q,M,hV,rfl,E,hnd⟩:=L;rw [a] at hV;obtain ⟨rfl,rfl⟩:=trodVars_none hV;simp only [bR] at hW' u E;obtain ⟨avs,h1,h2,h3⟩:=O6 fn.params.toList sh Q args.toList ds p M (fun j t v g1 g2=>D j t v (by simpa using g1) (by simpa using g2));have hc:=(law avs h1).2 (kU W) W args.toList (PN W) (G W hL) h2 h3;refine hc.mono ?_;rintro e J ⟨v,m',rfl,N,_,_,d,_⟩;have hv:v = .bool true:=by cases N; rfl
 subst hv;refine ⟨_,rfl,?_⟩;have F:ds.length=fn.params.size:=by have:=(Go.trodAll_length M).2; simpa using this
 have U:=A ds F
 have hres':∀ (b:Nat) (sp:Nat->Bool) (hd:Bool),DataW.TrodAll enc C.prog J b sp hd fn.resultTypes.toList ((Value.bool true).resultList fn.resultTypes.size) [.lit (.bool true)] []:=fun b sp hd=>by
  rw [o]; exact trodAll_mk1 (shut_bool B true)
 have y:∀ sp:Nat->Bool,(∀ x∈p,sp x.block=true)->DataW.TrodAll enc C.prog J 0 sp true fn.params.toList args.toList ds p:=fun sp hs=>Cz hl d z M u hs;have P:∀ (j:Nat) (t:TypeId) (r:Value),fn.resultTypes[j]?=some t->((Value.bool true).resultList fn.resultTypes.size)[j]?=some r->Value.okWide C.prog J .any 0 t r:=ok_one o rfl (okWide_bool_mk B true);refine ⟨ds,[],p,[],p,[],hW',?_,?_,?_,World.keptBut_mono (fun x hx=>⟨hx,.inr (.inl hx)⟩) (d.frame (·∈p)),fun _=>⟨P,.lit (.bool true)::ds,[],p,⟨p,[],?_,?_,by simp,?_,fun hc=>Bool.noConfusion hc⟩,fun x hx _=>hx⟩⟩
 ·grind
 ·grind
 ·rw [bR,U,a]; rfl
 ·have:=trodAll_append (y (fun _=>true) fun _ _=>rfl) (hres' 0 (fun _=>true) true);simpa using this
 ·rw [a]; rfl
 ·intro b off hp;rw [d.frozen (u _ hp)];exact E b off hp
theorem Iq {P:Program} {w:World} {n:String} {d:DataW Unit}:∀ {l:List (String×DataW Unit)} {ps:List MemPlace},DataW.LaidVars P w l ps->(n,d)∈l ->
  ∃ g t cs fuel p,P.globalNamed n=some g/\(P.globals[g]?).map (·.type)=some t/\w.var? P n=some cs/\DataW.trod (fun _=>()) P w 0 (fun _=>true) false fuel t cs.toList=some (d,p)
 | [],_,_,h=>nomatch h
 |(_,_)::r,ps,hl,h=>by
  obtain ⟨g,t,cs,fuel,p,q,h1,h2,a,b,c,_⟩:=hl;rcases bF.1 h with e | h
  ·cases e;exact ⟨g,t,cs,fuel,p,h1,h2,a,b⟩
  ·exact Iq c h
theorem WH {P} {laid} {g t e} (w:P.globalNamed "math/bits.deBruijn64tab" = some g) (u:(P.globals[g]?).map (·.type)=some t) (G:∀ b x,P.globals[b]?=some x->(x.name == "math/bits.deBruijn64tab")=true->b=g)
  (hu:P.underlying t=some (.array 64 e)) (he:P.underlying e=some (.int .u8)) (H:P.cellsOf e=1) (F:(laid.all fun x=>x.2.handleName?.isNone)=true)
  (i:("math/bits.deBruijn64tab",DataW.agg (Lib.deBruijn64tab.map fun (n:Nat)=>DataW.lit (.int .u8 (n:Int))))∈laid) (W) (h:laidMetH P laid W):(gf P).le (kU W):=by
 rw [MakeChecks.laidMetH_plain _ _ _ F] at h;obtain ⟨ps,hl,_⟩:=h;obtain ⟨M,J,cs,fuel,p,h1,h2,E,z⟩:=Iq hl i;obtain rfl:=iK (w.symm.trans h1);obtain rfl:=iK (u.symm.trans h2);obtain ⟨xs,m,_,hx,hlen,D,l⟩:=DataW.trod_array hu z;refine ⟨fun b o v hv=>?_,fun b x hx=>nomatch hx⟩;unfold gf at hv;dsimp only at hv
 cases j:P.globals[b]? with
 | none=>rw [j] at hv; cases hv
 | some q=>
  rw [j] at hv;simp only at hv
  cases d:q.name == "math/bits.deBruijn64tab" with
  | false=>rw [d] at hv; cases hv
  | true=>
   rw [d] at hv;obtain rfl:=G b q j d;simp only [aR] at hv
   cases c:Lib.deBruijn64tab[o]? with
   | none=>rw [c] at hv; cases hv
   | some n=>
   rw [c] at hv;obtain rfl:Value.int .u8 (n:Int)=v:=iK hv;have B:o<64:=(am.1 c).1;have hi:=l o B;rw [H,gO] at hi;have f:xs[o]?=some xs[o]:=ai ar;rw [f] at hi;obtain ⟨k,N,A,_⟩:=DataW.trod_int he hi
   have hm:(xs.map (·.1))[o]?=some (.lit (.int .u8 (n:Int))):=by
    simp only [er,DataW.agg.injEq] at hx;rw [<- hx.1,aQ,c]; rfl
   rw [aQ,f,A] at hm;have y:k=(n:Int):=by simpa using hm
   subst y;have:=World.var?_cell h1 E o;show W.cell? ⟨b,o,none⟩=_;rw [this,<- cL]
   have i:(cs.toList.drop o).head?=some (.int .u8 (n:Int)):=by
    cases L:cs.toList.drop o with
    | nil=>grind
    | cons a r=>grind
   rwa [AS] at i
open Go
def pr:List (Nat×List AV)->List Nat->List (Nat×List AV)
 | [],_=>[]
 |(d,cs)::r,l=>bif dj l d then pr r l else match cs with
  | []=>pr r (d::l)
  | c::cs=>(d,c::cs)::pr r (d::l)
theorem pq:∀ {b:List (Nat×List AV)} {l:List Nat} {d:Nat} {cs:List AV},get (pr b l) d=some cs->dj l d=false/\get b d=some cs
 | [],_,_,_,h=>nomatch h
 |(k,xs)::r,l,d,cs,h=>by
  have key:get (pr r (k::l)) d=some cs->dj l d=false/\get ((k,xs)::r) d=some cs:=fun h=>by
   obtain ⟨h1,h2⟩:=pq h
   have a:Nat.beq k d=false:=by
    cases e:Nat.beq k d with
    | false=>rfl
    | true=>rw [<- aj e,dv.2 a7] at h1; cases h1
   refine ⟨?_,by simp only [get,a]; exact h2⟩
   cases hm:dj l d with
   | false=>rfl
   | true=>rw [dv.2 (a6 _ (dv.1 hm))] at h1; cases h1
  unfold pr at h
  cases f:dj l k with
  | true=>
   rw [f] at h;obtain ⟨h1,h2⟩:=pq (show get (pr r l) d=some cs from h)
   have a:Nat.beq k d=false:=by
    cases e:Nat.beq k d with
    | false=>rfl
    | true=>rw [<- aj e,f] at h1; cases h1
   exact ⟨h1,by simp only [get,a]; exact h2⟩
  | false=>
   rw [f] at h
   cases xs with
   | nil=>exact key h
   | cons x xs=>
    simp only [br,get] at h
    cases e:Nat.beq k d with
    | true=>
     rw [e] at h;rw [<- aj e];exact ⟨f,by simpa [get] using h⟩
    | false=>rw [e] at h; exact key h
def St.cb (s:St):St:=⟨s.t,pr s.b []⟩
theorem St.cb_le (s:St):s.le s.cb:=⟨fun _ _ h=>h,fun _ _ h _=>(pq h).2⟩
def YE (n:Int) (K:Int->Prop):Prop:=match n with
 | .ofNat 0=>K (.ofNat 0)
 | .ofNat (m+1)=>K (.ofNat (m+1))
 | .negSucc 0=>K (.negSucc 0)
 | .negSucc (m+1)=>K (.negSucc (m+1))
theorem WM (n) (K):YE n K=K n:=by unfold YE; split <;> rfl
def AV.frc1 (v:AV) (K:AV->Prop):Prop:=match v with
 | .int k n=>YE n fun n=>K (.int k n)
 | .bool b=>match b with
  | true=>K (.bool true)
  | false=>K (.bool false)
 | v=>v.go1 K
theorem tD (v) (K:AV->Prop):v.frc1 K=K v:=by
 cases v with
 | int k n=>exact WM n fun n=>K (.int k n)
 | bool b=>cases b <;> rfl
 | _=>rfl
def zo {α:Type} (f:α->(α->Prop)->Prop):List α->(List α->Prop)->Prop
 | [],K=>K []
 | v::r,K=>f v fun v=>zo f r fun r=>K (v::r)
theorem mj {α:Type} {f:α->(α->Prop)->Prop} (h:∀ v K,f v K=K v):∀ (l:List α) (K:List α->Prop),zo f l K=K l
 | [],_=>rfl
 | v::r,K=>by rw [zo,h,mj h r]
def AV.frc2 (v:AV) (K:AV->Prop):Prop:=match v with
 | .sl o sz xs=>zo (zo AV.frc1) xs fun xs=>K (.sl o sz xs)
 | v=>v.frc1 K
theorem lj (v) (K:AV->Prop):v.frc2 K=K v:=by
 cases v with
 | sl o sz xs=>exact mj (mj tD) xs fun xs=>K (.sl o sz xs)
 | int k n=>exact tD (.int k n) K
 | bool b=>exact tD (.bool b) K
 | _=>rfl
def AV.frc (v:AV) (K:AV->Prop):Prop:=match v with
 | .agg cs=>zo AV.frc2 cs fun cs=>K (.agg cs)
 | .me g k n xs=>match g with
  | .ents=>K (.me .ents k n xs)
  | g=>zo (zo AV.frc2) xs fun xs=>K (.me g k n xs)
 | v=>v.frc2 K
theorem AV.frc_eq (v) (K:AV->Prop):v.frc K=K v:=by
 cases v with
 | agg cs=>exact mj lj cs fun cs=>K (.agg cs)
 | me g k n xs=>cases g <;> first | rfl | exact mj (mj lj) xs fun xs=>K (.me _ k n xs)
 | int k n=>exact lj (.int k n) K
 | bool b=>exact lj (.bool b) K
 | sl o sz xs=>exact lj (.sl o sz xs) K
 | _=>rfl
def St.frc (s:St) (K:St->Prop):Prop:=match s with
 | ⟨t,b⟩=>zo (fun p K=>match p with | (k,v)=>v.frc fun v=>K (k,v)) t fun t=>zo (fun p K=>match p with | (k,cs)=>zo AV.frc2 cs fun cs=>K (k,cs)) b fun b=>K ⟨t,b⟩
theorem St.frc_eq (s) (K:St->Prop):s.frc K=K s:=by
 obtain ⟨t,b⟩:=s;exact (mj (fun ⟨k,v⟩ K=>AV.frc_eq v fun v=>K (k,v)) t _).trans (mj (fun ⟨k,v⟩ K=>mj lj v fun v=>K (k,v)) b fun b=>K ⟨t,b⟩)
def rnd (Γ:ce) (c:Code) (K:Exit->St->Prop):Nat->St->Prop
 | 0,_=>False
 | n+1,s=>aJ Γ s c fun e s'=>match e with | .normal=>s'.cb.frc fun s'=>rnd Γ c K n s' | e=>K e s'
section
variable {Γ:ce} {s:St} {c:Code} {K:Exit->St->Prop}
theorem aJ.unroll (n) (h:rnd Γ c K n s):aJ Γ s (.loop c) K:=by
 refine aJ.loop (X:=Nat×St) (fun x=>x.2) (fun x=>rnd Γ c K x.1 x.2) (fun x=>x.1) (n,s) h (.refl s) fun x hx=>?_;obtain ⟨n,s⟩:=x
 cases n with
 | zero=>exact hx.elim
 | succ n=>exact ⟨SP.mono (aJ.out hx) fun e s' h=>by cases e <;> first | exact ⟨(n,s'.cb),by rwa [St.frc_eq] at h,jy n,s'.cb_le⟩ | exact h⟩
def Yg {ι α:Type} (Y:YM ι α) (c:Code) (K:Exit->sQ ι->St->Prop):Nat->sQ ι->St->Prop
 | 0,_,_=>False
 | n+1,g,s=>io Y g s c fun e g s'=>match e with | .normal=>s'.cb.frc fun s'=>Yg Y c K n g s' | e=>K e g s'
theorem io.unroll {ι α} {Y:YM ι α} {g} {s} {c} {K} (n) (h:Yg Y c K n g s):io Y g s (.loop c) K:=by
 refine io.loop (X:=Nat×sQ ι×St) (fun x=>x.2) (fun x=>Yg Y c K x.1 x.2.1 x.2.2) (fun x=>x.1) (n,g,s) h rfl (.refl s) fun x hx=>?_;obtain ⟨n,g,s⟩:=x
 cases n with
 | zero=>exact hx.elim
 | succ n=>exact io.mono hx fun e a s' h=>by cases e <;> first | exact ⟨(n,a,s'.cb),by rwa [St.frc_eq] at h,jy n,rfl,s'.cb_le⟩ | exact h
theorem kL {a b} (h:∀ Z:St->Prop,(∀ s',aJ Γ s' b K->Z s')->aJ Γ s a fun e s'=>match e with | .normal=>Z s' | e=>K e s'):aJ Γ s (.seq a b) K:=aJ.seq (h _ fun _ h=>h)
theorem Y7 (e0) (S) (h:aJ Γ s c fun e s'=>e=e0/\s'.le S) (k:K e0 S):aJ Γ s c K:=by
 refine ⟨fun a w b=>db (h.out a w b) fun e j w' ⟨h1,h2,s',d,f,i⟩=>?_⟩;subst f;exact ⟨h1,h2,S,d.less i,k⟩
theorem rC (d) (_:s.tmp d = .loc d 0) (h:Bd [.tmp d] s fun s' _=>aJ Γ s' c K):aJ Γ s c K:=ji [.tmp d] h
theorem Y8 (h:∀ Z:Exit->St->Prop,(∀ e s',K e s'->Z e s')->aJ Γ s c Z):aJ Γ s c K:=h K fun _ _ h=>h
def Cg (a:List Nat):List (Nat×List AV)->List (Nat×List AV)
 | []=>[]
 |(d,cs)::r=>bif dj a d then (d,cs)::Cg a r else Cg a r
theorem wk {f:List Nat}:∀ {b:List (Nat×List AV)} {d:Nat} {cs:List AV},get (Cg f b) d=some cs->dj f d=true/\get b d=some cs
 | [],_,_,h=>nomatch h
 |(k,xs)::r,d,cs,h=>by
  unfold Cg at h
  cases e:dj f k with
  | true=>
   rw [e] at h;simp only [aR,get] at h ⊢
   cases a:Nat.beq k d with
   | true=>rw [a] at h; rw [<- aj a]; exact ⟨e,h⟩
   | false=>rw [a] at h; exact wk h
  | false=>
   rw [e] at h;obtain ⟨h1,h2⟩:=wk (show get (Cg f r) d=some cs from h)
   have i:Nat.beq k d=false:=by
    cases a:Nat.beq k d with
    | false=>rfl
    | true=>rw [aj a] at e; rw [e] at h1; cases h1
   exact ⟨h1,by simp only [get,i]; exact h2⟩
def mb (a:List Nat) (s:St):St:=⟨a.map fun k=>(k,s.tmp k),Cg a (pr s.b [])⟩
def Tj (a:List Nat) (s:St):Bool:=a.all fun k=>(get s.t k).isSome
theorem uc {ks} {s} (h:Tj ks s=true):s.le (mb ks s):=by
 refine ⟨fun d x hx=>?_,fun _ _ h _=>(pq (wk h).2).2⟩
 induction ks with
 | nil=>cases hx
 | cons k r b=>
  simp only [Tj,qg,al] at h;simp only [mb,cp,get] at hx
  cases a:Nat.beq k d with
  | true=>
   rw [a] at hx;rw [<- aj a];cases hx;obtain ⟨y,hy⟩:=my.1 h.1;rw [St.tmp,hy]
  | false=>rw [a] at hx; exact b h.2 hx
theorem mN (ks) (s):fV (mb ks s).t=ks:=by
 unfold mb
 induction ks with
 | nil=>rfl
 | cons k r a=>exact ax (k::·) a
def Yf {α:Type} (Γ:ce) (avs:α->List AV) (ps:List Nat) (assign body:Code) (K:Exit->St->Prop) (f:List Nat):List α->St->Prop
 | [],s=>K .normal s
 | x::r,s=>∀ (d:Fence) (a:Nat) (m':dI),ce.OK ⟨Γ.P,d,a,Γ.w0,m',Γ.nt⟩->a=Γ.n - 1 - 1->aJ ⟨Γ.P,d,a,Γ.w0,m',Γ.nt⟩ ⟨AU ps (avs x)++s.t,s.b⟩ assign fun e s1=>e = .normal/\s1.le s /\
   aJ ⟨Γ.P,d,a,Γ.w0,m',Γ.nt⟩ s1 body fun e s2=>Tj f s2=true/\(mb f s2).frc fun q=>match e with
    | .normal=>Yf Γ avs ps assign body K f r q
    | .ret=>K .ret q
    | .exit id=>K (.exit id) q
    | _=>False
theorem eY (E:Γ.OK) (h1:1<=Γ.n) {g} {ps:Array Tmp} {assign body:Code} {α:Type} (avs:α->List AV)
  {f:FuncId} {cap:List AV} {items:List α} (a:List Nat) (A:ev s g = .clo f cap) (i:iA Γ.P avs f cap items) (m:∀ x,(avs x).length=ps.size)
  (B:(mW a (oI assign++(oI body++ps.toList))&&mW a [1000000000]&&mW [1000000000] (oI assign)&&(ps.toList.all fun p=>Nat.blt p Γ.nt))=true) (u:ps.toList.Nodup) (F:Tj a s=true)
  (h:(mb a s).frc fun q=>Yf Γ avs ps.toList assign body K a items q):aJ Γ s (.rangeFunc g ps assign body) K:=by
 rw [St.frc_eq] at h;refine ⟨CK E h1 avs A i m (X:=St) (fun p q=>fV q.t=a/\∃ r,items=p++r/\Yf Γ avs ps.toList assign body K a r q) (fun _ q=>bif decide (fV q.t=a) then q.t else (mb a ⟨[],[]⟩).t) a (fun p q=>?_) (fun _ q=>q.b) (mb a s) ⟨mN _ _,items,rfl,h⟩ ?_ B u ?_ ?_⟩
 ·cases d:decide (fV q.t=a) with
  | true=>exact aH d
  | false=>exact mN a ⟨[],[]⟩
 ·simp only [show decide (fV (mb a s).t=a)=true from dQ (mN _ _),aR];exact uc F
 ·rintro D y m' z _ G pre x q ⟨r0,w⟩ ⟨j,r,o,v⟩;simp only [show decide (fV q.t=a)=true from dQ j,aR];have he:r=x::r0:=aaN (o.symm.trans w);subst he;refine SP.mono (v D y m' z G).out fun e s1 ⟨g1,g2,g3⟩=>⟨g1,g2,SP.mono g3.out fun e s2 ⟨k1,k2⟩=>?_⟩;rw [St.frc_eq] at k2;have d:decide (fV (mb a s2).t=a)=true:=dQ (mN _ _)
  cases e with
  | normal=>exact ⟨mb a s2,⟨mN _ _,r0,by rw [w]; simp,k2⟩,by simp only [d]; exact uc k1⟩
  | ret=>exact ⟨mb a s2,(mb a s2).b,by simp only [d]; exact uc k1,by simp only [d]; exact k2⟩
  | exit id=>exact ⟨mb a s2,(mb a s2).b,by simp only [d]; exact uc k1,by simp only [d]; exact k2⟩
  | goto l=>exact k2.elim
  | panic H=>exact k2.elim
  | outgrown=>exact k2.elim
 ·rintro p q rfl ⟨j,r,o,v⟩;simp only [show decide (fV q.t=a)=true from dQ j,aR];have:r=[]:=aaN (o.symm.trans (bR p).symm);subst this;exact v
end
theorem xF {α β γ δ:Type} {A B C D:α->β->γ->δ->Prop} {a} {b} {c} {d} (h:C a b c d) (k:D a b c d) (f:A a b c d:=by kernel_rfl) (e:B a b c d:=by kernel_rfl):∃ a b c d,(A a b c d/\B a b c d/\C a b c d)/\D a b c d:=⟨a,b,c,d,⟨f,e,h⟩,k⟩
theorem uo {t:List (Nat×AV)} {b n} {sk} {kv} {K:Nat->List (List Int×AV)->List Int->Prop} (k) (l) (key) (h:get t (xk k)=some (.me .ents k b (f8 sk l))) (d:K k l key) (a:kv=keyE sk key:=by rfl) (e:key.length=n:=by rfl) (hl:∀ p∈l,p.1.length=n:=by decide) :
  ∃ (k:Nat) (l:List (List Int×AV)) (key:List Int),(get t (xk k)=some (.me .ents k b (f8 sk l))/\kv=keyE sk key/\key.length=n/\∀ p∈l,p.1.length=n)/\K k l key:=⟨k,l,key,⟨h,a,e,hl⟩,d⟩
theorem PQ {t:List (Nat×AV)} {b n} {sk} {kv} {K:Option AV->Prop} (k) (l) (key) (h:get t (xk k)=some (.me .ents k b (f8 sk l))) (d:K (nj key l)) (a:kv=keyE sk key:=by rfl) (e:key.length=n:=by rfl) (hl:∀ p∈l,p.1.length=n:=by decide) :
  ∃ (k:Nat) (l:List (List Int×AV)) (key:List Int) (g:Option AV),(get t (xk k)=some (.me .ents k b (f8 sk l))/\kv=keyE sk key/\key.length=n/\(∀ p∈l,p.1.length=n)/\nj key l=g)/\K g:=⟨k,l,key,_,⟨h,a,e,hl,rfl⟩,d⟩
open Go
theorem cX {A B} (h:B):(false=true->A)/\(false=false->B):=aa (fun g=>Bool.noConfusion g) (fun _=>h)
theorem cW {A B} (h:A):(true=true->A)/\(true=false->B):=aa (fun _=>h) (fun g=>Bool.noConfusion g)
theorem fc {A B} (h:B) (k:A:=by kernel_rfl):A/\B:=aa k h
theorem gdF {a} {A B} (n:a=false->False) (h:a=true->A):(a=true->A)/\(a=false->B):=aa h fun g=>(n g).elim
theorem gdT {a} {A B} (n:a=true->False) (h:a=false->B):(a=true->A)/\(a=false->B):=aa (fun g=>(n g).elim) h
theorem dF {P} [Decidable P] (h:P) (e:decide P=false):False:=aW e h
theorem dT {P} [Decidable P] (h:¬P) (e:decide P=true):False:=h (aH e)
theorem RF {p:Prop} (h:p:=by repeat' (first | exact trivial | refine aa rfl ?_)):p:=h
theorem nxt {n:Nat} (h:n<9223372036854775807):AV.int .i64 (IntKind.i64.wrap ((n:Int)+1))=AV.int .i64 ((n+1:Nat):Int):=ax _ (by rw [qu]; omega)
theorem wrI {n m} (h:-9223372036854775808<=n) (k:n<=9223372036854775807) (e:n=m):IntKind.i64.wrap n=m:=by rw [qu]; omega
theorem LE {s s':St} (h:Zk s.t s'.t:=by repeat' (first | exact trivial | refine aa rfl ?_ | refine aa (ax some (nxt ar)) ?_ | refine aa (ax (fun z=>some (AV.int .i64 z)) (wrI ar ar ar)) ?_)) (k:Zk s.b s'.b:=by repeat' (first | exact trivial | refine aa rfl ?_)):s.le s':=St.le.of h k
inductive KP (k:List Nat):Prop | mk
def VX:Code->Bool
 | .skip=>true
 | .label _=>true
 | .ret=>true
 | .exit _=>true
 | .block _ _=>true
 | .seq _ _=>true
 | .cond _ _ _=>true
 | .region _ _ _=>true
 | _=>false
def ZD:Code->Bool
 | .seq _ _=>false
 | c=>VX c
def Zz (Γ:ce) (T:eS) (keep es:List Nat) (s:St) (K:Exit->St->Prop):Code->Prop
 | .skip=>K .normal s
 | .label _=>K .normal s
 | .ret=>K .ret s
 | .exit j=>K (.exit j) s
 | .block id c=>aJ Γ s c fun e s'=>match e with
  | .exit j=>bif Nat.beq j id then K .normal s' else K (.exit j) s'
  | e=>K e s'
 | .seq a b=>aJ Γ s a fun e s'=>match e with | .normal=>aJ Γ s' b K | e=>K e s'
 | .cond c x y=>match ev s c with
  | .bool t=>(t=true->aJ Γ s x K)/\(t=false->aJ Γ s y K)
  | _=>False
 | .region id ops true=>dC Γ.nt (.region id ops true)=true/\rU T (aq Γ.P) (bX Γ.P) (es.map (3000000000+·)) keep ops.toList s (K .normal)
 | .region id ops false=>dC Γ.nt (.region id ops false)=true/\lg T (aq Γ.P) (bX Γ.P) ops.toList (es.map (3000000000+·)++dw ops.toList ops.toList) ops.toList s fun s'=>ga keep s' (K .normal)
 | _=>False
theorem QE {Γ} {T} {s} {K} {c} {keep} (es) (hc:VX c=true) (hΓ:Γ.OK) (hT:T.OK Γ.P) (_:KP keep) (h:Zz Γ T keep es s K c):aJ Γ s c K:=by
 cases c with
 | skip=>exact ij hΓ hT [] rfl h
 | label l=>exact ij hΓ hT [] rfl h
 | ret=>exact ij hΓ hT [] rfl h
 | exit j=>exact ij hΓ hT [] rfl h
 | block id c=>exact aJ.block h
 | seq a b=>exact aJ.seq h
 | cond c x y=>
  simp only [Zz] at h;split at h
  ·rename_i t ht; exact aJ.cond ht h
  ·exact h.elim
 | region id ops d=>
  cases d with
  | true=>exact dh hΓ hT keep es h.1 h.2
  | false=>exact dH hΓ hT keep es h.1 h.2
 | _=>cases hc
theorem QS {Γ} {T} {s} {K} {c} {keep} (hc:VX c=true) (hΓ:Γ.OK) (hT:T.OK Γ.P) (kp:KP keep) (h:Zz Γ T keep [] s K c):aJ Γ s c K:=QE [] hc hΓ hT kp h
theorem QN {Γ} {T} {s} {K} {c} {keep} (hc:ZD c=true) (hΓ:Γ.OK) (hT:T.OK Γ.P) (kp:KP keep) (h:Zz Γ T keep [] s K c):aJ Γ s c K:=QE [] (by cases c <;> first | exact hc | cases hc) hΓ hT kp h
theorem QF {Γ} {T} {s} {K} {c} {keep} (es) (hc:ZD c=true) (hΓ:Γ.OK) (hT:T.OK Γ.P) (kp:KP keep) (h:Zz Γ T keep es s K c):aJ Γ s c K:=QE es (by cases c <;> first | exact hc | cases hc) hΓ hT kp h
theorem xE {α β γ δ ε:Type} {A B C D:α->β->γ->δ->ε->Prop} {a} {b} {c} {d} {e} (h:C a b c d e) (k:D a b c d e) (hA:A a b c d e:=by kernel_rfl) (hB:B a b c d e:=by kernel_rfl):∃ a b c d e,(A a b c d e/\B a b c d e/\C a b c d e)/\D a b c d e:=⟨a,b,c,d,e,⟨hA,hB,h⟩,k⟩
def stM {ι α:Type} (Y:YM ι α) (T:eS) (keep:List Nat) (g:sQ ι) (s:St) (K:Exit->sQ ι->St->Prop):Code->Prop
 | .skip=>K .normal g s
 | .label _=>K .normal g s
 | .ret=>K .ret g s
 | .exit j=>K (.exit j) g s
 | .block id c=>io Y g s c fun e g s=>match e with | .exit j=>bif Nat.beq j id then K .normal g s else K (.exit j) g s | e=>K e g s
 | .seq a b=>io Y g s a fun e g' s'=>match e with | .normal=>io Y g' s' b K | e=>K e g' s'
 | .cond c x y=>match ev s c with
  | .bool t=>(t=true->io Y g s x K)/\(t=false->io Y g s y K)
  | _=>False
 | .region id ops false=>dC Y.nt (.region id ops false)=true/\pB Y T ops.toList (dw ops.toList ops.toList) ops.toList g s fun g s=>ga keep s (K .normal g)
 | _=>False
theorem QM {ι α} {Y:YM ι α} {T} {keep} {g} {s} {K} {c} (hc:VX c=true) (hY:Y.OK) (hT:T.OK Y.P) (_:KP keep) (h:stM Y T keep g s K c):io Y g s c K:=by
 cases c with
 | skip=>exact io.skip h
 | label l=>exact io.label h
 | ret=>exact io.ret h
 | exit j=>exact io.exit h
 | block id c=>exact io.block h
 | seq a b=>exact io.seq h
 | cond c x y=>
  simp only [stM] at h;split at h
  ·rename_i t ht; exact io.cond ht h
  ·exact h.elim
 | region id ops d=>
  cases d with
  | true=>exact h.elim
  | false=>exact io.reg hY hT keep h.1 h.2
 | _=>cases hc
theorem Oe {Γ} {T} {s} {K} {id} {ops} {keep} {M} (hΓ:Γ.OK) (hT:T.OK Γ.P) (hM:∀ t,M t->AK Γ.P t) (_:KP keep) (ho:dC Γ.nt (.region id ops false)=true)
  (h:rT T (aq Γ.P) M ops.toList (dw ops.toList ops.toList) ops.toList s fun s'=>ga keep s' (K .normal)):aJ Γ s (.region id ops false) K:=m9 hΓ hT hM keep ho h
end Go.AI
namespace Go.Proofs
open Go Go.AI
def jK:eS:=[
 (3,⟨1,8,.int .i64 0,[],0,0,4,.i64,false⟩),
 (38,⟨2,16,.agg [.int .i64 0,.int .i64 0],[(0,3),(1,3)],1,0,1,.i64,true⟩),
 (27,⟨1,24,.sl .full 0 [],[],0,3,3,.i64,false⟩),
 (4,⟨1,1,.bool false,[],0,0,5,.i64,false⟩),
 (61,⟨1,24,.agg [.sl .full 0 []],[(0,27)],0,0,1,.i64,false⟩),
 (0,⟨1,0,.junk,[],0,0,0,.i64,false⟩),
 (89,⟨12,144,.agg [.int .i64 0,.sl .full 0 [],.int .i64 0,.int .i64 0,.int .i64 0,.int .i64 0,.bool false,.int .i64 0,.int .i64 0,.int .i64 0,.sl .full 0 [],.sl .full 0 []],[(0,3),(1,61),(2,38),(4,3),(5,3),(6,4),(7,3),(8,3),(9,3),(10,27),(11,87)],0,0,1,.i64,false⟩),
 (84,⟨1,24,.sl .full 0 [],[],0,112,3,.i64,false⟩),
 (86,⟨9,88,.agg [.int .i64 0,.int .i64 0,.int .i64 0,.int .i64 0,.int .i64 0,.int .i64 0,.int .i64 0,.int .i64 0,.sl .full 0 []],[(0,3),(1,3),(2,3),(3,3),(4,38),(6,3),(7,3),(8,84)],0,0,1,.i64,false⟩),
 (87,⟨1,24,.sl .full 0 [],[],0,89,3,.i64,false⟩),
 (112,⟨3,24,.agg [.int .i64 0,.int .i64 0,.int .i64 0],[(0,3),(1,38)],1,0,1,.i64,false⟩),
 (68,⟨2,16,.agg [.int .i64 0,.int .i64 0],[(0,3),(1,3)],1,0,1,.i64,true⟩),
 (76,⟨7,56,.agg (List.replicate 7 (.int .i64 0)),[(0,3),(1,3),(2,3),(3,3),(4,3),(5,3),(6,3)],1,0,1,.i64,true⟩),
 (63,⟨7,72,.agg [.int .i64 0,.int .i64 0,.int .i64 0,.sl .full 0 [],.int .i64 0,.int .i64 0,.bool false],[(0,3),(1,3),(2,3),(3,61),(4,3),(5,3),(6,4)],0,0,1,.i64,false⟩),
 (81,⟨6,48,.agg (List.replicate 6 (.int .i64 0)),[(0,3),(1,3),(2,38),(4,38)],1,0,1,.i64,false⟩),
 (78,⟨21,168,.agg (List.replicate 21 (.int .i64 0)),[(0,3),(1,3),(2,76),(9,3),(10,3),(11,3),(12,3),(13,3),(14,3),(15,3),(16,3),(17,3),(18,3),(19,3),(20,3)],1,0,1,.i64,false⟩),
 (287,⟨3,24,.agg [.int .i64 0,.int .i64 0,.int .i64 0],[(0,3),(1,38)],1,0,1,.i64,false⟩),
 (35,⟨1,24,.sl .full 0 [],[],0,86,3,.i64,false⟩),
 (94,⟨2,32,.agg [.int .i64 0,.sl .full 0 []],[(0,3),(1,27)],0,0,1,.i64,false⟩),
 (33,⟨1,24,.sl .full 0 [],[],0,81,3,.i64,false⟩),
 (36,⟨1,24,.sl .full 0 [],[],0,94,3,.i64,false⟩),
 (92,⟨19,200,.agg [.int .i64 0,.int .i64 0,.int .i64 0,.sl .full 0 [],.int .i64 0,.int .i64 0,.int .i64 0,.int .i64 0,.bool false,.int .i64 0,.int .i64 0,.int .i64 0,.sl .full 0 [],.sl .full 0 [],.int .i64 0,.int .i64 0,.bool false,.int .i64 0,.int .i64 0],[(0,3),(1,3),(2,89),(14,3),(15,3),(16,4),(17,3),(18,3)],0,0,1,.i64,false⟩),
 (31,⟨1,24,.sl .full 0 [],[],0,78,3,.i64,false⟩),
 (34,⟨1,24,.sl .full 0 [],[],0,92,3,.i64,false⟩),
 (32,⟨1,24,.sl .full 0 [],[],0,70,3,.i64,false⟩),
 (325,⟨2,16,.agg [.int .i64 0,.int .i64 0],[(0,3),(1,3)],1,0,1,.i64,true⟩),
 (70,⟨6,48,.agg (List.replicate 6 (.int .i64 0)),[(0,3),(1,68),(3,3),(4,3),(5,3)],1,0,1,.i64,false⟩),
 (58,⟨6,64,.agg [.int .i64 0,.int .i64 0,.int .i64 0,.int .i64 0,.sl .full 0 [],.int .i64 0],[(0,3),(1,3),(2,3),(3,3),(4,27),(5,3)],0,0,1,.i64,false⟩),
 (47,⟨4,32,.agg [.int .i64 0,.int .i64 0,.int .i64 0,.int .i64 0],[(0,3),(1,3),(2,3),(3,3)],1,0,1,.i64,true⟩),
 (50,⟨1,24,.sl .full 0 [],[],0,63,3,.i64,false⟩),
 (40,⟨11,216,.agg [.sl .full 0 [],.sl .full 0 [],.sl .full 0 [],.sl .full 0 [],.sl .full 0 [],.sl .full 0 [],.sl .full 0 [],.sl .full 0 [],.int .i64 0,.int .i64 0,.int .i64 0],[(0,31),(1,32),(2,33),(3,34),(4,35),(5,36),(6,27),(7,27),(8,3),(9,38)],0,0,1,.i64,false⟩),
 (117,⟨12,96,.agg (List.replicate 12 (.int .i64 0)),[(1,3)],12,3,2,.i64,false⟩),
 (42,⟨1,24,.sl .full 0 [],[],0,47,3,.i64,false⟩),
 (214,⟨1,24,.sl .full 0 [],[],0,287,3,.i64,false⟩),
 (53,⟨1,24,.sl .full 0 [],[],0,58,3,.i64,false⟩),
 (97,⟨1,8,.lit (.pointer none),[],0,99,7,.i64,false⟩),
 (43,⟨1,8,.int .i64 0,[],0,0,4,.i64,false⟩),
 (352,⟨1,24,.sl .full 0 [],[],0,68,3,.i64,false⟩),
 (323,⟨1,24,.sl .full 0 [],[],0,325,3,.i64,false⟩),
 (72,⟨4,32,.agg [.int .i64 0,.int .i64 0,.int .i64 0,.int .i64 0],[(1,3)],4,3,2,.i64,false⟩),
 (119,⟨18,160,.agg [.int .i64 0,.int .i64 0,.int .i64 0,.int .i64 0,.sl .full 0 [],.int .i64 0,.int .i64 0,.int .i64 0,.int .i64 0,.int .i64 0,.int .i64 0,.int .i64 0,.int .i64 0,.int .i64 0,.int .i64 0,.int .i64 0,.int .i64 0,.int .i64 0],[(0,58),(6,117)],0,0,1,.i64,false⟩),
 (95,⟨3,24,.agg [.int .i64 0,.int .i64 0,.int .i64 0],[(1,3)],3,3,2,.i64,false⟩),
 (26,⟨1,24,.sl .full 0 [],[],0,95,3,.i64,false⟩),
 (242,⟨3,24,.agg [.int .i64 0,.int .i64 0,.int .i64 0],[(0,38),(2,3)],1,0,1,.i64,false⟩),
 (23,⟨1,24,.sl .full 0 [],[],0,72,3,.i64,false⟩),
 (128,⟨5,40,.agg (List.replicate 5 (.int .i64 0)),[(1,3)],5,3,2,.i64,false⟩),
 (83,⟨1,24,.sl .full 0 [],[],0,128,3,.i64,false⟩),
 (127,⟨7,56,.agg (List.replicate 7 (.int .i64 0)),[(1,3)],7,3,2,.i64,false⟩),
 (280,⟨3,24,.agg [.int .i64 0,.int .i64 0,.int .i64 0],[(0,3),(1,3),(2,3)],1,0,1,.i64,true⟩),
 (173,⟨4,32,.agg [.int .i64 0,.int .i64 0,.int .i64 0,.int .i64 0],[(0,3),(1,3),(2,38)],1,0,1,.i64,false⟩),
 (22,⟨1,24,.sl .full 0 [],[],0,127,3,.i64,false⟩),
 (99,⟨13,264,.agg [.sl .full 0 [],.sl .full 0 [],.sl .full 0 [],.sl .full 0 [],.sl .full 0 [],.sl .full 0 [],.sl .full 0 [],.sl .full 0 [],.int .i64 0,.int .i64 0,.int .i64 0,.sl .full 0 [],.sl .full 0 []],[(0,40),(11,42),(12,53)],0,0,1,.i64,false⟩),
 (183,⟨2,16,.agg [.int .i64 0,.int .i64 0],[(1,3)],2,3,2,.i64,false⟩),
 (25,⟨1,24,.sl .full 0 [],[],0,83,3,.i64,false⟩),
 (292,⟨2,32,.agg [.int .i64 0,.sl .full 0 []],[(0,3),(1,27)],0,0,1,.i64,false⟩),
 (132,⟨2,48,.agg [.sl .full 0 [],.sl .full 0 []],[(0,61),(1,61)],1,0,1,.i64,false⟩),
 (24,⟨1,24,.sl .full 0 [],[],0,26,3,.i64,false⟩),
 (206,⟨1,8,.int .u64 0,[],0,0,4,.u64,false⟩),
 (316,⟨1,8,.lit (.pointer none),[],0,3,7,.i64,false⟩),
 (5,⟨1,1,.int .u8 0,[],0,0,4,.u8,false⟩),
 (142,⟨1,8,.lit .nilFunc,[],0,0,8,.i64,false⟩),
 (288,⟨1,8,.lit .nilFunc,[],0,0,8,.i64,false⟩),
 (379,⟨1,8,.lit .nilFunc,[],0,0,8,.i64,false⟩),
 (161,⟨1,8,.lit .nilFunc,[],0,0,8,.i64,false⟩),
 (327,⟨1,8,.lit .nilFunc,[],0,0,8,.i64,false⟩),
 (310,⟨1,8,.lit .nilFunc,[],0,0,8,.i64,false⟩),
 (264,⟨1,8,.int .i64 0,[],0,0,4,.i64,false⟩),
 (312,⟨1,8,.int .u64 0,[],0,0,4,.u64,false⟩),
 (123,⟨1,24,.sl .full 0 [],[],0,119,3,.i64,false⟩),
 (333,⟨2,32,.agg [.sl .full 0 [],.int .i64 0],[(0,50),(1,3)],0,0,1,.i64,false⟩),
 (167,⟨1,24,.sl .full 0 [],[],0,242,3,.i64,false⟩),
 (102,⟨1,8,.lit .nilFunc,[],0,0,8,.i64,false⟩),
 (338,⟨8,64,.agg (List.replicate 8 (.int .i64 0)),[(0,76),(7,3)],1,0,1,.i64,false⟩),
 (274,⟨1,8,.int .u64 0,[],0,0,4,.u64,false⟩),
 (366,⟨1,8,.lit .nilFunc,[],0,0,8,.i64,false⟩),
 (121,⟨1,8,.lit .nilFunc,[],0,0,8,.i64,false⟩),
 (150,⟨1,8,.lit (.map none),[(0,3)],0,3,9,.i64,false⟩),
 (343,⟨2,16,.agg [.int .i64 0,.lit .nilFunc],[(0,3),(1,310)],0,0,1,.i64,false⟩),
 (272,⟨1,4,.int .u32 0,[],0,0,4,.u32,false⟩),
 (359,⟨1,0,.junk,[],0,0,0,.i64,false⟩),
 (144,⟨2,16,.agg [.int .i64 0,.lit .nilFunc],[(0,3),(1,142)],0,0,1,.i64,false⟩),
 (176,⟨1,0,.junk,[],0,0,0,.i64,false⟩),
 (348,⟨1,8,.lit .nilFunc,[],0,0,8,.i64,false⟩),
 (29,⟨10,192,.agg [.int .i64 0,.sl .full 0 [],.sl .full 0 [],.sl .full 0 [],.sl .full 0 [],.sl .full 0 [],.sl .full 0 [],.sl .full 0 [],.int .i64 0,.int .i64 0],[(0,3),(1,22),(2,23),(3,24),(4,25),(5,23),(6,26),(7,27),(8,3),(9,3)],0,0,1,.i64,false⟩),
 (212,⟨1,24,.sl .full 0 [],[],0,173,3,.i64,false⟩),
 (318,⟨1,24,.sl .full 0 [],[],0,280,3,.i64,false⟩),
 (217,⟨1,8,.lit .nilFunc,[],0,0,8,.i64,false⟩),
 (198,⟨48,384,.agg (List.replicate 48 (.int .i64 0)),[(1,3)],48,3,2,.i64,false⟩),
 (44,⟨1,0,.junk,[],0,0,0,.i64,false⟩),
 (151,⟨16,128,.agg (List.replicate 16 (.int .i64 0)),[(1,3)],16,3,2,.i64,false⟩),
 (181,⟨1,0,.junk,[],0,0,0,.i64,false⟩),
 (193,⟨1,8,.lit .nilFunc,[],0,0,8,.i64,false⟩),
 (375,⟨1,8,.lit (.map none),[(0,68)],0,4,9,.i64,false⟩),
 (148,⟨1,8,.lit .nilFunc,[],0,0,8,.i64,false⟩),
 (367,⟨1,8,.lit (.map none),[(0,3)],0,366,9,.i64,false⟩),
 (154,⟨1,0,.junk,[],0,0,0,.i64,false⟩),
 (382,⟨1,8,.lit .nilFunc,[],0,0,8,.i64,false⟩),
 (233,⟨3,24,.agg [.int .i64 0,.int .i64 0,.int .i64 0],[(0,68),(2,3)],1,0,1,.i64,false⟩),
 (265,⟨1,0,.junk,[],0,0,0,.i64,false⟩),
 (180,⟨1,8,.lit (.map none),[(0,117)],0,3,9,.i64,false⟩),
 (187,⟨1,8,.lit .nilFunc,[],0,0,8,.i64,false⟩),
 (331,⟨1,0,.junk,[],0,0,0,.i64,false⟩),
 (179,⟨1,8,.lit .nilFunc,[],0,0,8,.i64,false⟩),
 (186,⟨1,8,.lit .nilFunc,[],0,0,8,.i64,false⟩),
 (221,⟨1,8,.lit .nilFunc,[],0,0,8,.i64,false⟩),
 (222,⟨1,8,.lit .nilFunc,[],0,0,8,.i64,false⟩),
 (225,⟨1,8,.lit .nilFunc,[],0,0,8,.i64,false⟩),
 (234,⟨1,8,.lit .nilFunc,[],0,0,8,.i64,false⟩),
 (246,⟨1,8,.lit .nilFunc,[],0,0,8,.i64,false⟩),
 (260,⟨1,8,.lit .nilFunc,[],0,0,8,.i64,false⟩),
 (344,⟨6,48,.agg [.int .i64 0,.lit .nilFunc,.int .i64 0,.lit .nilFunc,.int .i64 0,.lit .nilFunc],[],3,343,2,.i64,false⟩),
 (349,⟨3,24,.agg [.lit .nilFunc,.lit .nilFunc,.lit .nilFunc],[],3,348,2,.i64,false⟩),
 (350,⟨1,8,.lit .nilFunc,[],0,0,8,.i64,false⟩),
 (358,⟨1,8,.lit (.pointer none),[],0,312,7,.i64,false⟩),
 (364,⟨1,8,.lit (.map none),[(0,3)],0,4,9,.i64,false⟩),
 (407,⟨1,8,.lit .nilFunc,[],0,0,8,.i64,false⟩),
 (157,⟨1,0,.junk,[],0,0,0,.i64,false⟩),
 (169,⟨1,8,.lit .nilFunc,[],0,0,8,.i64,false⟩),
 (226,⟨1,8,.lit .nilFunc,[],0,0,8,.i64,false⟩),
 (235,⟨1,8,.lit .nilFunc,[],0,0,8,.i64,false⟩),
 (245,⟨1,8,.lit .nilFunc,[],0,0,8,.i64,false⟩),
 (146,⟨1,0,.junk,[],0,0,0,.i64,false⟩),
 (174,⟨1,0,.junk,[],0,0,0,.i64,false⟩),
 (182,⟨1,8,.lit .nilFunc,[],0,0,8,.i64,false⟩),
 (196,⟨1,8,.lit .nilFunc,[],0,0,8,.i64,false⟩),
 (199,⟨1152,9216,.agg (List.replicate 1152 (.int .i64 0)),[],24,198,2,.i64,false⟩),
 (200,⟨1,0,.junk,[],0,0,0,.i64,false⟩),
 (428,⟨24,192,.agg (List.replicate 24 (.int .i64 0)),[(1,3)],24,3,2,.i64,false⟩),
 (133,⟨1,0,.junk,[],0,0,0,.i64,false⟩),
 (135,⟨1,0,.junk,[],0,0,0,.i64,false⟩),
 (138,⟨1,0,.junk,[],0,0,0,.i64,false⟩),
 (145,⟨1,24,.sl .full 0 [],[],0,144,3,.i64,false⟩),
 (165,⟨1,0,.junk,[],0,0,0,.i64,false⟩),
 (184,⟨1,24,.sl .full 0 [],[],0,183,3,.i64,false⟩),
 (228,⟨1,8,.lit .nilFunc,[],0,0,8,.i64,false⟩),
 (230,⟨1,8,.lit .nilFunc,[],0,0,8,.i64,false⟩),
 (237,⟨1,8,.lit .nilFunc,[],0,0,8,.i64,false⟩),
 (261,⟨1,0,.junk,[],0,0,0,.i64,false⟩),
 (299,⟨1,8,.lit .nilFunc,[],0,0,8,.i64,false⟩),
 (320,⟨1,8,.lit .nilFunc,[],0,0,8,.i64,false⟩),
 (339,⟨1,0,.junk,[],0,0,0,.i64,false⟩),
 (423,⟨32,32,.agg (List.replicate 32 (.int .u8 0)),[(1,5)],32,5,2,.i64,false⟩),
 (424,⟨64,64,.agg (List.replicate 64 (.int .u8 0)),[(1,5)],64,5,2,.i64,false⟩),
 (147,⟨1,8,.lit .nilFunc,[],0,0,8,.i64,false⟩),
 (192,⟨1,8,.lit .nilFunc,[],0,0,8,.i64,false⟩),
 (208,⟨1,8,.lit .nilFunc,[],0,0,8,.i64,false⟩),
 (251,⟨1,8,.lit .nilFunc,[],0,0,8,.i64,false⟩),
 (253,⟨1,8,.lit .nilFunc,[],0,0,8,.i64,false⟩),
 (268,⟨1,8,.lit .nilFunc,[],0,0,8,.i64,false⟩),
 (322,⟨64,64,.agg (List.replicate 64 (.bool false)),[(0,4)],64,4,2,.i64,false⟩),
 (377,⟨1,8,.lit .nilFunc,[],0,0,8,.i64,false⟩),
 (51,⟨1,0,.junk,[],0,0,0,.i64,false⟩),
 (54,⟨1,0,.junk,[],0,0,0,.i64,false⟩),
 (66,⟨1,8,.lit .nilFunc,[],0,0,8,.i64,false⟩),
 (255,⟨1,8,.lit .nilFunc,[],0,0,8,.i64,false⟩),
 (284,⟨1,0,.junk,[],0,0,0,.i64,false⟩),
 (290,⟨1,8,.lit .nilFunc,[],0,0,8,.i64,false⟩),
 (293,⟨1,0,.junk,[],0,0,0,.i64,false⟩),
 (329,⟨1,0,.junk,[],0,0,0,.i64,false⟩),
 (353,⟨1,0,.junk,[],0,0,0,.i64,false⟩),
 (381,⟨1,8,.lit .nilFunc,[],0,0,8,.i64,false⟩),
 (229,⟨1,8,.lit .nilFunc,[],0,0,8,.i64,false⟩),
 (298,⟨1,8,.lit .nilFunc,[],0,0,8,.i64,false⟩),
 (301,⟨1,8,.lit .nilFunc,[],0,0,8,.i64,false⟩),
 (376,⟨1,8,.lit .nilFunc,[],0,0,8,.i64,false⟩),
 (397,⟨1,8,.lit .nilFunc,[],0,0,8,.i64,false⟩)]
def Ns:List Nat:=[0,1,2,3,4,5,6,7,9,20,28,33,44,52]
def Nr:List Nat:=[0,1,2,3,4,5,6,7,8,9,10,11,12,13,15,16,17,88]
def bn:List Nat:=[0,1,2,3,4,5,6,7,8,9,10,11,12,13,14,15,16,17,18,19,20,21,35,75,94,114,145,178,185,196,206,209,258,291,331,351,360,373,384]
def je:List Nat:=[0,1,2,4,5,6,7,9,10,12,14,15,16,17,19,21,22,33,37,38,39,40,57,58,59,60,66,76,77,78,79,97,109,110,111,112,119,120,121,122,134]
def fB:List Nat:=[0,1,2,4,5,6,7,8,19,20,21,22]
def Ap:List Nat:=[0,1,2,4,5,6,18]
def Ao:List Nat:=[0,1,2,3,4,5,6,8,10,11,13,16,21,22,23,24,31,45,46,47,48,56,57,58,59,67,68,69,70,97]
def KC:List Nat:=[0,1,4,5,10,14,25]
def KB:List Nat:=[0,1,4,5,10,14,93]
def KA:List Nat:=[0,1,2,4,5,6]
def ru:List Nat:=[0,1,2,3]
def Kz:List Nat:=[0,1,4,6]
def Ky:List Nat:=[0,1,3,4]
def Kx:List Nat:=[0,1,4,5,6,7,15,21]
def Kw:List Nat:=[0,1,2,6,7,8,9,10,19]
def Kv:List Nat:=[0,1,2,3,4,11,23,33,45]
def Ku:List Nat:=[0,1,2,3,4,5,10,11,12,13,14,15,16,17,25,111,149,168]
def Kt:List Nat:=[0,1,2,3,4,5,6,7,8,9,10,11,12,13,14,15,50,90,103,109,110,118]
def Ks:List Nat:=[0,1,4,5,6,7,8,9,10,31]
def xS:List Nat:=[0,1,2,4,6,7,9,11,12,13,14,30]
def g8:List Nat:=[0,2]
def Kr:List Nat:=[0,1,3,4,5,6]
def Kq:List Nat:=[0,1,2,3,4]
def xR:List Nat:=[0,1,4,5,6,7,12,19,29]
def xQ:List Nat:=[0,2,4]
def xP:List Nat:=[0,1,2,3]
def xO:List Nat:=[0,1,2,3,4,7,8,9,10,12,13,14,20,26,27,28,29,41]
def rr:List Nat:=[0,1,2,6,7,8,12,13]
def Kp:List Nat:=[0,1,2,3,7,8,9,10,14,15,25]
def lI:List Nat:=[0,1,2,6,7,9,10,11,13,14,16,17,18,19,21,22,23,26,27,28,29,60,61,62,63,91,99,119,120,121,122,128,133,134,135,146,152,153,154,155,173,174,175,187]
def Ko:List Nat:=[0]
def Kn:List Nat:=[0,1,2,6]
def rq:List Nat:=[0,1,3,4,5,7,8,10,11,13,15,16,30,31,32,33,71]
def gn:List Nat:=[0,1,3,4,6,8,9,10,21]
def xM:List Nat:=[0,1,2,4,6,7,8,9,16,17,18,19]
def kg:List Nat:=[0,1,2,3,4,5,6,7,9,11,12,13,14,15,16,18,19,20,21,22,24,25,33,34,35,36,42,65,66,67,68,92,93,122,123,124,125,173,197,218,219]
def Km:List Nat:=[1,2,3,4,6,7]
def Kl:List Nat:=[0,1,4,5,6,7,8,9,10,12,13,14,15,39,45,46,47,48,57]
def Kk:List Nat:=[0,1,2,4,5,6,8,9,10,12,14,15,16,17,18,23,24,25,26,45,46,47,48,55,70,71,72,73,86,87,93,94,95,96,102,104,113,114,115,116,146,147,148,149]
def Kj:List Nat:=[0,1,4,5,10,14,25]
def nL:List Nat:=[0,1,2,3,4]
def Ki:List Nat:=[0,2,3,4,5,6,8,9,14,15,16,17,42,48,49,50,51,79]
def rp:List Nat:=[0,1,2,3,4,5,6,7,8,9,11,12,14,30,36,37,38,39,92,142,148,149,150,151,188]
def Kh:List Nat:=[0,1,4,6]
def Kg:List Nat:=[0,1,2,4,5,6,7]
def Kf:List Nat:=[0,1,4,6]
def Ke:List Nat:=[0,1,2,3,4,6,7,8,9,10,18,41,81,89,103,162]
def Kd:List Nat:=[0,1,4,5,9,18]
def ro:List Nat:=[0,1,2,3,4,6,7,8,9,10,11,12,13,14,15,16,21,29,41,44,48,73,77,89,109]
def Kc:List Nat:=[0,1,2,3,4,6,7,8,9,10,11,12,13,14,19,26,34,48]
def Kb:List Nat:=[0,1,2,3,6,7,8,9,22]
def lH:List Nat:=[0,1,4,5,7,8,9,16]
def xL:List Nat:=[0,1,2,3,4,7,8,9,10,11,37,38,39,40,41,80]
def Ka:List Nat:=[0,1,2,3,6,7,8,9,10,22]
def J9:List Nat:=[0,1,2,3,5,6,7,8]
def xK:List Nat:=[0,1,2,3,6,7,8,10,11,13,15,16,17,18]
def J8:List Nat:=[0,1,2,3,5,6,7,8]
def nK:List Nat:=[0,1,2,6,7,8,9,10,11,13,14,15,16,17,18,19,20,21,27,28,29,30,35,36,39,40,61,64]
def J7:List Nat:=[0,1,2,3,4,5,6]
def J6:List Nat:=[0,1,3,4,5,7,8,9,10]
def J5:List Nat:=[0,1,3,4,5]
def xJ:List Nat:=[0,1,3,4,5,6,15]
def dY:List Nat:=[0,1,2,3,4,7]
def xI:List Nat:=[0,1,3,4,5,6,15]
def xH:List Nat:=[0,1,2,3,4,5,6,7,8,9,14]
def J4:List Nat:=[0,1,2,3,4,5,6,7,8,9,10,11,16]
def J3:List Nat:=[0,1,4]
def J1:List Nat:=[0,1,2,3,4]
def J0:List Nat:=[0,2,3,5,6,7,8,9,14]
def JZ:List Nat:=[0,1,4,5,6,11,12,13,16,19]
def fN:List Nat:=[0,2,4]
def JY:List Nat:=[0,1,2]
def JX:List Nat:=[0,1,2,3,5,7,8,9,10,11,13,14,19,20,21,22,34,42,43,44,45,67,82]
def rn:List Nat:=[0,1,2,3,4,5,8,9]
def kf:List Nat:=[0,1,2,4,5,6,7,8,9,13,15,16,17,19,20,21,33]
def xG:List Nat:=[0,2,3,5,6,7,8,9]
def JW:List Nat:=[0,1,2,3,4]
def JV:List Nat:=[1,2,3,4,5,7,8,10,14,15,16,17]
def JU:List Nat:=[0,1,2,3,4]
def JT:List Nat:=[1,2,3,4,6,7,9,10,11,15,16,17,18,41]
def JS:List Nat:=[0,1,2,3]
def nJ:List Nat:=[0,1,2,3,5,6,7,8,10,15,19,21]
def JR:List Nat:=[1,2,3,4,5,7,8,10,12,16,17,18,19,32,33,34,35]
def JQ:List Nat:=[0,1,2,3,4]
def JP:List Nat:=[0,1,4]
def JO:List Nat:=[0,1,2,3]
def JN:List Nat:=[0,1,2,3]
def JM:List Nat:=[0,1,2,3,4]
def JL:List Nat:=[1,2,3,5,6,10]
def JK:List Nat:=[0,1,2,5]
def JJ:List Nat:=[1,2,3,5,6,8,11,12,13,14,21]
def G5:List Nat:=[0,1,2,3,5]
def G4:List Nat:=[0,1,4]
def G3:List Nat:=[0,1,2,3]
def G2:List Nat:=[0,2]
def G1:List Nat:=[0,2]
def G0:List Nat:=[0,2]
def GZ:List Nat:=[0,1,4]
def GY:List Nat:=[0,1,2,3]
def GX:List Nat:=[0,2]
def GW:List Nat:=[0,1,4]
def GV:List Nat:=[0,1,2,3,4,6]
def GU:List Nat:=[0,1,2,4]
def GT:List Nat:=[0,1,2,3]
def GS:List Nat:=[0,1,2,3,4,5,28]
def GR:List Nat:=[0,2,3,4,5,8,12,49,95]
def GQ:List Nat:=[0,1,2,6]
def GP:List Nat:=[0,1,2,3,4,6]
def vq:List Nat:=[0,1,2,3,4,5,8,9,10,11,12,30,38]
def GO:List Nat:=[0,1,2,4,5,6,7,8,9,10,11,32]
def GN:List Nat:=[0,1,2,3,4,8,9]
def GM:List Nat:=[0,1,2,4,5,9]
def GL:List Nat:=[0,2]
def GK:List Nat:=[0,1,2]
def GJ:List Nat:=[0,1,2,3,4,5]
def GI:List Nat:=[0,1,2,3]
def kH:List Nat:=[0,1,2,3,4,6,7,8,9,11,12,13,76,81,82,83,84,93,149]
def vp:List Nat:=[0,1,4]
def GH:List Nat:=[0,1,2,3,5,6,7,8,17,25]
def GG:List Nat:=[0,1,2,4,5]
def GF:List Nat:=[0,1,3,4,5,6,7,15,17,18,19,22]
def GE:List Nat:=[0,1,2,3,5,6,7,8,9,10,19,24]
def vo:List Nat:=[0,2,3,4,6,7,8,12,13,14,15,39,40,52]
def GD:List Nat:=[0,1,2]
def pP:List Nat:=[0,1,2,3,6,8,9,10,11,12,16,17,18,19,40]
def GC:List Nat:=[0,1,2,3]
def GB:List Nat:=[0,1,2,4,5,7,8]
def GA:List Nat:=[0,1,4]
def Gz:List Nat:=[0,1,4,5,7,8,9,16]
def Gy:List Nat:=[0,1,2,3]
def pO:List Nat:=[0,1,2,3,4]
def fe:List Nat:=[0,1,2,3,5,8,22,23,24,25]
def Gx:List Nat:=[0,1,4,5,7,8,9,16]
def Gw:List Nat:=[0,1,2,3]
def Gv:List Nat:=[0,1,2,3,4,6]
def pN:List Nat:=[0,1,2,3,5,6]
def vn:List Nat:=[0,1,2,3,4,5,8,9,10,16,17]
def mw:List Nat:=[0,1,2,3,4,5,6,7,8,9,10,11,13,14,22]
def Gu:List Nat:=[0,1,2]
def Gt:List Nat:=[0,1,2,3,5,6,7,8,9,15,16,26]
def Gs:List Nat:=[0,1,2,3,4,5,6,7,8]
def Gq:List Nat:=[0,1,2,4,5,6,7,8,9,10,11,19,35]
def Gp:List Nat:=[0,1,2,3,4,5,6,7,8,9,10,11,13,14,22]
def Gn:List Nat:=[0,1,2]
def Gm:List Nat:=[0,1,2,3,4,10,11,12,13,14,15,16,17,18,19,20,25,32,39,56,75,80,97,125]
def Gl:List Nat:=[0,2]
def Gk:List Nat:=[0,1,2,3]
def Gj:List Nat:=[0,1,2,3,4]
def Gi:List Nat:=[0,1,2,4]
def Gh:List Nat:=[0,1,2,3,4,5,6,13]
def ig:List Nat:=[0,1,2,5,7,8,9,10,11,14,15,16,17,30]
def Gg:List Nat:=[0,1,2,4,5,17]
def Gf:List Nat:=[0,1,2,3,5,6]
def Ge:List Nat:=[0,1,2,3,4,5,6]
def Gd:List Nat:=[0,1,4,5,7,8,9,16]
def Gc:List Nat:=[0,1,4,5,7,8,9,16]
def Gb:List Nat:=[0,1,2,3,8,9,10,14,15,16,17,18,42]
def Ga:List Nat:=[0,1,2]
def F9:List Nat:=[0,1,2,3,8,9,10,14,15,16,17,18,42]
def F8:List Nat:=[0,1,2]
def F7:List Nat:=[0,1,2]
def F6:List Nat:=[0,1,2]
def F5:List Nat:=[0,1,2,3,4,5]
def F4:List Nat:=[0,1,4,5,10,24]
def F3:List Nat:=[0,1,2,3,4]
def F1:List Nat:=[0,1,4,5,7,8,9,16]
def F0:List Nat:=[0,1,2,6]
def vm:List Nat:=[0,1,4,5,7,8,9,16]
def FZ:List Nat:=[0,1,4,6]
def FY:List Nat:=[0,1,2,3,22]
def FX:List Nat:=[0,1,2,6]
def FW:List Nat:=[0,1,2,3,4,11,23,33,45]
def FV:List Nat:=[0,2,3,6]
def FU:List Nat:=[0,2,3,4,7,12,18]
def FS:List Nat:=[0,1,2]
def FR:List Nat:=[0,1,4,7]
def vl:List Nat:=[0,1,2,3,6,7,8,9,10,11,31]
def FQ:List Nat:=[0,1,2,4,5,7,8,23,25,26,27,28,40,71]
def FP:List Nat:=[0,1,4,5,7,8,10,11,12,13]
def mv:List Nat:=[0,2,4,5,6,7,8]
def FO:List Nat:=[0,1,2,6]
def FN:List Nat:=[0,2]
def FM:List Nat:=[0,1,2,3,4]
def FL:List Nat:=[0,1,2]
def pM:List Nat:=[0,1,2,3,5,6,7,8,10,20,22]
def FK:List Nat:=[0,1,3]
def FJ:List Nat:=[0,2,3,5,6,7,8,9,33]
def FI:List Nat:=[0,1,2,6]
def FH:List Nat:=[0,1,2]
def mu:List Nat:=[0,1,2,3,5,6,7,8,9,11,16,22,24]
def FG:List Nat:=[0,2]
def FF:List Nat:=[0,1,2,3,4]
def pL:List Nat:=[0,1,2,6,7,9,10,11,12,16,17,18,19,25,37]
def FE:List Nat:=[0,1,2,3,4,5,6]
def FD:List Nat:=[0,1,4,6,7,8,9,10,14,15,16,17,24]
def FC:List Nat:=[0,1,2,4,5,6,7,8,16,26]
def vk:List Nat:=[0,1,4,5,7,8,9,16]
def vj:List Nat:=[0,1,2,4,5,6,8,9,10,35,37,38,39,40,51]
def FB:List Nat:=[0,1,2,4]
def FA:List Nat:=[0,1,2,6]
def Fz:List Nat:=[0]
def Fy:List Nat:=[0,1,2]
def Fx:List Nat:=[0,1,2,3,4,6,7,8,14,25,38]
def Fw:List Nat:=[0,1,2,3,6,7,8,9,18]
def Fv:List Nat:=[0,2]
def Fu:List Nat:=[0,1,2]
def Ft:List Nat:=[0,2,3,6]
def Fs:List Nat:=[0,2,3,4,6,9,13,14,15,20]
def Fr:List Nat:=[0,1,4]
def Fq:List Nat:=[0,1,2,3,8,9,14,34]
def pK:List Nat:=[0,1,2,4,5,7,9,12,13,14,15,18,19,20,25]
def Fp:List Nat:=[0,1,2,3,5,9,10,11,12,26]
def Fo:List Nat:=[0,1,2]
def Fn:List Nat:=[0,2,3,4,5,8,9,10,11,12,33]
def vi:List Nat:=[0,1,2,3,5,6,12,21,30]
def pJ:List Nat:=[0,1,2,3,6,7,8,10,18,19,20,21,27]
def vh:List Nat:=[0,1,2,3,4,5,6]
def Fm:List Nat:=[0,1,2,6]
def Fl:List Nat:=[0,2]
def Fk:List Nat:=[0,2,4]
def vg:List Nat:=[0,1,2,3,6,7,8,9,14]
def vf:List Nat:=[0,1,2,3,6,7,12]
def Fj:List Nat:=[0,1,4]
def Fi:List Nat:=[0,1,2]
def Fh:List Nat:=[0,1,2,6]
def Fg:List Nat:=[0,1,2,6]
def Ff:List Nat:=[0,1,2,3,4,5,6]
def Fe:List Nat:=[0,1,2]
def pI:List Nat:=[0,1,3,5,6,7,8,9,10,11,12,34,35,36,37,60,66]
def ve:List Nat:=[0,1,4]
def Fd:List Nat:=[0,1,2,3,4]
def vd:List Nat:=[0,1,4]
def Fc:List Nat:=[0,2,3,4,5,7,8,9,10,41,44]
def Fb:List Nat:=[0,1,2,3,4,5]
def pH:List Nat:=[0,1,2,3,4]
def pG:List Nat:=[0,1,2,3,8,9,23,31,47]
def pF:List Nat:=[0,1,2,3,5,6,46,56,80]
def pE:List Nat:=[0,1,2,3,4,5,11,12,18,31]
def E9:List Nat:=[0,1,3,10,16]
def E8:List Nat:=[0,1,2,3,6,7,8]
def E7:List Nat:=[0,1,2]
def E6:List Nat:=[0,1,2,6]
def E5:List Nat:=[0,2,3,9]
def E4:List Nat:=[0]
def E3:List Nat:=[0,1,2]
def E2:List Nat:=[0,1,2]
def E1:List Nat:=[0,1,2,3]
def EZ:List Nat:=[0,1,2,6]
def EY:List Nat:=[0,1,2,6]
def EX:List Nat:=[0,1,2,3]
def EW:List Nat:=[0,1,4]
def EV:List Nat:=[0,1,2,4]
def ms:List Nat:=[0,1,2,4,5,7,8,9,10,18,22,23]
def EU:List Nat:=[0,1,4]
def ET:List Nat:=[0,1,2,3]
def ES:List Nat:=[0,1,2,4,5,6]
def ER:List Nat:=[0,1,2,3,6]
def EQ:List Nat:=[0,1,4,9]
def EO:List Nat:=[0,1,4,5,7,8,9,16]
def pD:List Nat:=[0,1,2,3,5,6,8,14,20,21,22,23,37,47]
def vc:List Nat:=[0,1,2,3,4,10,11,12,13,14,15,16,17,18,19,20,25,32,39,56,75,80,97,125]
def vb:List Nat:=[0,1,2,3,4,10,11,12,13,14,15,16,17,18,19,20,25,32,39,56,75,80,97,125]
def EM:List Nat:=[0,1,2,3,12,29]
def EK:List Nat:=[0,1,2,3,4]
def EJ:List Nat:=[0]
def EI:List Nat:=[0,1,2]
def va:List Nat:=[0,1,2,3,5,7]
def uZ:List Nat:=[0,1,2,3]
def uY:List Nat:=[0,2,3,4,7]
def EH:List Nat:=[0,1,4]
def EG:List Nat:=[0,1,2]
def EF:List Nat:=[0,1,2,3]
def EE:List Nat:=[0,2]
def ED:List Nat:=[0,2]
def EC:List Nat:=[0,2]
def EB:List Nat:=[0,1,4,5,7,8,9,16]
def EA:List Nat:=[0,1,2,3,4]
def Ey:List Nat:=[0,1,2,3,4]
def Ex:List Nat:=[0,1,2]
def Ew:List Nat:=[0,1,4,5,7,8,9,16]
def uX:List Nat:=[0,1,2,3,8,9,14,34]
def uW:List Nat:=[0,1,2,3,8,9,14,34]
def Ev:List Nat:=[0,1,2,6]
def Eu:List Nat:=[0,1,2,3,4,5,6,12]
def Et:List Nat:=[0,2]
def Es:List Nat:=[0,1,2]
def Er:List Nat:=[0,1,4,5,7,8,9,16]
def Ep:List Nat:=[0,1,4]
def uV:List Nat:=[0,1,2,4,11,21]
def Eo:List Nat:=[0,1,2,3,4]
def mr:List Nat:=[0,2,3]
def ic:List Nat:=[0,1,3,4,5,7,8,9,10,15,24]
def gl:List Nat:=[0,1,2,4,5,6,7]
def uU:List Nat:=[0,1,4,5,6,7,12,19,29]
def En:List Nat:=[0,2,4]
def Em:List Nat:=[0,1,2,3]
def El:List Nat:=[0,1,2,3,4,5]
def Ek:List Nat:=[0,1,2,3,4,5,6]
def Ej:List Nat:=[0,1,2,3,4,5]
def uT:List Nat:=[0,1,2,3,4,6,7,8,9,17,22,23,24]
def Eh:List Nat:=[0,1,4]
theorem af:eS.OK jK Tryz.prog:=(by kernel_rfl:jK.map (fun p=>TI.of Tryz.prog p.1)=jK.map (fun p=>some p.2))
theorem bh:Tryz.prog.follows .mixedOrders=true:=by kernel_rfl
open Go Go.AI
theorem aM {f:FuncId} {fn:Func} {body:Code} {args:List AV} {r:AV} (keep:List Nat) (hf:Tryz.prog.funcs[f]?=some fn)
  (h:∀ (F:Fence) (n:Nat) (w0:World) (m0:dI),ce.OK ⟨Tryz.prog,F,n,w0,m0,fn.ntmps⟩->F.round=none->1<=n->KP keep->aJ ⟨Tryz.prog,F,n,w0,m0,fn.ntmps⟩ ⟨params 0 args,[]⟩ body (Go.AI.Ends jK fn.results.toList r))
  (hb:fn.body=some body:=by exact rfl) (hname:(fn.name == "runtime.NumGoroutine")=false:=by kernel_rfl) (hn:args.length<=fn.ntmps:=by exact ah rfl):aq Tryz.prog f args r:=
 aq.ofB af hf hb hname bh hn fun F n w0 m0 h1 h2 h3=>h F n w0 m0 h1 h2 h3 .mk
theorem aS {p q:Prop} (h:q) (g:(Unit->q)->p:=by
 intro g
 first | refine QS rfl hG af kp ?_ | ((conv=>whnf); first | refine cX ?_ | refine cW ?_ | refine aa aI ?_)
 repeat first | refine QS rfl hG af kp ?_ | ((conv=>whnf); first | refine cX ?_ | refine cW ?_ | refine aa aI ?_)
 exact g ()):p:=g fun _=>h
theorem du {p q:Prop} (h:q) (g:(Unit->q)->p:=by
 intro g
 first | refine QN rfl hG af kp ?_ | ((conv=>whnf); first | refine cX ?_ | refine cW ?_ | refine aa aI ?_)
 repeat first | refine QN rfl hG af kp ?_ | ((conv=>whnf); first | refine cX ?_ | refine cW ?_ | refine aa aI ?_)
 exact g ()):p:=g fun _=>h
theorem bz {p q:Prop} (h:q) (g:(Unit->q)->p:=by
 intro g
 first | refine QS rfl hG af kp ?_ | ((conv=>whnf); first | refine cX ?_ | refine cW ?_ | refine aa aI ?_ | refine gdF bf (fun h=>?_) | refine gdT bf (fun h=>?_) | refine ae _ (aa bf ?_) | refine aa (au _) (ae _ (aa bf ?_)))
 repeat first | refine QS rfl hG af kp ?_ | ((conv=>whnf); first | refine cX ?_ | refine cW ?_ | refine aa aI ?_ | refine gdF bf (fun h=>?_) | refine gdT bf (fun h=>?_) | refine ae _ (aa bf ?_) | refine aa (au _) (ae _ (aa bf ?_)))
 exact g ()):p:=g fun _=>h
theorem abo {p:Prop} (g:p:=by
 repeat' first | refine QS rfl hG af kp ?_ | ((conv=>whnf); first | refine cX ?_ | refine cW ?_ | refine aa aI ?_ | refine gdF bf (fun h=>?_) | refine gdT bf (fun h=>?_) | refine ae _ (aa bf ?_) | refine aa (au _) (ae _ (aa bf ?_))) | refine aa (fun h=>?_) (fun h=>?_) | refine ak ?_
 all_goals exact Ends.mk (ak rfl) (ay rfl)):p:=g
theorem dK {f:FuncId} {fn:Func} {body:Code} {args:List AV} {r:AV} (keep:List Nat) (hf:Tryz.prog.funcs[f]?=some fn) (hb:fn.body=some body:=by exact rfl) (hname:(fn.name == "runtime.NumGoroutine")=false:=by kernel_rfl) (hn:args.length<=fn.ntmps:=by exact ah rfl)
  (h:∀ (F:Fence) (n:Nat) (w0:World) (m0:dI),ce.OK ⟨Tryz.prog,F,n,w0,m0,fn.ntmps⟩->F.round=none->1<=n->KP keep->aJ ⟨Tryz.prog,F,n,w0,m0,fn.ntmps⟩ ⟨params 0 args,[]⟩ body (Go.AI.Ends jK fn.results.toList r):=by
   intro F n' w0 m0 hG hro h1 kp
   repeat' first | refine QS rfl hG af kp ?_ | ((conv=>whnf); first | refine cX ?_ | refine cW ?_ | refine aa aI ?_ | refine gdF bf (fun h=>?_) | refine gdT bf (fun h=>?_) | refine ae _ (aa bf ?_) | refine aa (au _) (ae _ (aa bf ?_))) | refine aa (fun h=>?_) (fun h=>?_) | refine ak ?_
   all_goals exact Ends.mk (ak rfl) (ay rfl)):aq Tryz.prog f args r:=aM keep hf h hb hname hn
theorem abn {p q:Prop} (h:q) (g:(Unit->q)->p:=by
 intro g
 first | refine QM rfl hY af kp ?_ | ((conv=>whnf); first | refine cX ?_ | refine cW ?_ | refine aa aI ?_)
 repeat first | refine QM rfl hY af kp ?_ | ((conv=>whnf); first | refine cX ?_ | refine cW ?_ | refine aa aI ?_)
 exact g ()):p:=g fun _=>h
theorem aaL {p q:Prop} (h:q) (g:(Unit->q)->p:=by
 intro g
 first | refine Oe hG af gu kp aI ?_ | refine QS rfl hG af kp ?_ | ((conv=>whnf); first | refine cX ?_ | refine cW ?_ | refine aa aI ?_)
 repeat first | refine Oe hG af gu kp aI ?_ | refine QS rfl hG af kp ?_ | ((conv=>whnf); first | refine cX ?_ | refine cW ?_ | refine aa aI ?_)
 exact g ()):p:=g fun _=>h
theorem aaM {p q:Prop} (h:q) (g:(Unit->q)->p:=by
 intro g
 first | refine Oe hG af gu kp aI ?_ | refine QN rfl hG af kp ?_ | ((conv=>whnf); first | refine cX ?_ | refine cW ?_ | refine aa aI ?_)
 repeat first | refine Oe hG af gu kp aI ?_ | refine QN rfl hG af kp ?_ | ((conv=>whnf); first | refine cX ?_ | refine cW ?_ | refine aa aI ?_)
 exact g ()):p:=g fun _=>h
theorem Ez {p:Prop} (h:p:=by exact Ends.mk (ak rfl) (ay rfl)):p:=h
theorem Eb {p:Prop} {a b:Bool} (h:a=b) (g:a=b->p:=by intro g; exact Ends.mk (ak rfl) (ay (ax AV.bool g))):p:=g h
theorem Ei {p:Prop} {a b:Int} (h:a=b) (g:a=b->p:=by intro g; exact Ends.mk (ak rfl) (ay (ax (AV.int .i64) g))):p:=g h
end Go.Proofs
