/- Part 2 of the proof: an abstract interpreter for the code, contracts of the functions, and plain facts; the conditions are those typed. -/
import Derived.Test.YthjhnnmcdhokcaaGreatDoorNA
import Derived.OrdersIn
import Derived.LoopNIn
import Derived.RangeFuncLeaves
import Derived.Shelf.Abstract
import Derived.RangeFuncNested
import Derived.ProofKit
import Derived.OpenShut
import Derived.Below
import Derived.Carry
import Derived.ChangeCalls
import Derived.MapKept
set_option linter.unusedSectionVars false
set_option linter.unusedVariables false
set_option linter.unusedSimpArgs false
namespace Go.AI
open Go
abbrev bc:=@List.mem_append_left
abbrev bh:=@List.mem_append_right
abbrev c9:=@Array.getElem?_append_left
abbrev dm:=@Go.wpIn_mono
abbrev dR:=@decide_eq_false
abbrev ej:=@List.take_length
abbrev eN:=@List.take_add_one
abbrev eY:=@List.mem_append
abbrev fE:=@List.nodup_nil
abbrev fF:=@List.any_eq_false
abbrev fH:=@List.map_congr_left
abbrev fT:=@Go.wpIn_region
abbrev gF:=@List.mem_filter
abbrev gH:=@Go.mem_ready
abbrev jz:=@Go.Proofs.enters_of
abbrev jE:=@List.cons_append
abbrev mF:=@Array.getElem?_replicate
abbrev mK:=@Nat.not_lt_zero
abbrev oc:=@Nat.add_comm
abbrev oQ:=@Classical.choose_spec
abbrev pX:=@List.eq_nil_iff_forall_not_mem
abbrev qr:=@Bool.and_eq_true_iff
abbrev sm:=@Nat.sub_zero
abbrev tE:=@Go.callsIn_of_wp_marks
abbrev wj:=@List.nodup_append
abbrev yN:=@List.length_eq_zero_iff
abbrev yP:=@Bool.not_eq_true
abbrev A8:=@Nat.mul_comm
abbrev Ce:=@List.take_append_drop
abbrev Ci:=@Array.getElem?_mapIdx
abbrev Dn:=@Go.wpIn_region_any
abbrev Do:=@Go.wpIn_cond_split
abbrev HK:=@List.reverse_reverse
abbrev HL:=@List.map_id
abbrev HN:=@List.drop_zero
abbrev LU:=@List.mem_map_of_mem
abbrev SB:=@Nat.zero_mul
abbrev SE:=@List.length_range
abbrev Wu:=@Go.callsIn_wide
abbrev Wv:=@Go.World.cells?_some
abbrev Yp:=@List.nodup_cons
abbrev Yu:=@Go.wpIn_loop_rounds
abbrev abt:=@Go.wpIn_block
end Go.AI
namespace Go.AI
open Go
open Go.RowKit (Below)
theorem wS {k:List Int}:∀ {l:List (List Int×AV)},(∀ p∈l,p.1≠k)->mr k l=none
 | [],_=>rfl
 |(k',c)::r,h=>by rw [mr,aY (h (k',c) aW),wS fun p b=>h p (aS _ b)]
theorem wR {k:List Int}:∀ {l:List (List Int×AV)} {j:Nat} {p:List Int×AV},l[j]?=some p->p.1=k->(∀ (i c:Nat) (q d:List Int×AV),l[i]?=some q->l[c]?=some d->q.1=d.1->i=c)->mr k l=some p.2
 | [],j,p,h,_,_=>by simp at h
 |(k',m)::r,0,p,h,b,_=>by
  simp only [bD,aB] at h;subst h;rw [mr,aV b]
 |(k',m)::r,j+1,p,h,b,hu=>by
  simp only [fk] at h
  have f:k'≠k:=fun e=>by
   have:=hu 0 (j+1) (k',m) p rfl h (by rw [e,b]);omega
  rw [mr,aY f,wR h b fun i c q d h1 h2 e=>by
   have:=hu (i+1) (c+1) q d (by simpa using h1) (by simpa using h2) e;omega]
theorem RO.toRC1 {c} {y} {u} (b:y.isCell=true) (h:RO c y u):fD c y u:=by
 cases y with
 | loc d off=>cases b
 | me g k n xs=>cases b
 | sl o sz xs=>cases o <;> exact h
 | _=>exact h
theorem vQ {c} {y} {u} (b:y.isCell=true) (h:fD c y u):RO c y u:=by
 cases y with
 | loc d off=>cases b
 | me g k n xs=>cases b
 | sl o sz xs=>cases o <;> exact h
 | _=>exact h
theorem zG {s} {k b} {own} (h:zH s k=some (b,own)):get s.t (xk k)=some (.me .box k b [own]):=by
 unfold zH at h;split at h
 ·rename_i k' f c e
  cases d:Nat.beq k' k with
  | false=>rw [d] at h; cases h
  | true=>grind [Nat.eq_of_beq_eq_true]
 ·cases h
section
variable {Γ:cr} (hΓ:Γ.OK) {T:eX} (hT:T.OK Γ.P) {s:St} {o:Oper} {a:Act} {w:World}
 {next:Act->World->Prop} {Q:Exit->Act->World->Prop}
include hT in
theorem Cq {t} {i} (g:get T t=some i) (b:i.zero.isCell=true):∃ z,(zeroValue t).run Γ.P w = .ok z w/\∀ m,RD m i.zero z:=by
 obtain ⟨j,d,h1,h2,c⟩:=eo hT g;simp only [TI.of,h1,h2,aB] at c;have hzero:=(ax TI.zero c).symm;simp only at hzero
 cases hj:j.zero with
 | none=>rw [hj] at hzero; simp only at hzero; rw [hzero] at b; cases b
 | some z=>
  rw [hj] at hzero;simp only at hzero;refine ⟨z,by simp only [zeroValue,typeInfo,aD,yr,aw,h1,aL,hj],fun m=>?_⟩;rw [hzero] at b ⊢
  have key:∀ v:Value,(∀ cs,v≠.agg cs)->Rc v=cst v:=fun v hv=>by
   cases v with
   | agg cs=>exact absurd rfl (hv cs)
   | _=>rfl
  rw [key z fun cs e=>by rw [e] at b; cases b];exact RD.cst m z
include hT in
theorem PW {K} {t} {x y} {b} {ok} {c} (hW:WI Γ c s.b w) (Z:∀ d x,get s.t d=some x->RC c x (a.tmps.getD d Go.undef)) (hx:ev s x = .lit (.map (some b))) (h:ol T s t b (ev s y) ok K) :
  ∃ v u,K v/\RC c v u/\(Instr.lookup t (a.eval x) (a.eval y) ok).run Γ.P w = .ok u w:=by
 unfold ol at h;split at h
 ·rename_i im him;split at h
  ·rename_i kz kt hfl;split at h
   ·rename_i i j hi hj
    cases X:(Nat.beq im.kind 9&&j.zero.isCell) with
    | false=>grind
    | true=>
     rw [X,aP] at h;rw [al] at X
     cases F:nK i with
     | none=>grind
     | some skn=>
     obtain ⟨sk,sn⟩:=skn;rw [F] at h;have A:=tu hT hi F;obtain ⟨k,l,key,g,⟨hk,G,hlen,B,hg⟩,hK⟩:=h;have hm:=Du hT him (ak X.1) hfl;obtain ⟨es,clock,e1,q1,U,f⟩:=Wd A.pos B (show RX c .ents k b (gp sk l) (a.tmps.getD (xk k) Go.undef) from Z _ _ hk);have hq:=hW.xo k b _ e1;have M:RD c.m (.lit (.map (some b))) (a.eval x):=by have:=cq Z x; rwa [hx] at this
     have hvx:a.eval x = .map (some b):=by generalize a.eval x=u at M; cases M; rfl
     have J:=cq Z y;rw [G] at J;have hvy:=(J.keyE_RD A.pos hlen).keyE A.pos hlen
     have hes:∀ e∈es.toList,∃ y:List Int,e.key=sg sk y/\y.length=sn:=fun e he=>by
      obtain ⟨j,hj,rfl⟩:=cI he;obtain ⟨p,p1,p2,_⟩:=f j _ (by rw [<- cU]; exact ai hj);grind
     obtain ⟨z,hz1,hz2⟩:=Cq (w:=w) hT hj X.2;rw [hvx,hvy];rcases A.find w key hlen es.toList hes with ⟨h1,h2⟩ | ⟨n,e,h1,h2,h3⟩
     ·have hgn:g=none:=by
       rw [<- hg];refine wS fun p hp hc=>?_;obtain ⟨n,hn,rfl⟩:=cI hp;have hje:=aE (show n<es.size by omega);obtain ⟨p',p1,p2,_⟩:=f n _ hje;rw [ai hn] at p1;cases p1;exact h2 es[n] dc (by rw [p2,hc])
      subst hgn;refine ⟨_,if ok then .tuple #[z,.bool false] else z,hK,?_,?_⟩
      ·cases ok with
       | false=>exact RC.of_RD (hz2 c.m)
       | true=>
        refine RC.of_RD (c:=c) (.tup _ _ rfl fun n x u g1 g2=>?_);rcases n with _ | _ | n <;> simp at g1 g2
        ·grind
        ·subst g1; subst g2; exact .bool _
      ·simp only [Instr.lookup,aD,a7 hm,aw,da hq.obj,aL,A.check w _ key hlen,h1,hz1]
     ·have h2':es[n]?=some e:=by simpa using h2
      obtain ⟨p,p1,p2,p3⟩:=f n e h2';have hpk:p.1=key:=by rw [h3] at p2; exact (A.inj _ _ hlen (B p (aC p1)) p2).symm
      have D:∀ (i E:Nat) (q q':List Int×AV),l[i]?=some q->l[E]?=some q'->q.1=q'.1->i=E:=fun i E q q' h4 h5 h6=>by
       have N:i<es.size:=by rw [<- U]; exact (aq.1 h4).1
       have H:E<es.size:=by rw [<- U]; exact (aq.1 h5).1
       obtain ⟨r,r1,r2,_⟩:=f i _ (aE N);obtain ⟨r',L,r2',_⟩:=f E _ (aE H);rw [h4] at r1; cases r1;rw [h5] at L; cases L;exact q1.2.2 i E _ _ (aE N) (aE H) (by rw [r2,r2',h6])
      have hgs:g=some p.2:=by rw [<- hg]; exact wR p1 hpk D
      subst hgs;refine ⟨_,if ok then .tuple #[e.val,.bool true] else e.val,hK,?_,?_⟩
      ·cases ok with
       | false=>exact RC.of_RD p3
       | true=>
        refine RC.of_RD (c:=c) (.tup _ _ rfl fun n x u g1 g2=>?_);rcases n with _ | _ | n <;> simp at g1 g2
        ·grind
        ·subst g1; subst g2; exact .bool _
      ·simp only [Instr.lookup,aD,a7 hm,aw,da hq.obj,aL,A.check w _ key hlen,h1]
   ·exact h.elim
  ·exact h.elim
 ·exact h.elim
include hΓ hT in
theorem SY {K} {t} {x y} {b} {ok} (j:o.op = .lookup t x y ok) (f:ef Γ s a w) (l:∀ d,o.dst=some d->d<Γ.nt) (hx:ev s x = .lit (.map (some b)))
  (h:ol T s t b (ev s y) ok fun v=>fJ s o.dst v K) (p:dS Γ a o.dst w K next):o.wpIn Γ.F Γ.n Γ.P a w next Q:=by
 obtain ⟨c,e,i⟩:=f.ex;obtain ⟨v,u,h1,h2,m⟩:=PW hT e i hx h;grind [ot,execOp,Sem.run_bind,Result.andThen_ok,Sem.run_pure]
include hT in
theorem Qw {K} {t} {x y} {xs} {ok} {c} (hW:WI Γ c s.b w) (ht:∀ d x,get s.t d=some x->RC c x (a.tmps.getD d Go.undef)) (hx:ev s x = .mapv xs) (h:sI T t xs (ev s y) ok K) :
  ∃ v u,K v/\RC c v u/\(Instr.lookup t (a.eval x) (a.eval y) ok).run Γ.P w = .ok u w:=by
 unfold sI at h;split at h
 ·rename_i im him;split at h
  ·rename_i kz kt hfl;split at h
   ·rename_i i j hi hj
    cases Z:(Nat.beq im.kind 9&&j.zero.isCell) with
    | false=>grind
    | true=>
     rw [Z,aP] at h;rw [al] at Z
     cases H:nK i with
     | none=>grind
     | some skn=>
     obtain ⟨sk,sn⟩:=skn;rw [H] at h;have A:=tu hT hi H;obtain ⟨l,key,g,⟨hk,J,hlen,E,hg⟩,hK⟩:=h;have hm:=Du hT him (ak Z.1) hfl;subst hk;have U:RD c.m (.mapv (gp sk l)) (a.eval x):=by have:=cq ht x; rwa [hx] at this
     obtain ⟨b,es,clock,hvx,D,q1,B,f⟩:∃ b es clock,a.eval x = .map (some b)/\c.m.maps b=some (es,clock)/\ll es clock/\l.length=es.size/\∀ (j:Nat) (e:MapEntry),es[j]?=some e->∃ p,l[j]?=some p/\e.key=sg sk p.1/\RD c.m p.2 e.val:=by
      generalize a.eval x=u at U
      cases U with
      | mapv _ b es clock D q1 q2 q3 q4 q5=>
       have B:l.length=es.size:=by rw [wz] at q2; exact q2
       refine ⟨b,es,clock,rfl,D,q1,B,fun j e he=>?_⟩;have hj:j<l.length:=by rw [B]; exact (aX.1 he).1
       have hp:(gp sk l)[j]?=some [Go.AI.keyE sk l[j].1,l[j].2]:=Iv (ai hj);exact ⟨l[j],ai hj,(q4 j _ e _ hp he rfl).keyE A.pos (E _ (bX hj)),q5 j _ e _ hp he rfl⟩
     have M:=cq ht y;rw [J] at M;have hvy:=(M.keyE_RD A.pos hlen).keyE A.pos hlen
     have hes:∀ e∈es.toList,∃ y:List Int,e.key=sg sk y/\y.length=sn:=fun e he=>by
      obtain ⟨j,hj,rfl⟩:=cI he;obtain ⟨p,p1,p2,_⟩:=f j _ (by rw [<- cU]; exact ai hj);grind
     obtain ⟨z,hz1,hz2⟩:=Cq (w:=w) hT hj Z.2;rw [hvx,hvy];rcases A.find w key hlen es.toList hes with ⟨h1,h2⟩ | ⟨n,e,h1,h2,h3⟩
     ·have hgn:g=none:=by
       rw [<- hg];refine wS fun p hp hc=>?_;obtain ⟨n,hn,rfl⟩:=cI hp;have hje:=aE (show n<es.size by omega);obtain ⟨p',p1,p2,_⟩:=f n _ hje;rw [ai hn] at p1;cases p1;exact h2 es[n] dc (by rw [p2,hc])
      subst hgn;refine ⟨_,if ok then .tuple #[z,.bool false] else z,hK,?_,?_⟩
      ·cases ok with
       | false=>exact RC.of_RD (hz2 c.m)
       | true=>
        refine RC.of_RD (c:=c) (.tup _ _ rfl fun n x u g1 g2=>?_);rcases n with _ | _ | n <;> simp at g1 g2
        ·grind
        ·subst g1; subst g2; exact .bool _
      ·simp only [Instr.lookup,aD,a7 hm,aw,da (hW.sub.map _ _ D),aL,A.check w _ key hlen,h1,hz1]
     ·have h2':es[n]?=some e:=by simpa using h2
      obtain ⟨p,p1,p2,p3⟩:=f n e h2';have hpk:p.1=key:=by rw [h3] at p2; exact (A.inj _ _ hlen (E p (aC p1)) p2).symm
      have F:∀ (i G:Nat) (q q':List Int×AV),l[i]?=some q->l[G]?=some q'->q.1=q'.1->i=G:=fun i G q q' h4 h5 h6=>by
       have X:i<es.size:=by rw [<- B]; exact (aq.1 h4).1
       have L:G<es.size:=by rw [<- B]; exact (aq.1 h5).1
       obtain ⟨r,r1,r2,_⟩:=f i _ (aE X);obtain ⟨r',N,r2',_⟩:=f G _ (aE L);rw [h4] at r1; cases r1;rw [h5] at N; cases N;exact q1.2.2 i G _ _ (aE X) (aE L) (by rw [r2,r2',h6])
      have hgs:g=some p.2:=by rw [<- hg]; exact wR p1 hpk F
      subst hgs;refine ⟨_,if ok then .tuple #[e.val,.bool true] else e.val,hK,?_,?_⟩
      ·cases ok with
       | false=>exact RC.of_RD p3
       | true=>
        refine RC.of_RD (c:=c) (.tup _ _ rfl fun n x u g1 g2=>?_);rcases n with _ | _ | n <;> simp at g1 g2
        ·grind
        ·subst g1; subst g2; exact .bool _
      ·simp only [Instr.lookup,aD,a7 hm,aw,da (hW.sub.map _ _ D),aL,A.check w _ key hlen,h1]
   ·exact h.elim
  ·exact h.elim
 ·exact h.elim
include hΓ hT in
theorem TR {K} {t} {x y} {xs} {ok} (i:o.op = .lookup t x y ok) (e:ef Γ s a w) (j:∀ d,o.dst=some d->d<Γ.nt) (hx:ev s x = .mapv xs)
  (h:sI T t xs (ev s y) ok fun v=>fJ s o.dst v K) (m:dS Γ a o.dst w K next):o.wpIn Γ.F Γ.n Γ.P a w next Q:=by
 obtain ⟨c,b,f⟩:=e.ex;obtain ⟨v,u,h1,h2,l⟩:=Qw hT b f hx h;grind [ot,execOp,Sem.run_bind,Result.andThen_ok,Sem.run_pure]
include hT in
theorem Qh {K} {t} {x} {k b off} {cs} {c} (r:WI Γ c s.b w) (q:∀ d x,get s.t d=some x->RC c x (a.tmps.getD d Go.undef)) (hx:ev s x = .pin k b off cs) (h:qI T s t k b off cs K) :
  ∃ v u,K v/\RC c v u/\(Instr.loadAt t (a.eval x)).run Γ.P w = .ok u w:=by
 have f:=cq q x;rw [hx] at f;obtain ⟨i,e⟩:=lk (show RD c.m (.pin k b off cs) (a.eval x) from f);rw [i];unfold qI at h;split at h
 ·exact h.elim
 rename_i L hi;split at h
 ·rename_i v hv;obtain ⟨vals,g1,g2,g3,g4⟩:=wB r.sub e;obtain ⟨u,j,n⟩:=jY hT hi g1 g2 g3 g4 hv;grind [Instr.loadAt,Instr.sureAddr,Sem.run_bind,Sem.run_pure,Result.andThen_ok]
 ·split at h
  ·rename_i l own F
   cases hl:Nat.ble (lo k) off with
   | false=>grind
   | true=>
    rw [hl,aP] at h;have H:=ah hl;split at h
    ·rename_i v hv;obtain ⟨rfl,J⟩:=h;obtain ⟨cells,U,z,G,E,M,A,B⟩:=(show RX c .box k l [own] (a.tmps.getD (xk k) Go.undef) from q _ _ (zG F));cases E;have D:=r.xo k l _ G
     obtain ⟨u,j,n⟩:=jY (c:=c) (w:=w) hT hi (b:=l) (off:=off) (cells:=own.drop (off - lo k)) (vals:=cells.toList.drop off) (by grind)
      (fun y hy=>A y (gn hy)) (fun p y v g1 g2=>by
       rw [cB] at g1 g2;refine (B _ y v g1 ?_).toRC1 (A y (aC g1));grind) (fun p v g=>by
       rw [cB] at g;simp only [World.cell?,D.obj];simpa using g) hv
     grind [Instr.loadAt,Instr.sureAddr,Sem.run_bind,Sem.run_pure,Result.andThen_ok]
    ·exact h.elim
  ·exact h.elim
include hΓ hT in
theorem TA {K} {t} {x} {k b off} {cs} (j:o.op = .load t x) (f:ef Γ s a w) (l:∀ d,o.dst=some d->d<Γ.nt) (hx:ev s x = .pin k b off cs)
  (h:qI T s t k b off cs fun v=>fJ s o.dst v K) (p:dS Γ a o.dst w K next):o.wpIn Γ.F Γ.n Γ.P a w next Q:=by
 obtain ⟨c,e,i⟩:=f.ex;obtain ⟨v,u,h1,h2,m⟩:=Qh hT e i hx h;grind [ot,execOp,Sem.run_bind,Result.andThen_ok,Sem.run_pure]
theorem zU {K K'} {t} {xs} {kv} {ok} (h:sI T t xs kv ok K) (hk:∀ v,K v->K' v):sI T t xs kv ok K':=by
 unfold sI at h ⊢;split at h
 ·split at h
  ·split at h
   ·grind
   ·exact h
  ·exact h
 ·exact h
theorem zh {K K'} {t} {b} {kv} {ok} (h:ol T s t b kv ok K) (hk:∀ v,K v->K' v):ol T s t b kv ok K':=by
 unfold ol at h ⊢;split at h
 ·split at h
  ·split at h
   ·grind
   ·exact h
  ·exact h
 ·exact h
theorem zJ {K K'} {t} {k b off} {cs} (h:qI T s t k b off cs K) (hk:∀ v,K v->K' v):qI T s t k b off cs K':=by
 unfold qI at h ⊢;split at h
 ·exact h
 ·split at h
  ·exact hk _ h
  ·split at h
   ·generalize Nat.ble (lo k) off=c at h ⊢
    cases c with
    | false=>exact h
    | true=>
     simp only [aP] at h ⊢;split at h
     ·exact ⟨h.1,hk _ h.2⟩
     ·exact h
   ·exact h
include hΓ hT in
theorem OY {K} {t} {x y} {k b off} {cs0} (hop:o.op = .store t x y) (hI:ef Γ s a w) (hx:ev s x = .pin k b off cs0) (h:td T s o.dst t k b off (ev s y) K)
  (J:∀ k v,K k v->∀ g d n xs,iE g=true->get s.t d=some (.me g k n xs)->d=xk k) (hn:∀ k v,K k v->dS Γ a o.dst w (fun s'=>s'=⟨(xk k,v)::s.t,s.b⟩) next):o.wpIn Γ.F Γ.n Γ.P a w next Q:=by
 obtain ⟨c,hW,ht⟩:=hI.ex;have Z:=cq ht x;rw [hx] at Z;obtain ⟨hav,_⟩:=lk (show RD c.m (.pin k b off cs0) (a.eval x) from Z);unfold td at h;split at h
 ·rename_i ti cs p hi hcs;split at h
  ·exact h.elim
  rename_i M own hp
  cases G:(Nat.beq cs.length ti.size&&(cs.all (fun c=>c.isCell)&&(Nat.ble (lo k) off&&(Nat.ble (off - lo k+cs.length) own.length&&Nat.blt 0 cs.length)))) with
  | false=>grind
  | true=>
   rw [G,aP,lY] at h;obtain ⟨rfl,hK⟩:=h;have l:=J _ _ hK;simp only [al,aN] at G;obtain ⟨b1,b2,b3,b4,b5⟩:=G;have hlo:=ah b3;have hle:=ah b4;have hpos:1<=cs.length:=ah b5;obtain ⟨cells,U,own',D,e2,e3,e4,e5⟩:=(show RX c .box k M [own] (a.tmps.getD (xk k) Go.undef) from ht _ _ (zG hp));cases e2;have hq:=hW.xo k M _ D;obtain ⟨g1,g2⟩:=(cq ht y).cells0 hcs
   have L:∀ v∈(a.eval y).cells.toList,v.oneCell'=true:=by
    intro v hv;obtain ⟨n,X,hv'⟩:=cI hv;have B:n<cs.length:=by rw [g1]; simpa using X
    have h1:(a.eval y).cells[n]?=some v:=by
     rw [<- hv',<- cU]; exact ai X
    exact ((g2 n _ v (ai B) h1).one (b2 _ (bX B))).1
   have hnl:(a.eval y).cells.toList.length=cs.length:=by simp [g1]
   generalize e:(a.eval y).cells.toList=news at *;have N:=oM Γ.P M off U news 0 cells w hq.obj am L;simp only [eb] at N;have r:=fun n=>yU cells.toList news off n (by grind)
   obtain ⟨W1,q,W3⟩:=hW.storeX D (cells.toList.take off++news++cells.toList.drop (off+news.length)).toArray (fun i v hv=>by
    have B:i<lo k:=pV fun hc=>by rw [hq.mem i hc] at hv; cases hv
    rw [r,aY am];have:=hW.sub.cell M i v hv;simpa [World.cell?,hq.obj] using this)
   refine mM hΓ (by grind) (w':=w.setRow M (cells.toList.take off++news++cells.toList.drop (off+news.length)).toArray) ?_ ?_
   ·have hsz:(a.eval y).cells.size=ti.size:=by rw [<- g1]; exact ak b1
    simp only [execOp,hop,hav,Instr.storeAt,Instr.sureAddr,aD,aL,aw,storeVar,eU hT hi,hsz,Bg,iO,cv,e,N]
   ·rw [p];refine hn _ _ hK _ _ _ rfl (hI.next W3 W1 (d:=none) (v:=Go.undef) (by intro k hk; cases hk) (fun d z hz=>?_)) W3 (lC p);rw [bf] at hz;split at hz
    ·rename_i hd;cases hz;refine ⟨_,U,_,aV rfl,rfl,?_,fun z hz=>?_,fun i z u h1 h2=>?_⟩
     ·grind [lr,qD,List.size_toArray,List.length_append,List.length_take,List.length_drop,Array.length_toList]
     ·rw [lr] at hz;rcases nE _ _ _ _ hz with h | h
      ·exact b2 z h
      ·exact e4 z h
     ·rw [lr,qE] at h1;rw [r] at h2;split at h1
      ·rename_i hr;rw [aV am] at h2;rw [show lo k+i - off=i - (off - lo k) by omega] at h2;have h3:(a.eval y).cells[i - (off - lo k)]?=some u:=by rw [<- cU,e]; exact h2
       have h4:=g2 _ z u h1 h3;have h5:=(vQ (b2 z (aC h1)) h4);exact h5.mono q.τ q.σ q.m
      ·rename_i hr;have hil:=(aq.1 h1).1;rw [aY am] at h2;exact (e5 i z u h1 (by simpa using h2)).mono q.τ q.σ q.m
    ·rename_i hd;have hz':=ht d z hz
     cases z with
     | me g k' n' j=>
      by_cases H:k'=k
      ·subst H
       cases g with
       | sl=>obtain ⟨p1,p2,p3,p4,f,E⟩:=(show RX c .sl k' n' j (a.tmps.getD d Go.undef) from hz'); rw [D] at f; cases f; exact ⟨_,_,_,p4,aV rfl,E⟩
       | ptr A j2=>obtain ⟨p1,p2,p3,f,E⟩:=(show RX c (.ptr A j2) k' n' j (a.tmps.getD d Go.undef) from hz'); rw [D] at f; cases f; exact ⟨_,_,_,aV rfl,E⟩
       | arr=>exact absurd (l _ _ _ _ rfl hz) hd
       | row _ _=>exact absurd (l _ _ _ _ rfl hz) hd
       | mp=>obtain ⟨p1,p2,p3,f,E⟩:=(show RX c .mp k' n' j (a.tmps.getD d Go.undef) from hz'); rw [D] at f; cases f
       | ents=>exact absurd (l _ _ _ _ rfl hz) hd
       | sub A l2=>obtain ⟨p1,p2,p3,p4,E,f,p7⟩:=(show RX c (.sub A l2) k' n' j (a.tmps.getD d Go.undef) from hz'); rw [D] at f; cases f; exact ⟨_,_,_,p4,E,aV rfl,p7⟩
       | box=>exact absurd (l _ _ _ _ rfl hz) hd
      ·have:=hz'.leX q;simp only [AV.unme,show Nat.beq k k'=false from by cases G:Nat.beq k k' with | false=>rfl | true=>exact absurd (ak G).symm H] at this;exact this
     | _=>exact hz'.leX q
 ·exact h.elim
include hΓ hT in
theorem Y8 {K} (M:ef Γ s a w) (hd:∀ d,o.dst=some d->d<Γ.nt) (h:S7 T s o.dst o.op K) (hn:dS Γ a o.dst w K next):o.wpIn Γ.F Γ.n Γ.P a w next Q:=by
 obtain ⟨c,hW,G⟩:=M.ex;unfold S7 at h;split at h
 ·rename_i t p q d ho b;have D:=hd d b;split at h
  ·rename_i i hi;split at h
   ·rename_i j hj;split at h
    ·rename_i k1 l k2 n H hl hc E
     cases J:(Nat.beq i.kind 3&&(Nat.beq H.length j.size&&(H.all (fun c=>c.isCell)&&Nat.blt 0 j.size))) with
     | false=>grind
     | true=>
      rw [J,aP] at h;simp only [al,aN] at J;obtain ⟨b1,b2,b3,b4⟩:=J;obtain ⟨h0,N,A,hmax,hK⟩:=h;have hpos:0<j.size:=ah b4;have hu:=ee hT hi (ak b1);have L:=ak b2;obtain ⟨q',z,q1,q2,q3,q4,q5,_⟩:=jq (c:=c) w hT hj E L;obtain ⟨u,z1,z2,z3⟩:=mO hT (w:=w) hj E
      have X:u=z:=by
       simp only [zeroValue,typeInfo,aD,yr,aw,q1,aL,q4,aat,tH] at z1;exact z1.symm
      subst X;have hp:=cq G p;rw [hl] at hp;have Z:=cq G q;rw [hc] at Z
      have f:(q'.bytes:Int)*n<=281474976710656:=by
       unfold gR at A;have:((n.toNat*j.bytes:Nat):Int)<=70368744177664:=by omega
       rw [q3,oe];rw [Int.natCast_mul,Int.toNat_of_nonneg am] at this;omega
      have x:=run_make (P:=Γ.P) w t i.elem q' u hu q1 q4 k1 k2 l n h0 N f am;rw [q2] at x;have B:(madeCells u.cells (n.toNat*j.size)).size=n.toNat*j.size:=by simp [madeCells]
      obtain ⟨W1,W2,W3⟩:=hW.newX d (l.toNat,n.toNat) (.cells (madeCells u.cells (n.toNat*j.size)) i.elem (0,0)) rfl (el _ _);refine cX hΓ (by grind) (v := .slice (some ⟨w.heap.size,0,none⟩) l.toNat n.toNat) (w':=w.alloc (.cells (madeCells u.cells (n.toNat*j.size)) i.elem)) ?_ ?_
      ·simp only [execOp,ho,hp.int,Z.int,aD,x,aw,aL]
      ·rw [b];refine hn _ _ _ hK (M.next W3 W1 (d:=some d) (by grind) (eT (fun e z hz=>?_) (by rw [M.size]; exact D) ?_)) W3 (gL b)
       ·rw [bf] at hz;split at hz
        ·cases hz;refine ⟨_,_,i.elem,aV rfl,⟨by simp,by rw [B]; simp⟩,by rw [B,List.length_replicate]; exact bg _ am,fun r hr=>?_,fun m r p y h1 h2=>?_⟩
         ·grind
         ·rw [yO] at h1;split at h1
          ·rename_i hm;cases h1;have hpl:p<H.length:=(aq.1 h2).1;have hpz:p<u.cells.size:=by omega
           have hlt:m*j.size+p<n.toNat*j.size:=by
            have:(m+1)*j.size<=n.toNat*j.size:=bg _ am;rw [A7] at this; omega
           grind [Array.getElem?_eq_getElem,sH,Nat.mul_comm,Nat.mul_add_mod,Nat.mod_eq_of_lt]
          ·cases h1
        ·rw [dO] at hz;obtain ⟨u,U,rfl⟩:=aA.1 hz;exact (G e u U).leX W2
       ·exact ⟨_,_,i.elem,n.toNat,aV rfl,rfl,⟨by simp,by simp⟩,by omega⟩
    ·exact h.elim
   ·exact h.elim
  ·exact h.elim
 ·exact h.elim
end
open Go
open Go.RowKit (Below)
section
variable {Γ:cr} (hΓ:Γ.OK) {T:eX} (hT:T.OK Γ.P) {s:St} {K:St->Prop} {o:Oper} {a:Act} {w:World}
 {next:Act->World->Prop} {Q:Exit->Act->World->Prop}
include hΓ hT in
theorem Ox {t} {x} {lo hi mx} {k n} {zs} (B:o.op = .slice t x lo hi mx) (H:ef Γ s a w) (J:∀ d,o.dst=some d->d<Γ.nt) (hx:ev s x = .me .sl k n zs)
  (h:Dk T s o.dst t k n (lo.map (ev s)) (hi.map (ev s)) (mx.map (ev s)) K) (hn:dS Γ a o.dst w K next):o.wpIn Γ.F Γ.n Γ.P a w next Q:=by
 obtain ⟨c,N,A⟩:=H.ex;unfold Dk at h;split at h
 ·exact h.elim
 rename_i i D;split at h
 ·exact h.elim
 rename_i j hj;split at h
 ·exact h.elim
 rename_i sz xs hc
 cases e:(Nat.beq i.kind 3&&(Nat.beq j.size sz&&(mx.map (ev s)).isNone)) with
 | false=>grind
 | true=>
  rw [e] at h;simp only [aP] at h;simp only [al] at e;obtain ⟨b1,b2,M⟩:=e;have E:mx=none:=by cases mx with | none=>rfl | some _=>simp at M
  subst E;have hu:=ee hT D (ak b1);have G:=ak b2;have u:=cq A x;rw [hx] at u;obtain ⟨b,cells,U,cap,e1,Z,e3,e4⟩:=(show RX c .sl k n zs (a.eval x) from u)
  have f:∀ (p:Option Operand) (d:Nat) (K':Nat->Prop),jZ (p.map (ev s)) d K' ->
    ∃ n,K' n/\(∀ (y:Nat) (code:BoundsCode),n<=y->∀ v,p.map a.eval=some v->(Instr.sliceBound v y code).run Γ.P w = .ok n w)/\(p.map a.eval=none->n=d):=by
   intro p d K' e
   cases p with
   | none=>exact ⟨d,e,by simp,fun _=>rfl⟩
   | some y=>
    simp only [bJ,jZ] at e;split at e
    ·grind
    ·rename_i q n hy;simp only [aB] at hy;have:=cq A y;rw [hy] at this;refine ⟨n.toNat,e.2,fun z code hz v hv=>?_,by simp⟩;simp only [bJ,aB] at hv;exact xa (hv ▸ this.int) e.1 hz
    ·exact e.elim
  obtain ⟨l,h,hl1,X⟩:=f lo 0 _ h;obtain ⟨r,h,hr1,L⟩:=f hi n _ h;obtain ⟨g1,g2,h⟩:=h
  have m:(Instr.sliceBounds true n cap (lo.map a.eval) (hi.map a.eval) none).run Γ.P w = .ok (l,r,cap) w:=by
   refine xY ?_ ?_
   ·grind
   ·grind
  refine ot hΓ H J N A (by grind) (x := .me (.sub sz l) k (r - l) []) (v := .slice (if cap=l then some ⟨b,0,none⟩ else (some (⟨b,0,none⟩:Addr)).map (·.add (l*j.size))) (r - l) (cap - l)) ?_ ?_ h hn
  ·refine ⟨b,cells,U,if cap=l then 0 else l*sz,cap - l,e1,?_,?_,by omega,by omega⟩
   ·split
    ·rfl
    ·rw [G]; simp only [bJ,fu,bS]
   grind
  ·simp only [execOp,B,Z,Instr.sliceAt,aD,a7 hu,aw,Instr.slice,m,eU hT hj,aL,Bh]
include hΓ hT in
theorem Ys {args} {ts} {x y} {sz k B} {zs} (hop:o.op = .call { callee := .builtin .append,args:=args,argTypes:=ts }) (ha:args.toList=[x,y]) (hI:ef Γ s a w) (hd:∀ d,o.dst=some d->d<Γ.nt)
  (hx:ev s x = .me (.sub sz 0) k B zs) (h:WF T s o.dst ts.toList sz k B (ev s y) K) (hn:dS Γ a o.dst w K next):o.wpIn Γ.F Γ.n Γ.P a w next Q:=by
 obtain ⟨c,hW,ht⟩:=hI.ex;unfold WF at h;split at h
 ·rename_i d t t' H hts;have hdlt:=hd d H;split at h
  ·exact h.elim
  rename_i i hi;split at h
  ·exact h.elim
  rename_i j hj;split at h
  ·rename_i f l k' m ys hys;split at h
   ·exact h.elim
   rename_i Z xs hc
   cases hb:(Nat.beq i.kind 3&&(Nat.beq t t'&&(Nat.beq sz Z&&(Nat.beq f Z&&(Nat.beq k k'&&(Nat.beq j.size Z&&Nat.blt 0 Z)))))) with
   | false=>grind
   | true=>
    rw [hb] at h;simp only [al] at hb;obtain ⟨b1,b2,b3,b4,b5,b6,b7⟩:=hb;have q1:=ak b2;have q2:=ak b3;have q3:=ak b4;have q4:=ak b5;have q5:=ak b6;subst q1; subst q2; subst q3; subst q4;obtain ⟨hle,h⟩:=h;have hpos:0<f:=ah b7;obtain ⟨b,cells,U,e1,e2,e3,e4,e5⟩:=rl ht hc;have hq:=hW.xo k b _ e1;have hrx:=cq ht x;rw [hx] at hrx;obtain ⟨b',cells',U',off,cap,f1,f2,f3,f4,f5⟩:=(show RX c (.sub f 0) k B zs (a.eval x) from hrx);rw [e1] at f1;cases f1;have hoff:off=0:=f3.elim (fun h=>by rw [h,SB]) (fun h=>h.2);subst hoff;have hry:=cq ht y;rw [hys] at hry;obtain ⟨b'',cells'',U'',J,cap2,g1,g2,g3,g4,g5⟩:=(show RX c (.sub f l) k m ys (a.eval y) from hry);rw [e1] at g1;cases g1
    obtain ⟨q,hq1,hq2⟩:∃ q,Γ.P.info? i.elem=some q/\q.size=f:=by
     obtain ⟨q,d,h1,h2,h3⟩:=eo hT hj;grind [TI.of,Option.some.injEq]
    have hu:=ee hT hi (ak b1);obtain ⟨news,hnews⟩:∃ news,news=(cells.toList.drop (l*f)).take (m*f):=⟨_,rfl⟩;have hlm:(l+m)*f<=cells.size:=bH (bg _ am) e3;rw [dE] at hlm;have L:news.length=m*f:=by rw [hnews]; simp; omega
    have hng:∀ p,news[p]?=if p<m*f then cells[l*f+p]? else none:=fun p=>by
     grind
    have hone:∀ v∈news,v.oneCell'=true:=by
     intro v hv;obtain ⟨p,N⟩:=ct hv;rw [hng] at N;split at N
     ·rename_i hlt
      obtain ⟨r0,hr0⟩:∃ r0,xs[l+p / f]?=some r0:=by
       have:p / f<m:=Nat.div_lt_of_lt_mul (by grind);exact ⟨_,ai am⟩
      have hrl:=(e4 r0 (aC hr0)).1;have hmod:=nq p hpos;obtain ⟨y0,hy0⟩:∃ y0,r0[p % f]?=some y0:=⟨_,ai am⟩;obtain ⟨u,hu1,hu2⟩:=e5 _ r0 _ y0 hr0 hy0
      have hidx:(l+p / f)*f+p % f=l*f+p:=by
       rw [dE,d3,A8 (p / f) f,Nat.div_add_mod]
      rw [hidx,N] at hu1;cases hu1;exact (hu2.one ((e4 r0 (aC hr0)).2 y0 (aC hy0))).1
     ·cases N
    have hcell:∀ p u,news[p]?=some u->w.cell? ((⟨b,J,none⟩:Addr).add p)=some u:=by
     intro p u N;rw [hng] at N;split at N
     ·rename_i hlt
      have:J=l*f:=by
       rcases g3 with h | h
       ·exact h
       ·grind
      rw [fu,this];simp only [World.cell?,hq.obj];simpa using N
     ·cases N
    have hfit:(B+m)*f<=cells.size:=bH (bg _ hle) e3;rw [dE] at hfit;have M:=lf hu hq1 (w:=w) (T:=U) (cur:=cells) (g:=b) (sLen:=B) (se:=cap) hq.obj ⟨b,J,none⟩ m cap2 news (by rw [L,hq2]) hcell hone am (by rw [L,hq2]; omega) o.type;rw [hq2,L] at M;obtain ⟨A,D⟩:∃ A,A=(cells.toList.take (B*f)++news++cells.toList.drop (B*f+m*f)).toArray:=⟨_,rfl⟩;rw [<- D] at M
    have hc2:∀ p,A[p]?=if p<B*f then cells[p]? else if p<B*f+m*f then cells[l*f+(p - B*f)]? else cells[p]?:=fun p=>by
     have hl1:(cells.toList.take (B*f)).length=B*f:=by simp; omega
     have he:A[p]?=(cells.toList.take (B*f)++news++cells.toList.drop (B*f+m*f))[p]?:=by rw [D]; simp
     rw [he];by_cases X:p<B*f
     ·grind
     ·rw [aY X];by_cases hp2:p<B*f+m*f
      ·grind
      ·rw [aY hp2,bM (by grind),cB,cj,hl1,L,show B*f+m*f+(p - (B*f+m*f))=p by omega]; simp
    have hsize2:A.size=cells.size:=by rw [D]; simp [L]; omega
    obtain ⟨E,W2,W3⟩:=hW.storeX e1 A (hq.ag (oj hc));obtain ⟨c2,G⟩:∃ c2:dM,c2={ c with x:=fun j=>if j=k then some (b,.cells A U (0,0)) else c.x j,xn:=fun j=>if j=k then (B+m,cap) else c.xn j }:=⟨_,rfl⟩
    have W1':WI Γ c2 s.b (w.setRow b A):=by
     rw [G]
     exact ⟨E.ext,E.sub,E.le0,E.new,fun d cs h hne=>by
      obtain ⟨p1,p2,p3,us,V,p4,p5,p6⟩:=E.box d cs h hne;exact ⟨p1,p2,p3,us,V,p4,p5,fun i x v z1 z2=>fD.leX_cell (k:=k) (c:={ c with x:=fun j=>if j=k then some (b,.cells A U (0,0)) else c.x j }) (c':={ c with x:=fun j=>if j=k then some (b,.cells A U (0,0)) else c.x j,xn:=fun j=>if j=k then (B+m,cap) else c.xn j }) ⟨.refl _,rfl,rfl,rfl,fun j hj=>⟨rfl,aY hj⟩⟩ (p6 i x v z1 z2) (p3 x (aC z1))⟩,
      E.inj,fun j=>⟨(E.own j).blk,(E.own j).shape,(E.own j).box,(E.own j).apart⟩,fun j b' o' h=>⟨(E.xo j b' o' h).new,(E.xo j b' o' h).obj,(E.xo j b' o' h).kept,(E.xo j b' o' h).mem,(E.xo j b' o' h).map,(E.xo j b' o' h).box,(E.xo j b' o' h).own,(E.xo j b' o' h).inj⟩⟩
    have L2:c.leX k c2:=by rw [G]; exact ⟨.refl _,rfl,rfl,rfl,fun j hj=>⟨aY hj,aY hj⟩⟩
    have hx2:c2.x k=some (b,.cells A U (0,0)):=by rw [G]; exact aV rfl
    have hn2:c2.xn k=(B+m,cap):=by rw [G]; exact aV rfl
    have hm2:c2.m=c.m:=by rw [G]
    obtain ⟨args⟩:=args;obtain ⟨ts⟩:=ts;simp only at ha hts;subst ha;subst hts;refine cX hΓ (by grind) (v := .slice (some ⟨b,0,none⟩) (B+m) cap) (w':=w.setRow b A) ?_ ?_
    ·simp only [execOp,hop,aD,ec,aw,invoke,builtin,eE,cp,eZ,f2,g2,M,aL]
    ·rw [H];refine hn _ _ _ h (hI.next W3 W1' (d:=some d) (by grind) (eT (fun e z hz=>?_) (by rw [hI.size]; exact hdlt) ?_)) W3 (gL H)
     ·rw [bf] at hz;split at hz
      ·cases hz
       have htk:∀ (p:Nat) (r:List AV),(xs.take B++(xs.drop l).take m)[p]?=some r->if p<B then xs[p]?=some r else p<B+m/\xs[l+(p - B)]?=some r:=fun p r N=>by
        grind
       refine ⟨b,A,U,hx2,?_,?_,fun r hr=>?_,fun p r p' z1 h1 h2=>?_⟩
       ·rw [hn2]; exact ⟨by simp; omega,by rw [hsize2]; exact bH (bg _ am) e2.2⟩
       ·grind [Nat.add_mul]
       ·grind
       ·have:=htk p r h1;rw [hc2,hm2];split at this
        ·rename_i X;have hrl:=(e4 r (aC this)).1;have hpl:p'<f:=by rw [<- hrl]; exact (aq.1 h2).1
         have hmul:(p+1)*f<=B*f:=bg _ X;grind
        ·rename_i X;obtain ⟨hp2,this⟩:=this;have hrl:=(e4 r (aC this)).1;have hpl:p'<f:=by rw [<- hrl]; exact (aq.1 h2).1
         have hmul:B*f<=p*f:=bg _ am;have hmul2:(p+1)*f<=(B+m)*f:=bg _ hp2;rw [dE,wh,dE] at hmul2;rw [aY am,aV am];obtain ⟨u,u1,u2⟩:=e5 _ r p' z1 this h2;refine ⟨u,?_,u2⟩;rw [<- u1]
         congr 1
         grind [Nat.sub_mul,Nat.add_mul]
      ·rw [dO] at hz;obtain ⟨z',hz',rfl⟩:=aA.1 hz;exact (ht e z' hz').leX L2
     ·exact ⟨b,A,U,cap,hx2,rfl,by grind,by omega⟩
  ·exact h.elim
 ·exact h.elim
end
open Go
open Go.RowKit (Below)
section
variable {Γ:cr} (hΓ:Γ.OK) {T:eX} (hT:T.OK Γ.P) {s:St} {K:St->Prop} {o:Oper} {a:Act} {w:World}
 {next:Act->World->Prop} {Q:Exit->Act->World->Prop}
theorem WI.rename {c} {bx} (e:WI Γ c bx w) (k) (p):WI Γ { c with xn:=fun j=>if j=k then p else c.xn j } bx w/\c.leX k { c with xn:=fun j=>if j=k then p else c.xn j }:=by
 have L:c.leX k { c with xn:=fun j=>if j=k then p else c.xn j }:=⟨.refl _,rfl,rfl,rfl,fun j hj=>⟨rfl,aY hj⟩⟩;refine ⟨⟨e.ext,e.sub,e.le0,e.new,fun d cs h f=>?_,e.inj,fun j=>⟨(e.own j).blk,(e.own j).shape,(e.own j).box,(e.own j).apart⟩,fun j b o h=>⟨(e.xo j b o h).new,(e.xo j b o h).obj,(e.xo j b o h).kept,(e.xo j b o h).mem,(e.xo j b o h).map,(e.xo j b o h).box,(e.xo j b o h).own,(e.xo j b o h).inj⟩⟩,L⟩;obtain ⟨p1,p2,l,us,V,q,n,r⟩:=e.box d cs h f;exact ⟨p1,p2,l,us,V,q,n,fun i x v m z2=>(r i x v m z2).leX_cell L (l x (aC m))⟩
theorem dM.leX.trans {k} {a b c:dM} (h:a.leX k b) (g:b.leX k c):a.leX k c:=
 ⟨h.m.trans g.m,g.ρ.trans h.ρ,g.τ.trans h.τ,g.σ.trans h.σ,fun j hj=>⟨(g.x j hj).1.trans (h.x j hj).1,(g.x j hj).2.trans (h.x j hj).2⟩⟩
include hΓ hT in
theorem Yt {args} {ts} {x y} {k n} {zs} (hop:o.op = .call { callee := .builtin .append,args:=args,argTypes:=ts }) (ha:args.toList=[x,y]) (hI:ef Γ s a w) (hd:∀ d,o.dst=some d->d<Γ.nt)
  (hx:ev s x = .me .sl k n zs) (h:WG T s o.dst ts.toList k n (ev s y) K) (hn:dS Γ a o.dst w K next):o.wpIn Γ.F Γ.n Γ.P a w next Q:=by
 obtain ⟨c,hW,ht⟩:=hI.ex;unfold WG at h;split at h
 ·rename_i d t t' J hts;have hdlt:=hd d J;split at h
  ·exact h.elim
  rename_i i hi;split at h
  ·exact h.elim
  rename_i j hj;split at h
  ·exact h.elim
  rename_i sz xs hc;split at h
  ·rename_i ow sz' D hys
   cases hb:(Nat.beq i.kind 3&&(Nat.beq t t'&&(n0 j&&(Nat.blt 0 j.size&&Nat.beq j.size sz)))) with
   | false=>grind
   | true=>
    rw [hb] at h;simp only [al] at hb;obtain ⟨b1,b2,b3,b4,b5⟩:=hb;have htt:=ak b2;subst htt;have hjs:=ak b5;subst hjs;obtain ⟨⟨hn0,hroom,hmax,h⟩,hsy⟩:=mG h;have hpos:0<j.size:=ah b4;unfold n0 at b3;split at b3
    ·rename_i zs' hz;have hzl:=ak b3;obtain ⟨b,cells,U,e1,⟨e2,e2'⟩,e3,e4,e5⟩:=rl ht hc;have hq:=hW.xo k b _ e1;have hrx:=cq ht x;rw [hx] at hrx;obtain ⟨b',cells',U',cap,f1,f2,⟨f3,f4⟩,f5⟩:=(show RX c .sl k n zs (a.eval x) from hrx);rw [e1] at f1;cases f1;rw [<- f4] at e2';have G:xs.length=n:=by omega
     have hry:=cq ht y;rw [hys] at hry;have hry1:=(eD (by intro cs hc; cases hc)).1 hry;have hu:=ee hT hi (ak b1);obtain ⟨q,z,q1,q2,q3,q4,q5,_⟩:=jq (c:=c) w hT hj hz hzl;have hy':RD c.m (.sl .no sz' D) (a.eval y):=hry1.sl_no;obtain ⟨v,hv⟩:∃ v,v=a.eval y:=⟨_,rfl⟩;rw [<- hv] at hy';obtain ⟨base',n',M,rfl,_,_⟩:=hy'.elem;obtain ⟨k2,k1,k2',k3,k4,k5,k6,k7,k8⟩:=hy'.flat;subst k4
     have hy6:∀ r∈D,r.length=j.size:=by
      rcases hsy with h | h
      ·rw [h]; exact k6
      ·subst h; simp
     have H:k2.length=D.length*j.size:=by
      rcases hsy with h | h
      ·rw [h]; exact k1
      ·subst h; simpa using k1
     have hk2:∀ (i:Nat) (x:List AV) (p:Nat) (c':AV),D[i]?=some x->x[p]?=some c'->∃ v,k2[i*j.size+p]?=some v/\RD c.m c' v:=by
      rcases hsy with h | h
      ·rw [h]; exact k2'
      ·subst h; simp
     obtain ⟨args⟩:=args;obtain ⟨ts⟩:=ts;simp only at ha hts;subst ha;subst hts
     -- the rows,flat
     obtain ⟨l,hl⟩:∃ l,l=cells.toList.take (n*j.size):=⟨_,rfl⟩;have hll:l.length=xs.length*j.size:=by rw [hl,G]; simp; rw [G] at e3; omega
     have hlg:∀ p,p<n*j.size->l[p]?=cells[p]?:=fun p hp=>by grind
     have hl2:∀ (i:Nat) (x:List AV) (p:Nat) (c':AV),xs[i]?=some x->x[p]?=some c'->∃ v,l[i*j.size+p]?=some v/\RD c.m c' v:=fun i r p c' h1 h2=>by
      obtain ⟨u,u1,u2⟩:=e5 i r p c' h1 h2;refine ⟨u,?_,u2⟩;rw [hlg]
      ·exact u1
      ·have hrl:=(e4 r (aC h1)).1;have hpl:p<j.size:=by rw [<- hrl]; exact (aq.1 h2).1
       have hmul:(i+1)*j.size<=n*j.size:=bg _ (by grind);grind
     have hall:∀ r∈xs++D,r.length=j.size/\∀ y∈r,y.isCell=true:=fun r hr=>by
      grind
     have N:(xs++D).length=n+D.length:=by rw [cj,G]
     -- what is to be shown of the new row
     have fin:∀ (c2:dM) (b2:Nat) (f:Array Value) (U2:TypeId) (E:Nat) (w2:World),(Builtin.append_ #[t,t] o.type #[.slice (some ⟨b,0,none⟩) n cap,.slice base' D.length M]).run Γ.P w = .ok (.slice (some ⟨b2,0,none⟩) (n+D.length) E) w2 ->
       WI Γ c2 s.b w2->c.leX k c2->NC w w2->c2.x k=some (b2,.cells f U2 (0,0))->c2.xn k=(n+D.length,E)->n+D.length<=E->E*j.size<=f.size ->
       (∀ (p:Nat) (v:Value),(l++k2)[p]?=some v->f[p]?=some v)->o.wpIn Γ.F Γ.n Γ.P a w next Q:=by
      intro c2 b2 f U2 E w2 B W1 L2 W3 hx2 hn2 hcap hsz2 hcells;refine cX hΓ (by grind) (v := .slice (some ⟨b2,0,none⟩) (n+D.length) E) (w':=w2) ?_ ?_
      ·simp only [execOp,hop,aD,ec,aw,invoke,builtin,eE,cp,eZ,f2,<- hv,B,aL]
      ·rw [J];refine hn _ _ _ h (hI.next W3 W1 (d:=some d) (by grind) (eT (fun e z hz=>?_) (by rw [hI.size]; exact hdlt) ?_)) W3 (gL J)
       ·rw [bf] at hz;split at hz
        ·cases hz;refine ⟨b2,f,U2,hx2,⟨by rw [hn2]; exact N,by rw [hn2]; exact hsz2⟩,?_,hall,fun p r p' z1 h1 h2=>?_⟩
         ·rw [N]; exact bH (bg _ hcap) hsz2
         ·obtain ⟨v,h3,h4⟩:=qZ (m:=c.m) hll hl2 hk2 p r p' z1 h1 h2;exact ⟨v,hcells _ _ h3,h4.mono L2.m⟩
        ·rw [dO] at hz;obtain ⟨z',hz',rfl⟩:=aA.1 hz;exact (ht e z' hz').leX L2
       ·exact ⟨b2,f,U2,E,hx2,rfl,by grind,hcap⟩
     obtain ⟨bb,Z,rfl,hkm⟩:=k8 hn0;have L:∀ p v,k2[p]?=some v->w.cell? ((⟨bb,Z,none⟩:Addr).add p)=some v:=fun p v h=>by rw [fu]; exact hW.sub.cell _ _ _ (hkm p v h)
     have hr47:(xs.length+D.length)*j.bytes<=140737488355328:=by unfold gR at hroom; omega
     by_cases X:n+D.length<=cap
     ·-- in its place
      have hmul:=bg j.size X;rw [dE] at hmul;have B:=lf hu q1 (w:=w) (T:=U) (cur:=cells) (g:=b) (sLen:=n) (se:=cap) hq.obj ⟨bb,Z,none⟩ D.length M k2 (by rw [H,q2]) L k3 X (by rw [H,q2]; omega) o.type;rw [q2,H] at B;obtain ⟨f,A⟩:∃ f,f=(cells.toList.take (n*j.size)++k2++cells.toList.drop (n*j.size+D.length*j.size)).toArray:=⟨_,rfl⟩;rw [<- A] at B;have hsize2:f.size=cells.size:=by rw [A]; simp [H]; omega
      obtain ⟨W1,L1,W3⟩:=hW.storeX e1 f (hq.ag (oj hc));obtain ⟨W1',L2⟩:=W1.rename k (n+D.length,cap);refine fin _ b f U cap _ B W1' (L1.trans L2) W3 (aV rfl) (aV rfl) X (by rw [hsize2]; exact e2') (fun p v hp=>?_);grind
     ·-- elsewhere
      have hfits:=wg (need:=n+D.length) (old:=cap) (bytes:=q.bytes) am (by grind);have hge:=L8 w (n+D.length) cap i.elem;obtain ⟨f,A⟩:∃ f,f=l.toArray++k2.toArray++Builtin.zeroCells z.cells (grownCap w (n+D.length) cap i.elem - (n+D.length)):=⟨_,rfl⟩
      have holds:∀ p v,l[p]?=some v->w.cell? ((⟨b,0,none⟩:Addr).add p)=some v:=fun p v hp=>by
       have hpl:=(aq.1 hp).1;rw [hll,G] at hpl;rw [hlg p hpl] at hp;rw [fu,bS];simp only [World.cell?,hq.obj];exact hp
      have B:=sB (P:=Γ.P) w t o.type i.elem q z hu q1 q4 ⟨b,0,none⟩ n cap l (by rw [hll,q2,G]) holds ⟨bb,Z,none⟩ D.length M k2 (by rw [H,q2]) L am am hfits;rw [<- A] at B
      have hsz:f.size=grownCap w (n+D.length) cap i.elem*j.size:=by
       rw [A];simp only [og,iQ,v8,q5,hll,H,G];rw [<- dE,<- dE]
       congr 1
       omega
      obtain ⟨W1,L1,W3⟩:=hW.drew.newX k (n+D.length,grownCap w (n+D.length) cap i.elem) (.cells f i.elem (0,0)) rfl (el _ _);have hN:NC w (w.drew.alloc (.cells f i.elem (0,0))):=NC.trans (show NC w w.drew from ⟨ba _,fun _ _ h _=>h,.drew _,fun _ h=>h⟩) W3;refine fin _ w.heap.size f i.elem _ _ B W1 L1 hN (by rw [nz]; exact aV rfl) (aV rfl) hge am (fun p v hp=>?_);grind
    ·cases b3
  ·exact h.elim
 ·exact h.elim
end
open Go
open Go.RowKit (Below)
section
variable {Γ:cr} (hΓ:Γ.OK) {T:eX} (hT:T.OK Γ.P) {s:St} {K:St->Prop} {o:Oper} {a:Act} {w:World}
 {next:Act->World->Prop} {Q:Exit->Act->World->Prop}
theorem DQ {guards} {o} (h:yX guards o=true):o.op = .assign (.const (.slice none 0 0)):=by
 grind [yX]
include hΓ in
theorem aav (b:o.op = .assign (.const (.slice none 0 0))) (e:ef Γ s a w) (f:∀ d,o.dst=some d->d<Γ.nt) (h:fJ s o.dst (.sl .full 0 []) K) (l:dS Γ a o.dst w K next):o.wpIn Γ.F Γ.n Γ.P a w next Q:=by
 obtain ⟨c,i,j⟩:=e.ex;refine ot hΓ e f i j (by grind) (x := .sl .full 0 []) (v := .slice none 0 0) ?_ (by simp only [execOp,b]; rfl) h l;exact RC.of_RD (.sl _ _ _ _ _ _ (by intro k hk; cases hk) (fun _=>rfl) rfl (ba _) dc dc 0 0 am (fun _ _=>Go.undef) dc dc)
include hΓ hT in
theorem lg {op} (c:o.op=op) (f:ef Γ s a w) (q:∀ d,o.dst=some d->d<Γ.nt) (h:Xi T (ar Γ.P) s o.dst o.type op K) (j:dS Γ a o.dst w K next):o.wpIn Γ.F Γ.n Γ.P a w next Q:=by
 unfold Xi at h;split at h
 ·grind [xu,tW,eL]
 ·grind [xw,eL]
 ·grind [SZ,TA,zJ,AV.go_eq,eL]
 ·grind [SY,zh,AV.go_eq,TR,zU]
 ·split at h
  ·grind [WE]
  ·obtain ⟨s',h1,h2⟩:=hX _ _ h f;split at h1
   ·rename_i hx;exact OY hΓ hT c h2 hx h1 (fun k v e g d n xs t=>jX t e.1) (fun k v e s2 a2 D y u z B=>j s2 a2 D (by rw [y]; exact e.2) u z B)
   ·exact h1.elim
  grind [hX,eL]
 ·exact eL hΓ hT c f q h j
 ·exact eL hΓ hT c f q h j
 ·grind [PU]
 ·split at h
  ·rename_i b hx;exact nB hΓ hT (.inl c) f hx h (fun k v e _ s' l w' h1 h2 p m=>j s' l w' (by rw [h1]; exact e.2) h2 p m) (fun k v e d n xs=>jX rfl e.1)
  ·exact h.elim
 ·split at h
  ·rename_i b hx;exact nB hΓ hT (.inr c) f hx h (fun k v e _ s' l w' h1 h2 p m=>j s' l w' (by rw [h1]; exact e.2) h2 p m) (fun k v e d n xs=>jX rfl e.1)
  ·exact h.elim
 ·split at h
  ·rename_i A x;split at h
   ·rename_i hx;split at h
    ·rename_i i hi
     cases r:Nat.beq i.kind 3 with
     | false=>grind
     | true=>grind [Yr,Nat.eq_of_beq_eq_true]
    ·exact h.elim
   ·rename_i hx;split at h
    ·rename_i i hi
     cases r:Nat.beq i.kind 3 with
     | false=>grind
     | true=>grind [S0,Nat.eq_of_beq_eq_true]
    ·exact h.elim
   grind [eL]
  grind [eL]
 ·split at h
  ·rename_i A;obtain ⟨s',h1,h2⟩:=hX _ _ h f;split at h1
   ·grind [eL,Oy]
   ·rename_i g _ _ _ hx;split at h1
    ·rename_i off
     cases r:Nat.beq off 0 with
     | true=>grind [Nat.eq_of_beq_eq_true,Ys]
     | false=>grind [eL]
    ·grind [Yt]
    grind [eL]
   grind [eL]
  grind [eL]
 ·grind [hX,eL,Ox]
 grind [hX,eL]
end
open Go
open Go.RowKit (Below)
def eW (c:dM) (N I:List Nat) (b:Nat):Prop:=(∃ k∈N,∃ o,c.x k=some (b,o))\/∃ j∈I,dq c j=some b
open Classical in
noncomputable def mX (w:World) (B:Nat->Prop):World:={ w with heap:=w.heap.mapIdx fun i o=>if B i then .deferred none else o }
theorem tp (w) (B):(mX w B).heap.size=w.heap.size:=by simp [mX]
theorem rM {w} {B} {k} (h:¬ B k):(mX w B).heap[k]?=w.heap[k]?:=by
 simp only [mX,Ci,h,cv];cases w.heap[k]? <;> rfl
theorem zR {w} {B} {k} (h:B k) (hk:k<w.heap.size):(mX w B).heap[k]?=some (.deferred none):=by
 simp only [mX,Ci,h,cR,aE hk,bJ]
theorem ph {w} {B} {k} (h:free (mX w B) k):w.heap.size<=k\/B k\/w.heap[k]?=some (.deferred none):=by
 rcases h with h | h
 ·exact .inl (by rwa [tp] at h)
 grind [rM]
def dM.only (c:dM) (N I:List Nat):dM:={ c with x:=fun k=>if k∈N then c.x k else none,τ:=fun j=>if j∈I then c.τ j else .slice none 0 0 }
theorem qJ {c} {N I} {j} (h:j∈I):dq (c.only N I) j=dq c j:=by simp only [dq,dM.only,aV h]
theorem yz {c:dM} {N I} {j} (h:j ∉ I):dq (c.only N I) j=none:=by simp only [dq,dM.only,aY h,lH]
theorem lE {c} {N I} {j b} (h:dq (c.only N I) j=some b):j∈I/\dq c j=some b:=by
 grind [qJ,yz]
theorem ME {c:dM} {N I} {k b} {o} (h:(c.only N I).x k=some (b,o)):k∈N/\c.x k=some (b,o):=by
 grind [dM.only]
theorem tt {c} {N I} {b}:eW (c.only N I) N I b↔eW c N I b:=by
 constructor
 ·rintro (⟨k,hk,o,h⟩ | ⟨j,hj,h⟩)
  ·exact .inl ⟨k,hk,o,(ME h).2⟩
  ·exact .inr ⟨j,hj,(lE h).2⟩
 ·rintro (⟨k,hk,o,h⟩ | ⟨j,hj,h⟩)
  ·exact .inl ⟨k,hk,o,by simp only [dM.only,aV hk]; exact h⟩
  ·exact .inr ⟨j,hj,by rw [qJ hj]; exact h⟩
section
variable {Γ Γ':cr} {c:dM} {bx:List (Nat×List AV)} {w:World} {N I:List Nat}
theorem WI.lent_free (d:WI Γ c bx w) {b} (h:eW c N I b):free Γ.w0 b/\b<w.heap.size:=by
 rcases h with ⟨k,_,o,h⟩ | ⟨j,_,h⟩
 ·exact ⟨(d.xo k b o h).new,d.lt_x h⟩
 ·obtain ⟨_,_,_,_,_,_,_,_,e⟩:=(d.own j).blk b h;exact ⟨e.free,d.lt_own h⟩
theorem WI.lent_box (i:WI Γ c bx w) {b d} {cs} (h:eW c N I b) (f:get bx d=some cs) (e:cs≠[]):c.ρ d≠b:=by
 rcases h with ⟨k,_,o,h⟩ | ⟨j,_,h⟩
 ·exact (i.xo k b o h).box d cs f e
 ·exact (i.own j).box b d cs h f e
theorem WI.lent_own (d:WI Γ c bx w) {b j} (h:eW c N I b) (hj:dq c j=some b):j∈I:=by
 rcases h with ⟨k,_,o,h⟩ | ⟨i,hi,h⟩
 ·exact absurd hj ((d.xo k b o h).own j)
 ·rw [(d.own i).apart b j h hj]; exact hi
theorem WI.lent_x (d:WI Γ c bx w) {b k} {o} (h:eW c N I b) (hk:c.x k=some (b,o)):k∈N:=by
 rcases h with ⟨i,hi,o',h⟩ | ⟨j,_,h⟩
 ·rw [(d.xo i b o' h).inj k o hk]; exact hi
 ·exact absurd h ((d.xo k b o hk).own j)
theorem WI.lend (e:WI Γ c bx w) (r:∀ j∈I,5000000<=j) (l:Γ'.w0=mX w (eW (c.only N I) N I)) (hm:Γ'.m0=c.m):WI Γ' (c.only N I) [] w where
 ext:=by
  rw [l];refine ⟨rfl,rfl,rfl,by rw [tp]; exact ba _,fun k hk=>?_⟩;refine (rM fun t=>hk (.inr (zR t ?_))).symm;exact (e.lent_free (tt.1 t)).2
 sub:=e.sub
 le0:=by rw [hm]; exact .refl _
 new:=by rw [hm]; exact ⟨fun _ _ _ h => .inl h,fun _ _ h => .inl h⟩
 box:=fun d cs h=>by simp [get] at h
 inj:=fun d y cs v h=>by simp [get] at h
 own:=fun k=>by
  refine ⟨fun g p=>?_,?_,fun g d cs _ h=>by simp [get] at h,fun g j h1 h2=>(e.own k).apart g j (lE h1).2 (lE h2).2⟩
  ·obtain ⟨hk,i⟩:=lE p;obtain ⟨len,cap,T,cells,h1,h2,n,u,_⟩:=(e.own k).blk g i;refine ⟨len,cap,T,cells,by simp only [dM.only,aV hk]; exact h1,h2,n,u,.inr ⟨r k hk,?_⟩⟩;rw [l];exact zR (.inr ⟨k,hk,p⟩) (aX.1 h2).1
  ·by_cases hk:k∈I
   ·simp only [dM.only,aV hk];refine (e.own k).shape.imp id ?_;rintro ⟨base,len,cap,h1,h2,n⟩;exact ⟨base,len,cap,h1,h2,fun a x hl=>⟨(n a x hl).1,.inr (r k hk)⟩⟩
   ·simp only [dM.only,aY hk]; exact .inl rfl
 xo:=fun k b o h=>by
  obtain ⟨hk,q⟩:=ME h;have f:=e.xo k b o q;refine ⟨.inr ?_,f.obj,f.kept,f.mem,f.map,fun d cs h=>by simp [get] at h,fun j hj=>f.own j (lE hj).2,fun j o' hj=>f.inj j o' (ME hj).2⟩;rw [l];exact zR (.inl ⟨k,hk,o,h⟩) (e.lt_x q)
end
structure Wh (P:Program) (c:dM) (N I:List Nat) (L:List (Nat×AV)) (w:World):Prop where
 wi:WI ⟨P,Fence.wide,0,mX w (eW c N I),c.m,0⟩ c [] w
 ent:∀ p∈L,∀ u,fD c p.2 u
 shape:∀ p∈L,p.1∈N/\∃ g n xs,p.2 = .me g p.1 n xs/\iE g=true
 ids:∀ j∈si L,j∈I
 xN:∀ k,k ∉ N->c.x k=none
 tI:∀ j,j ∉ I->c.τ j = .slice none 0 0
 big:∀ j∈I,5000000<=j
structure Oo (B:Nat->Prop) (w w':World):Prop where
 os:w'.os=w.os
 tape:w'.tape=w.tape
 output:w'.output=w.output
 size:w.heap.size<=w'.heap.size
 block:∀ k,k<w.heap.size->¬ B k->w'.heap[k]?=w.heap[k]?
def RR (c:dM) (N:List Nat) (r:AV) (v:Value):Prop:=match r with
 | .me .sl k n xs=>k∈N/\RX c .sl k n xs v
 | r=>RD c.m r v
def Bb (x h:Nat->Option (Nat×Obj)) (n e:Nat->Nat×Nat) (k:Nat):Prop:=e k=n k/\∀ b cells T,x k=some (b,.cells cells T (0,0))->∃ d f,h k=some (b,.cells d f (0,0))
structure lR (P:Program) (f:FuncId) (N I:List Nat) (args:List AV) (L:List (Nat×AV)) (Q:AV->List (Nat×AV)->Prop):Prop where
 enters:∀ (args:Array Value) (w:World),(callFunc f args).run P w = .ok (.enter f args) w
 runs:∀ (c:dM) (w:World) (vs:List Value),Wh P c N I L w->(gu P).le c.m->(gu P).sub (mX w (eW c N I))->args.length=vs.length->(∀ (i:Nat) (x:AV) (v:Value),args[i]?=some x->vs[i]?=some v->RC c x v) ->
  Calls P f vs.toArray w fun e w'=>∃ r L' v c',Q r L'/\e = .returned v/\RR c' N r v/\Wh P c' N I L' w'/\c.m.le c'.m/\Oo (eW c N I) w w' /\
   (∀ b,eW c' N I b->eW c N I b\/w.heap.size<=b)/\c.m.News (fun b=>eW c N I b\/w.heap.size<=b) c'.m w'/\NC w w'/\∀ k∈N,7000000<=k->Bb c.x c'.x c.xn c'.xn k
def bW (P:Program):vV:=fun f N I args L r L'=>lR P f N I args L (fun a b=>a=r/\b=L')
def dM.back (c c':dM) (N I:List Nat):dM:={ c with m:=c'.m,x:=fun k=>if k∈N then c'.x k else c.x k,xn:=fun k=>if k∈N then c'.xn k else c.xn k,τ:=fun j=>if j∈I then c'.τ j else c.τ j,σ:=fun j=>if j∈I then c'.σ j else c.σ j }
theorem jb {c c':dM} {N I} {j} (h:j∈I):dq (c.back c' N I) j=dq c' j:=by simp only [dq,dM.back,aV h]
theorem ia {c c'} {N I} {j} (h:j ∉ I):dq (c.back c' N I) j=dq c j:=by simp only [dq,dM.back,aY h]
def AV.demMany (x:AV):List Nat->AV
 | []=>x
 | k::r=>(x.dem k).demMany r
def AV.demMany1 (x:AV):List Nat->AV
 | []=>x
 | k::r=>(x.dem1 k).demMany1 r
theorem lx:∀ (I:List Nat) (s:St) (d:Nat),get (s.demMany I).t d=(get s.t d).map fun x=>x.demMany I
 | [],s,d=>by simp [St.demMany,AV.demMany]
 | k::r,s,d=>by
  rw [St.demMany,lx r,mI,Option.map_map]; rfl
theorem n4:∀ (I:List Nat) (s:St) (d:Nat),get (s.demMany I).b d=(get s.b d).map fun cs=>cs.map fun x=>x.demMany1 I
 | [],s,d=>by simp [St.demMany,AV.demMany1]
 | k::r,s,d=>by
  rw [St.demMany,n4 r,rR,Option.map_map]
  congr 1
  funext cs;simp [AV.demMany1,List.map_map,Function.comp_def]
theorem ln:∀ (I:List Nat) {x:AV},x.isCell=true->(x.demMany1 I).isCell=true
 | [],_,h=>h
 | k::r,_,h=>ln r (pZ k h)
def dM.owns (c:dM) (u:Nat->Value) (z:Nat->Nat):List Nat->dM
 | []=>c
 | k::r=>(c.own k (u k) (z k)).owns u z r
theorem nZ (u:Nat->Value) (z:Nat->Nat):∀ (I:List Nat) (c:dM),c.owns u z I={ c with τ:=fun j=>if j∈I then u j else c.τ j,σ:=fun j=>if j∈I then z j else c.σ j }
 | [],c=>by simp [dM.owns]
 | k::r,c=>by
  rw [dM.owns,nZ u z r];simp only [dM.own];grind
theorem RC.owns (u:Nat->Value) (z:Nat->Nat):∀ (I:List Nat) {c:dM} {x:AV} {v:Value},RC c x v->RC (c.owns u z I) (x.demMany I) v
 | [],_,_,_,h=>h
 | k::r,_,_,_,h=>RC.owns u z r (h.own (k:=k) (u:=u k) (sz:=z k))
theorem fD.owns (u:Nat->Value) (z:Nat->Nat):∀ (I:List Nat) {c:dM} {x:AV} {v:Value},fD c x v->fD (c.owns u z I) (x.demMany1 I) v
 | [],_,_,_,h=>h
 | k::r,_,_,_,h=>fD.owns u z r (h.own (k:=k) (u:=u k) (sz:=z k))
theorem fD.xs_cell {c} {x} {v} (f) (g) (h:fD c x v) (hx:x.isCell=true):fD { c with x:=f,xn:=g } x v:=by
 cases x with
 | me _ j n xs=>simp [AV.isCell] at hx
 | loc d off=>simp [AV.isCell] at hx
 | sl o sz xs=>cases o <;> exact h
 | _=>exact h
def setXs (c:dM) (f:Nat->Option (Nat×Obj)) (g:Nat->Nat×Nat):List Nat->dM
 | []=>c
 | k::r=>setXs { c with x:=fun j=>if j=k then f k else c.x j,xn:=fun j=>if j=k then g k else c.xn j } f g r
theorem Ij (f:Nat->Option (Nat×Obj)) (g:Nat->Nat×Nat):∀ (N:List Nat) (c:dM),setXs c f g N={ c with x:=fun j=>if j∈N then f j else c.x j,xn:=fun j=>if j∈N then g j else c.xn j }
 | [],c=>by simp [setXs]
 | k::r,c=>by
  rw [setXs,Ij f g r];grind
theorem RC.setXs (f:Nat->Option (Nat×Obj)) (g:Nat->Nat×Nat):∀ (N:List Nat) {c:dM} {x:AV} {v:Value},(∀ k∈N,7000000<=k->Bb c.x f c.xn g k)->RC c x v->RC (Go.AI.setXs c f g N) (x.unmeMany N) v
 | [],_,_,_,_,h=>h
 | k::r,c,x,v,hk,h=>by
  have hk':∀ j∈r,7000000<=j->Bb (fun j=>if j=k then f k else c.x j) f (fun j=>if j=k then g k else c.xn j) g j:=fun j hj z=>by
   by_cases e:j=k
   ·subst e;refine ⟨by simp only [aV],fun b cells T h=>⟨cells,T,by grind⟩⟩
   ·obtain ⟨h1,h2⟩:=hk j (aS _ hj) z;refine ⟨by grind,fun b cells T h=>h2 b cells T (by grind)⟩
  have hu:=RC.leX (k:=k) (c:=c) (c':={ c with x:=fun j=>if j=k then f k else c.x j,xn:=fun j=>if j=k then g k else c.xn j }) ⟨.refl _,rfl,rfl,rfl,fun j hj=>⟨aY hj,aY hj⟩⟩ h;refine RC.setXs f g r hk' ?_
  cases l:(Nat.ble 7000000 k&&x.isRefX) with
  | false=>grind
  | true=>
   rw [aP];simp only [al] at l
   cases x with
   | me t j n xs=>
    by_cases e:k=j
    ·subst e;obtain ⟨E,u⟩:=hk k aW (ah l.1)
     cases t with
     | sl=>
      obtain ⟨b,cells,T,cap,r1,m,D,y⟩:=(show RX c .sl k n xs v from h);obtain ⟨d,p,q⟩:=u b cells T r1;exact ⟨b,d,p,cap,by grind,m,by grind,y⟩
     | ptr sz i=>
      obtain ⟨b,cells,T,r1,m⟩:=(show RX c (.ptr sz i) k n xs v from h);obtain ⟨d,p,q⟩:=u b cells T r1;exact ⟨b,d,p,by simp only [aV]; exact q,m⟩
     | _=>cases l.2
    ·have A:Nat.beq k j=false:=by rw [<- yP]; exact fun B=>e (ak B)
     simpa only [AV.unme,A,bq] using hu
   | _=>cases l.2
theorem X5 (c c':dM) (N I):c.back c' N I=setXs ((c.mem c'.m).owns c'.τ c'.σ I) c'.x c'.xn N:=by
 rw [Ij,nZ]; rfl
theorem RC.back {c c'} (hle:c.m.le c'.m) (N I) {x} {v} (hk:∀ k∈N,7000000<=k->Bb c.x c'.x c.xn c'.xn k) (h:RC c x v):RC (c.back c' N I) ((x.demMany I).unmeMany N) v:=by
 rw [X5];refine RC.setXs _ _ N (fun k h1 h2=>?_) ((h.mono (c':=c.mem c'.m) ⟨hle,rfl,rfl,rfl,rfl,rfl⟩).owns _ _ I);rw [nZ];exact hk k h1 h2
theorem fD.back_cell {c c'} (hle:c.m.le c'.m) (N I) {x} {v} (h:fD c x v) (hx:x.isCell=true):fD (c.back c' N I) (x.demMany1 I) v:=by
 have h1:=(h.mono (c':=c.mem c'.m) ⟨hle,rfl,rfl,rfl,rfl,rfl⟩).owns c'.τ c'.σ I;rw [nZ] at h1;exact h1.xs_cell (fun k=>if k∈N then c'.x k else c.x k) (fun k=>if k∈N then c'.xn k else c.xn k) (ln I hx)
theorem RR.back {c c':dM} (N I) {r} {v} (h:RR c' N r v):RC (c.back c' N I) r v:=by
 cases r with
 | me g k n xs=>
  cases g with
  | sl=>
   obtain ⟨hk,b,cells,T,cap,h1,h2,d,e⟩:=h;refine ⟨b,cells,T,cap,?_,h2,?_,e⟩
   ·show (if k∈N then c'.x k else c.x k)=_; rw [aV hk]; exact h1
   ·show n=(if k∈N then c'.xn k else c.xn k).1/\cap=(if k∈N then c'.xn k else c.xn k).2; rw [aV hk]; exact d
  | _=>exact nomatch (show RD c'.m _ v from h)
 | _=>exact RC.of_RD (c:=c.back c' N I) h
theorem RO.ids {c c'} (hm:c'.m=c.m) {y} {v} (h:RO c y v) (hi:∀ j∈yE [y],c'.τ j=c.τ j/\c'.σ j=c.σ j):RO c' y v:=by
 cases y with
 | sl o sz xs=>
  cases o with
  | id k=>
   grind [yE,RO,id]
  | no=>show RD c'.m _ _; rw [hm]; exact h
  | full=>show RD c'.m _ _; rw [hm]; exact h
 | _=>show RD c'.m _ _; rw [hm]; exact h
theorem T4 {y} {l} (h:y∈l) {j} (hj:j∈yE [y]):j∈yE l:=by
 induction l with
 | nil=>cases h
 | cons z r b=>
  have key:∀ {a:AV} {r:List AV} {j:Nat},j∈yE (a::r)↔j∈yE [a]\/j∈yE r:=by
   intro a r j
   cases a with
   | sl o sz xs=>cases o <;> simp [yE]
   | _=>simp [yE]
  grind
theorem RX.ids {c c'} (hm:c'.m=c.m) {g} {k n} {xs} {v} (A:iE g=true) (h:RX c g k n xs v) (hx:c'.x k=c.x k) (l:c'.xn k=c.xn k)
  (hi:∀ j∈si [(k,.me g k n xs)],c'.τ j=c.τ j/\c'.σ j=c.σ j):RX c' g k n xs v:=by
 cases g with
 | box=>
  obtain ⟨cells,T,own,r1,rfl,d,f,z⟩:=h;refine ⟨cells,T,own,by rw [hx]; exact r1,rfl,d,f,fun i y u h1 h2=>(z i y u h1 h2).ids hm fun j hj=>hi j ?_⟩;simp only [si,Xw,bV];exact T4 (aC h1) hj
 | arr=>
  obtain ⟨b,cells,T,r1,r0,p,d,f⟩:=h;exact ⟨b,cells,T,by rw [hx]; exact r1,by rw [l]; exact r0,p,d,fun i r j y h1 h2=>let ⟨u,q,t⟩:=f i r j y h1 h2; ⟨u,q,by rw [hm]; exact t⟩⟩
 | row b cap=>
  obtain ⟨cells,T,r1,r0,p,d,f⟩:=h;exact ⟨cells,T,by rw [hx]; exact r1,by rw [l]; exact r0,p,d,fun i r j y h1 h2=>let ⟨u,q,t⟩:=f i r j y h1 h2; ⟨u,q,by rw [hm]; exact t⟩⟩
 | ents=>
  obtain ⟨es,clock,r1,p,d,f,z,D⟩:=h;exact ⟨es,clock,by rw [hx]; exact r1,p,d,f,fun i x e y h1 h2 B=>by grind,fun i x e y h1 h2 B=>by grind⟩
 | _=>cases A
theorem uN {p} {L} (h:p∈L) {j} (hj:j∈si [p]):j∈si L:=by
 have key:∀ {a:Nat×AV} {r:List (Nat×AV)} {j:Nat},j∈si (a::r)↔j∈si [a]\/j∈si r:=by
  intro a r j;simp [si]
 induction L with
 | nil=>cases h
 | cons q r b=>
  grind
section
variable {Γ:cr} {c c':dM} {bx bx':List (Nat×List AV)} {w w':World} {N I:List Nat} {P:Program} {L L':List (Nat×AV)}
theorem WI.back (n:WI Γ c bx w) (H:Wh P c' N I L' w') (hle:c.m.le c'.m) (E:Oo (eW c N I) w w') (r:∀ b,eW c' N I b->eW c N I b\/w.heap.size<=b)
  (X:c.m.News (fun b=>eW c N I b\/w.heap.size<=b) c'.m w') (hC:NC w w') (A:∀ d cs,get bx' d=some cs->∃ ds,get bx d=some ds/\cs=ds.map fun x=>x.demMany1 I):WI Γ (c.back c' N I) bx' w':=by
 have hB:=n.ext.size
 have F:∀ b o,b<w.heap.size->¬ eW c N I b->c.m b o=none->c'.m b o=none:=fun b o hb f h=>by
  cases hm:c'.m b o with
  | none=>rfl
  | some v=>
   rcases X.cell b o v hm with D | ⟨D | D,_⟩
   ·rw [h] at D; cases D
   ·exact absurd D f
   ·omega
 have hmm:∀ b,b<w.heap.size->¬ eW c N I b->c.m.maps b=none->c'.m.maps b=none:=fun b hb f h=>by
  cases hm:c'.m.maps b with
  | none=>rfl
  | some v=>
   rcases X.map b v hm with D | D | D
   ·rw [h] at D; cases D
   ·exact absurd D f
   ·omega
 have U:∀ b,eW c N I b\/w.heap.size<=b->free Γ.w0 b:=fun b h=>by
  rcases h with h | h
  ·exact (n.lent_free h).1
  ·exact jQ (bH hB h)
 refine ⟨n.ext.trans ⟨E.os,E.tape,E.output,E.size,fun k hk=>E.block k (dv (jF hk) hB) fun h=>hk (n.lent_free h).1⟩,H.wi.sub,n.le0.trans hle,⟨fun b o v h=>?_,fun b x h=>?_⟩,fun d cs h t=>?_,fun d1 d2 c1 c2 g1 g2 n1 n2 hρ=>?_,fun k=>?_,fun k b o h=>?_⟩
 ·rcases X.cell b o v h with h | h
  ·exact (n.new.cell b o v h).imp id fun ⟨h1,h2⟩=>⟨h1,hC.soft b h2⟩
  grind
 ·rcases X.map b x h with h | h
  ·exact n.new.map b x h
  ·exact .inr (U b h)
 ·obtain ⟨ds,B,rfl⟩:=A d cs h;have hne':ds≠[]:=fun e=>t (by rw [e]; rfl);obtain ⟨q1,q2,q3,vs,T,q4,q5,q6⟩:=n.box d ds B hne';have u:=n.lt_box B hne';have f:¬ eW c N I (c.ρ d):=fun h=>n.lent_box h B hne' rfl;refine ⟨q1,fun o=>F _ o u f (q2 o),fun x hx=>?_,vs,T,(E.block _ u f).trans q4,by simpa using q5,fun i x v g1 g2=>?_⟩
  ·obtain ⟨y,hy,rfl⟩:=bp.1 hx;exact ln I (q3 y hy)
  ·rw [aT] at g1;obtain ⟨y,hy,rfl⟩:=aA.1 g1;exact (q6 i y v hy g2).back_cell hle N I (q3 y (aC hy))
 ·obtain ⟨e1,q1,rfl⟩:=A d1 c1 g1;obtain ⟨e2,q2,rfl⟩:=A d2 c2 g2;exact n.inj d1 d2 e1 e2 q1 q2 (fun e=>n1 (by rw [e]; rfl)) (fun e=>n2 (by rw [e]; rfl)) hρ
 ·by_cases hk:k∈I
  ·have p:=H.wi.own k;have M:(c.back c' N I).τ k=c'.τ k:=aV hk;have J:(c.back c' N I).σ k=c'.σ k:=aV hk;refine ⟨fun g q=>?_,?_,fun g d cs q h t=>?_,fun g j q hj=>?_⟩
   ·rw [jb hk] at q;obtain ⟨len,cap,T,cells,h1,h2,G,h4,_⟩:=p.blk g q;refine ⟨len,cap,T,cells,by rw [M]; exact h1,h2,by rw [J]; exact G,fun o Z=>h4 o (by rw [<- J]; exact Z),?_⟩;rcases r g (.inr ⟨k,hk,q⟩) with h | h
    ·exact (n.lent_free h).1.imp id fun m=>⟨H.big k hk,m⟩
    ·exact .inl (bH hB h)
   ·rw [M];refine p.shape.imp id ?_;rintro ⟨base,len,cap,h1,h2,G⟩;exact ⟨base,len,cap,h1,h2,fun a ha hl=>⟨(G a ha hl).1,.inr (H.big k hk)⟩⟩
   ·rw [jb hk] at q;obtain ⟨ds,B,rfl⟩:=A d cs h;have hne':ds≠[]:=fun e=>t (by rw [e]; rfl);rcases r g (.inr ⟨k,hk,q⟩) with h | h
    ·exact n.lent_box h B hne'
    ·have:=n.lt_box B hne';show c.ρ d≠g;omega
   ·rw [jb hk] at q;by_cases l:j∈I
    ·rw [jb l] at hj;exact p.apart g j q hj
    ·rw [ia l] at hj;rcases r g (.inr ⟨k,hk,q⟩) with h | h
     ·exact absurd (n.lent_own h hj) l
     ·have:=n.lt_own hj; omega
  ·have p:=n.own k;have M:(c.back c' N I).τ k=c.τ k:=aY hk;have J:(c.back c' N I).σ k=c.σ k:=aY hk;refine ⟨fun g q=>?_,?_,fun g d cs q h t=>?_,fun g j q hj=>?_⟩
   ·rw [ia hk] at q;have u:=n.lt_own q;have f:¬ eW c N I g:=fun h=>hk (n.lent_own h q);obtain ⟨len,cap,T,cells,h1,h2,G,h4,h5⟩:=p.blk g q;exact ⟨len,cap,T,cells,by rw [M]; exact h1,(E.block g u f).trans h2,by rw [J]; exact G,fun o Z=>F g o u f (h4 o (by rw [<- J]; exact Z)),h5⟩
   ·rw [M]; exact p.shape
   ·rw [ia hk] at q;obtain ⟨ds,B,rfl⟩:=A d cs h;exact p.box g d ds q B fun e=>t (by rw [e]; rfl)
   ·rw [ia hk] at q;by_cases l:j∈I
    ·rw [jb l] at hj;rcases r g (.inr ⟨j,l,hj⟩) with h | h
     ·exact absurd (n.lent_own h q) hk
     ·have:=n.lt_own q; omega
    ·rw [ia l] at hj;exact p.apart g j q hj
 ·by_cases hk:k∈N
  ·have hx:c'.x k=some (b,o):=by rw [<- h]; exact (aV hk).symm
   have p:=H.wi.xo k b o hx;have f:=r b (.inl ⟨k,hk,o,hx⟩);refine ⟨U b f,p.obj,p.kept,p.mem,p.map,fun d cs h t=>?_,fun j hj=>?_,fun j o' hj=>?_⟩
   ·obtain ⟨ds,B,rfl⟩:=A d cs h;have hne':ds≠[]:=fun e=>t (by rw [e]; rfl);rcases f with h | h
    ·exact n.lent_box h B hne'
    ·have:=n.lt_box B hne';show c.ρ d≠b;omega
   ·by_cases l:j∈I
    ·rw [jb l] at hj; exact p.own j hj
    ·rw [ia l] at hj;rcases f with h | h
     ·exact l (n.lent_own h hj)
     ·have:=n.lt_own hj; omega
   ·by_cases z:j∈N
    ·exact p.inj j o' (by rw [<- hj]; exact (aV z).symm)
    ·have hj':c.x j=some (b,o'):=by rw [<- hj]; exact (aY z).symm
     rcases f with h | h
     ·exact absurd (n.lent_x h hj') z
     ·have:=n.lt_x hj'; omega
  ·have hx:c.x k=some (b,o):=by rw [<- h]; exact (aY hk).symm
   have p:=n.xo k b o hx;have u:=n.lt_x hx;have f:¬ eW c N I b:=fun h=>hk (n.lent_x h hx);refine ⟨p.new,(E.block b u f).trans p.obj,p.kept,fun i hi=>F b i u f (p.mem i hi),hmm b u f p.map,fun d cs h t=>?_,fun j hj=>?_,fun j o' hj=>?_⟩
   ·obtain ⟨ds,B,rfl⟩:=A d cs h;exact p.box d ds B fun e=>t (by rw [e]; rfl)
   ·by_cases l:j∈I
    ·rw [jb l] at hj;rcases r b (.inr ⟨j,l,hj⟩) with h | h
     ·exact f h
     ·omega
    ·rw [ia l] at hj; exact p.own j hj
   ·by_cases z:j∈N
    ·have hj':c'.x j=some (b,o'):=by rw [<- hj]; exact (aV z).symm
     rcases r b (.inl ⟨j,z,o',hj'⟩) with h | h
     ·exact absurd h f
     ·omega
    ·exact p.inj j o' (by rw [<- hj]; exact (aY z).symm)
end
theorem kD {s:St}:∀ {e:List Nat} {L:List (Nat×AV)},gO s e=some L->∀ p∈L,p.1∈e/\get s.t (xk p.1)=some p.2/\∃ g n xs,p.2 = .me g p.1 n xs/\iE g=true
 | [],L,h,p,b=>by grind [gO,Option.some.injEq]
 | k::r,L,h,p,b=>by
  simp only [gO] at h;split at h
  ·rename_i g j n xs l h1 h2
   cases d:(Nat.beq j k&&iE g) with
   | false=>rw [d] at h; cases h
   | true=>
    rw [d] at h;simp only [aP,aB] at h;subst h;simp only [al] at d;have:=ak d.1;subst this;rcases bC.1 b with rfl | b
    ·grind
    ·obtain ⟨f,i⟩:=kD h2 p b;exact ⟨aS _ f,i⟩
  ·cases h
theorem eI {α:Type}:∀ (l r:List (Nat×α)) (x:Nat),get (l++r) x=(get l x).or (get r x)
 | [],r,x=>rfl
 |(y,v)::l,r,x=>by
  rw [jE,bf,bf,eI l r x];split <;> rfl
theorem D9 {v:AV} {d:Nat}:∀ {L:List (Nat×AV)},get (Cl L) d=some v->∃ p∈L,d=xk p.1/\v=p.2
 | [],h=>by simp [Cl,get] at h
 |(k,u)::r,h=>by
  simp only [Cl] at h;rw [bf] at h;split at h
  ·rename_i he; simp only [aB] at h; exact ⟨(k,u),aW,he,h.symm⟩
  ·obtain ⟨p,b,h⟩:=D9 h;exact ⟨p,aS _ b,h⟩
theorem RX.any {c} {g} {k n} {xs} {u v} (b:iE g=true) (h:RX c g k n xs u):RX c g k n xs v:=by
 cases g with
 | box=>exact h
 | arr=>exact h
 | row _ _=>exact h
 | ents=>exact h
 | _=>cases b
section
variable {Γ:cr} (hΓ:Γ.OK) {s:St} {a:Act} {w:World} {o:Oper} {next:Act->World->Prop} {Q:Exit->Act->World->Prop}
theorem RX.only {c:dM} {N I:List Nat} {g:Rh} {k n:Nat} {xs:List (List AV)} {v:Value} (hk:k∈N) (hi:∀ j∈si [(k,.me g k n xs)],j∈I) (h:RX c g k n xs v):RX (c.only N I) g k n xs v:=by
 have hx:(c.only N I).x k=c.x k:=aV hk;have b:(c.only N I).xn k=c.xn k:=rfl
 cases g with
 | box=>exact RX.ids (c:=c) (c':=c.only N I) rfl rfl h hx b fun j hj=>⟨aV (hi j hj),rfl⟩
 | arr=>exact RX.ids (c:=c) (c':=c.only N I) rfl rfl h hx b fun j hj=>⟨aV (hi j hj),rfl⟩
 | row _ _=>exact RX.ids (c:=c) (c':=c.only N I) rfl rfl h hx b fun j hj=>⟨aV (hi j hj),rfl⟩
 | ents=>exact RX.ids (c:=c) (c':=c.only N I) rfl rfl h hx b fun j hj=>⟨aV (hi j hj),rfl⟩
 | sl=>grind [RX]
 | ptr sz q=>simp only [RX,hx] at h ⊢; exact h
 | mp=>simp only [RX,hx] at h ⊢; exact h
 | sub sz l=>simp only [RX,hx,b] at h ⊢; exact h
theorem tn {p:Nat×AV} {L:List (Nat×AV)} (b:p∈L):p.1∈ky L:=by
 induction L with
 | nil=>cases b
 | cons q r d=>
  obtain ⟨k,v⟩:=q;rcases bC.1 b with rfl | b
  ·exact aW
  ·exact aS _ (d b)
theorem gq {l:List Nat} {k:Nat} (h:dn l k=true):k∈l:=by
 induction l with
 | nil=>cases h
 | cons d r e=>
  simp only [dn] at h
  cases b:Nat.beq d k with
  | true=>rw [ak b]; exact aW
  | false=>grind
theorem RC.pubE {c:dM} {N I:List Nat} {x:AV} {v:Value} (hx:YH N x=true) (h:RC c x v):RC (c.only N I) x.pubE v:=by
 cases x with
 | me g k n xs=>
  have hk:k∈N:=by
   cases g <;> first | cases hx | exact gq hx
  show RX (c.only N I) g k n xs v;refine RX.only hk (fun j hj=>?_) (show RX c g k n xs v from h);cases g <;> first | cases hx | (simp [si,Xw] at hj)
 | _=>exact RC.of_RD (c:=c.only N I) (show RD (c.only N I).m _ _ from h.pub)
def Tj (s:St) (N I:List Nat) (d:Nat) (r:AV) (L':List (Nat×AV)):St:=⟨(d,r)::(Cl L'++((s.demMany I).unmeMany N).t),(s.demMany I).b⟩
include hΓ in
theorem ZB {b:Nat} (d:free Γ.w0 b) (i:Nat):gu Γ.P b i=none:=by
 cases h:gu Γ.P b i with
 | none=>rfl
 | some v=>
  have:=hΓ.gw.cell b i v h;rcases d with d | d
  ·simp [World.cell?,oi d] at this
  ·simp [World.cell?,d] at this
include hΓ in
theorem XE {c:dM} {bx:List (Nat×List AV)} {w:World} (d:WI Γ c bx w) {N I:List Nat}:(gu Γ.P).sub (mX w (eW c N I)):=⟨fun b i v h=>by
 have h1:=d.sub.cell b i v ((hΓ.gm.trans d.le0).cell b i v h);have e:¬ eW c N I b:=fun e=>by rw [ZB hΓ (d.lent_free e).1] at h; cases h
 grind [World.cell?,rM],fun b x h=>nomatch h⟩
include hΓ in
theorem Am {K:St->Prop} {g:FuncId} {call:Call} {U:Operand} {cap:List AV} {N I:List Nat} {L:List (Nat×AV)} {R:AV->List (Nat×AV)->Prop} (hI:ef Γ s a w) (hop:o.op = .call call) (hcal:call.callee = .value U)
  (hf:ev s U = .clo g cap\/ev s U = .fn g/\cap=[]) (hC:lR Γ.P g N I ((call.args.toList.map fun x=>(ev s x).pubE)++cap) L R) (he:gO s (ky L)=some L) (J:Q8 N I L (call.args.toList.map (ev s))=true)
  {d:Nat} (G:o.dst=some d) (hd:d<Γ.nt) (hK:∀ r L',R r L'->K (Tj s N I d r L')) (hn:dS Γ a o.dst w K next):o.wpIn Γ.F Γ.n Γ.P a w next Q:=by
 obtain ⟨c,hW,ht⟩:=hI.ex;simp only [Q8,al,aN] at J;obtain ⟨k1,k2,k3,k4⟩:=J;have H:∀ j∈I,5000000<=j:=fun j hj=>ah (aN.1 k3 j hj);have D:eW (c.only N I) N I=eW c N I:=funext fun b=>propext tt;have E:∀ j∈si L,j∈I:=fun j hj=>gq (k2 j hj);have B:∀ p∈L,p.1∈N:=fun p l=>gq (k1 p.1 (tn l))
 have M:Wh Γ.P (c.only N I) N I L w:=by
  refine ⟨hW.lend H rfl rfl,fun p l u=>?_,fun p l=>?_,E,fun k hk=>aY hk,fun j hj=>aY hj,H⟩
  ·obtain ⟨_,e2,gg,n,xs,X,e4⟩:=kD he p l;have A:=ht _ _ e2;obtain ⟨pk,pv⟩:=p;simp only at X;subst X;refine RX.any e4 (RX.only (B _ l) (fun j hj=>E j (uN l hj)) (show RX c gg pk n xs _ from A))
  ·obtain ⟨_,_,X⟩:=kD he p l;grind
 obtain ⟨vs,hfv,hcl,hcr⟩:∃ vs:Array Value,a.eval U = .func (.func g) #[] vs/\cap.length=vs.size/\∀ (i:Nat) (x:AV) (v:Value),cap[i]?=some x->vs[i]?=some v->RD c.m x v:=by
  have A:=cq ht U;rcases hf with hf | ⟨hf,rfl⟩
  ·rw [hf] at A;have A:RD c.m (.clo g cap) (a.eval U):=A;generalize a.eval U=u at A;cases A with | clo _ _ vs hl h=>grind
  ·rw [hf] at A;exact ⟨#[],A.fn,rfl,by simp⟩
 have hrun:=hC.runs (c.only N I) w (call.args.toList.map a.eval++vs.toList) M (hΓ.gm.trans hW.le0) (by rw [D]; exact XE hΓ hW) (by simp [hcl]) (fun i x v h1 h2=>by
  by_cases hi:i<call.args.toList.length
  ·rw [cL (by simpa using hi),aT] at h1 h2;obtain ⟨q,hq,rfl⟩:=aA.1 h1;grind [Option.some.injEq,RC.pubE,List.mem_map_of_mem,List.mem_of_getElem?,cq]
  ·rw [bM (by simpa using hi)] at h1 h2;simp only [ay] at h1 h2;exact RC.of_RD (c:=c.only N I) (hcr _ x v h1 (by simpa using h2)))
 have Z:(execOp a.eval o).run Γ.P w = .ok (.enter g (call.args.toList.map a.eval++vs.toList).toArray) w:=by
  have hres:(resolve a.eval call o.type).run Γ.P w = .ok { target := .fn (.func g) vs,args:=#[]++call.args.map a.eval } w:=by
   simp only [resolve,hcal,hfv,Deferred.ofValue,aL]
  simp only [execOp,hop,aD,hres,aw,invoke,hC.enters _ w]
  congr 2
  apply tT;simp
 refine ⟨fun f _=>hΓ.fn f,?_⟩;rw [kW _ _ _ (by grind),Z,yJ];refine ⟨fun h=>(by rw [hΓ.depth] at h; cases h),(js hΓ hrun _).mono ?_⟩;rintro e w' ⟨r,L',v,c',q1,rfl,q2,q3,q4,q5,q6,q7,q8,q9⟩;rw [D] at q5 q6 q7
 have W:=hW.back q3 q4 q5 q6 q7 q8 (bx':=(s.demMany I).b) (fun e cs hcs=>by
  rw [n4] at hcs;obtain ⟨ds,h1,h2⟩:=aA.1 hcs;grind)
 rw [G]
 have hts:∀ e z,get (Cl L'++((s.demMany I).unmeMany N).t) e=some z->RC (c.back c' N I) z (a.tmps.getD e Go.undef):=fun e z hz=>by
  rw [eI] at hz
  cases hx:get (Cl L') e with
  | some y=>
   rw [hx] at hz;cases hz;obtain ⟨p,l,rfl,rfl⟩:=D9 hx;obtain ⟨hpN,gg,n,xs,X,e4⟩:=q3.shape p l;have A:=q3.ent p l (a.tmps.getD (xk p.1) Go.undef);obtain ⟨pk,pv⟩:=p;simp only at X;subst X;exact RX.ids (c:=c') (c':=c.back c' N I) rfl e4 (show RX c' gg pk n xs _ from A) (aV hpN) (aV hpN) fun j hj=>⟨aV (q3.ids j (uN l hj)),aV (q3.ids j (uN l hj))⟩
  | none=>
   rw [hx] at hz;have hz:get ((s.demMany I).unmeMany N).t e=some z:=hz;simp only [St.unmeMany] at hz;rw [dO,lx] at hz;obtain ⟨y,hy,rfl⟩:=aA.1 hz;obtain ⟨y',hy',rfl⟩:=aA.1 hy;exact RC.back (c:=c) q4 N I (fun k h1 h2=>by have:=q9 k h1 h2; simpa only [Bb,dM.only,aV h1] using this) (ht e y' hy')
 exact hn _ _ _ (hK r L' q1) (hI.next q8 W (d:=some d) (v:=v) (by grind) (eT hts (by rw [hI.size]; exact hd) (RR.back N I q2))) q8 (by rw [G]; exact ⟨v,rfl⟩)
include hΓ in
theorem Pt {K:List Nat->List Nat->List (Nat×AV)->AV->List (Nat×AV)->Prop} (t:ef Γ s a w) {d:Nat} (e:o.dst=some d) (q:d<Γ.nt) (h:C4 (bW Γ.P) s o K)
  (u:dS Γ a o.dst w (fun s'=>∃ N I L r L',K N I L r L'/\s'=Tj s N I d r L') next):o.wpIn Γ.F Γ.n Γ.P a w next Q:=by
 unfold C4 at h;split at h
 ·rename_i call f;split at h
  ·rename_i y b;split at h
   ·rename_i g j;obtain ⟨N,I,L,r,L',⟨h1,h2,i⟩,m⟩:=h;exact Am hΓ t f b (cap:=[]) (.inr ⟨j,rfl⟩) i h1 h2 e q (fun v x ⟨l,p⟩=>⟨N,I,L,r,L',m,by rw [l,p]⟩) u
   ·rename_i g cap j;obtain ⟨N,I,L,r,L',⟨h1,h2,i⟩,m⟩:=h;exact Am hΓ t f b (cap:=cap) (.inl j) i h1 h2 e q (fun v x ⟨l,p⟩=>⟨N,I,L,r,L',m,by rw [l,p]⟩) u
   ·exact h.elim
  ·exact h.elim
 ·exact h.elim
end
open Go
open Go.RowKit (Below)
section
variable {Γ:cr} (hΓ:Γ.OK) {T:eX} (hT:T.OK Γ.P) {s:St} {K:St->Prop} {a:Act} {w:World} {Q:Exit->Act->World->Prop}
structure St.le (s s':St):Prop where
 t:∀ d x,get s'.t d=some x->get s.t d=some x
 b:∀ d cs,get s'.b d=some cs->cs≠[]->get s.b d=some cs
theorem St.le.refl (s:St):s.le s:=⟨fun _ _ h=>h,fun _ _ h _=>h⟩
theorem WI.less {c} {bx bx'} (e:WI Γ c bx w) (h:∀ d cs,get bx' d=some cs->cs≠[]->get bx d=some cs):WI Γ c bx' w:=
  ⟨e.ext,e.sub,e.le0,e.new,fun d cs i f=>e.box d cs (h d cs i f) f,fun d l cs j g1 g2 n1 n2 n=>e.inj d l cs j (h d cs g1 n1) (h l j g2 n2) n1 n2 n,
   fun k=>⟨(e.own k).blk,(e.own k).shape,fun g d cs m i f=>(e.own k).box g d cs m (h d cs i f) f,(e.own k).apart⟩,
   fun k b o hx=>⟨(e.xo k b o hx).new,(e.xo k b o hx).obj,(e.xo k b o hx).kept,(e.xo k b o hx).mem,(e.xo k b o hx).map,fun d cs i f=>(e.xo k b o hx).box d cs (h d cs i f) f,(e.xo k b o hx).own,(e.xo k b o hx).inj⟩⟩
theorem ef.less (f:ef Γ s a w) {s'} (h:s.le s'):ef Γ s' a w:=by
 obtain ⟨⟨c,e,j⟩,h2,l,i⟩:=f;exact ⟨⟨c,e.less h.b,fun d x hx=>j d x (h.t d x hx)⟩,h2,l,i⟩
theorem ja {guards} {dst} (h:gS guards dst s K):∃ s',K s'/\s.le s':=by
 unfold gS at h;split at h
 ·rename_i d
  cases hm:dn guards d with
  | false=>rw [hm,bq,XB] at h; exact ⟨s,h,.refl s⟩
  | true=>
   rw [hm] at h;simp only [aP] at h;obtain ⟨t,b⟩:=s;simp only at h;split at h
   ·rename_i v hv;refine ⟨⟨(d,.bool v)::t,b⟩,?_,fun k x hx=>?_,fun _ _ h _=>h⟩
    ·cases v with
     | true=>exact h.1 rfl
     | false=>exact h.2 rfl
    grind [bf]
   ·exact ⟨_,h,.refl _⟩
 ·rw [ZA] at h; exact ⟨s,h,.refl s⟩
theorem eK (ops) (j):jx ops j=(ops[j]?).bind (·.dst):=by
 unfold jx;rw [fp];cases ops[j]? <;> rfl
def Z8:Value->Option Bool
 | .bool b=>some b
 | _=>none
theorem dC {ops} {o} (p:∀ j d,jx ops j=some d->d<Γ.nt) (q:ef Γ s a w) (n) (h:j6 ops s o=n) (v:n<2):Region.wanted o (yielded ops.toArray a.tmps)=(n==0):=by
 unfold j6 at h;unfold Region.wanted;split at h
 ·grind
 ·rename_i j want t;rw [t];simp only;split at h
  ·omega
  ·rename_i d i;obtain ⟨c,x,r⟩:=q.ex;have e:=p j d i
   have hy:yielded ops.toArray a.tmps j=Z8 (a.tmps.getD d Go.undef):=by
    unfold yielded;rw [eK] at i
    have f:a.tmps[d]?=some (a.tmps.getD d Go.undef):=by
     rw [aJ,aE (by rw [q.size]; exact e)]; rfl
    simp only [fV,i,Option.bind_some,f];generalize a.tmps.getD d Go.undef=u;cases u <;> rfl
   rw [hy];split at h
   ·rename_i b l;rw [(r d _ l).bool];cases b <;> cases want <;> simp at h <;> subst h <;> rfl
   ·rename_i l;have hu:RD c.m .undef (a.tmps.getD d Go.undef):=r d _ l
    have:a.tmps.getD d Go.undef=Go.undef:=by
     generalize a.tmps.getD d Go.undef=u at hu;cases hu; rfl
    rw [this];subst h;rfl
   ·omega
theorem fY (i:ef Γ s a w) {o:Oper} (m:∀ d,o.dst=some d->d<Γ.nt) (h:fJ s o.dst .undef K):∃ s',K s'/\ef Γ s' (a.put o.dst Go.undef) w:=by
 obtain ⟨c,j,l⟩:=i.ex;obtain ⟨t,b⟩:=s
 cases e:o.dst with
 | none=>
  rw [e] at h;exact ⟨_,h,i.next (.refl w) j (d:=none) (v:=Go.undef) (by intro k hk; cases hk) l⟩
 | some d=>
  rw [e] at h;have f:=m d e;exact ⟨_,h,i.next (.refl w) j (d:=some d) (v:=Go.undef) (by grind) (eT l (by rw [i.size]; exact f) RD.undef)⟩
theorem ef.drew (f:ef Γ s a w):ef Γ s a w.drew:=by
 obtain ⟨⟨c,b,d⟩,h2,e,h⟩:=f;exact ⟨⟨c,b.drew,d⟩,h2,e,h⟩
theorem An {guards} {o} (h:Ao guards o=true):∃ d,o.dst=some d:=by
 grind [Ao]
theorem Qy {d} (h:Zr s d K) (G:ef Γ s a w):∃ s',K s'/\ef Γ s' a w:=by
 unfold Zr at h;split at h
 ·rename_i k n L A;split at h
  ·rename_i k' sz xs hk
   cases l:(Nat.beq k' k&&Nat.beq (lo k) 0) with
   | false=>rw [l] at h; exact h.elim
   | true=>
    rw [l,aP] at h;simp only [al] at l;have q:=ak l.1;subst q;obtain ⟨⟨c,E,p⟩,h2,H,F⟩:=G;have f:=(show RX c .arr k' sz xs (a.tmps.getD (xk k') Go.undef) from p _ _ hk);obtain ⟨b,cells,U,cap,o,e2,⟨M,x⟩,Z⟩:=(show RX c .sl k' n L (a.tmps.getD d Go.undef) from p _ _ A);have h:=h b cap;rw [St.go_eq] at h;obtain ⟨b1,i,U1,t,⟨J,X⟩,N⟩:=f;rw [o] at t;cases t;refine ⟨_,h,⟨c,E,fun e z hz=>?_⟩,h2,H,F⟩;rw [bf] at hz;split at hz
    ·cases hz;exact A6 (v:=a.tmps.getD e Go.undef) (⟨_,_,_,o,⟨J,X⟩,N⟩) o x am
    ·rw [dO] at hz;obtain ⟨y,hy,rfl⟩:=aA.1 hz;have r:=p e y hy
     cases y with
     | me g j B D=>
      simp only [PQ]
      cases hj:Nat.beq k' j with
      | false=>exact r
      | true=>
       have hj:=ak hj;subst hj
       cases g with
       | sl=>
        obtain ⟨b2,m,U2,u,g1,g2,⟨g3,g4⟩,g5⟩:=(show RX c .sl k' B D (a.tmps.getD e Go.undef) from r);rw [o] at g1;cases g1;rw [g2,g3,g4,<- M,<- x];exact RC.of_RD (.lit _ rfl rfl)
       | _=>exact RC.of_RD (RD.junk _)
     | _=>exact r
  ·exact h.elim
 ·exact h.elim
include hΓ hT in
theorem zM {guards} {o} {next} (q:ef Γ s a w) (p:∀ d,o.dst=some d->d<Γ.nt) (h:Xj T (ar Γ.P) (bW Γ.P) guards s o K) (u:dS Γ a o.dst w K next):o.wpIn Γ.F Γ.n Γ.P a w next Q:=by
 unfold Xj at h
 cases l:yX guards o with
 | true=>
  rw [l,aP] at h;exact aav hΓ (DQ l) q p h u
 | false=>
  rw [l,bq] at h
  cases j:Ao guards o with
  | true=>
   rw [j,aP] at h;obtain ⟨d,c⟩:=An j;refine Pt hΓ q c (p d c) h ?_;rintro s' x w' ⟨N,I,L,r,z,e,rfl⟩ i y v;have e:(⟨Cl z++((s.demMany I).unmeMany N).t,(s.demMany I).b⟩:St).go fun s=>r.go fun r=>fJ s o.dst r fun s=>gS guards o.dst s K:=e;rw [St.go_eq,AV.go_eq,c] at e;have e:gS guards (some d) (Tj s N I d r z) K:=e;obtain ⟨s2,f,hle⟩:=ja e;exact u s2 x w' f (i.less hle) y v
  | false=>
   rw [j,bq] at h
   have fin:dS Γ a o.dst w (fun s=>D6 o.op s fun s=>gS guards o.dst s K) next:=by
    intro s' x w' e i y v;rw [uQ] at e;obtain ⟨s2,f,hle⟩:=ja e;exact u s2 x w' f (i.less hle) y v
   cases m:YK guards o with
   | true=>rw [m,aP] at h; exact Y8 hΓ hT q p h fin
   | false=>rw [m,bq] at h; exact lg hΓ hT rfl q p h fin
include hΓ hT in
theorem eA {guards} {o} {next} (i:ef Γ s a w) (f:∀ d,o.dst=some d->d<Γ.nt) (h:HQ T (ar Γ.P) (bW Γ.P) guards s o K) (j:dS Γ a o.dst w K next):o.wpIn Γ.F Γ.n Γ.P a w next Q:=by
 unfold HQ at h;split at h
 ·refine zM hΓ hT i f h ?_;intro s' m w' p e q l;obtain ⟨s2,c,b⟩:=Qy p e;exact j s2 m w' c b q l
 ·exact zM hΓ hT i f h j
include hΓ hT in
theorem jJ {all:List Oper} {guards:List Nat} (n:Nat) (b:∀ j d,jx all j=some d->d<Γ.nt):∀ (l:List Oper) (k:Nat) (s:St) (a:Act) (w:World) (K:St->Prop),(∀ j o,l[j]?=some o->all[k+j]?=some o)->li T (ar Γ.P) (bW Γ.P) all guards l s K->ef Γ s a w ->
  (∀ s' q w',K s'->ef Γ s' q w'->NC w w'->FT (eJ l) a q->wpOpsIn Γ.F Γ.n Γ.P all.toArray Q (List.range' (k+l.length) n) q w')->wpOpsIn Γ.F Γ.n Γ.P all.toArray Q (List.range' k (l.length+n)) a w
 | [],k,s,a,w,K,_,h,m,r=>by simpa using r s a w h m (.refl w) (.refl _ a)
 | o::rest,k,s,a,w,K,hk,h,m,r=>by
  have D:all.toArray[k]?=some o:=by simpa using hk 0 o rfl
  have hk':∀ j p,rest[j]?=some p->all[k+1+j]?=some p:=fun j p H=>by have:=hk (j+1) p (by simpa using H); simpa [d3,oc 1 j] using this
  have e:∀ d,o.dst=some d->d<Γ.nt:=fun d c=>b k d (by rw [eK]; rw [show all[k]?=some o from by simpa using D]; exact c);have hlen:(o::rest).length+n=(rest.length+n)+1:=by simp only [bu]; omega
  have i:k+(o::rest).length=k+1+rest.length:=by simp only [bu]; omega
  rw [i] at r;rw [hlen];simp only [fj,wpOpsIn,D];simp only [li] at h;split at h
  ·rename_i v;rw [dC b m 0 v am];simp only [ei,cR];refine eA hΓ hT m e h ?_;intro s' q w' G y J E;exact jJ n b rest (k+1) s' q w' K hk' G y (fun z a3 A h1 h2 x u=>r z a3 A h1 h2 (J.trans x) (((FT.put E).mono fun d c=>bc _ c).trans (u.mono fun d c=>bh _ c)))
  ·rename_i v;rw [dC b m 1 v am];simp only [Nat.reduceBEq,br,cv];obtain ⟨s2,B,t⟩:=fY m e h;exact ⟨fun f _=>hΓ.fn f,jJ n b rest (k+1) s2 _ w K hk' B t fun z a3 A h1 h2 x u=>r z a3 A h1 h2 x (((FT.put ⟨_,rfl⟩).mono fun d c=>bc _ c).trans (u.mono fun d c=>bh _ c))⟩
  ·exact h.elim
include hΓ hT in
theorem kG {all} {guards} (b:∀ j d,jx all j=some d->d<Γ.nt) (l) (k) (s) (a) (w) (K) (hk:∀ j,l[j]?=all[k+j]?) (h:li T (ar Γ.P) (bW Γ.P) all guards l s K) (e:ef Γ s a w)
  (i:∀ s' c w',K s'->ef Γ s' c w'->NC w w'->FT (eJ l) a c->Q .normal c w'):wpOpsIn Γ.F Γ.n Γ.P all.toArray Q (List.range' k l.length) a w:=by
 have:=jJ (Q:=Q) hΓ hT 0 b l k s a w K (fun j o hj=>by rw [<- hk j]; exact hj) h e (fun s' c w' h1 h2 f m=>i s' c w' h1 h2 f m);simpa using this
end
open Go
theorem dH {l} {k}:dn l k=true↔k∈l:=by
 induction l with
 | nil=>simp [dn]
 | cons d r b=>
  simp only [dn,bC]
  cases a:Nat.beq d k with
  | true=>rw [aP]; exact ⟨fun _ => .inl (ak a).symm,fun _=>rfl⟩
  | false=>rw [bq,b]; exact ⟨.inr,fun h=>h.resolve_left fun e=>dk a e.symm⟩
def aU {α:Type} (f:(α->Prop)->Prop):Prop:=∀ K,f K->∃ v,K v/\∀ K',K' v->f K'
theorem aU.k {α} (v:α):aU (fun K=>K v):=fun _ h=>⟨v,h,fun _ h=>h⟩
theorem aU.no {α}:aU (fun _:α->Prop=>False):=fun _ h=>h.elim
theorem aU.and {α} {A} {f:(α->Prop)->Prop} (h:aU f):aU (fun K=>A/\f K):=fun K ⟨a,g⟩=>let ⟨v,h1,h2⟩:=h K g; ⟨v,h1,fun K' k=>⟨a,h2 K' k⟩⟩
theorem aU.ex {α β:Type} {A:β->Prop} {f:β->(α->Prop)->Prop} (h:∀ b,aU (f b)):aU (fun K=>∃ b,A b/\f b K):=fun K ⟨b,a,g⟩=>let ⟨v,h1,h2⟩:=h b K g; ⟨v,h1,fun K' k=>⟨b,a,h2 K' k⟩⟩
theorem co {α} {b} {f g:(α->Prop)->Prop} (hf:aU f) (a:aU g):aU (fun K=>bif b then f K else g K):=by cases b <;> assumption
theorem LK {α} {k k'} {f:(α->Prop)->Prop} (hf:aU f):aU (fun K=>ikW k k' (f K)):=co hf aU.no
theorem A1 {α} {b} {f:(α->Prop)->Prop} (hf:aU f):aU (fun K=>bandW b (f K)):=co hf aU.no
theorem zo (T) (op) (t) (b):aU (MG T op t b):=by
 unfold MG;cases get T t <;> cases op <;> first | exact aU.no | exact A1 (aU.k _)
theorem Tf (T) (op) (t) (a b):aU (yI T op t a b):=by
 unfold yI;cases a <;> try exact aU.no
 ·cases b <;> try exact aU.no
  cases op <;> first | exact LK (aU.k _) | exact LK (aU.and (aU.k _)) | exact aU.and (aU.k _)
 ·cases b <;> try exact aU.no
  cases get T t <;> cases op <;> first | exact aU.no | exact A1 (aU.k _)
 ·rename_i u;cases b <;> try exact aU.no
  rename_i v;cases u <;> cases v <;> grind [aU.no,zo]
 ·cases b <;> try exact aU.no
  rename_i v;cases v <;> grind [aU.no,zo]
 ·cases b <;> try exact aU.no
  rename_i v;cases v <;> grind [aU.no,zo]
 ·rename_i xs;cases b <;> try exact aU.no
  rename_i c
  cases get T t with
  | none=>cases op <;> exact aU.no
  | some i=>cases op <;> first | exact aU.no | (simp only []; cases wW T 4 t xs c <;> first | exact aU.no | exact aU.k _)
theorem WL (op) (a):aU (unW op a):=by
 unfold unW;cases op <;> cases a <;> first | exact aU.no | exact aU.k _
theorem oW {α} (o) (d) {f:Nat->(α->Prop)->Prop} (h:∀ n,aU (f n)):aU (fun K=>jZ o d fun n=>f n K):=by
 unfold jZ
 cases o with
 | none=>exact h _
 | some v=>cases v <;> first | exact aU.no | exact aU.and (h _)
theorem aU.szOK {α} {a b} {xs} {f:(α->Prop)->Prop} (h:aU f):aU (fun K=>szOK a b xs (f K)):=by
 unfold Go.AI.szOK;refine co h ?_;cases xs <;> first | exact h | exact aU.no
section
variable (T:eX) (C:FuncId->List AV->AV->Prop) (bx:List (Nat×List AV)) (e:Operand->AV)
theorem oo {i} {cs} {f:AV->(AV->Prop)->Prop} (h:∀ v,aU (f v)):aU (fun K=>match eS i cs with | some v=>f v K | none=>False):=by
 cases eS i cs with
 | none=>exact aU.no
 | some v=>exact h v
theorem IK (ty) (op):aU (gM T C bx e ty op):=by
 cases op with
 | move x=>exact aU.k _
 | assign x=>exact aU.k _
 | pick c a b=>
  unfold gM;simp only;cases e c <;> first | exact aU.no | exact co (aU.k _) (aU.k _)
 | binOp op t x y p=>exact Tf T op t _ _
 | unOp op t x=>exact WL op _
 | load t x=>
  unfold gM;simp only
  cases get T t with
  | none=>exact aU.no
  | some i=>
   cases e x with
   | loc d off=>
    simp only
    cases get bx d with
    | none=>exact aU.no
    | some cs=>exact oo fun _=>aU.k _
   | ref cs=>exact oo fun _=>aU.k _
   | pin _ _ _ cs=>exact oo fun _=>aU.k _
   | _=>exact aU.no
 | nilCheck x=>unfold gM; simp only; cases e x <;> first | exact aU.no | exact aU.k _
 | fieldAddr t x f=>
  unfold gM;simp only
  cases get T t with
  | none=>exact aU.no
  | some i=>
   refine co ?_ aU.no
   cases qk i.flds f with
   | none=>exact aU.no
   | some p=>
    obtain ⟨off,ft⟩:=p;simp only
    cases get T ft with
    | none=>exact aU.no
    | some j=>refine co aU.no ?_; cases e x <;> first | exact aU.no | exact aU.k _
 | field t x f=>
  unfold gM;simp only
  cases get T t with
  | none=>exact aU.no
  | some i=>
   refine co ?_ aU.no
   cases qk i.flds f with
   | none=>exact aU.no
   | some p=>
    obtain ⟨off,ft⟩:=p;simp only
    cases get T ft with
    | none=>exact aU.no
    | some j=>cases e x <;> first | exact aU.no | exact co (oo fun _=>aU.k _) aU.no
 | indexAddr t x n=>
  unfold gM;simp only
  cases get T t with
  | none=>exact aU.no
  | some i=>
   simp only
   cases get T i.elem with
   | none=>exact aU.no
   | some j=>
    cases e n <;> first | exact aU.no | skip
    cases e x <;> first | exact aU.no | exact co (aU.szOK (aU.and (aU.ex fun _=>aU.k _))) aU.no | exact co (aU.and (aU.and (aU.k _))) aU.no
 | index t x n=>
  unfold gM;simp only
  cases get T t with
  | none=>exact aU.no
  | some i=>
   simp only
   cases get T i.elem with
   | none=>exact aU.no
   | some j=>cases e n <;> cases e x <;> first | exact aU.no | exact co (aU.and (aU.and (aU.and (oo fun _=>aU.k _)))) aU.no
 | slice t x lo hi o=>
  unfold gM;simp only
  cases get T t with
  | none=>exact aU.no
  | some i=>
   simp only
   cases get T i.elem with
   | none=>exact aU.no
   | some j=>
    cases e x <;> first | exact aU.no | skip
    refine co (aU.szOK (oW _ _ fun l=>oW _ _ fun h=>?_)) aU.no
    cases o.map e with
    | none=>exact aU.and (aU.and (aU.k _))
    | some v=>cases v <;> first | exact aU.no | exact co (aU.and (aU.and (aU.and (aU.k _)))) aU.no
 | sliceToArrayPointer t x=>
  unfold gM;simp only
  cases get T t with
  | none=>exact aU.no
  | some i=>cases e x <;> first | exact aU.no | exact co (aU.and (aU.k _)) aU.no
 | extract x n=>
  unfold gM;simp only;cases e x <;> first | exact aU.no | skip
  rename_i vs;simp only;cases qk vs n <;> first | exact aU.no | exact aU.k _
 | build t parts=>
  unfold gM;simp only [uR]
  cases get T t with
  | none=>exact aU.no
  | some i=>
   obtain ⟨A,B,q,z,D,u,ik,w,E⟩:=i;simp only;cases q <;> first | exact aU.no | skip
   refine co ?_ (co ?_ aU.no)
   ·split <;> first | exact aU.no | exact co (aU.k _) aU.no
   ·cases get T u with
    | none=>exact aU.no
    | some k=>simp only; split <;> first | exact aU.no | exact co (aU.k _) aU.no
 | buildSlice t n parts=>
  unfold gM;simp only
  cases get T t with
  | none=>exact aU.no
  | some i=>
   simp only
   cases get T i.elem with
   | none=>exact aU.no
   | some j=>refine co ?_ aU.no; cases kI e parts.toList 0 j.size <;> cases j.zero.cells? <;> first | exact aU.no | (simp only [D4]; exact aU.k _)
 | convert a b x=>
  unfold gM;simp only;cases get T a <;> cases get T b <;> first | exact aU.no | (cases e x <;> first | exact aU.no | exact co (aU.k _) aU.no)
 | call c=>
  unfold gM;simp only
  cases c.callee with
  | value f=>
   simp only;cases e f <;> first | exact aU.no | exact aU.ex fun _=>aU.k _
  | invoke r m=>exact aU.no
  | builtin b=>
   cases b <;> first | exact aU.no | skip
   ·simp only;split <;> first | exact aU.no | skip
    rename_i x t _ _
    cases get T t with
    | none=>exact aU.no
    | some i=>simp only; cases e x <;> exact co (aU.k _) aU.no
   ·simp only;split <;> first | exact aU.no | skip
    rename_i k x r _;cases mu true k x r <;> first | exact aU.no | exact aU.k _
   ·simp only;split <;> first | exact aU.no | skip
    rename_i k x r _;cases mu false k x r <;> first | exact aU.no | exact aU.k _
 | _=>exact aU.no
end
open Go
def L3 (e e':Operand->AV) (bx bx':List (Nat×List AV)) (xs:List Operand):Prop:=∀ x∈xs,e' x=e x/\∀ d off,e x = .loc d off->get bx' d=get bx d
def Ot (s s':St) (xs:List Operand):Prop:=∀ x∈xs,(∀ g k n a,ev s x = .me g k n a->get s'.t (xk k)=get s.t (xk k)) /\
 (∀ b,ev s x = .lit (.map (some b))->∀ k n a,get s.t (xk k)=some (.me .ents k n a)->get s'.t (xk k)=get s.t (xk k)) /\
 ∀ v n cap,ev s x = .lit (.slice v n cap)->∀ k b c sz a,get s.t (xk k)=some (.me (.row b c) k sz a)->get s'.t (xk k)=get s.t (xk k)
def uz:Op->List Operand
 | .move _=>[]
 | .assign _=>[]
 | op=>op.operands.toList
def C9:Op->List Operand
 | .load _ x=>[x]
 | .store _ a _=>[a]
 | _=>[]
def Ou (s s':St) (xs:List Operand):Prop:=∀ x∈xs,∀ k b off cs,ev s x = .pin k b off cs->get s'.t (xk k)=get s.t (xk k)
section
variable (T:eX) (C:FuncId->List AV->AV->Prop) {bx bx':List (Nat×List AV)} {e e':Operand->AV}
theorem rn:∀ (l:List (Nat×Operand)) (n sz:Nat),(∀ p∈l,e' p.2=e p.2)->kI e' l n sz=kI e l n sz
 | [],_,_,_=>rfl
 |(i,x)::r,n,sz,h=>by
  simp only [kI,h (i,x) aW,rn r (n+1) sz fun p a=>h p (aS _ a)]
theorem DT {l:List Operand} (h:∀ x∈l,e' x=e x):l.map e'=l.map e:=fH h
theorem Qk {ty} {op} {K} (d:L3 e e' bx bx' op.operands.toList) (h:gM T C bx e ty op K):gM T C bx' e' ty op K:=by
 cases op with
 | move x=>have h1:=(d x (by simp [Op.operands])).1; unfold gM at h ⊢; simp only [h1] at h ⊢; exact h
 | assign x=>have h1:=(d x (by simp [Op.operands])).1; unfold gM at h ⊢; simp only [h1] at h ⊢; exact h
 | pick c a b=>
  have h1:=(d c (by simp [Op.operands])).1;have h2:=(d a (by simp [Op.operands])).1;have q:=(d b (by simp [Op.operands])).1;grind [gM]
 | binOp op t x y p=>
  have h1:=(d x (by simp [Op.operands])).1;have h2:=(d y (by simp [Op.operands])).1;grind [gM]
 | unOp op t x=>have h1:=(d x (by simp [Op.operands])).1; unfold gM at h ⊢; simp only [h1] at h ⊢; exact h
 | load t x=>
  obtain ⟨h1,h2⟩:=d x (by simp [Op.operands]);unfold gM at h ⊢;grind
 | nilCheck x=>have h1:=(d x (by simp [Op.operands])).1; unfold gM at h ⊢; simp only [h1] at h ⊢; exact h
 | fieldAddr t x f=>have h1:=(d x (by simp [Op.operands])).1; unfold gM at h ⊢; simp only [h1] at h ⊢; exact h
 | field t x f=>have h1:=(d x (by simp [Op.operands])).1; unfold gM at h ⊢; simp only [h1] at h ⊢; exact h
 | indexAddr t x n=>
  have h1:=(d x (by simp [Op.operands])).1;have h2:=(d n (by simp [Op.operands])).1;grind [gM]
 | index t x n=>
  have h1:=(d x (by simp [Op.operands])).1;have h2:=(d n (by simp [Op.operands])).1;grind [gM]
 | slice t x lo hi j=>
  have h1:=(d x (by simp [Op.operands])).1;have hl:lo.map e'=lo.map e:=by cases lo with | none=>rfl | some y=>simp [(d y (by simp [Op.operands])).1]
  have o:hi.map e'=hi.map e:=by cases hi with | none=>rfl | some y=>simp [(d y (by simp [Op.operands])).1]
  have hm:j.map e'=j.map e:=by cases j with | none=>rfl | some y=>simp [(d y (by simp [Op.operands])).1]
  unfold gM at h ⊢; simp only [h1,hl,o,hm] at h ⊢; exact h
 | sliceToArrayPointer t x=>have h1:=(d x (by simp [Op.operands])).1; unfold gM at h ⊢; simp only [h1] at h ⊢; exact h
 | extract x n=>have h1:=(d x (by simp [Op.operands])).1; unfold gM at h ⊢; simp only [h1] at h ⊢; exact h
 | build t parts=>
  have h1:(parts.toList.map fun (p:Nat×Operand)=>(p.1,e' p.2))=parts.toList.map fun (p:Nat×Operand)=>(p.1,e p.2):=fH fun p i=>by
   rw [(d p.2 (by simp only [Op.operands,bp]; exact ⟨p,i,rfl⟩)).1]
  grind [gM]
 | buildSlice t n parts=>
  have h1:=fun (m sz:Nat)=>rn (e:=e) (e':=e') parts.toList m sz fun p i=>(d p.2 (by simp only [Op.operands,bp]; exact ⟨p,i,rfl⟩)).1;grind [gM]
 | convert a b x=>have h1:=(d x (by simp [Op.operands])).1; unfold gM at h ⊢; simp only [h1] at h ⊢; exact h
 | call c=>
  obtain ⟨l,args,u⟩:=c;have h1:∀ x∈args.toList,e' x=e x:=fun x hx=>(d x (by grind [Op.operands,Call.operands])).1;have i:(args.toList.map fun x=>(e' x).pub)=args.toList.map fun x=>(e x).pub:=fH fun x hx=>by rw [h1 x hx]
  have hm:=DT h1
  cases l with
  | value f=>
   have h2:=(d f (by simp [Op.operands,Call.operands])).1;grind [gM]
  | invoke r m=>unfold gM at h; exact h.elim
  | builtin b=>
   cases b with
   | len=>
    grind [gM,List.mem_cons_self]
   | max=>grind [gM]
   | min=>grind [gM]
   | _=>unfold gM at h; exact h.elim
 | _=>unfold gM at h; exact h.elim
end
open Go
inductive lN where
 | val (v:AV)
 | alloc (cs:List AV)
 | store (d:Nat) (cs:List AV)
 | app (k:Nat) (v:AV)
 | xst (k:Nat) (v:AV)
 | cut (k n:Nat) (v:AV)
 | lent (N I:List Nat) (v:AV) (es:List (Nat×AV)) (rd:List Nat)
section
variable (T:eX) (C:FuncId->List AV->AV->Prop)
def yA (s:St) (dst:Option Nat) (ty:TypeId) (op:Op) (K:lN->Prop):Prop:=
 match op with
 | .alloc t=>match dst,get T t with
  | some d,some i=>match i.zero.cells? with
   | some cs=>bif Nat.beq cs.length i.size&&cs.all (fun c=>c.isCell) then K (.alloc cs) else False
   | none=>False
  | _,_=>False
 | .store t a x=>match dst,get T t,ev s a,(ev s x).cells? with
  | none,some i,.loc d off,some cs=>bif Nat.beq cs.length i.size&&cs.all (fun c=>c.isCell) then
    match get s.b d with
    | some c0=>bif Nat.ble (off+cs.length) c0.length&&Nat.blt 0 cs.length then K (.store d (uj c0 off cs)) else False
    | none=>False
   else False
  | _,_,_,_=>False
 | .call { callee := .builtin .append,args:=args,argTypes:=n }=>match args.toList,n.toList,dst with
  | [x,y],[t,m],some d=>match get T t with
   | some i=>match get T i.elem with
    | some j=>match ev s x,ev s y with
     | .sl o sz xs,.sl _ f e=>bif Nat.beq i.kind 3&&Nat.beq t m&&n0 j&&Nat.blt 0 j.size&&IG o j.size sz then szOK j.size sz xs (szOK j.size f e (gR (xs.length+e.length) j.bytes/\xs.length+e.length<=4611686018427387904 /\
       match o with
       | .full=>bif Np xs e then K (.app d (.sl (.id d) j.size (xs++e))) else bif tl e then False else K (.val (.sl .full sz xs))
       | .id k=>K (.app k (.sl (.id k) j.size (xs++e)))
       | .no=>False)) else False
     | _,_=>False
    | none=>False
   | none=>False
  | _,_,_=>False
 | .makeSlice t l c=>match dst,get T t with
  | some d,some i=>match get T i.elem with
   | some j=>match ev s l,ev s c with
    | .int _ l,.int _ c=>match j.zero.cells? with
     | some h=>bif Nat.beq i.kind 3&&Nat.beq h.length j.size&&h.all (fun c=>c.isCell)&&Nat.blt 0 j.size then
       0<=l/\l<=c/\gR c.toNat j.bytes/\c<=4611686018427387904/\K (.app d (.sl (.id d) j.size (List.replicate l.toNat h))) else False
     | none=>False
    | _,_=>False
   | none=>False
  | _,_=>False
 | op=>gM T C s.b (ev s) ty op fun v=>v.go fun v=>K (.val v)
end
section
variable (T:eX) (C:FuncId->List AV->AV->Prop)
def iX (s:St) (t:TypeId) (k len:Nat) (i:Int) (K:lN->Prop):Prop:=match get T t with
 | none=>False
 | some a=>match get T a.elem with
  | none=>False
  | some j=>match iH s k with
   | none=>False
   | some (sz,_)=>bif Nat.beq a.kind 3&&Nat.beq j.size sz then 0<=i/\i<len/\K (.val (.me (.ptr sz 0) k i.toNat [])) else False
def DH (s:St) (dst:Option Nat) (t:TypeId) (sz j k i:Nat) (v:AV) (K:lN->Prop):Prop:=match dst,get T t,v.cells? with
 | none,some b,some cs=>match iH s k with
  | none=>False
  | some (a,xs)=>bif Nat.beq a sz&&(Nat.beq cs.length b.size&&(cs.all (fun c=>c.isCell)&&(Nat.ble (j+cs.length) sz&&Nat.blt 0 cs.length))) then
    ∃ r,xs[i]?=some r/\rowK s k sz (dB xs i (uj r j (cs.map AV.pub1))) (fun v=>K (.xst k v)) else False
 | _,_,_=>False
def Qa (t:TypeId) (n:Nat) (K:lN->Prop):Prop:=match get T t with
 | none=>False
 | some i=>bif Nat.beq i.kind 3 then K (.val (.int .i64 n)) else False
def DI (s:St) (t:TypeId) (k n:Nat) (lo hi a:Option AV) (K:lN->Prop):Prop:=match get T t with
 | none=>False
 | some i=>match get T i.elem with
  | none=>False
  | some j=>match iH s k with
   | none=>False
   | some (sz,_)=>bif Nat.beq i.kind 3&&(Nat.beq j.size sz&&a.isNone) then jZ lo 0 fun l=>jZ hi n fun h=>l<=h/\h<=n/\K (.val (.me (.sub sz l) k (h - l) [])) else False
def Xb (s:St) (dst:Option Nat) (d:List TypeId) (sz k h:Nat) (y:AV) (K:lN->Prop):Prop:=match dst,d with
 | some _,[t,c]=>match get T t with
  | none=>False
  | some i=>match get T i.elem with
   | none=>False
   | some j=>match y with
    | .me (.sub b l) k' m _=>match iH s k with
     | none=>False
     | some (a,xs)=>bif Nat.beq i.kind 3&&(Nat.beq t c&&(Nat.beq sz a&&(Nat.beq b a&&(Nat.beq k k'&&(Nat.beq j.size a&&Nat.blt 0 a))))) then
       h+m<=xs.length/\K (.cut k (h+m) (.me .arr k a (xs.take h++(xs.drop l).take m))) else False
    | _=>False
 | _,_=>False
theorem Ib {size sz} {xs} {K K'} (hk:K->K') (h:szOK size sz xs K):szOK size sz xs K':=by
 unfold szOK at h ⊢;grind
def Xc (s:St) (dst:Option Nat) (d:List TypeId) (k n:Nat) (y:AV) (K:lN->Prop):Prop:=match dst,d with
 | some _,[t,c]=>match get T t with
  | none=>False
  | some i=>match get T i.elem with
   | none=>False
   | some j=>match iH s k with
    | none=>False
    | some (sz,xs)=>match y with
     | .sl _ b a=>bif Nat.beq i.kind 3&&(Nat.beq t c&&(n0 j&&(Nat.blt 0 j.size&&Nat.beq j.size sz))) then szOK j.size b a (0<a.length/\gR (xs.length+a.length) j.bytes/\xs.length+a.length<=4611686018427387904 /\
       K (.cut k (n+a.length) (.me .arr k sz (xs++a)))) else False
     | _=>False
 | _,_=>False
def Mu (dst:Option Nat) (e:List TypeId) (y:AV) (K:lN->Prop):Prop:=match dst,e with
 | some d,[t,f]=>match get T t with
  | none=>False
  | some c=>match get T c.elem with
   | none=>False
   | some j=>match y with
    | .sl _ b a=>bif Nat.beq c.kind 3&&(Nat.beq t f&&(n0 j&&Nat.blt 0 j.size)) then szOK j.size b a (0<a.length/\gR a.length j.bytes/\a.length<=4611686018427387904 /\
      K (.cut d a.length (.me .arr d j.size a))) else False
    | _=>False
 | _,_=>False
def Ng (s:St):List Operand->Option (List AV)
 | []=>some []
 | x::r=>match ev s x with
  | .loc _ _=>none
  | v=>bif v.isCell then (match Ng s r with | some l=>some (v.pub1::l) | none=>none) else none
def Iz (s:St) (dst:Option Nat) (f:FuncId) (first captured:List Operand) (K:lN->Prop):Prop:=bif first.isEmpty then (match Ng s captured,dst with
 | some l,some _=>K (.val (.clo f l))
 | _,_=>False) else False
theorem Ay {s s':St}:∀ (l:List Operand),(∀ x∈l,ev s' x=ev s x)->Ng s' l=Ng s l
 | [],_=>rfl
 | x::r,h=>by
  have h1:=h x aW;have h2:=Ay r fun y hy=>h y (aS _ hy);simp only [Ng,h1,h2]
theorem UM {s:St}:∀ (l:List Operand) (r:List AV) (G:St->List AV->Prop),Ng s l=some r->G s r->BE l s G
 | [],r,G,h,hG=>by cases h; exact hG
 | x::l,r,G,h,hG=>by
  unfold Ng at h;unfold BE;split at h
  ·cases h
  ·rename_i v hv
   cases a:(ev s x).isCell with
   | false=>rw [a] at h; cases h
   | true=>
    rw [a,aP] at h;split at h
    ·rename_i b hl;cases h;have _:=hG;split
     ·grind
     ·rw [a,aP]; exact UM l b _ hl hG
    ·cases h
def OS (s:St) (t:TypeId) (sz j k i:Nat) (K:lN->Prop):Prop:=match get T t with
 | none=>False
 | some b=>match iH s k with
  | none=>False
  | some (a,xs)=>bif Nat.beq a sz then ∃ r,xs[i]?=some r/\match eS b (r.drop j) with | some v=>v.go fun v=>K (.val v) | none=>False else False
def tc (t:TypeId) (f sz j k i:Nat) (K:lN->Prop):Prop:=match get T t with
 | none=>False
 | some a=>bif Nat.beq a.kind 1 then match qk a.flds f with
   | none=>False
   | some (off,ft)=>match get T ft with
    | none=>False
    | some u=>bif Nat.beq u.size 0 then False else K (.val (.me (.ptr sz (j+off)) k i []))
  else False
def o8 (s:St) (dst:Option Nat) (ty:TypeId) (op:Op) (K:lN->Prop):Prop:=match op with
 | .indexAddr t x n=>match ev s x,ev s n with
  | .me .sl k len _,.int _ i=>iX T s t k len i K
  | .lit (.slice _ len cap),.int _ i=>∃ k b sz xs,(ev s x = .lit (.slice (some ⟨b,0,none⟩) len cap)/\get s.t (xk k)=some (.me (.row b cap) k sz xs)/\xs.length=len)/\iX T s t k len i K
  | _,_=>yA T C s dst ty op K
 | .store t a x=>match ev s a with
  | .me (.ptr sz j) k i _=>DH T s dst t sz j k i (ev s x) K
  | .pin k b off _=>td T s dst t k b off (ev s x) fun k v=>K (.xst k v)
  | _=>yA T C s dst ty op K
 | .call { callee := .builtin .len,args:=args,argTypes:=c }=>match args.toList,c.toList with
  | [x],[t]=>match ev s x with
   | .me .sl _ n _=>Qa T t n K
   | .lit (.slice _ n _)=>Qa T t n K
   | _=>yA T C s dst ty op K
  | _,_=>yA T C s dst ty op K
 | .mapUpdate t m k x=>match ev s m with
  | .lit (.map (some b))=>zg T s dst t b (ev s k) (ev s x) fun k v=>K (.xst k v)
  | _=>False
 | .insert t m k x=>match ev s m with
  | .lit (.map (some b))=>zg T s dst t b (ev s k) (ev s x) fun k v=>K (.xst k v)
  | _=>False
 | .lookup t m k ok=>match ev s m with
  | .lit (.map (some b))=>ol T s t b (ev s k) ok fun v=>v.go fun v=>K (.val v)
  | .mapv xs=>sI T t xs (ev s k) ok fun v=>v.go fun v=>K (.val v)
  | _=>False
 | .call { callee := .builtin .append,args:=args,argTypes:=c }=>match args.toList with
  | [x,y]=>match ev s x with
   | .me (.sub sz off) k h _=>bif Nat.beq off 0 then Xb T s dst c.toList sz k h (ev s y) K else yA T C s dst ty op K
   | .me .sl k n _=>Xc T s dst c.toList k n (ev s y) K
   | .sl .full _ []=>yA T C s dst ty op K\/Mu T dst c.toList (ev s y) K
   | _=>yA T C s dst ty op K
  | _=>yA T C s dst ty op K
 | .makeFunc (.func f) first captured=>Iz s dst f first.toList captured.toList K
 | .slice t x lo hi d=>match ev s x with
  | .me .sl k n _=>DI T s t k n (lo.map (ev s)) (hi.map (ev s)) (d.map (ev s)) K
  | _=>yA T C s dst ty op K
 | .load t x=>match ev s x with
  | .me (.ptr sz j) k i _=>OS T s t sz j k i K
  | .pin k b off cs=>qI T s t k b off cs fun v=>v.go fun v=>K (.val v)
  | _=>yA T C s dst ty op K
 | .fieldAddr t x f=>match ev s x with
  | .me (.ptr sz j) k i _=>tc T t f sz j k i K
  | _=>yA T C s dst ty op K
 | op=>yA T C s dst ty op K
end
def DK (T:eX) (C:FuncId->List AV->AV->Prop) (E:vV) (guards:List Nat) (s:St) (o:Oper) (K:lN->Prop):Prop:=
 bif Ao guards o then C4 E s o fun N I L r a=>r.go fun r=>YR (Cl a) fun es=>K (.lent N I r es ((ky L).map xk))
 else o8 T C s o.dst o.type o.op K
def stepR (s:St) (dst:Option Nat):lN->St
 | .val v=>match dst with | some d=>⟨(d,v)::s.t,s.b⟩ | none=>s
 | .alloc cs=>match dst with | some d=>⟨(d,.loc d 0)::unloc d s.t,(d,cs)::s.b⟩ | none=>s
 | .store d cs=>⟨s.t,(d,cs)::s.b⟩
 | .app k v=>match dst with | some d=>⟨(d,v)::(s.dem k).t,(s.dem k).b⟩ | none=>s
 | .xst k v=>⟨(xk k,v)::s.t,s.b⟩
 | .cut k n v=>match dst with | some d=>⟨(d,.me .sl k n [])::(xk k,v)::jC (AV.unme k) s.t,s.b⟩ | none=>s
 | .lent N I v es _=>match dst with | some d=>⟨(d,v)::(es++((s.demMany I).unmeMany N).t),(s.demMany I).b⟩ | none=>s
theorem aU.mono {α} {f:(α->Prop)->Prop} (h:aU f) {K K':α->Prop} (hf:f K) (hk:∀ v,K v->K' v):f K':=
 let ⟨v,h1,h2⟩:=h K hf; h2 K' (hk v h1)
theorem aU.or {α} {f g:(α->Prop)->Prop} (hf:aU f) (a:aU g):aU (fun K=>f K\/g K):=fun K h=>h.elim (fun h=>let ⟨v,h1,h2⟩:=hf K h; ⟨v,h1,fun K' k => .inl (h2 K' k)⟩) (fun h=>let ⟨v,h1,h2⟩:=a K h; ⟨v,h1,fun K' k => .inr (h2 K' k)⟩)
theorem ix (T) (C) (s) (dst) (ty) (op):aU (yA T C s dst ty op):=by
 unfold yA;split
 ·cases dst with
  | none=>exact aU.no
  | some d=>
   rename_i t
   cases get T t with
   | none=>exact aU.no
   | some i=>
    simp only
    cases i.zero.cells? with
    | none=>exact aU.no
    | some cs=>exact co (aU.k _) aU.no
 ·rename_i t x y
  cases dst with
  | some d=>exact aU.no
  | none=>
   cases get T t with
   | none=>exact aU.no
   | some i=>
    cases ev s x <;> first | exact aU.no | skip
    rename_i d off
    cases (ev s y).cells? with
    | none=>exact aU.no
    | some cs=>
     refine co ?_ aU.no
     cases get s.b d with
     | none=>exact aU.no
     | some c0=>exact co (aU.k _) aU.no
 ·rename_i args f;generalize args.toList=l;generalize f.toList=a;rcases l with _ | ⟨x,_ | ⟨y,_ | ⟨z,l⟩⟩⟩ <;> rcases a with _ | ⟨t,_ | ⟨m,_ | ⟨e,a⟩⟩⟩ <;> cases dst <;> first | exact aU.no | skip
  simp only
  cases get T t with
  | none=>exact aU.no
  | some i=>
   simp only
   cases get T i.elem with
   | none=>exact aU.no
   | some j=>
    simp only;cases ev s x <;> cases ev s y <;> first | exact aU.no | skip
    rename_i o _ _ _ _ _;refine co (aU.szOK (aU.szOK (aU.and (aU.and ?_)))) aU.no;cases o <;> first | exact aU.no | exact aU.k _ | exact co (aU.k _) (co aU.no (aU.k _))
 ·rename_i t l c
  cases dst with
  | none=>exact aU.no
  | some d=>
   cases get T t with
   | none=>exact aU.no
   | some i=>
    simp only
    cases get T i.elem with
    | none=>exact aU.no
    | some j=>
     simp only;cases ev s l <;> cases ev s c <;> first | exact aU.no | skip
     simp only
     cases j.zero.cells? with
     | none=>exact aU.no
     | some n=>exact co (aU.and (aU.and (aU.and (aU.and (aU.k _))))) aU.no
 ·intro K h;have h':=(IK T C s.b (ev s) ty op) _ h;grind [AV.go_eq]
theorem dX {α β:Type} {f:β->(α->Prop)->Prop} (h:∀ b,aU (f b)):aU (fun K=>∃ b,f b K):=fun K ⟨b,g⟩=>let ⟨v,h1,h2⟩:=h b K g; ⟨v,h1,fun K' k=>⟨b,h2 K' k⟩⟩
theorem Cm (T) (s) (dst) (mt) (b) (kv xv):aU (fun K:lN->Prop=>zg T s dst mt b kv xv fun k v=>K (.xst k v)):=by
 unfold zg;split
 ·split
  ·split
   ·refine co ?_ aU.no;split
    ·simp only [oL]; exact dX fun k=>dX fun l=>dX fun key=>aU.and (aU.k _)
    ·exact aU.no
   ·exact aU.no
  ·exact aU.no
 ·exact aU.no
theorem Mg (T) (s) (t) (b) (kv) (ok):aU (fun K:lN->Prop=>ol T s t b kv ok fun v=>v.go fun v=>K (.val v)):=by
 unfold ol;split
 ·split
  ·split
   ·refine co ?_ aU.no;split
    ·refine dX fun k=>dX fun l=>dX fun key=>dX fun g=>aU.and ?_;simp only [AV.go_eq]; exact aU.k _
    ·exact aU.no
   ·exact aU.no
  ·exact aU.no
 ·exact aU.no
theorem MP (T) (t) (xs) (kv) (ok):aU (fun K:lN->Prop=>sI T t xs kv ok fun v=>v.go fun v=>K (.val v)):=by
 unfold sI;split
 ·split
  ·split
   ·refine co ?_ aU.no;split
    ·refine dX fun l=>dX fun key=>dX fun g=>aU.and ?_;simp only [AV.go_eq]; exact aU.k _
    ·exact aU.no
   ·exact aU.no
  ·exact aU.no
 ·exact aU.no
theorem Mw (T) (s) (t) (k b off) (cs):aU (fun K:lN->Prop=>qI T s t k b off cs fun v=>v.go fun v=>K (.val v)):=by
 unfold qI;split
 ·exact aU.no
 ·split
  ·simp only [AV.go_eq]; exact aU.k _
  ·split
   ·refine co ?_ aU.no;split
    ·simp only [AV.go_eq]; exact aU.and (aU.k _)
    ·exact aU.no
   ·exact aU.no
theorem IF (T) (s) (dst) (t) (k b off) (v):aU (fun K:lN->Prop=>td T s dst t k b off v fun k v=>K (.xst k v)):=by
 unfold td;split
 ·split
  ·exact aU.no
  ·simp only [lY]; exact co (aU.and (aU.k _)) aU.no
 ·exact aU.no
theorem P7 (s) (k sz) (xs):aU (fun K:lN->Prop=>rowK s k sz xs fun v=>K (.xst k v)):=by
 unfold rowK;split <;> exact aU.k _
theorem qc (T) (s) (t) (k len) (i):aU (iX T s t k len i):=by
 unfold iX;split
 ·exact aU.no
 split
 ·exact aU.no
 split
 ·exact aU.no
 exact co (aU.and (aU.and (aU.k _))) aU.no
theorem CF (T) (t) (n):aU (Qa T t n):=by
 unfold Qa;split
 ·exact aU.no
 exact co (aU.k _) aU.no
theorem Qm (T) (C) (s) (dst) (ty) (op):aU (o8 T C s dst ty op):=by
 unfold o8;split
 ·split
  ·exact qc T s _ _ _ _
  ·exact dX fun k=>dX fun b=>dX fun sz=>dX fun xs=>aU.and (qc T s _ _ _ _)
  ·exact ix T C s dst ty _
 ·split
  ·unfold DH;split
   ·split
    ·exact aU.no
    exact co (aU.ex fun r=>P7 _ _ _ _) aU.no
   ·exact aU.no
  ·exact IF T s dst _ _ _ _ _
  ·exact ix T C s dst ty _
 ·split
  ·split
   ·exact CF T _ _
   ·exact CF T _ _
   ·exact ix T C s dst ty _
  ·exact ix T C s dst ty _
 ·split
  ·exact Cm T s dst _ _ _ _
  ·exact aU.no
 ·split
  ·exact Cm T s dst _ _ _ _
  ·exact aU.no
 ·split
  ·exact Mg T s _ _ _ _
  ·exact MP T _ _ _ _
  ·exact aU.no
 ·split
  ·split
   ·refine co ?_ (ix T C s dst ty _)
    ·unfold Xb;split
     ·split
      ·exact aU.no
      split
      ·exact aU.no
      split
      ·split
       ·exact aU.no
       ·exact co (aU.and (aU.k _)) aU.no
      ·exact aU.no
     ·exact aU.no
   ·unfold Xc;split
    ·split
     ·exact aU.no
     split
     ·exact aU.no
     split
     ·exact aU.no
     split
     ·exact co (aU.szOK (aU.and (aU.and (aU.and (aU.k _))))) aU.no
     ·exact aU.no
    ·exact aU.no
   ·refine aU.or (ix T C s dst ty _) ?_;unfold Mu;split
    ·split
     ·exact aU.no
     split
     ·exact aU.no
     split
     ·exact co (aU.szOK (aU.and (aU.and (aU.and (aU.k _))))) aU.no
     ·exact aU.no
    ·exact aU.no
   ·exact ix T C s dst ty _
  ·exact ix T C s dst ty _
 ·unfold Iz;refine co ?_ aU.no;split
  ·exact aU.k _
  ·exact aU.no
 ·split
  ·unfold DI;split
   ·exact aU.no
   split
   ·exact aU.no
   split
   ·exact aU.no
   exact co (oW _ _ fun l=>oW _ _ fun h=>aU.and (aU.and (aU.k _))) aU.no
  ·exact ix T C s dst ty _
 ·split
  ·unfold OS;split
   ·exact aU.no
   split
   ·exact aU.no
   refine co (aU.ex fun r=>?_) aU.no;split
   ·simp only [AV.go_eq]; exact aU.k _
   ·exact aU.no
  ·exact Mw T s _ _ _ _ _
  ·exact ix T C s dst ty _
 ·split
  ·unfold tc;split
   ·exact aU.no
   refine co ?_ aU.no;split
   ·exact aU.no
   split
   ·exact aU.no
   exact co aU.no (aU.k _)
  ·exact ix T C s dst ty _
 ·exact ix T C s dst ty _
theorem Qn (T) (C) (E) (guards) (s) (o):aU (DK T C E guards s o):=by
 unfold DK;refine co ?_ (Qm T C s o.dst o.type o.op);unfold C4;simp only [AV.go_eq,qS];split
 ·split
  ·split
   ·exact dX fun N=>dX fun I=>dX fun L=>dX fun r=>dX fun a=>aU.and (aU.k _)
   ·exact dX fun N=>dX fun I=>dX fun L=>dX fun r=>dX fun a=>aU.and (aU.k _)
   ·exact aU.no
  ·exact aU.no
 ·exact aU.no
theorem kc {T} {C} {s s'} {dst} {ty} {op} {K} (a:L3 (ev s) (ev s') s.b s'.b op.operands.toList) (h:yA T C s dst ty op K):yA T C s' dst ty op K:=by
 unfold yA at h;split at h
 ·unfold yA; exact h
 ·rename_i t x y;have h1:=a x (by simp [Op.operands]);have h2:=(a y (by simp [Op.operands])).1;unfold yA;grind
 ·rename_i args d;have h1:∀ x∈args.toList,ev s' x=ev s x:=fun x hx=>(a x (by grind [Op.operands,Call.operands])).1;unfold yA;grind
 ·rename_i t l c;have h1:=(a l (by simp [Op.operands])).1;have h2:=(a c (by simp [Op.operands])).1;unfold yA;grind
 ·rename_i h1 h2 f e;unfold yA;split
  ·exact absurd rfl (h1 _)
  ·grind
  ·grind
  ·grind
  ·exact Qk T C a h
theorem xJ {s s'} {k} (h:get s'.t (xk k)=get s.t (xk k)):zH s' k=zH s k:=by unfold zH; rw [h]
theorem zf {T} {s s'} {dst} {t} {b} {kv xv} {K} (c:∀ k n a,get s.t (xk k)=some (.me .ents k n a)->get s'.t (xk k)=get s.t (xk k)) (h:zg T s dst t b kv xv K):zg T s' dst t b kv xv K:=by
 unfold zg at h ⊢;split at h
 ·split at h
  ·split at h
   ·grind
   ·exact h.elim
  ·exact h.elim
 ·exact h.elim
theorem HY {T} {s s'} {t} {b} {kv} {ok} {K} (c:∀ k n a,get s.t (xk k)=some (.me .ents k n a)->get s'.t (xk k)=get s.t (xk k)) (h:ol T s t b kv ok K):ol T s' t b kv ok K:=by
 unfold ol at h ⊢;split at h
 ·split at h
  ·split at h
   ·grind
   ·exact h.elim
  ·exact h.elim
 ·exact h.elim
theorem sM {s s':St}:∀ {N:List Nat},(∀ k∈N,get s'.t (xk k)=get s.t (xk k))->gO s' N=gO s N
 | [],_=>rfl
 | k::r,h=>by simp only [gO]; rw [h k aW,sM fun j hj=>h j (aS _ hj)]
theorem iS {s s'} {k} (h:get s'.t (xk k)=get s.t (xk k)):iH s' k=iH s k:=by unfold iH; rw [h]
theorem Ix {s s'} {k} (h:get s'.t (xk k)=get s.t (xk k)):zB s' k=zB s k:=by unfold zB; rw [h]
theorem MA {T} {C} {s s'} {dst} {ty} {op} {K} (a:L3 (ev s) (ev s') s.b s'.b op.operands.toList) (c:Ot s s' (uz op)) (z:Ou s s' (C9 op))
  (h:o8 T C s dst ty op K):o8 T C s' dst ty op K:=by
 unfold o8 at h;split at h
 ·rename_i t x n;have h1:=(a x (by simp [Op.operands])).1;have h2:=(a n (by simp [Op.operands])).1;unfold o8;simp only [h1,h2];split at h
  ·rename_i k len d q i hx B;unfold iX at h ⊢;rw [iS ((c x (by simp [uz,Op.operands])).1 _ _ _ _ hx)];exact h
  ·rename_i v len cap q i hx B;obtain ⟨k,b,sz,xs,⟨g1,g2,g3⟩,h⟩:=h;have he:=(c x (by simp [uz,Op.operands])).2.2 _ _ _ g1 _ _ _ _ _ g2;grind [iX,iS]
  ·exact kc a h
 ·rename_i t y x;have h1:=(a y (by simp [Op.operands])).1;have h2:=(a x (by simp [Op.operands])).1;unfold o8;simp only [h1,h2];split at h
  ·rename_i sz j k i d hy;unfold DH rowK at h ⊢;rw [iS ((c y (by simp [uz,Op.operands])).1 _ _ _ _ hy),Ix ((c y (by simp [uz,Op.operands])).1 _ _ _ _ hy)];exact h
  ·rename_i k b off cs hy;unfold td at h ⊢;rw [xJ (z y (by simp [C9]) _ _ _ _ hy)];exact h
  ·exact kc a h
 ·rename_i args E;have e:=@kc T C s s' dst ty _ K a;have h1:∀ x∈args.toList,ev s' x=ev s x:=fun x hx=>(a x (by grind [Op.operands,Call.operands])).1;grind [o8,List.mem_cons_self]
 ·rename_i t m k x;have h1:=(a m (by simp [Op.operands])).1;have h2:=(a k (by simp [Op.operands])).1;have o:=(a x (by simp [Op.operands])).1;unfold o8;simp only [h1,h2,o];split at h
  ·rename_i b hm;exact zf ((c m (by simp [uz,Op.operands])).2.1 b hm) h
  ·exact h.elim
 ·rename_i t m k x;have h1:=(a m (by simp [Op.operands])).1;have h2:=(a k (by simp [Op.operands])).1;have o:=(a x (by simp [Op.operands])).1;unfold o8;simp only [h1,h2,o];split at h
  ·rename_i b hm;exact zf ((c m (by simp [uz,Op.operands])).2.1 b hm) h
  ·exact h.elim
 ·rename_i t m k ok;have h1:=(a m (by simp [Op.operands])).1;have h2:=(a k (by simp [Op.operands])).1;unfold o8;simp only [h1,h2];split at h
  ·rename_i b hm;exact HY ((c m (by simp [uz,Op.operands])).2.1 b hm) h
  ·exact h
  ·exact h.elim
 ·rename_i args E;have e:=@kc T C s s' dst ty _ K a;have h1:∀ x∈args.toList,ev s' x=ev s x:=fun x hx=>(a x (by grind [Op.operands,Call.operands])).1;have h2:∀ x∈args.toList,∀ g k n D,ev s x = .me g k n D->get s'.t (xk k)=get s.t (xk k):=fun x hx=>(c x (by grind [uz,Op.operands,Call.operands])).1;unfold o8;simp only;split at h
  ·rename_i x y F;have hx:=h1 x (by grind);have hy:=h1 y (by rw [F]; simp);simp only [hx,hy];split at h
   ·rename_i sz off k n d he
    cases l:Nat.beq off 0 with
    | false=>grind
    | true=>
    rw [l,aP] at h;rw [aP];unfold Xb at h ⊢;rw [iS (h2 x (by grind) _ _ _ _ he)];exact h
   ·rename_i k n d he;unfold Xc at h ⊢;rw [iS (h2 x (by grind) _ _ _ _ he)];exact h
   ·exact h.imp e id
   ·exact e h
  ·exact e h
 ·rename_i f first captured
  have h1:∀ x∈captured.toList,ev s' x=ev s x:=fun x hx=>(a x (by grind [Op.operands])).1;show Iz s' dst f first.toList captured.toList K
  unfold Iz at h ⊢;rw [Ay _ h1];exact h
 ·rename_i t x lo hi r;have h1:=(a x (by simp [Op.operands])).1;have w:lo.map (ev s')=lo.map (ev s):=by cases lo with | none=>rfl | some y=>exact ax some (a y (by simp [Op.operands])).1
  have u:hi.map (ev s')=hi.map (ev s):=by cases hi with | none=>rfl | some y=>exact ax some (a y (by simp [Op.operands])).1
  have p:r.map (ev s')=r.map (ev s):=by cases r with | none=>rfl | some y=>exact ax some (a y (by simp [Op.operands])).1
  unfold o8;simp only [h1,w,u,p];split at h
  ·rename_i k n d hx;unfold DI at h ⊢;rw [iS ((c x (by simp [uz,Op.operands])).1 _ _ _ _ hx)];exact h
  ·exact kc a h
 ·rename_i t x;have h1:=(a x (by simp [Op.operands])).1;unfold o8;simp only [h1];split at h
  ·rename_i sz j k i d hx;unfold OS at h ⊢;rw [iS ((c x (by simp [uz,Op.operands])).1 _ _ _ _ hx)];exact h
  ·rename_i k b off cs hx;unfold qI at h ⊢;rw [xJ (z x (by simp [C9]) _ _ _ _ hx)];exact h
  ·exact kc a h
 ·rename_i t x f;have h1:=(a x (by simp [Op.operands])).1;grind [o8,kc]
 ·rename_i h1 h2 o G P A J L N H M;have e:=kc a h;unfold o8;grind
open Go
open Go.RowKit (Below)
section
variable {Γ:cr} (hΓ:Γ.OK) {T:eX} (hT:T.OK Γ.P) {s:St} {o:Oper} {a:Act} {w:World} {next:Act->World->Prop} {Q:Exit->Act->World->Prop}
theorem fZ {v} {K} (h:K (stepR s o.dst (.val v))):fJ s o.dst v K:=by
 obtain ⟨t,b⟩:=s;unfold fJ;unfold stepR at h;grind
include hΓ hT in
theorem Ql {K} (p:ef Γ s a w) (A:∀ d,o.dst=some d->d<Γ.nt) (h:yA T (ar Γ.P) s o.dst o.type o.op K)
  (q:dS Γ a o.dst w (fun s'=>∃ r,K r/\s'=stepR s o.dst r) next):o.wpIn Γ.F Γ.n Γ.P a w next Q:=by
 generalize f:o.op=op at h;unfold yA at h;split at h
 ·rename_i t;split at h
  ·rename_i d i e hi;split at h
   ·rename_i cs D
    cases m:(Nat.beq cs.length i.size&&cs.all (fun c=>c.isCell)) with
    | false=>grind
    | true=>
     rw [m,aP] at h;simp only [al,aN] at m;exact Iq hΓ hT f p A e hi D m.2 (fun s'=>∃ r,K r/\s'=stepR s (some d) r) ⟨_,h,rfl⟩ (e ▸ q)
   ·exact h.elim
  ·exact h.elim
 ·rename_i t x y;refine OM hΓ hT f p ?_ q;unfold nu;simp only;split at h
  ·rename_i i d off cs e hi hx hy;rw [e];simp only [hi,hx,hy]
   cases u:(Nat.beq cs.length i.size&&cs.all (fun c=>c.isCell)) with
   | false=>grind
   | true=>
    rw [u] at h;simp only [aP] at h ⊢;split at h
    ·rename_i c0 X;unfold Dv;simp only [X]
     cases B:(Nat.ble (off+cs.length) c0.length&&Nat.blt 0 cs.length) with
     | false=>grind
     | true=>rw [B] at h; exact ⟨_,h,rfl⟩
    ·exact h.elim
  ·exact h.elim
 ·rename_i args ts;refine Ip hΓ hT f p A ?_ q;unfold nu;simp only;generalize args.toList=l at h ⊢;generalize ts.toList=H at h ⊢;generalize o.dst=dst at h ⊢;rcases l with _ | ⟨x,_ | ⟨y,_ | ⟨z,l⟩⟩⟩ <;> rcases H with _ | ⟨t,_ | ⟨U,_ | ⟨Z,H⟩⟩⟩ <;> cases dst <;> first | exact h.elim | skip
  simp only at h ⊢;split at h
  ·rename_i i hi;simp only [hi];split at h
   ·rename_i j hj;simp only [hj];split at h
    ·rename_i L sz xs ow' sz' M hx hy;simp only [hx,hy]
     cases u:(Nat.beq i.kind 3&&Nat.beq t U&&n0 j&&Nat.blt 0 j.size&&IG L j.size sz) with
     | false=>grind
     | true=>
      rw [u] at h;simp only [aP] at h ⊢;refine aU.mono (aU.szOK (aU.k (α:=Unit) ())) (K:=fun _=>_) (K':=fun _=>_) h fun _ h=>?_;refine aU.mono (aU.szOK (aU.k (α:=Unit) ())) (K:=fun _=>_) (K':=fun _=>_) h fun _ h=>?_;refine ⟨h.1,h.2.1,?_⟩
      replace h:=h.2.2
      cases L with
      | no=>exact h.elim
      | full=>
       cases N:Np xs M with
       | true=>rw [N] at h; exact ⟨_,h,rfl⟩
       | false=>
        rw [N,bq] at h
        cases G:tl M with
        | true=>grind
        | false=>rw [G] at h; exact ⟨_,h,rfl⟩
      | id k=>exact ⟨_,h,rfl⟩
    ·exact h.elim
   ·exact h.elim
  ·exact h.elim
 ·rename_i t l c;refine xG hΓ hT f p A ?_ q;unfold nu;simp only;split at h
  ·rename_i d i e hi;rw [e];simp only [hi];split at h
   ·rename_i j hj;simp only [hj];split at h
    ·rename_i k1 l1 k2 c1 hl u;simp only [hl,u];split at h
     ·rename_i J E;simp only [E]
      cases m:Nat.beq i.kind 3&&Nat.beq J.length j.size&&J.all (fun c=>c.isCell)&&Nat.blt 0 j.size with
      | false=>grind
      | true=>
       rw [m] at h;simp only [aP] at h ⊢;exact ⟨h.1,h.2.1,h.2.2.1,h.2.2.2.1,_,h.2.2.2.2,rfl⟩
     ·exact h.elim
    ·exact h.elim
   ·exact h.elim
  ·exact h.elim
 ·subst f;obtain ⟨v,h1,h2⟩:=IK T (ar Γ.P) s.b (ev s) o.type o.op _ h;rw [AV.go_eq] at h1;refine OL hΓ hT p A (K:=fun s'=>∃ r,K r/\s'=stepR s o.dst r) (h2 _ ?_) q;rw [AV.go_eq];exact fZ ⟨_,h1,rfl⟩
theorem ul {T} {s} {o:Oper} {t} {k len} {i} {K} (h:iX T s t k len i K):iT T s o.dst t k len i fun s'=>∃ r,K r/\s'=stepR s o.dst r:=by
 unfold iX at h;unfold iT;split at h
 ·exact h.elim
 rename_i c b;simp only [b];split at h
 ·exact h.elim
 rename_i j hj;simp only [hj];split at h
 ·exact h.elim
 rename_i sz xs e;simp only [e]
 cases d:(Nat.beq c.kind 3&&Nat.beq j.size sz) with
 | false=>grind
 | true=>rw [d] at h; exact ⟨h.1,h.2.1,fZ (K:=fun s'=>∃ r,K r/\s'=stepR s o.dst r) ⟨_,h.2.2,rfl⟩⟩
include hΓ hT in
theorem Mz {K} (q:ef Γ s a w) (A:∀ d,o.dst=some d->d<Γ.nt) (B:∀ d g k n xs,iE g=true->get s.t d=some (.me g k n xs)->d=xk k) (h:o8 T (ar Γ.P) s o.dst o.type o.op K)
  (x:dS Γ a o.dst w (fun s'=>∃ r,K r/\s'=stepR s o.dst r) next):o.wpIn Γ.F Γ.n Γ.P a w next Q:=by
 generalize e:o.op=op at h;have back:yA T (ar Γ.P) s o.dst o.type op K->o.wpIn Γ.F Γ.n Γ.P a w next Q:=fun h=>Ql hΓ hT q A (by rw [e]; exact h) x;unfold o8 at h;split at h
 ·split at h
  ·rename_i hx hy;exact xu hΓ hT e q A hx hy (ul h) x
  ·rename_i hx hy;obtain ⟨k,b,sz,xs,⟨h1,h2,M⟩,h⟩:=h;exact tW hΓ hT e q A h1 h2 M hy (ul h) x
  ·exact back h
 ·split at h
  ·rename_i hy;refine HX hΓ hT e q hy (fun g d n xs hg=>B d g _ n xs hg) ?_ x;unfold DH at h;unfold yR;split at h
   ·rename_i Z cs p D hcs;simp only [p,D,hcs];split at h
    ·exact h.elim
    rename_i z xs H;simp only [H];generalize (Nat.beq z _&&(Nat.beq cs.length Z.size&&(cs.all (fun c=>c.isCell)&&(Nat.ble _ _&&Nat.blt 0 cs.length))))=J at h ⊢
    cases J with
    | false=>exact h.elim
    | true=>
     obtain ⟨r,h1,h2⟩:=h;refine ⟨r,h1,?_⟩;unfold rowK at h2 ⊢;split at h2 <;> exact ⟨_,h2,rfl⟩
   ·exact h.elim
  ·rename_i hy;exact OY hΓ hT e q hy h (fun k v _ g d n xs hg hgt=>B d g _ n xs hg hgt) (fun k v N s2 a2 w2 e1 e2 e3 e4=>x s2 a2 w2 ⟨_,N,e1⟩ e2 e3 e4)
  ·exact back h
 ·split at h
  ·rename_i U y;split at h
   ·rename_i hx;unfold Qa at h;split at h
    ·exact h.elim
    rename_i i hi
    cases E:Nat.beq i.kind 3 with
    | false=>grind
    | true=>rw [E] at h; exact Yr hΓ hT e U y q A hx hi (ak E) (fZ ⟨_,h,rfl⟩) x
   ·rename_i hx;unfold Qa at h;split at h
    ·exact h.elim
    rename_i i hi
    cases E:Nat.beq i.kind 3 with
    | false=>grind
    | true=>rw [E] at h; exact S0 hΓ hT e U y q A hx hi (ak E) (fZ ⟨_,h,rfl⟩) x
   ·exact back h
  ·exact back h
 ·split at h
  ·rename_i b hx;exact nB hΓ hT (.inl e) q hx h (fun k v N _ s' a' w' h1 h2 M h4=>x s' a' w' ⟨_,N,h1⟩ h2 M h4) (fun k v N d n xs=>B d _ _ n xs rfl)
  ·exact h.elim
 ·split at h
  ·rename_i b hx;exact nB hΓ hT (.inr e) q hx h (fun k v N _ s' a' w' h1 h2 M h4=>x s' a' w' ⟨_,N,h1⟩ h2 M h4) (fun k v N d n xs=>B d _ _ n xs rfl)
  ·exact h.elim
 ·split at h
  ·rename_i b hx;exact SY hΓ hT e q A hx (zh h fun v hv=>by rw [AV.go_eq] at hv; exact fZ ⟨_,hv,rfl⟩) x
  ·rename_i hx;exact TR hΓ hT e q A hx (zU h fun v hv=>by rw [AV.go_eq] at hv; exact fZ ⟨_,hv,rfl⟩) x
  ·exact h.elim
 ·split at h
  ·rename_i U;split at h
   ·rename_i sz off k n zs hx
    cases L:Nat.beq off 0 with
    | false=>grind
    | true=>
    rw [L,aP] at h;rw [ak L] at hx;refine Ys hΓ hT e U q A hx ?_ x;unfold Xb at h;unfold WF;split at h
    ·rename_i d t X p y;simp only [p,y];split at h
     ·exact h.elim
     rename_i i hi;simp only [hi];split at h
     ·exact h.elim
     rename_i j hj;simp only [hj];split at h
     ·rename_i z l k' m ys hy;simp only [hy];split at h
      ·exact h.elim
      rename_i G xs H;simp only [H];generalize (Nat.beq i.kind 3&&(Nat.beq t X&&(Nat.beq sz G&&(Nat.beq z G&&(Nat.beq k k'&&(Nat.beq j.size G&&Nat.blt 0 G))))))=J at h ⊢
      cases J with
      | false=>exact h.elim
      | true=>exact ⟨h.1,_,h.2,rfl⟩
     ·exact h.elim
    ·exact h.elim
   ·rename_i k n zs hx;refine Yt hΓ hT e U q A hx ?_ x;unfold Xc at h;unfold WG;split at h
    ·rename_i d t X p y;simp only [p,y];split at h
     ·exact h.elim
     rename_i i hi;simp only [hi];split at h
     ·exact h.elim
     rename_i j hj;simp only [hj];split at h
     ·exact h.elim
     rename_i sz xs H;simp only [H];split at h
     ·rename_i ow z ys hy;simp only [hy];generalize (Nat.beq i.kind 3&&(Nat.beq t X&&(n0 j&&(Nat.blt 0 j.size&&Nat.beq j.size sz))))=J at h ⊢
      cases J with
      | false=>exact h.elim
      | true=>exact Ib (fun ⟨q1,q2,q3,q4⟩=>⟨q1,q2,q3,_,q4,rfl⟩) h
     ·exact h.elim
    ·exact h.elim
   ·rename_i hx;rcases h with h | h
    ·exact back h
    refine Oy hΓ hT e U q A hx ?_ x;unfold Mu at h;unfold Dm;split at h
    ·rename_i d t X p y;simp only [p,y];split at h
     ·exact h.elim
     rename_i i hi;simp only [hi];split at h
     ·exact h.elim
     rename_i j hj;simp only [hj];split at h
     ·rename_i ow z ys hy;simp only [hy];generalize (Nat.beq i.kind 3&&(Nat.beq t X&&(n0 j&&Nat.blt 0 j.size)))=J at h ⊢
      cases J with
      | false=>exact h.elim
      | true=>exact Ib (fun ⟨q1,q2,q3,q4⟩=>⟨q1,q2,q3,_,q4,rfl⟩) h
     ·exact h.elim
    ·exact h.elim
   ·exact back h
  ·exact back h
 ·rename_i f first captured
  unfold Iz at h
  cases hf:first.toList.isEmpty with
  | false=>grind
  | true=>
   rw [hf,aP] at h;split at h
   ·rename_i l d hl p;refine zy (T:=T) (K:=fun s'=>∃ r,K r/\s'=stepR s o.dst r) hΓ e q A ?_ x;simp only [nu,hf,aP];refine UM _ l _ hl ?_;rw [p];exact ⟨_,h,rfl⟩
   ·exact h.elim
 ·split at h
  ·rename_i k n zs hx;refine Ox hΓ hT e q A hx ?_ x;unfold DI at h;unfold Dk;split at h
   ·exact h.elim
   rename_i i hi;simp only [hi];split at h
   ·exact h.elim
   rename_i j hj;simp only [hj];split at h
   ·exact h.elim
   rename_i sz xs H;simp only [H];generalize (Nat.beq i.kind 3&&(Nat.beq j.size sz&&_))=J at h ⊢
   cases J with
   | false=>exact h.elim
   | true=>
    simp only [aP] at h ⊢
    have bm:∀ (o:Option AV) (d:Nat) (P Q:Nat->Prop),(∀ n,P n->Q n)->jZ o d P->jZ o d Q:=by
     intro o d P Q hpq h;unfold jZ at h ⊢;split at h
     ·exact hpq _ h
     ·grind
     ·exact h.elim
    refine bm _ _ _ _ (fun l=>?_) h;refine bm _ _ _ _ (fun r=>?_);rintro ⟨g1,g2,g3⟩;exact ⟨g1,g2,fZ ⟨_,g3,rfl⟩⟩
  ·exact back h
 ·split at h
  ·rename_i sz j k i zs hx;refine SZ hΓ hT e q A hx ?_ x;unfold OS at h;unfold Oz;split at h
   ·exact h.elim
   rename_i Z D;simp only [D];split at h
   ·exact h.elim
   rename_i z xs H;simp only [H]
   cases E:Nat.beq z sz with
   | false=>grind
   | true=>
    rw [E] at h;obtain ⟨r,h1,h2⟩:=h;refine ⟨r,h1,?_⟩
    cases hv:eS Z (r.drop j) with
    | none=>grind
    | some v=>
     rw [hv] at h2
     have M:K (.val v):=by
      have h2:v.go (fun v=>K (.val v)):=h2;rwa [AV.go_eq] at h2
     show v.go fun v=>fJ s o.dst v fun s'=>∃ r,K r/\s'=stepR s o.dst r;rw [AV.go_eq];exact fZ ⟨_,M,rfl⟩
  ·rename_i hx;exact TA hΓ hT e q A hx (zJ h fun v hv=>by rw [AV.go_eq] at hv; exact fZ ⟨_,hv,rfl⟩) x
  ·exact back h
 ·split at h
  ·rename_i sz j k i zs hx;refine xw hΓ hT e q A hx ?_ x;unfold tc at h;unfold oS;split at h
   ·exact h.elim
   rename_i Z D;simp only [D]
   cases E:Nat.beq Z.kind 1 with
   | false=>grind
   | true=>
    rw [E] at h;simp only [aP] at h ⊢;split at h
    ·exact h.elim
    rename_i off ft hf;simp only [hf];split at h
    ·exact h.elim
    rename_i u hu;simp only [hu]
    cases hb2:Nat.beq u.size 0 with
    | true=>grind
    | false=>
     rw [hb2] at h;show fJ s o.dst _ fun s'=>∃ r,K r/\s'=stepR s o.dst r;exact fZ ⟨_,h,rfl⟩
  ·exact back h
 ·exact back h
include hΓ hT in
theorem MB {guards} {K} (j:ef Γ s a w) (i:∀ d,o.dst=some d->d<Γ.nt) (e:∀ d g k n xs,iE g=true->get s.t d=some (.me g k n xs)->d=xk k) (h:DK T (ar Γ.P) (bW Γ.P) guards s o K)
  (l:dS Γ a o.dst w (fun s'=>∃ r,K r/\s'=stepR s o.dst r) next):o.wpIn Γ.F Γ.n Γ.P a w next Q:=by
 unfold DK at h
 cases c:Ao guards o with
 | false=>rw [c,bq] at h; exact Mz hΓ hT j i e h l
 | true=>
  rw [c,aP] at h;simp only [AV.go_eq,qS] at h;obtain ⟨d,b⟩:=An c;refine Pt hΓ j b (i d b) h ?_;rintro s' p w' ⟨N,I,L,r,v,q,rfl⟩ f u m;exact l _ p w' ⟨_,q,by rw [b]; rfl⟩ f u m
end
open Go
structure Eff where
 w:List (Nat×AV)
 b:List (Nat×List AV)
def MY (k:Nat):AV->Bool
 | .sl (.id j) _ _=>Nat.beq j k
 | _=>false
def lX (k:Nat):AV->Bool
 | .sl (.id j) _ _=>Nat.beq j k
 | .me .box _ _ xs=>xs.any fun r=>r.any (MY k)
 | _=>false
theorem MX {k} {x} (h:MY k x=false):x.demO k=x:=by
 cases x with
 | sl o sz xs=>cases o <;> first | rfl | (simp only [MY] at h; simp only [AV.demO,h,bq])
 | _=>rfl
def sK (k:Nat):AV->Bool
 | .agg cs=>cs.any (lX k)
 | x=>lX k x
def IZ (d:Nat):AV->Bool
 | .loc a _=>Nat.beq d a
 | _=>false
theorem pd {k} {x} (h:lX k x=false):x.dem1 k=x:=by
 cases x with
 | sl o sz xs=>cases o <;> first | rfl | (simp only [lX] at h; simp only [AV.dem1,h,bq])
 | me g j n xs=>
  cases g with
  | box=>
   simp only [lX,fF] at h;simp only [AV.dem1]
   congr 1
   conv=>rhs; rw [<- HL xs]
   refine fH fun r a=>?_
   conv=>rhs; rw [id,<- HL r]
   exact fH fun y hy=>MX (by grind)
  | _=>rfl
 | _=>rfl
theorem CY {k} {x} (h:sK k x=false):x.dem k=x:=by
 cases x with
 | agg cs=>
  simp only [sK,fF] at h;simp only [AV.dem]
  congr 1
  conv=>rhs; rw [<- HL cs]
  grind [List.map_congr_left,pd]
 | _=>exact pd (k:=k) (by unfold sK at h; exact h)
theorem IY {d} {x} (h:IZ d x=false):x.unloc d=x:=by
 cases x with
 | loc a off=>simp only [IZ] at h; simp only [AV.unloc,h,bq]
 | _=>rfl
def EB (k:Nat):List Nat->List (Nat×AV)->List (Nat×AV)
 | _,[]=>[]
 | seen,(x,v)::r=>bif dn seen x then EB k seen r else bif sK k v then (x,v.dem k)::EB k (x::seen) r else EB k (x::seen) r
theorem Af (k:Nat):∀ (t:List (Nat×AV)) (seen:List Nat) (x:Nat) (v:AV),get (EB k seen t) x=some v->x ∉ seen/\∃ u,get t x=some u/\v=u.dem k
 | [],seen,x,v,h=>by simp [EB,get] at h
 |(y,u)::r,seen,x,v,h=>by
  simp only [EB] at h
  cases hm:dn seen y with
  | true=>
   rw [hm,aP] at h;obtain ⟨h1,a,h2,d⟩:=Af k r seen x v h;refine ⟨h1,a,?_,d⟩;rw [bf,aY]
   ·exact h2
   ·rintro rfl; exact h1 (dH.1 hm)
  | false=>
   rw [hm,bq] at h;have c:y ∉ seen:=fun f=>by rw [dH.2 f] at hm; cases hm
   have key:∀ g:get (EB k (y::seen) r) x=some v,x ∉ seen/\∃ a,get ((y,u)::r) x=some a/\v=a.dem k:=fun g=>by
    obtain ⟨h1,a,h2,d⟩:=Af k r _ x v g;simp only [bC,not_or] at h1;refine ⟨h1.2,a,?_,d⟩;rw [bf,aY h1.1]; exact h2
   cases e:sK k u with
   | true=>
    rw [e,aP,bf] at h;split at h
    ·rename_i hx;subst hx;simp only [aB] at h;exact ⟨c,u,by rw [bf,aV rfl],h.symm⟩
    ·exact key h
   | false=>
    grind
def wN (k:Nat):AV->Bool
 | .me _ k' _ _=>Nat.beq k k'
 | _=>false
theorem CW {k} {x} (h:wN k x=false):x.unme k=x:=by
 cases x with
 | me g k' n xs=>simp only [wN] at h; simp only [AV.unme,h,bq]
 | _=>rfl
theorem QA {k} {x} (h:wN k x=true):x.unme k = .junk:=by
 cases x with
 | me g k' n xs=>simp only [wN] at h; simp only [AV.unme,h,aP]
 | _=>cases h
def EA (k:Nat):List Nat->List (Nat×AV)->List (Nat×AV)
 | _,[]=>[]
 | seen,(x,v)::r=>bif dn seen x then EA k seen r else bif wN k v then (x,.junk)::EA k (x::seen) r else EA k (x::seen) r
theorem Ae (k:Nat):∀ (t:List (Nat×AV)) (seen:List Nat) (x:Nat) (v:AV),get (EA k seen t) x=some v->x ∉ seen/\∃ u,get t x=some u/\wN k u=true/\v = .junk
 | [],seen,x,v,h=>by simp [EA,get] at h
 |(y,u)::r,seen,x,v,h=>by
  simp only [EA] at h
  cases hm:dn seen y with
  | true=>
   rw [hm,aP] at h;obtain ⟨h1,a,h2,d⟩:=Ae k r seen x v h;refine ⟨h1,a,?_,d⟩;rw [bf,aY]
   ·exact h2
   ·rintro rfl; exact h1 (dH.1 hm)
  | false=>
   rw [hm,bq] at h;have c:y ∉ seen:=fun f=>by rw [dH.2 f] at hm; cases hm
   have key:∀ g:get (EA k (y::seen) r) x=some v,x ∉ seen/\∃ a,get ((y,u)::r) x=some a/\wN k a=true/\v = .junk:=fun g=>by
    obtain ⟨h1,a,h2,d⟩:=Ae k r _ x v g;simp only [bC,not_or] at h1;refine ⟨h1.2,a,?_,d⟩;rw [bf,aY h1.1]; exact h2
   cases e:wN k u with
   | true=>
    rw [e,aP,bf] at h;split at h
    ·rename_i hx;subst hx;simp only [aB] at h;exact ⟨c,u,by rw [bf,aV rfl],e,h.symm⟩
    ·exact key h
   | false=>
    grind
def t7 (N I:List Nat) (x:AV):Bool:=I.any (fun k=>sK k x)||N.any (fun k=>wN k x)
theorem Au {x:AV}:∀ {I:List Nat},(∀ k∈I,sK k x=false)->x.demMany I=x
 | [],_=>rfl
 | k::r,h=>by rw [AV.demMany,CY (h k aW)]; exact Au fun j hj=>h j (aS _ hj)
theorem xV {x:AV}:∀ {I:List Nat},(∀ k∈I,lX k x=false)->x.demMany1 I=x
 | [],_=>rfl
 | k::r,h=>by rw [AV.demMany1,pd (h k aW)]; exact xV fun j hj=>h j (aS _ hj)
theorem xx {x:AV}:∀ {N:List Nat},(∀ k∈N,wN k x=false)->x.unmeMany N=x
 | [],_=>rfl
 | k::r,h=>by
  rw [AV.unmeMany,CW (h k aW)];have e:(bif Nat.ble 7000000 k&&x.isRefX then x else x)=x:=by grind
  rw [e];exact xx fun j hj=>h j (aS _ hj)
theorem Te {N I} {x} (h:t7 N I x=false):(x.demMany I).unmeMany N=x:=by
 grind [t7,Bool.or_eq_false_iff,List.any_eq_false,Au,xx]
def BD (N I:List Nat):List Nat->List (Nat×AV)->List (Nat×AV)
 | _,[]=>[]
 | seen,(x,v)::r=>bif dn seen x then BD N I seen r else bif t7 N I v then (x,(v.demMany I).unmeMany N)::BD N I (x::seen) r else BD N I (x::seen) r
theorem Ag (N I:List Nat):∀ (t:List (Nat×AV)) (seen:List Nat) (x:Nat) (v:AV),get (BD N I seen t) x=some v->x ∉ seen/\∃ u,get t x=some u/\t7 N I u=true/\v=(u.demMany I).unmeMany N
 | [],seen,x,v,h=>by simp [BD,get] at h
 |(y,u)::r,seen,x,v,h=>by
  simp only [BD] at h
  cases hm:dn seen y with
  | true=>
   rw [hm,aP] at h;obtain ⟨h1,a,h2,d⟩:=Ag N I r seen x v h;refine ⟨h1,a,?_,d⟩;rw [bf,aY]
   ·exact h2
   ·rintro rfl; exact h1 (dH.1 hm)
  | false=>
   rw [hm,bq] at h;have c:y ∉ seen:=fun f=>by rw [dH.2 f] at hm; cases hm
   have key:∀ g:get (BD N I (y::seen) r) x=some v,x ∉ seen/\∃ a,get ((y,u)::r) x=some a/\t7 N I a=true/\v=(a.demMany I).unmeMany N:=fun g=>by
    obtain ⟨h1,a,h2,d⟩:=Ag N I r _ x v g;simp only [bC,not_or] at h1;refine ⟨h1.2,a,?_,d⟩;rw [bf,aY h1.1]; exact h2
   cases e:t7 N I u with
   | true=>
    rw [e,aP,bf] at h;split at h
    ·rename_i hx;subst hx;simp only [aB] at h;exact ⟨c,u,by rw [bf,aV rfl],e,h.symm⟩
    ·exact key h
   | false=>
    grind
def Pc {α:Type}:List (Nat×α)->List Nat
 | []=>[]
 |(d,_)::r=>d::Pc r
def ff (t:List (Nat×AV)) (dst:Option Nat):lN->Eff
 | .val v=>match dst with | some d=>⟨[(d,v)],[]⟩ | none=>⟨[],[]⟩
 | .alloc cs=>match dst with | some d=>⟨[(d,.loc d 0)],[(d,cs)]⟩ | none=>⟨[],[]⟩
 | .store d cs=>⟨[],[(d,cs)]⟩
 | .app k v=>match dst with | some d=>⟨(d,v)::EB k [d] t,[]⟩ | none=>⟨[],[]⟩
 | .xst k v=>⟨[(xk k,v)],[]⟩
 | .cut k n v=>match dst with | some d=>⟨(d,.me .sl k n [])::(xk k,v)::EA k [d,xk k] t,[]⟩ | none=>⟨[],[]⟩
 | .lent N I v es _=>match dst with | some d=>⟨(d,v)::(es++BD N I (d::Pc es) t),[]⟩ | none=>⟨[],[]⟩
def tF {α:Type} (E:Nat->List (Nat×α)) (b:List (Nat×α)) (M:Nat->Bool):Nat->List (Nat×α)
 | 0=>b
 | j+1=>bif M j then E j++tF E b M j else tF E b M j
section
variable {α:Type} {E:Nat->List (Nat×α)} {b:List (Nat×α)}
theorem rK (M) (j) (x):get (tF E b M (j+1)) x=if M j=true then (get (E j) x).or (get (tF E b M j) x) else get (tF E b M j) x:=by
 simp only [tF]
 cases M j with
 | true=>simp [eI]
 | false=>simp
theorem hZ {M M':Nat->Bool} {x:Nat}:∀ (n:Nat),(∀ j,j<n->get (E j) x≠none->M j=M' j)->get (tF E b M n) x=get (tF E b M' n) x
 | 0,_=>rfl
 | n+1,h=>by
  rw [rK,rK,hZ n fun j hj=>h j am];grind
theorem Yx {n i} (hi:i<=n) (x):get (tF E b (fun _=>true) i) x=get (tF E b (fun j=>decide (j<i)) n) x:=by
 induction n with
 | zero=>rw [show i=0 by omega]; rfl
 | succ n a=>
  by_cases h:i=n+1
  ·grind [hZ]
  ·rw [a am,rK,aY (by simp; omega)]
theorem tw {M M':Nat->Bool} {x i:Nat} (d:M i=false) (a:∀ j,M' j=(M j||decide (j=i))):∀ (n:Nat),i<n->(∀ j,j<n->i<j->M j=true->get (E i) x≠none->get (E j) x=none) ->
  get (tF E b M' n) x=(get (E i) x).or (get (tF E b M n) x)
 | 0,hi,_=>absurd hi (mK _)
 | n+1,hi,h=>by
  rw [rK,rK];by_cases f:n=i
  ·subst f;rw [aV (show M' n=true by rw [a n]; simp),aY (show ¬ M n=true by simp [d])];rw [hZ n fun j hj _=>show M' j=M j by rw [a j,dR (show ¬ j=n by omega),ey]]
  ·rw [show M' n=M n by grind];rw [tw d a n am fun j hj=>h j am];split
   ·rename_i c
    cases e:get (E i) x with
    | none=>simp
    | some v=>rw [h n am am c (by rw [e]; simp)]; rfl
   ·rfl
theorem m9 {M:Nat->Bool} {x:Nat} {v:α}:∀ (n:Nat),get (tF E b M n) x=some v->get b x=some v\/∃ j,j<n/\M j=true/\get (E j) x=some v
 | 0,h => .inl h
 | n+1,h=>by
  rw [rK] at h;split at h
  ·rename_i c
   cases a:get (E n) x with
   | some u=>grind
   | none=>
    rw [a] at h;rcases m9 n h with h | ⟨j,h1,h2⟩
    ·exact .inl h
    ·exact .inr ⟨j,by omega,h2⟩
  ·rcases m9 n h with h | ⟨j,h1,h2⟩
   ·exact .inl h
   ·exact .inr ⟨j,by omega,h2⟩
theorem qz:∀ i:Nat,tF E b (fun _=>true) (i+1)=tF (fun j=>E (j+1)) (E 0++b) (fun _=>true) i
 | 0=>rfl
 | i+1=>by
  rw [tF,qz i]; rfl
end
def nd (M:Nat->Bool):Nat->Nat
 | 0=>0
 | n+1=>(bif M n then 1 else 0)+nd M n
theorem UH (M:Nat->Bool):∀ n,nd M n<=n
 | 0=>ba _
 | n+1=>by
  have:=UH M n;simp only [nd];cases M n <;> simp <;> omega
theorem za {M:Nat->Bool}:∀ n,nd M n=n->∀ i,i<n->M i=true
 | 0,_,i,hi=>absurd hi (mK _)
 | n+1,h,i,hi=>by
  have hle:=UH M n;simp only [nd] at h
  cases a:M n with
  | false=>grind
  | true=>
   rw [a] at h;simp at h;by_cases c:i=n
   ·rw [c]; exact a
   ·exact za n am i am
theorem C6 {M M':Nat->Bool}:∀ n,(∀ j,j<n->M j=M' j)->nd M n=nd M' n
 | 0,_=>rfl
 | n+1,h=>by simp only [nd,h n am,C6 n fun j hj=>h j am]
theorem y9 {M M':Nat->Bool} {i:Nat} (c:M i=false) (a:∀ j,M' j=(M j||decide (j=i))):∀ n,i<n->nd M' n=nd M n+1
 | 0,h=>absurd h (mK _)
 | n+1,h=>by
  simp only [nd];by_cases d:n=i
  ·subst d;rw [a n,c,C6 n fun j hj=>show M' j=M j by rw [a j,dR (show ¬ j=n by omega),ey]];simp; omega
  ·rw [y9 c a n am,show M' n=M n by grind];omega
open Go
def abd (s:St) (e:Eff):St:=⟨e.w++s.t,e.b++s.b⟩
def X9 {α:Type} (w t:List (Nat×α)) (K:List (Nat×α)->Prop):Prop:=match w with
 | []=>K t
 | p::r=>X9 r t fun t=>K (p::t)
theorem PL {α:Type}:∀ (w t:List (Nat×α)) (K:List (Nat×α)->Prop),X9 w t K=K (w++t)
 | [],_,_=>rfl
 | _::r,t,K=>by rw [X9,PL r t]; rfl
def PM (w t:List (Nat×List AV)) (K:List (Nat×List AV)->Prop):Prop:=match w with
 | []=>K t
 |(d,cs)::r=>PM r t fun t=>MZ cs fun cs=>K ((d,cs)::t)
theorem JF:∀ (w t:List (Nat×List AV)) (K:List (Nat×List AV)->Prop),PM w t K=K (w++t)
 | [],_,_=>rfl
 |(d,cs)::r,t,K=>by rw [PM,JF r t,lY]; rfl
def Xd (s:St) (e:Eff) (K:St->Prop):Prop:=match s,e with
 | ⟨t,b⟩,⟨w,a⟩=>X9 w t fun t=>PM a b fun b=>K ⟨t,b⟩
theorem OT (s) (e) (K):Xd s e K=K (abd s e):=by
 unfold Xd;simp only [PL,JF];rfl
def M0 (guards:List Nat) (dst:Option Nat) (r:lN) (K:lN->Prop):Prop:=
 match r,dst with
 | .val (.bool v),some d=>bif dn guards d then (v=true->K (.val (.bool true)))/\(v=false->K (.val (.bool false))) else K (.val (.bool v))
 | r,_=>K r
theorem I7 {guards} {dst} {r} {K} (h:M0 guards dst r K):K r:=by
 unfold M0 at h;split at h
 ·rename_i v d
  cases hm:dn guards d with
  | false=>rw [hm] at h; exact h
  | true=>
   rw [hm] at h
   cases v with
   | true=>exact h.1 rfl
   | false=>exact h.2 rfl
 ·exact h
structure jh where
 o:Oper
 s:St
 r:lN
def jh.eff (st:jh):Eff:=ff st.s.t st.o.dst st.r
section
variable (T:eX) (C:FuncId->List AV->AV->Prop) (E:vV)
def Mq (all:List Oper) (guards:List Nat):List Oper->List jh->St->(List jh->St->Prop)->Prop
 | [],a,s,K=>K a s
 | o::rest,a,s,K=>match j6 all s o with
  | 0=>DK T C E guards s o fun r=>M0 guards o.dst r fun r=>Xd s (ff s.t o.dst r) fun s'=>Mq all guards rest (⟨o,s,r⟩::a) s' K
  | 1=>Xd s (ff s.t o.dst (.val .undef)) fun s'=>Mq all guards rest (⟨o,s,.val .undef⟩::a) s' K
  | _=>False
def okS (all:List Oper) (guards:List Nat) (s:St) (o:Oper) (r:lN):Prop:=(j6 all s o=0/\DK T C E guards s o fun a=>a=r)\/(j6 all s o=1/\r = .val .undef)
def ym (all:List Oper) (guards:List Nat):St->List Oper->List jh->St->Prop
 | s,[],[],s'=>s'=s
 | s,o::l,st::l2,s'=>st.o=o/\st.s=s/\okS T C E all guards s o st.r/\ym all guards (abd s st.eff) l l2 s'
 | _,_,_,_=>False
theorem ou {all:List Oper} {guards:List Nat} {K:List jh->St->Prop}:∀ (l:List Oper) (a:List jh) (s:St),Mq T C E all guards l a s K->∃ l2 s',ym T C E all guards s l l2 s'/\K (l2.reverse++a) s'
 | [],a,s,h=>⟨[],s,rfl,h⟩
 | o::l,a,s,h=>by
  simp only [Mq] at h;split at h
  ·rename_i b;obtain ⟨r,h1,h2⟩:=Qn T C E guards s o _ h;have h1:=I7 h1;rw [OT] at h1;obtain ⟨l2,s',g1,g2⟩:=ou l _ _ h1;exact ⟨⟨o,s,r⟩::l2,s',⟨rfl,rfl,.inl ⟨b,h2 _ rfl⟩,g1⟩,by simpa using g2⟩
  ·rename_i b;rw [OT] at h;obtain ⟨l2,s',g1,g2⟩:=ou l _ _ h;exact ⟨⟨o,s,.val .undef⟩::l2,s',⟨rfl,rfl,.inr ⟨b,rfl⟩,g1⟩,by simpa using g2⟩
  ·exact h.elim
def Wf (a:List jh) (i:Nat):List (Nat×AV):=match a[i]? with | some st=>st.eff.w | none=>[]
def Bf (a:List jh) (i:Nat):List (Nat×List AV):=match a[i]? with | some st=>st.eff.b | none=>[]
theorem ym.all {all:List Oper} {guards:List Nat}:∀ {l:List Oper} {a:List jh} {s s':St},ym T C E all guards s l a s' ->
  a.length=l.length/\(∀ (i:Nat) (st:jh),a[i]?=some st->l[i]?=some st.o/\okS T C E all guards st.s st.o st.r/\st.s=⟨tF (Wf a) s.t (fun _=>true) i,tF (Bf a) s.b (fun _=>true) i⟩) /\
  s'=⟨tF (Wf a) s.t (fun _=>true) l.length,tF (Bf a) s.b (fun _=>true) l.length⟩
 | [],[],s,s',h=>by
  have h:s'=s:=h;subst h;exact ⟨rfl,fun i st h=>by simp at h,rfl⟩
 | o::l,st::a,s,s',h=>by
  obtain ⟨h1,h2,e,f⟩:=h;obtain ⟨g1,g2,g3⟩:=ym.all f;subst h1;have m:∀ j,Wf (st::a) (j+1)=Wf a j:=fun j=>rfl;have n:∀ j,Bf (st::a) (j+1)=Bf a j:=fun j=>rfl;refine ⟨by simp [g1],fun i d c=>?_,?_⟩
  ·cases i with
   | zero=>
    simp at c;subst c;exact ⟨rfl,by rw [h2]; exact e,h2⟩
   | succ i=>
    simp at c;obtain ⟨k1,k2,k3⟩:=g2 i d c;refine ⟨by simpa using k1,k2,?_⟩;rw [qz,qz];exact k3
  ·rw [bu,qz,qz];exact g3
 | [],_::_,_,_,h=>h.elim
 | _::_,[],_,_,h=>h.elim
end
def Dt:List Operand->List Nat
 | []=>[]
 | .tmp t::r=>t::Dt r
 | _::r=>Dt r
def zW (s:St):List Operand->List Nat
 | []=>[]
 | x::r=>match ev s x with
  | .loc d _=>d::zW s r
  | _=>zW s r
def Jk:List (Nat×AV)->List Nat
 | []=>[]
 |(d,.me .ents _ _ _)::r=>d::Jk r
 | _::r=>Jk r
def Iw:List (Nat×AV)->List Nat
 | []=>[]
 |(d,.me (.row _ _) _ _ _)::r=>d::Iw r
 | _::r=>Iw r
def qN (s:St):List Operand->List Nat
 | []=>[]
 | x::r=>match ev s x with
  | .me _ k _ _=>xk k::qN s r
  | .lit (.map (some _))=>Jk s.t++qN s r
  | .lit (.slice _ _ _)=>Iw s.t++qN s r
  | _=>qN s r
def zF (s:St):List Operand->List Nat
 | []=>[]
 | x::r=>match ev s x with
  | .pin k _ _ _=>xk k::zF s r
  | _=>zF s r
def CR (p:Nat×AV):Bool:=match p.2 with
 | .me g k _ _ => !iE g||Nat.beq p.1 (xk k)
 | _=>true
def YQ (all:List Oper) (o:Oper):List Nat:=match o.guard with
 | some (j,_)=>match jx all j with | some d=>[d] | none=>[]
 | none=>[]
structure Sk where
 es:List Nat
 ra:List Nat
 wa:List Nat
 rb:List Nat
 wb:List Nat
def cW (o:Oper):List Nat:=(o.after.toList.filter (Region.binds .any)).map (·.on)
def f7 {α:Type}:List (Nat×α)->List Nat
 | []=>[]
 |(d,_)::r=>d::f7 r
def jh.sk (all:List Oper) (st:jh):Sk:=
  { es:=cW st.o,ra:=(Dt st.o.op.operands.toList++(qN st.s (uz st.o.op)++zF st.s (C9 st.o.op)))++YQ all st.o++(match st.r with | .app _ _=>(f7 st.eff.w).filter (fun x=>match st.o.dst with | some d => !Nat.beq x d | none=>true) | .cut _ _ _=>(f7 st.eff.w).filter (fun x=>match st.o.dst with | some d => !Nat.beq x d | none=>true) | .lent _ _ _ es rd=>(f7 st.eff.w).filter (fun x=>match st.o.dst with | some d => !Nat.beq x d | none=>true)++rd | _=>[]),
    wa:=f7 st.eff.w,rb:=zW st.s st.o.op.operands.toList,wb:=f7 st.eff.b }
def nb (a b:List Nat):Bool:=a.all fun x => !dn b x
def qT (l:List (List Nat)) (i:Nat):List Nat:=match qk l i with | some x=>x | none=>[]
def aaw (a b:List Nat):List Nat:=a.foldr (fun x l=>bif dn l x then l else x::l) b
def Ya:List (List Nat)->List (List Nat)->List (List Nat)
 | [],acc=>acc
 | es::r,acc=>Ya r (acc++[es.foldr (fun e l=>aaw (e::qT acc e) l) []])
def va (a:List (List Nat)) (i:Nat) (es:List Nat):Bool:=es.all (fun e=>Nat.blt e i)&&(qT a i).all fun j=>dn es j||es.any fun e=>dn (qT a e) j
def EF (c:List (List Nat)) (i m:Nat) (a b:Sk):Bool:=Nat.beq i m||dn (qT c i) m||dn (qT c m) i||(nb a.ra b.wa&&nb a.wa b.wa&&nb a.rb b.wb&&nb a.wb b.wb)
def pu (base:St) (c:List (List Nat)) (a:List jh) (i:Nat) (st:jh):Bool:=
 match st.r,st.o.dst with
 | .alloc _,some d=>base.t.all (fun p=>Nat.beq p.1 d || !IZ d p.2) &&
   (List.range a.length).all fun m=>Nat.beq i m||dn (qT c m) i||match qk a m with | none=>true | some st'=>st'.eff.w.all fun p=>Nat.beq p.1 d || !IZ d p.2
 | .app k _,some _=>base.t.all (fun p=>dn (f7 st.eff.w) p.1 || !sK k p.2)&&base.b.all (fun p=>p.2.all fun x => !lX k x) &&
   (List.range a.length).all fun m=>Nat.beq i m||dn (qT c m) i||match qk a m with | none=>true | some st'=>(st'.eff.w.all fun p=>dn (f7 st.eff.w) p.1 || !sK k p.2)&&st'.eff.b.all fun p=>p.2.all fun x => !lX k x
 | .cut k _ _,some _=>base.t.all (fun p=>dn (f7 st.eff.w) p.1 || !wN k p.2) &&
   (List.range a.length).all fun m=>Nat.beq i m||dn (qT c m) i||match qk a m with | none=>true | some st'=>st'.eff.w.all fun p=>dn (f7 st.eff.w) p.1 || !wN k p.2
 | .lent N I _ _ _,some _=>base.t.all (fun p=>dn (f7 st.eff.w) p.1 || !t7 N I p.2)&&base.b.all (fun p=>p.2.all fun x => !I.any fun k=>lX k x) &&
   (List.range a.length).all fun m=>Nat.beq i m||dn (qT c m) i||match qk a m with | none=>true | some st'=>(st'.eff.w.all fun p=>dn (f7 st.eff.w) p.1 || !t7 N I p.2)&&st'.eff.b.all fun p=>p.2.all fun x => !I.any fun k=>lX k x
 | _,_=>true
def YX (base:St) (d:List jh) (c:List Sk) (e:List (List Nat)):Bool:=
 (List.range d.length).all fun i=>match qk d i,qk c i with
  | some st,some a=>va e i a.es&&pu base e d i st&&(List.range d.length).all fun m=>match qk c m with | some b=>EF e i m a b | none=>false
  | _,_=>false
def UJ (base:St) (all:List Oper) (a:List jh):Bool:=(base.t.all CR&&a.all fun st=>st.eff.w.all CR)&&YX base a (a.map (jh.sk all)) (Ya ((a.map (jh.sk all)).map (·.es)) [])
def ke:List Oper->List Nat
 | []=>[]
 | o::r=>match o.op,o.dst with
  | .alloc _,some d=>d::ke r
  | _,_=>ke r
def unlocMany:List Nat->List (Nat×AV)->List (Nat×AV)
 | [],t=>t
 | d::r,t=>unlocMany r (unloc d t)
def rV (T:eX) (C:FuncId->List AV->AV->Prop) (E:vV) (la keep:List Nat) (ops:List Oper) (s:St) (K:St->Prop):Prop:=match s with
 | ⟨t,b⟩=>YR (unlocMany (ke ops) t) fun t=>Mq T C E ops (la++dI ops ops) ops [] ⟨t,b⟩ fun a s'=>UJ ⟨t,b⟩ ops a.reverse=true/\gt keep s' K
open Go
theorem pf {α} {l:List (Nat×α)} {x:Nat} {v:α} (h:get l x=some v):(x,v)∈l:=by
 induction l with
 | nil=>simp [get] at h
 | cons p r a=>
  grind [bf,List.mem_cons_self,List.mem_cons_of_mem]
theorem fq {α} {l:List (Nat×α)} {x}:x∈f7 l↔get l x≠none:=by
 induction l with
 | nil=>simp [f7,get]
 | cons p r a=>
  grind [bf,f7]
theorem dQ {a b} (h:nb a b=true) {x} (c:x∈a) (d:x∈b):False:=by
 have:=aN.1 h x c;rw [dH.2 d] at this;cases this
structure lc (base:St) (all:List Oper) (tr:List jh) (an:List (List Nat)):Prop where
 edge:∀ i st,tr[i]?=some st->∀ e∈cW st.o,e<i
 anc:∀ i st,tr[i]?=some st->∀ j∈qT an i,j∈cW st.o\/∃ e∈cW st.o,j∈qT an e
 apart:∀ i st m a,tr[i]?=some st->tr[m]?=some a->i≠m->m∈qT an i\/i∈qT an m \/
  ((∀ x∈(st.sk all).ra,x ∉ f7 a.eff.w)/\(∀ x∈f7 st.eff.w,x ∉ f7 a.eff.w)/\(∀ x∈(st.sk all).rb,x ∉ f7 a.eff.b)/\(∀ x∈f7 st.eff.b,x ∉ f7 a.eff.b))
 clean:∀ i st,tr[i]?=some st->pu base an tr i st=true
 arr:base.t.all CR=true/\∀ (i:Nat) (st:jh),tr[i]?=some st->st.eff.w.all CR=true
theorem w9 {base} {all} {tr} (h:UJ base all tr=true):∃ an,lc base all tr an:=by
 refine ⟨Ya ((tr.map (jh.sk all)).map (·.es)) [],?_⟩;unfold UJ at h;rw [al] at h;obtain ⟨b,h⟩:=h;rw [al] at b;generalize Ya ((tr.map (jh.sk all)).map (·.es)) []=an at h ⊢;unfold YX at h
 have key:∀ i st,tr[i]?=some st->va an i (st.sk all).es=true/\pu base an tr i st=true/\∀ m a,tr[m]?=some a->EF an i m (st.sk all) (a.sk all)=true:=by
  intro i st hi;have c:=(aq.1 hi).1;have h1:=aN.1 h i (bz.2 c);simp only [fp,hi,aT,bJ,al] at h1;refine ⟨h1.1.1,h1.1.2,fun m a hm=>?_⟩;have h2:=aN.1 h1.2 m (bz.2 (aq.1 hm).1);simp only [hm,bJ] at h2;exact h2
 refine ⟨fun i st hi e he=>?_,fun i st hi j hj=>?_,fun i st m a hi hm d=>?_,fun i st hi=>(key i st hi).2.1,b.1,fun i st hi=>aN.1 b.2 st (aC hi)⟩
 ·have h1:=(key i st hi).1;unfold va at h1;rw [al] at h1;have:=ah (aN.1 h1.1 e he);omega
 ·have h1:=(key i st hi).1;unfold va at h1;rw [al] at h1;have:=aN.1 h1.2 j hj;rw [cu,dH,List.any_eq_true] at this;rcases this with h | ⟨e,he,h⟩
  ·exact .inl h
  ·exact .inr ⟨e,he,dH.1 h⟩
 ·have h1:=(key i st hi).2.2 m a hm;unfold EF at h1;simp only [cu,dH,al] at h1;rcases h1 with ((h | h) | h) | h
  ·exact absurd (ak h) d
  ·exact .inl h
  ·exact .inr (.inl h)
  ·exact .inr (.inr ⟨fun x hx hy=>dQ h.1.1.1 hx hy,fun x hx hy=>dQ h.1.1.2 hx hy,fun x hx hy=>dQ h.1.2 hx hy,fun x hx hy=>dQ h.2 hx hy⟩)
section
variable {base:St} {all:List Oper} {tr:List jh} {an:List (List Nat)} (hF:lc base all tr an) {M:Nat->Bool}
include hF
theorem lc.anc_lt:∀ (i:Nat),i<tr.length->∀ j∈qT an i,j<i:=by
 intro i
 induction i using Nat.strongRecOn with
 | _ i b=>
  intro hi j hj;have a:=ai hi;rcases hF.anc i _ a j hj with h | ⟨e,he,h⟩
  ·exact hF.edge i _ a j h
  ·have h1:=hF.edge i _ a e he;grind
theorem lc.anc_M (c:∀ m st,tr[m]?=some st->M m=true->∀ e∈cW st.o,M e=true):∀ (i:Nat) (st:jh),tr[i]?=some st->(∀ e∈cW st.o,M e=true)->∀ j∈qT an i,M j=true:=by
 intro i
 induction i using Nat.strongRecOn with
 | _ i d=>
  intro st a he j hj;rcases hF.anc i _ a j hj with h | ⟨e,h1,h2⟩
  ·exact he j h
  ·have b:=hF.edge i _ a e h1;grind
theorem lc.ord (d:∀ m st,tr[m]?=some st->M m=true->∀ e∈cW st.o,M e=true) {i} {st} (hi:tr[i]?=some st) (p:∀ e∈cW st.o,M e=true) (a:M i=false)
  {j} {st'} (hj:tr[j]?=some st')
  (q:¬ ((∀ x∈(st.sk all).ra,x ∉ f7 st'.eff.w)/\(∀ x∈f7 st.eff.w,x ∉ f7 st'.eff.w)/\(∀ x∈(st.sk all).rb,x ∉ f7 st'.eff.b)/\(∀ x∈f7 st.eff.b,x ∉ f7 st'.eff.b))):M j=decide (j<i):=by
 by_cases c:i=j
 ·grind
 ·have f:=(aq.1 hi).1;have l:=(aq.1 hj).1;rcases hF.apart i st j st' hi hj c with h | h | h
  ·rw [hF.anc_M d i st hi p j h];simp [hF.anc_lt i f j h]
  ·have h1:=hF.anc_lt j l i h;rw [dR am]
   cases n:M j with
   | false=>rfl
   | true=>
    rw [hF.anc_M d j st' hj (d j st' hj n) i h] at a;cases a
  ·exact absurd h q
theorem rY {i} {st} (h:tr[i]?=some st):Wf tr i=st.eff.w:=by
 clear hF;unfold Wf;rw [h]
theorem vW {i} {st} (h:tr[i]?=some st):Bf tr i=st.eff.b:=by
 clear hF;unfold Bf;rw [h]
theorem lc.agree_t (l:∀ m st,tr[m]?=some st->M m=true->∀ e∈cW st.o,M e=true) {i} {st} (hi:tr[i]?=some st) (h:∀ e∈cW st.o,M e=true) (d:M i=false)
  (p:st.s=⟨tF (Wf tr) base.t (fun _=>true) i,tF (Bf tr) base.b (fun _=>true) i⟩) {x} (hx:x∈(st.sk all).ra):get (tF (Wf tr) base.t M tr.length) x=get st.s.t x:=by
 have f:=(aq.1 hi).1;rw [p,Yx (n:=tr.length) am];refine hZ _ fun j hj a=>?_;have c:tr[j]?=some _:=ai hj;refine hF.ord l hi h d c fun q=>?_;rw [rY hF c] at a;exact q.1 x hx (fq.2 a)
theorem lc.agree_b (l:∀ m st,tr[m]?=some st->M m=true->∀ e∈cW st.o,M e=true) {i} {st} (hi:tr[i]?=some st) (h:∀ e∈cW st.o,M e=true) (d:M i=false)
  (p:st.s=⟨tF (Wf tr) base.t (fun _=>true) i,tF (Bf tr) base.b (fun _=>true) i⟩) {x} (hx:x∈(st.sk all).rb):get (tF (Bf tr) base.b M tr.length) x=get st.s.b x:=by
 have f:=(aq.1 hi).1;rw [p,Yx (n:=tr.length) am];refine hZ _ fun j hj a=>?_;have c:tr[j]?=some _:=ai hj;refine hF.ord l hi h d c fun q=>?_;rw [vW hF c] at a;exact q.2.2.1 x hx (fq.2 a)
theorem MK {t} {l} (h:Operand.tmp t∈l):t∈Dt l:=by
 clear hF
 induction l with
 | nil=>cases h
 | cons x r a=>
  rcases bC.1 h with rfl | h2
  ·exact aW
  ·clear h
   cases x with
   | tmp u=>exact aS _ (a h2)
   | _=>exact a h2
theorem MO {s} {x} {d off} {l} (h:x∈l) (he:ev s x = .loc d off):d∈zW s l:=by
 clear hF
 induction l with
 | nil=>cases h
 | cons y r a=>
  simp only [zW];grind
theorem Qs {s} {x} {g} {k n} {ys} {l} (h:x∈l) (he:ev s x = .me g k n ys):xk k∈qN s l:=by
 clear hF
 induction l with
 | nil=>cases h
 | cons y r a=>
  simp only [qN];grind
theorem ML {s} {x} {k b off} {cs} {l} (h:x∈l) (he:ev s x = .pin k b off cs):xk k∈zF s l:=by
 clear hF
 induction l with
 | nil=>cases h
 | cons y r a=>
  simp only [zF];grind
theorem Qt {t} {d k n} {ys} (h:get t d=some (.me .ents k n ys)):d∈Jk t:=by
 clear hF
 induction t with
 | nil=>simp [get] at h
 | cons p r b=>
  obtain ⟨e,v⟩:=p;rw [bf] at h;split at h
  ·rename_i a;cases h;subst a;exact aW
  ·unfold Jk;grind
theorem MN {s} {x} {b d k n} {ys} {l} (h:x∈l) (he:ev s x = .lit (.map (some b))) (a:get s.t d=some (.me .ents k n ys)):d∈qN s l:=by
 have hm:=Qt hF a;clear hF
 induction l with
 | nil=>cases h
 | cons y r c=>
  simp only [qN];grind
theorem Qr {t} {d k b c n} {ys} (h:get t d=some (.me (.row b c) k n ys)):d∈Iw t:=by
 clear hF
 induction t with
 | nil=>simp [get] at h
 | cons p r f=>
  obtain ⟨e,v⟩:=p;rw [bf] at h;split at h
  ·rename_i a;cases h;subst a;exact aW
  ·unfold Iw;grind
theorem MM {s} {x} {v} {m cap b c d k n} {ys} {l} (h:x∈l) (he:ev s x = .lit (.slice v m cap)) (a:get s.t d=some (.me (.row b c) k n ys)):d∈qN s l:=by
 have hm:=Qr hF a;clear hF
 induction l with
 | nil=>cases h
 | cons y r e=>
  simp only [qN];grind
theorem lc.arrT (M):∀ d g k n xs,iE g=true->get (tF (Wf tr) base.t M tr.length) d=some (.me g k n xs)->d=xk k:=by
 intro d g k n xs e h
 have key:∀ l:List (Nat×AV),l.all CR=true->get l d=some (.me g k n xs)->d=xk k:=fun l hl b=>by
  have:=aN.1 hl _ (pf b);simpa [CR,e] using this
 rcases m9 _ h with h | ⟨j,h1,h2,c⟩
 ·exact key _ hF.arr.1 h
 ·have a:tr[j]?=some _:=ai h1;rw [rY hF a] at c;exact key _ (hF.arr.2 j _ a) c
theorem lc.agreeX (f:∀ m st,tr[m]?=some st->M m=true->∀ e∈cW st.o,M e=true) {i} {st} (hi:tr[i]?=some st) (d:∀ e∈cW st.o,M e=true) (a:M i=false)
    (h:st.s=⟨tF (Wf tr) base.t (fun _=>true) i,tF (Bf tr) base.b (fun _=>true) i⟩) :
    Ot st.s ⟨tF (Wf tr) base.t M tr.length,tF (Bf tr) base.b M tr.length⟩ (uz st.o.op):=fun x hx=>
  ⟨fun g k n l he=>hF.agree_t f hi d a h (bc _ (bc _ (bh _ (bc _ (Qs hF hx he))))),
   fun b he k n l j=>hF.agree_t f hi d a h (bc _ (bc _ (bh _ (bc _ (MN hF hx he j))))),
   fun v n cap he k b c sz l j=>hF.agree_t f hi d a h (bc _ (bc _ (bh _ (bc _ (MM hF hx he j)))))⟩
theorem lc.agreeP (d:∀ m st,tr[m]?=some st->M m=true->∀ e∈cW st.o,M e=true) {i} {st} (hi:tr[i]?=some st) (c:∀ e∈cW st.o,M e=true) (a:M i=false)
  (f:st.s=⟨tF (Wf tr) base.t (fun _=>true) i,tF (Bf tr) base.b (fun _=>true) i⟩) :
  Ou st.s ⟨tF (Wf tr) base.t M tr.length,tF (Bf tr) base.b M tr.length⟩ (C9 st.o.op):=fun x hx k b off cs he=>
 hF.agree_t d hi c a f (bc _ (bc _ (bh _ (bh _ (ML hF hx he)))))
theorem lc.agree (c:∀ m st,tr[m]?=some st->M m=true->∀ e∈cW st.o,M e=true) {i} {st} (hi:tr[i]?=some st) (h:∀ e∈cW st.o,M e=true) (a:M i=false)
  (l:st.s=⟨tF (Wf tr) base.t (fun _=>true) i,tF (Bf tr) base.b (fun _=>true) i⟩) :
  L3 (ev st.s) (ev ⟨tF (Wf tr) base.t M tr.length,tF (Bf tr) base.b M tr.length⟩) st.s.b (tF (Bf tr) base.b M tr.length) st.o.op.operands.toList /\
  j6 all ⟨tF (Wf tr) base.t M tr.length,tF (Bf tr) base.b M tr.length⟩ st.o=j6 all st.s st.o:=by
 refine ⟨fun x hx=>⟨?_,fun d off he=>?_⟩,?_⟩
 ·cases x with
  | tmp t=>
   simp only [ev,St.tmp];rw [hF.agree_t c hi h a l (bc _ (bc _ (bc _ (MK hF hx))))]
  | const v=>rfl
  | global g=>rfl
  | func f=>rfl
 ·exact hF.agree_b c hi h a l (MO hF hx he)
 ·unfold j6
  cases q:st.o.guard with
  | none=>rfl
  | some p=>
   obtain ⟨j,want⟩:=p;simp only
   cases n:jx all j with
   | none=>rfl
   | some d=>
    simp only;rw [hF.agree_t c hi h a l (bc _ (bh _ (by simp [YQ,q,n])))]
end
open Go
section
variable {base:St} {all:List Oper} {tr:List jh} {an:List (List Nat)} (hF:lc base all tr an) {M M':Nat->Bool}
include hF
theorem lc.ins_t (l:∀ m st,tr[m]?=some st->M m=true->∀ e∈cW st.o,M e=true) {i} {st} (hi:tr[i]?=some st) (h:∀ e∈cW st.o,M e=true) (b:M i=false)
  (d:∀ j,M' j=(M j||decide (j=i))) (x):get (tF (Wf tr) base.t M' tr.length) x=(get st.eff.w x).or (get (tF (Wf tr) base.t M tr.length) x):=by
 have f:=(aq.1 hi).1;rw [tw b d tr.length f,rY hF hi];intro j hj p q a;rw [rY hF hi] at a;have c:tr[j]?=some _:=ai hj;rw [rY hF c]
 cases n:get (tr[j]).eff.w x with
 | none=>rfl
 | some v=>
  have:=hF.ord l hi h b c fun r=>r.2.1 x (fq.2 a) (fq.2 (by rw [n]; simp));grind
theorem lc.ins_b (n:∀ m st,tr[m]?=some st->M m=true->∀ e∈cW st.o,M e=true) {i} {st} (hi:tr[i]?=some st) (l:∀ e∈cW st.o,M e=true) (c:M i=false)
  (f:∀ j,M' j=(M j||decide (j=i))) (x):get (tF (Bf tr) base.b M' tr.length) x=(get st.eff.b x).or (get (tF (Bf tr) base.b M tr.length) x):=by
 have h:=(aq.1 hi).1;rw [tw c f tr.length h,vW hF hi];intro j hj q r a;rw [vW hF hi] at a;have d:tr[j]?=some _:=ai hj;rw [vW hF d]
 cases p:get (tr[j]).eff.b x with
 | none=>rfl
 | some v=>
  have:=hF.ord n hi l c d fun t=>t.2.2.2 x (fq.2 a) (fq.2 (by rw [p]; simp));grind
theorem I6 (d) (t) (x):get (unloc d t) x=(get t x).map (AV.unloc d):=by unfold unloc; rw [o9]; exact lw (fun (_:Nat) (v:AV)=>v.unloc d) t x
theorem lc.val_t (d:∀ m st,tr[m]?=some st->M m=true->∀ e∈cW st.o,M e=true) {i} {st} (hi:tr[i]?=some st) (c:M i=false) {x} {v}
  (h:get (tF (Wf tr) base.t M tr.length) x=some v):(x,v)∈base.t\/∃ m b,tr[m]?=some b/\m≠i/\m<tr.length/\i ∉ qT an m/\(x,v)∈b.eff.w:=by
 rcases m9 _ h with h | ⟨j,h1,h2,f⟩
 ·exact .inl (pf h)
 ·have a:tr[j]?=some _:=ai h1;rw [rY hF a] at f;refine .inr ⟨j,_,a,?_,h1,fun l=>?_,pf f⟩
  ·grind
  ·rw [hF.anc_M d j _ a (d j _ a h2) i l] at c; cases c
theorem lc.val_b (f:∀ m st,tr[m]?=some st->M m=true->∀ e∈cW st.o,M e=true) {i} {st} (hi:tr[i]?=some st) (d:M i=false) {x} {v}
  (h:get (tF (Bf tr) base.b M tr.length) x=some v):(x,v)∈base.b\/∃ m c,tr[m]?=some c/\m≠i/\m<tr.length/\i ∉ qT an m/\(x,v)∈c.eff.b:=by
 rcases m9 _ h with h | ⟨j,h1,h2,l⟩
 ·exact .inl (pf h)
 ·have a:tr[j]?=some _:=ai h1;rw [vW hF a] at l;refine .inr ⟨j,_,a,?_,h1,fun n=>?_,pf l⟩
  ·grind
  ·rw [hF.anc_M f j _ a (f j _ a h2) i n] at d; cases d
theorem lc.step_le (hM:∀ m st,tr[m]?=some st->M m=true->∀ e∈cW st.o,M e=true) {i} {st} (hi:tr[i]?=some st) (hr:∀ e∈cW st.o,M e=true) (F:M i=false)
  (hs:st.s=⟨tF (Wf tr) base.t (fun _=>true) i,tF (Bf tr) base.b (fun _=>true) i⟩) (hM':∀ j,M' j=(M j||decide (j=i))) :
  St.le (stepR ⟨tF (Wf tr) base.t M tr.length,tF (Bf tr) base.b M tr.length⟩ st.o.dst st.r) ⟨tF (Wf tr) base.t M' tr.length,tF (Bf tr) base.b M' tr.length⟩:=by
 have a:=hF.clean i st hi;have Q:=hF.ins_t hM hi hr F hM';have hb:=hF.ins_b hM hi hr F hM';have hv:=fun (x:Nat) (v:AV)=>hF.val_t hM hi F (x:=x) (v:=v);have hvb:=fun (x:Nat) (v:List AV)=>hF.val_b hM hi F (x:=x) (v:=v);have hag:=fun (x:Nat) (hx:x∈(st.sk all).ra)=>hF.agree_t hM hi hr F hs hx;generalize tF (Wf tr) base.t M tr.length=t at *;generalize tF (Bf tr) base.b M tr.length=b at *;obtain ⟨⟨l,Z,P,B,G,X⟩,D,r⟩:=st;simp only [jh.eff] at Q hb
 cases r with
 | val v=>
  cases l with
  | none=>
   refine ⟨fun x u hx=>?_,fun x u hx _=>?_⟩
   ·grind [ff,stepR,get]
   grind [ff,stepR,get]
  | some d=>
   refine ⟨fun x u hx=>?_,fun x u hx _=>?_⟩
   ·simp only [Q,ff] at hx;rw [<- eI] at hx;exact hx
   grind [ff,stepR,get]
 | store d cs=>
  refine ⟨fun x u hx=>?_,fun x u hx _=>?_⟩
  ·grind [ff,stepR,get]
  ·simp only [hb,ff] at hx;rw [<- eI] at hx;exact hx
 | xst k v=>
  refine ⟨fun x u hx=>?_,fun x u hx _=>?_⟩
  ·simp only [Q,ff] at hx;rw [<- eI] at hx;exact hx
  grind [ff,stepR,get]
 | cut k n v=>
  cases l with
  | none=>
   refine ⟨fun x u hx=>?_,fun x u hx _=>?_⟩
   ·grind [ff,stepR,get]
   grind [ff,stepR,get]
  | some d=>
   simp only [pu,al,aN] at a;refine ⟨fun x u hx=>?_,fun x u hx _=>?_⟩
   ·simp only [Q,ff,bf] at hx;simp only [stepR,bf];by_cases c:x=d
    ·grind
    ·simp only [c,cv] at hx ⊢;by_cases hxk:x=xk k
     ·grind
     ·simp only [hxk,cv] at hx ⊢;rw [dO]
      cases q:get (EA k [d,xk k] D.t) x with
      | some y=>
       rw [q] at hx;obtain ⟨_,z,h2,p,A⟩:=Ae k _ _ _ _ q
       have U:x∈(jh.sk all ⟨⟨some d,Z,P,B,G,X⟩,D,.cut k n v⟩).ra:=by
        refine bh _ (gF.2 ⟨fq.2 ?_,?_⟩)
        ·simp only [jh.eff,ff,bf,c,hxk,cv,q]; simp
        ·simp only
         cases E:Nat.beq x d with
         | true=>exact absurd (ak E) c
         | false=>rfl
       grind [get,QA]
      | none=>
       rw [q] at hx;have hx:get t x=some u:=by simpa using hx
       rw [hx,bJ]
       have f:x ∉ f7 (ff D.t (some d) (.cut k n v)).w:=by
        rw [fq];simp only [ff,bf,c,hxk,cv,q];simp
       have hl:wN k u=false:=by
        rcases hv x u hx with h | ⟨m,H,h1,h2,p,A,J⟩
        ·have:=a.1 _ h;rw [cu,dH] at this;rcases this with h | h
         ·exact absurd h f
         ·simpa using h
        ·have:=a.2 m (bz.2 p);simp only [cu,dH,fp,h1,aN] at this;rcases this with (h | h) | h
         ·exact absurd (ak h).symm h2
         ·exact absurd h A
         ·have:=h _ J;rcases this with h | h
          ·exact absurd h f
          ·simpa using h
       rw [CW hl]
   grind [ff,stepR,get]
 | alloc cs=>
  cases l with
  | none=>
   refine ⟨fun x u hx=>?_,fun x u hx _=>?_⟩
   ·grind [ff,stepR,get]
   grind [ff,stepR,get]
  | some d=>
   simp only [pu,al,aN] at a;refine ⟨fun x u hx=>?_,fun x u hx _=>?_⟩
   ·simp only [Q,ff,bf] at hx;simp only [stepR,bf];by_cases c:x=d
    ·grind
    ·simp only [c,cv] at hx ⊢;have hx:get t x=some u:=by simpa [get] using hx
     rw [I6 hF,hx]
     have hl:IZ d u=false:=by
      rcases hv x u hx with h | ⟨m,H,h1,h2,p,A,J⟩
      ·have:=a.1 _ h;rw [cu] at this;grind [absurd,Nat.eq_of_beq_eq_true]
      ·have:=a.2 m (bz.2 p);simp only [cu,dH,fp,h1,aN] at this;grind [absurd,Nat.eq_of_beq_eq_true]
     rw [bJ,IY hl]
   ·simp only [hb,ff] at hx;rw [<- eI] at hx;exact hx
 | lent N I v es rd=>
  cases l with
  | none=>
   refine ⟨fun x u hx=>?_,fun x u hx _=>?_⟩
   ·grind [ff,stepR,get]
   grind [ff,stepR,get]
  | some d=>
   simp only [pu,al,aN] at a;refine ⟨fun x u hx=>?_,fun x u hx _=>?_⟩
   ·simp only [Q,ff] at hx;simp only [stepR];rw [<- jE,eI] at hx;rw [<- jE,eI]
    cases q:get ((d,v)::es) x with
    | some y=>grind
    | none=>
     rw [q] at hx;have hx:(get (BD N I (d::Pc es) D.t) x).or (get t x)=some u:=by simpa using hx
     cases L:get (BD N I (d::Pc es) D.t) x with
     | some y=>
      rw [L] at hx;have hx:y=u:=by simpa using hx
      obtain ⟨hns,z,h2,p,A⟩:=Ag N I _ _ _ _ L;have c:x≠d:=fun e=>hns (by grind)
      have U:x∈(jh.sk all ⟨⟨some d,Z,P,B,G,X⟩,D,.lent N I v es rd⟩).ra:=by
       refine bh _ (bc _ (gF.2 ⟨fq.2 ?_,?_⟩))
       ·grind [jh.eff,ff,eI]
       ·simp only
        cases E:Nat.beq x d with
        | true=>exact absurd (ak E) c
        | false=>rfl
      simp only [St.unmeMany];rw [dO,lx,show get t x=get D.t x from hag x U,h2,bJ,bJ,<- A,hx]; rfl
     | none=>
     rw [L] at hx;have hx:get t x=some u:=by simpa using hx
     have f:x ∉ f7 (ff D.t (some d) (.lent N I v es rd)).w:=by
      rw [fq];simp only [ff];rw [<- jE,eI,q,L];simp
     have hl:t7 N I u=false:=by
      rcases hv x u hx with h | ⟨m,H,h1,h2,p,A,J⟩
      ·have:=a.1.1 _ h;rw [cu,dH] at this;rcases this with h | h
       ·exact absurd h f
       ·simpa using h
      ·have:=a.2 m (bz.2 p);simp only [cu,dH,fp,h1,aN,al] at this;rcases this with (h | h) | h
       ·exact absurd (ak h).symm h2
       ·exact absurd h A
       ·have:=h.1 _ J;rcases this with h | h
        ·exact absurd h f
        ·simpa using h
     simp only [St.unmeMany];rw [dO,lx,hx,bJ,bJ,Te hl]; rfl
   ·simp only [hb,ff] at hx;have hx:get b x=some u:=by simpa [get] using hx
    simp only [stepR];rw [n4,hx,bJ]
    have hl:∀ y∈u,∀ k∈I,lX k y=false:=by
     rcases hvb x u hx with h | ⟨m,H,h1,h2,p,A,J⟩
     ·intro y hy k hk;have:=a.1.2 _ h y hy;grind
     ·have:=a.2 m (bz.2 p);simp only [cu,dH,fp,h1,aN,al] at this;rcases this with (h | h) | h
      ·exact absurd (ak h).symm h2
      ·exact absurd h A
      ·intro y hy k hk;have:=h.2 _ J y hy;grind
    congr 1
    conv=>rhs; rw [<- HL u]
    grind [List.map_congr_left,xV]
 | app k v=>
  cases l with
  | none=>
   refine ⟨fun x u hx=>?_,fun x u hx _=>?_⟩
   ·grind [ff,stepR,get]
   grind [ff,stepR,get]
  | some d=>
   simp only [pu,al,aN] at a;refine ⟨fun x u hx=>?_,fun x u hx _=>?_⟩
   ·simp only [Q,ff,bf] at hx;simp only [stepR,bf];by_cases c:x=d
    ·grind
    ·simp only [c,cv] at hx ⊢;rw [mI]
     cases q:get (EB k [d] D.t) x with
     | some y=>
      rw [q] at hx;obtain ⟨_,z,h2,p⟩:=Af k _ _ _ _ q
      have U:x∈(jh.sk all ⟨⟨some d,Z,P,B,G,X⟩,D,.app k v⟩).ra:=by
       refine bh _ (gF.2 ⟨fq.2 ?_,?_⟩)
       ·simp only [jh.eff,ff,bf,c,cv,q]; simp
       ·simp only
        cases E:Nat.beq x d with
        | true=>exact absurd (ak E) c
        | false=>rfl
      grind
     | none=>
      rw [q] at hx;have hx:get t x=some u:=by simpa using hx
      rw [hx,bJ]
      have f:x ∉ f7 (ff D.t (some d) (.app k v)).w:=by
       rw [fq];simp only [ff,bf,c,cv,q];simp
      have hl:sK k u=false:=by
       rcases hv x u hx with h | ⟨m,H,h1,h2,p,A,J⟩
       ·have:=a.1.1 _ h;rw [cu,dH] at this;rcases this with h | h
        ·exact absurd h f
        ·simpa using h
       ·have:=a.2 m (bz.2 p);simp only [cu,dH,fp,h1,aN,al] at this;rcases this with (h | h) | h
        ·exact absurd (ak h).symm h2
        ·exact absurd h A
        ·have:=h.1 _ J;rcases this with h | h
         ·exact absurd h f
         ·simpa using h
      rw [CY hl]
   ·simp only [hb,ff] at hx;have hx:get b x=some u:=by simpa [get] using hx
    simp only [stepR];rw [rR,hx,bJ]
    have hl:∀ y∈u,lX k y=false:=by
     rcases hvb x u hx with h | ⟨m,H,h1,h2,p,A,J⟩
     ·intro y hy;simpa using a.1.2 _ h y hy
     ·have:=a.2 m (bz.2 p);simp only [cu,dH,fp,h1,aN,al] at this;rcases this with (h | h) | h
      ·exact absurd (ak h).symm h2
      ·exact absurd h A
      ·intro y hy;simpa using h.2 _ J y hy
    congr 1
    conv=>rhs; rw [<- HL u]
    grind [List.map_congr_left,pd]
end
open Go
section
variable {Γ:cr} (hΓ:Γ.OK) {T:eX} (hT:T.OK Γ.P) {base:St} {all:List Oper} {tr:List jh} {an:List (List Nat)} {Q:Exit->Act->World->Prop} {w0:World} {a0:Act}
theorem g9 {o} {e}:e∈cW o↔∃ x∈o.after,Region.binds .any x=true/\x.on=e:=by
 grind [cW]
theorem iZ {l} {i:Nat} {o} (h:l[i]?=some o) {d} (a:d∈o.dst.toList):d∈eJ l:=by
 induction l generalizing i with
 | nil=>simp at h
 | cons x r b=>
  cases i with
  | zero=>simp at h; subst h; exact bc _ a
  | succ i=>exact bh _ (b (by simpa using h))
theorem MC {C} {E} {guards} {s s'} {o} {r0} (d:L3 (ev s) (ev s') s.b s'.b o.op.operands.toList) (j:Ot s s' (uz o.op)) (n:Ou s s' (C9 o.op))
  (l:∀ N I v es rd,r0 = .lent N I v es rd->∀ x∈rd,get s'.t x=get s.t x) (h:DK T C E guards s o fun r=>r=r0):DK T C E guards s' o fun r=>r=r0:=by
 unfold DK at h ⊢
 cases c:Ao guards o with
 | false=>rw [c,bq] at h; exact MA d j n h
 | true=>
  rw [c,aP] at h;rw [aP];simp only [AV.go_eq,qS] at h ⊢;unfold C4 at h ⊢;split at h
  ·rename_i call e;rw [e] at d j;split at h
   ·rename_i f a;have hf:ev s' f=ev s f:=(d f (by simp [Op.operands,Call.operands,a])).1;have h1:∀ x∈call.args.toList,ev s' x=ev s x:=fun x hx=>(d x (by grind [Op.operands,Call.operands])).1;have m:(call.args.toList.map fun x=>(ev s' x).pubE)=call.args.toList.map fun x=>(ev s x).pubE:=fH fun x hx=>by rw [h1 x hx]
    have q:call.args.toList.map (ev s')=call.args.toList.map (ev s):=fH h1;simp only [hf,m,q]
    have fin:∀ (N I:List Nat) (L:List (Nat×AV)) (r:AV) (i:List (Nat×AV)),lN.lent N I r (Cl i) ((ky L).map xk)=r0->gO s (ky L)=some L->gO s' (ky L)=some L:=fun N I L r i p h1=>
     (sM fun k hk=>l _ _ _ _ _ p.symm (xk k) (LU hk)).trans h1
    grind
   ·exact h.elim
  ·exact h.elim
include hΓ hT in
theorem At {guards} (U:lc base all tr an) (hlen:tr.length=all.length) (u:∀ j d,jx all j=some d->d<Γ.nt)
  (hst:∀ (i:Nat) (st:jh),tr[i]?=some st->all[i]?=some st.o/\okS T (ar Γ.P) (bW Γ.P) all guards st.s st.o st.r/\st.s=⟨tF (Wf tr) base.t (fun _=>true) i,tF (Bf tr) base.b (fun _=>true) i⟩)
  (hQ:∀ a w,ef Γ ⟨tF (Wf tr) base.t (fun _=>true) tr.length,tF (Bf tr) base.b (fun _=>true) tr.length⟩ a w->NC w0 w->FT (eJ all) a0 a->Q .normal a w) :
  ∀ (fuel:Nat) (listed:Array Bool) (a:Act) (w:World),listed.size=tr.length->nd (fun i=>listed.getD i false) tr.length+fuel=tr.length ->
   (∀ m st,tr[m]?=some st->listed.getD m false=true->∀ e∈cW st.o,listed.getD e false=true) ->
   ef Γ ⟨tF (Wf tr) base.t (fun i=>listed.getD i false) tr.length,tF (Bf tr) base.b (fun i=>listed.getD i false) tr.length⟩ a w->NC w0 w->FT (eJ all) a0 a ->
   wpAnyIn Γ.F Γ.n Γ.P .any all.toArray Q fuel listed a w:=by
 have z:∀ (listed:Array Bool) (a:Act) (w:World),(∀ i,i<tr.length->listed.getD i false=true) ->
   ef Γ ⟨tF (Wf tr) base.t (fun i=>listed.getD i false) tr.length,tF (Bf tr) base.b (fun i=>listed.getD i false) tr.length⟩ a w->NC w0 w->FT (eJ all) a0 a->Q .normal a w:=by
  intro listed a w hM A hN hP;refine hQ a w (A.less ⟨fun d x h=>?_,fun d x h _=>?_⟩) hN hP
  ·grind [hZ]
  ·grind [hZ]
 have hgd:∀ (listed:Array Bool) (i:Nat),listed.size=tr.length->i<tr.length->listed.getD i true=listed.getD i false:=by
  intro listed i h1 h2;rw [aJ,aJ,aE am];rfl
 have J:∀ (listed:Array Bool),listed.size=tr.length->Region.ready .any all.toArray listed=[]->∀ i,i<tr.length->listed.getD i false=true:=by
  intro listed p H i
  induction i using Nat.strongRecOn with
  | _ i ih=>
   intro hi
   cases hM:listed.getD i false with
   | true=>rfl
   | false=>
    exfalso;have c:tr[i]?=some _:=ai hi
    have:i∈Region.ready .any all.toArray listed:=by
     rw [gH];refine ⟨by grind,_,by simpa using (hst i _ c).1,fun e he hb=>?_⟩;have q:=U.edge i _ c e.on (g9.2 ⟨e,he,hb,rfl⟩);exact ih e.on q am
    grind
 intro fuel
 induction fuel with
 | zero=>
  intro listed a w p hc _ A hN hP;have hM:∀ i,i<tr.length->listed.getD i false=true:=za (M:=fun i=>listed.getD i false) tr.length am;refine ⟨?_,z listed a w hM A hN hP⟩;rw [pX];intro i hi;rw [gH] at hi;grind
 | succ fuel ih=>
  intro listed a w p hc y A hN hP;refine ⟨fun H=>z listed a w (J listed p H) A hN hP,fun i hi=>?_⟩;rw [gH] at hi;obtain ⟨h1,o,h2,h3⟩:=hi;have h2:all[i]?=some o:=by simpa using h2
  have q:i<tr.length:=by
   rw [hlen];exact (aq.1 h2).1
  rw [hgd listed i p q] at h1;have c:tr[i]?=some tr[i]:=ai q;generalize tr[i]=st at c;obtain ⟨k1,k2,k3⟩:=hst i st c;have l:st.o=o:=by rw [h2] at k1; simpa using k1.symm
  have H:∀ e∈cW st.o,listed.getD e false=true:=by
   intro e he;obtain ⟨x,g1,g2,rfl⟩:=g9.1 he;exact h3 x (l ▸ g1) g2
  have hag:=U.agree (M:=fun i=>listed.getD i false) y c H h1 k3
  have hM':∀ j,(listed.setIfInBounds i true).getD j false=((fun i=>listed.getD i false) j||decide (j=i)):=by
   intro j;simp only [aJ,dx];by_cases hj:i=j
   ·grind
   ·grind
  have hle:=U.step_le (M:=fun i=>listed.getD i false) (M':=fun j=>(listed.setIfInBounds i true).getD j false) y c H h1 k3 hM';have B:∀ d,o.dst=some d->d<Γ.nt:=fun d hd=>u i d (by rw [eK,h2]; exact hd)
  have X:∀ (s':St) (Z:Act) (w':World),s'=stepR ⟨tF (Wf tr) base.t (fun i=>listed.getD i false) tr.length,tF (Bf tr) base.b (fun i=>listed.getD i false) tr.length⟩ st.o.dst st.r ->
    ef Γ s' Z w'->NC w w'->(∃ v,Z=a.put o.dst v)->wpAnyIn Γ.F Γ.n Γ.P .any all.toArray Q fuel (listed.setIfInBounds i true) Z w':=by
   intro s' Z w' hs' hI' hN' hP';subst hs';refine ih _ Z w' (by simpa using p) ?_ ?_ (hI'.less hle) (hN.trans hN') (hP.trans ((FT.put hP').mono fun d hd=>iZ h2 hd))
   ·rw [y9 (M:=fun i=>listed.getD i false) h1 hM' tr.length q]; omega
   ·grind
  rw [wpOpIn,show all.toArray[i]?=some o by simpa using h2];simp only;have L:=hag.2;rw [l] at L;rcases k2 with ⟨hw,hop⟩ | ⟨hw,hrv⟩
  ·rw [l] at hw hop;rw [dC u A 0 (by rw [L]; exact hw) am];simp only [ei,cR];have D:=hag.1;rw [l] at D;have G:=U.agreeX (M:=fun i=>listed.getD i false) y c H h1 k3;rw [l] at G;have E:=U.agreeP (M:=fun i=>listed.getD i false) y c H h1 k3;rw [l] at E;refine MB hΓ hT A B (U.arrT _) (MC D G E (fun N I v es rd hlr x hx=>?_) hop) ?_
   ·exact U.agree_t (M:=fun i=>listed.getD i false) y c H h1 k3 (bh _ (by grind))
   rintro s' Z w' ⟨r,rfl,hs'⟩ hI' hN' hP';grind
  ·rw [l] at hw;rw [dC u A 1 (by rw [L]; exact hw) am];simp only [Nat.reduceBEq,br,cv];refine ⟨fun f _=>hΓ.fn f,?_⟩
   obtain ⟨s2,hK2,hI2⟩:=fY (K:=fun s'=>s'=stepR ⟨tF (Wf tr) base.t (fun i=>listed.getD i false) tr.length,tF (Bf tr) base.b (fun i=>listed.getD i false) tr.length⟩ st.o.dst st.r) A B (by
    rw [<- l]; exact fZ (by rw [hrv]))
   exact X s2 _ w hK2 hI2 (.refl w) ⟨_,rfl⟩
theorem RC.unloc' {c} {x} {v} (h:RC c x v) (d):RC c (x.unloc d) v:=by
 cases x with
 | loc a off=>
  simp only [AV.unloc]
  cases Nat.beq d a with
  | true=>exact RD.junk v
  | false=>exact h
 | _=>exact h
theorem ef.unlocMany {s} {a} {w} (e:ef Γ s a w):∀ (ds:List Nat),ef Γ ⟨Go.AI.unlocMany ds s.t,s.b⟩ a w:=by
 intro ds
 induction ds generalizing s with
 | nil=>exact e
 | cons d r j=>
  refine j (s:=⟨unloc d s.t,s.b⟩) ?_;obtain ⟨⟨c,i,f⟩,h2,h,l⟩:=e;refine ⟨⟨c,i,fun k x hx=>?_⟩,h2,h,l⟩;simp only at hx;rw [show get (unloc d s.t) k=(get s.t k).map (AV.unloc d) from by unfold unloc; rw [o9]; exact lw (fun (_:Nat) (v:AV)=>v.unloc d) s.t k] at hx;obtain ⟨u,hu,rfl⟩:=aA.1 hx;exact (f k u hu).unloc' d
include hΓ hT in
theorem sR {la keep} {s} {K} {a} {w} {id} (f:∀ j d,jx all j=some d->d<Γ.nt) (h:rV T (ar Γ.P) (bW Γ.P) la keep all s K) (y:ef Γ s a w)
  (A:∀ s' m l w',gt keep s' K->s'=m->ef Γ s' l w'->NC w w'->FT (eJ all) a l->Q .normal l w'):(Code.region id all.toArray true).wpIn Γ.F Γ.n Γ.P Q a w:=by
 obtain ⟨t,b⟩:=s;simp only [rV,qS] at h;obtain ⟨tr,s',r,c,B⟩:=ou T (ar Γ.P) (bW Γ.P) all [] _ h;rw [bV,HK] at c;obtain ⟨g1,g2,g3⟩:=ym.all T (ar Γ.P) (bW Γ.P) r;obtain ⟨an,x⟩:=w9 c;refine Dn hΓ.mixed ?_;have o:=(y.drew).unlocMany (ke all)
 have hz:∀ i,(Array.replicate all.length false).getD i false=false:=by
  intro i;rw [aJ,mF];split <;> rfl
 have e:∀ {α:Type} (E:Nat->List (Nat×α)) (b:List (Nat×α)) n,tF E b (fun i=>(Array.replicate all.length false).getD i false) n=b:=by
  intro α E b n
  induction n with
  | zero=>rfl
  | succ n q=>simp only [tF]; rw [hz n,bq]; exact q
 have p:∀ n,nd (fun i=>(Array.replicate all.length false).getD i false) n=0:=by
  intro n
  induction n with
  | zero=>rfl
  | succ n q=>simp only [nd]; rw [hz n,q]; rfl
 refine At hΓ hT (w0:=w) (a0:=a) x g1 f g2 (fun l w' z u v=>?_) _ _ a _ (by simp [g1]) ?_ ?_ ?_ ⟨ba _,fun _ _ h _=>h,.drew _,fun _ h=>h⟩ (.refl _ a)
 ·grind
 ·simp only [iQ];rw [p,g1]; omega
 ·grind
 ·simp only [iQ];rw [e,e];exact o
end
open Go
open Go.RowKit (Below)
def TF (nt:Nat) (o:Oper):Bool:=match o.dst with | some d=>Nat.blt d nt | none=>true
def dL (nt:Nat):Code->Bool
 | .region _ ops _=>ops.toList.all (TF nt)
 | .seq a b=>dL nt a&&dL nt b
 | .cond _ a b=>dL nt a&&dL nt b
 | .block _ c=>dL nt c
 | _=>true
def X6 (Γ:cr) (T:eX) (keep:List Nat):Code->St->(Exit->St->Prop)->Prop
 | .skip,s,K=>K .normal s
 | .label _,s,K=>K .normal s
 | .ret,s,K=>K .ret s
 | .exit j,s,K=>K (.exit j) s
 | .seq a b,s,K=>X6 Γ T keep a s fun e s=>match e with
  | .normal=>X6 Γ T keep b s K
  | e=>K e s
 | .cond c a b,s,K=>match ev s c with
  | .bool t=>(t=true->X6 Γ T keep a s K)/\(t=false->X6 Γ T keep b s K)
  | _=>False
 | .block id c,s,K=>X6 Γ T keep c s fun e s=>match e with
  | .exit j=>bif Nat.beq j id then K .normal s else K (.exit j) s
  | e=>K e s
 | .region _ ops false,s,K=>li T (ar Γ.P) (bW Γ.P) ops.toList (dI ops.toList ops.toList) ops.toList s fun s=>gt keep s (K .normal)
 | .region _ ops true,s,K=>rV T (ar Γ.P) (bW Γ.P) [] keep ops.toList s (K .normal)
 | c,s,K=>SP Γ s c K
theorem TP {l} {k d} (h:k∈P9 l d):k∈l:=by
 induction l with
 | nil=>simp [P9] at h
 | cons e r a=>
  simp only [P9] at h;grind
theorem QI:∀ {t:List (Nat×AV)} {keep:List Nat} {d:Nat} {x:AV},get (z7 keep t) d=some x->d∈keep/\get t d=some x:=by
 intro t
 induction t with
 | nil=>intro keep d x h; simp [z7,get] at h
 | cons p r a=>
  obtain ⟨k,v⟩:=p;intro keep d x h;simp only [z7] at h
  cases hm:dn keep k with
  | true=>
   rw [hm] at h;simp only [aP] at h;rw [bf] at h ⊢;split at h
   ·rename_i hk; rw [aV hk]; subst hk; exact ⟨dH.1 hm,h⟩
   ·rename_i hk; rw [aY hk]; exact ⟨TP (a h).1,(a h).2⟩
  | false=>
   rw [hm] at h;simp only [bq] at h;rw [bf,aY]
   ·exact a h
   ·rintro rfl;rw [dH.2 (a h).1] at hm;cases hm
theorem QJ:∀ {t:List (Nat×List AV)} {seen:List Nat} {d:Nat} {x:List AV},get (Aa seen t) d=some x->d ∉ seen/\get t d=some x:=by
 intro t
 induction t with
 | nil=>grind [Aa,get]
 | cons p r a=>
  obtain ⟨k,v⟩:=p;intro seen d x h;simp only [Aa] at h
  cases hm:dn seen k with
  | false=>
   rw [hm] at h;simp only [bq] at h;rw [bf] at h ⊢;split at h
   ·rename_i hk; rw [aV hk]; subst hk; exact ⟨fun b=>absurd (dH.2 b) (by grind),h⟩
   grind
  | true=>
   rw [hm] at h;simp only [aP] at h;rw [bf,aY]
   ·exact a h
   ·rintro rfl;exact (a h).1 (dH.1 hm)
theorem ek {keep} {s} {K} (h:gt keep s K):∃ s',K s'/\s.le s':=by
 obtain ⟨t,b⟩:=s;simp only [gt,D0,wK,wL] at h;exact ⟨_,h,fun d x hx=>(QI hx).2,fun d cs a _=>(QJ a).2⟩
theorem SP.mono {Γ} {s} {c} {K K'} (h:SP Γ s c K) (hk:∀ e s,K e s->K' e s):SP Γ s c K':=
 fun a w d=>dm (h a w d) fun e _ _ ⟨j,b,s',i,f⟩=>⟨j,b,s',i,hk e s' f⟩
theorem SP.seq {Γ} {s} {a b} {K K1} (h:SP Γ s a K1) (q:∀ s,K1 .normal s->SP Γ s b K) (he:∀ e s,e≠.normal->K1 e s->K e s):SP Γ s (.seq a b) K:=by
 intro a0 w p;refine wpIn_seq (dm (h a0 w p) fun e o w' r=>?_);obtain ⟨j,i,s',f,m⟩:=r
 replace i:FT (p0 (.seq a b)) a0 o:=i.mono fun d n=>bc _ n
 cases e with
 | normal=>exact dm (q s' m o w' f) fun e _ _ ⟨n2,p2,s2,h2,k2⟩=>⟨j.trans n2,i.trans (p2.mono fun d n=>bh _ n),s2,h2,k2⟩
 | exit id=>exact ⟨j,i,s',f,he _ _ (by intro h; cases h) m⟩
 | goto l=>exact ⟨j,i,s',f,he _ _ (by intro h; cases h) m⟩
 | ret=>exact ⟨j,i,s',f,he _ _ (by intro h; cases h) m⟩
 | panic c=>exact ⟨j,i,s',f,he _ _ (by intro h; cases h) m⟩
 | outgrown=>exact ⟨j,i,s',f,he _ _ (by intro h; cases h) m⟩
theorem eB {nt} {l} (h:l.all (TF nt)=true):∀ j d,jx l j=some d->d<nt:=by
 intro j d a;rw [eK] at a
 cases hj:l[j]? with
 | none=>rw [hj] at a; cases a
 | some o=>
  rw [hj] at a;have:=aN.1 h o (aC hj);unfold TF at this;rw [show o.dst=some d from a] at this;have:=ah this;omega
section
variable {Γ:cr} (hΓ:Γ.OK) {T:eX} (hT:T.OK Γ.P) {keep:List Nat}
theorem SP.pure {s} {c} {K} {e} (d:∀ {F:Fence} {n:Nat} {P:Program} {Q:Exit->Act->World->Prop} {a:Act} {w:World},Q e a w->c.wpIn F n P Q a w) (h:K e s):SP Γ s c K:=
 fun a w b=>d ⟨.refl w,.refl _ a,s,b,h⟩
include hΓ hT in
theorem eM:∀ (c:Code) (s:St) (K:Exit->St->Prop),dL Γ.nt c=true->X6 Γ T keep c s K->SP Γ s c K
 | .skip,s,K,_,h=>SP.pure wpIn_skip h
 | .label _,s,K,_,h=>SP.pure wpIn_label h
 | .ret,s,K,_,h=>SP.pure wpIn_ret h
 | .exit j,s,K,_,h=>SP.pure wpIn_exit h
 | .seq a b,s,K,m,h=>by
  simp only [dL,al] at m;refine SP.seq (eM a s _ m.1 h) (fun s' A=>eM b s' K m.2 A) (fun e s' he A=>?_);grind
 | .cond c x y,s,K,m,h=>by
  simp only [dL,al] at m;intro a w o;simp only [X6] at h;split at h
  ·rename_i t D;obtain ⟨F,G,z⟩:=o.ex
   have he:RC F (.bool t) (a.eval c):=by
    have:=cq z c;rwa [D] at this
   exact Do he.bool (fun g=>dm (eM x s K m.1 (h.1 g) a w o) fun _ _ _ ⟨h1,h2,u⟩=>⟨h1,h2.mono fun d r=>bc _ r,u⟩)
    (fun g=>dm (eM y s K m.2 (h.2 g) a w o) fun _ _ _ ⟨h1,h2,u⟩=>⟨h1,h2.mono fun d r=>bh _ r,u⟩)
  ·exact h.elim
 | .block id c,s,K,m,h=>by
  intro a w o;refine abt (dm (eM c s _ (by simpa [dL] using m) h a w o) fun e B w' E=>?_);obtain ⟨n,p,s',f,i⟩:=E
  cases e with
  | exit j=>
   simp only at i;unfold Exit.inBlock
   cases q:Nat.beq j id with
   | true=>rw [q] at i; simp only [ak q,cR]; exact ⟨n,p,s',f,i⟩
   | false=>rw [q] at i; simp only [dk q,cv]; exact ⟨n,p,s',f,i⟩
  | normal=>exact ⟨n,p,s',f,i⟩
  | goto l=>exact ⟨n,p,s',f,i⟩
  | ret=>exact ⟨n,p,s',f,i⟩
  | panic c=>exact ⟨n,p,s',f,i⟩
  | outgrown=>exact ⟨n,p,s',f,i⟩
 | .region id ops false,s,K,m,h=>by
  intro a w o;obtain ⟨l⟩:=ops;refine fT ?_;rw [show (⟨l⟩:Array Oper).size=l.length from rfl,db];refine kG hΓ hT (eB m) l 0 s a w _ (fun j=>by simp) h o ?_;intro s' B w' i f n v;obtain ⟨s2,h2,hle⟩:=ek i;exact ⟨n,v,s2,f.less hle,h2⟩
 | .region id ops true,s,K,m,h=>by
  intro a w o;obtain ⟨l⟩:=ops;refine sR hΓ hT (eB m) h o ?_;intro s' _ B w' i _ f n v;obtain ⟨s2,h2,hle⟩:=ek i;exact ⟨n,v,s2,f.less hle,h2⟩
 | .loop c,s,K,_,h=>h
 | .rangeFunc _ _ _ _,s,K,_,h=>h
 | .scope c,s,K,_,h=>h
 | .goto _,s,K,_,h=>h
 | .refuse _,s,K,_,h=>h
end
open Go
open Go.RowKit (Below)
theorem SP.loop {Γ} {s} {c} {K} {X:Type} (sh:X->St) (I:X->Prop) (μ:X->Nat) (x0) (r:I x0) (hle:s.le (sh x0))
  (body:∀ x,I x->SP Γ (sh x) c fun e s'=>match e with | .normal=>∃ o,I o/\μ o<μ x/\s'.le (sh o) | e=>K e s'):SP Γ s (.loop c) K:=by
 intro a0 w u
 have key:∀ (m:Nat) (x:X) (a:Act) (w1:World),I x->μ x<m->ef Γ (sh x) a w1->NC w w1->FT (p0 c) a0 a ->
   Code.roundsIn Γ.F Γ.n Γ.P c (fun e p w'=>NC w w'/\FT (p0 c) a0 p/\∃ s',ef Γ s' p w'/\K e s') m a w1:=by
  intro m
  induction m with
  | zero=>intro x a w1 _ hm; omega
  | succ m v=>
   intro x a w1 hx hm q j i;rw [roundsIn_succ];refine dm (body x hx a w1 q) fun e p w' t=>?_;obtain ⟨b,d,s',f,h⟩:=t
   cases e with
   | normal=>
    obtain ⟨o,g1,g2,g3⟩:=h;exact v o p w' g1 am (f.less g3) (j.trans b) (i.trans d)
   | exit id=>exact ⟨j.trans b,i.trans d,s',f,h⟩
   | goto l=>exact ⟨j.trans b,i.trans d,s',f,h⟩
   | ret=>exact ⟨j.trans b,i.trans d,s',f,h⟩
   | panic c=>exact ⟨j.trans b,i.trans d,s',f,h⟩
   | outgrown=>exact ⟨j.trans b,i.trans d,s',f,h⟩
 exact Yu (μ x0+1) (key _ x0 a0 w r am (u.less hle) (.refl w) (.refl _ a0))
def AV.weak (x r:AV):Prop:=∀ m v,RD m x v->RD m r v
theorem AV.weak.refl (x:AV):x.weak x:=fun _ _ h=>h
theorem az {x r:AV} (h:x=r):x.weak r:=h ▸ .refl x
def Iy (T:eX) (s:St):ResultVar->Option AV
 | .tmp t=>get s.t t
 | .cell a t=>match get T t,get s.t a with
  | some i,some (.loc d off)=>match get s.b d with
   | some cs=>eS i (cs.drop off)
   | none=>none
  | _,_=>none
def qG (T:eX) (s:St):List ResultVar->Option (List AV)
 | []=>some []
 | x::r=>match Iy T s x,qG T s r with
  | some v,some l=>some (v.pub::l)
  | _,_=>none
def PN (T:eX) (rs:List ResultVar) (s:St) (r:AV):Prop:=match rs with
 | [x]=>match Iy T s x with | some v=>v.pub.weak r | none=>False
 | rs=>match qG T s rs with | some vs=>(AV.tup vs).weak r | none=>False
structure Ends (T:eX) (rs:List ResultVar) (r:AV) (e:Exit) (s:St):Prop where
 ex:e = .ret\/e = .normal
 ok:PN T rs s r
section
variable {Γ:cr} {T:eX} (hT:T.OK Γ.P)
def zC (tmps:Array Value):ResultVar->Sem Value
 | .tmp t=>pure (tmps.getD t undef)
 | .cell a t=>do loadVar t (<- asAddr (tmps.getD a undef))
include hT in
theorem ta {s} {a:Act} {w} {c} (n:WI Γ c s.b w) (j:∀ d x,get s.t d=some x->RC c x (a.tmps.getD d Go.undef)) {x} {v} (h:Iy T s x=some v) :
  ∃ u,(zC a.tmps x).run Γ.P w = .ok u w/\RC c v u:=by
 cases x with
 | tmp t=>exact ⟨_,rfl,j t v h⟩
 | cell b t=>
  simp only [Iy] at h;split at h
  ·rename_i i d off hi m;split at h
   ·rename_i cs e;obtain ⟨vals,g1,g2,g3,g4⟩:=C7 n e off;obtain ⟨u,l,f⟩:=jY hT hi g1 g2 g3 g4 h;refine ⟨u,?_,f⟩;have:=(j b _ m).loc;grind [zC,Sem.run_bind,asAddr,Sem.run_pure,Result.andThen_ok]
   ·cases h
  ·cases h
include hT in
theorem xH {s:St} {a:Act} {w:World} {c:dM} (n:WI Γ c s.b w) (j:∀ d x,get s.t d=some x->RC c x (a.tmps.getD d Go.undef)):∀ {l:List ResultVar} {vs:List AV},qG T s l=some vs ->
  ∃ us:List Value,(l.mapM (zC a.tmps)).run Γ.P w = .ok us w/\vs.length=us.length/\∀ (i:Nat) (x:AV) (u:Value),vs[i]?=some x->us[i]?=some u->RD c.m x u
 | [],vs,h=>by
  simp only [qG,aB] at h;subst h;exact ⟨[],by simp,rfl,by simp⟩
 | x::r,vs,h=>by
  simp only [qG] at h;split at h
  ·rename_i v l hv hl;simp only [aB] at h;subst h;obtain ⟨u,e,f⟩:=ta hT n j hv;obtain ⟨us,h1,h2,o⟩:=xH n j hl;refine ⟨u::us,by simp [HM,aD,e,aw,h1],by simp [h2],fun i y z g1 g2=>?_⟩
   cases i with
   | zero=>simp at g1 g2; subst g1; subst g2; exact f.pub
   | succ i=>grind
  ·cases h
theorem sC {s:St}:∀ {l:List ResultVar} {vs:List AV},qG T s l=some vs->l.length=vs.length
 | [],vs,h=>by
  simp only [qG,aB] at h;subst h;rfl
 | x::r,vs,h=>by
  simp only [qG] at h;split at h
  ·rename_i v l hv hl;simp only [aB] at h;subst h;simp [sC hl]
  ·cases h
include hT in
theorem pT {s} {a:Act} {w} {c} {fn} {r} (q:WI Γ c s.b w) (p:∀ d x,get s.t d=some x->RC c x (a.tmps.getD d Go.undef)) (h:PN T fn.results.toList s r) :
  ∃ v,(results fn a.tmps).run Γ.P w = .ok v w/\RD c.m r v:=by
 have e:results fn a.tmps=(do let vs <- fn.results.toList.mapM (zC a.tmps); pure (if h:vs.toArray.size=1 then vs.toArray[0] else .tuple vs.toArray)):=by
  unfold results;rw [vX];simp only [bind_map_left]
  congr 2
 rw [e];unfold PN at h;split at h
 ·rename_i x hx;split at h
  ·rename_i v hv;obtain ⟨u,n,o⟩:=ta hT q p hv;refine ⟨u,?_,h _ _ o.pub⟩;rw [hx];simp [HM,aD,n,aw]
  ·exact h.elim
 ·rename_i rs l;split at h
  ·rename_i vs j;obtain ⟨us,h1,h2,y⟩:=xH hT q p j
   have hlen:us.length≠1:=by
    intro hl;have f:=sC j;rw [h2,hl] at f;obtain ⟨x,hx⟩:=List.length_eq_one_iff.1 f;exact l x hx
   refine ⟨.tuple us.toArray,?_,h _ _ (.tup _ _ (by simp [h2]) fun i x u g1 g2=>y i x u g1 (by simpa using g2))⟩;simp [aD,h1,aw,hlen]
  ·exact h.elim
end
def params:Nat->List AV->List (Nat×AV)
 | _,[]=>[]
 | n,x::r=>(n,x)::params (n+1) r
theorem lh:∀ (l:List AV) (n k:Nat) (x:AV),get (params n l) k=some x->n<=k/\l[k - n]?=some x
 | [],n,k,x,h=>by simp [params,get] at h
 | y::r,n,k,x,h=>by
  simp only [params] at h;rw [bf] at h;split at h
  ·grind
  ·have:=lh r (n+1) k x h;grind
theorem uF {F:Fence} {n:Nat} {P:Program} {fn:Func} {tmps:Array Value} {R:Ending->World->Prop} {B:Nat} {w0:World} {m:d5} :
  ∀ (d:List Nat) (w:World),Below B w0 w->m.sub w->d.Nodup->(∀ D∈d,w.heap[D]?=some (.deferred (some []))/\B<=D) ->
  (∀ w',Below B w0 w'->m.sub w'->(∀ (k:Nat) (o:Obj),w.heap[k]?=some o->te o=true->w'.heap[k]?=some o)->jk w w'->∃ v,(results fn tmps).run P w' = .ok v w'/\R (.returned v) w') ->
  LeavesInM F n P fn tmps R (la d) .returning w
 | [],w,i,f,_,_,h=>h w i f (fun _ _ h _=>h) (.refl w)
 | D::d,w,i,f,j,p,h=>by
  obtain ⟨c,r⟩:=p D aW
  have l:∀ (k:Nat) (o:Obj),w.heap[k]?=some o->te o=true->k≠D:=by
   rintro k o h1 h2 rfl;rw [c] at h1; cases h1; cases h2
  have a:∀ k,k≠D->(w.putObj D (.deferred none)).heap[k]?=w.heap[k]?:=fun k hk=>dg hk
  have e:m.sub (w.putObj D (.deferred none)):=by
   refine ⟨fun b o v hv=>?_,fun b x hx=>?_⟩
   ·have:=f.cell b o v hv;simp only [World.cell?] at this ⊢;grind
   ·have:=f.map b x hx;grind
  refine ⟨(fun h=>nomatch h),.inl ⟨D,_,rfl,run_takeDeferred c,uF d _ ?_ e (Yp.1 j).2 (fun E u=>?_) (fun w' h1 h2 t q=>h w' h1 h2 (fun k o g1 g2=>t k o ?_ g2) ((jk.putObj w D (o := .deferred none) (fun _ _ _ h=>nomatch h)).trans q))⟩⟩
  ·exact i.trans ⟨rfl,rfl,rfl,by simp [World.putObj],fun k hk=>a k am⟩
  ·grind
  grind
theorem gV.toBelow {w w'} (h:gV w w') (a:NC w w'):Below w.heap.size w w':=⟨h.os,h.tape,h.output,h.size,fun k hk=>by
 by_cases hf:free w k
 ·rcases hf with hf | hf
  ·omega
  ·rw [hf]; exact a.same k _ hf rfl
 ·exact h.block k hf⟩
theorem gV.ofBelow {w w'} (h:Below w.heap.size w w'):gV w w':=⟨h.os,h.tape,h.output,h.size,fun k hk=>h.block k (jF hk)⟩
theorem d5.News.unfree {m m':d5} {w w'} (h:m.News (free w) m' w') (f:m'.sub w') (e:NC w w'):m.News (w.heap.size<=·) m' w':=by
 refine ⟨fun b o v d=>?_,fun b x d=>?_⟩
 ·rcases h.cell b o v d with h | ⟨hf | hf,h2⟩
  ·exact .inl h
  ·exact .inr ⟨hf,h2⟩
  ·obtain ⟨c,T,a⟩:=h2;rw [e.same b _ hf rfl] at a; cases a
 ·rcases h.map b x d with h | hf | hf
  ·exact .inl h
  ·exact .inr hf
  ·have a:=f.map b x d;rw [e.same b _ hf rfl] at a; cases a
theorem nO {Γ:cr} {m:d5} (e:m.sub Γ.w0) (hm:Γ.m0=m):WI Γ ⟨fun _=>0,fun _ => .slice none 0 0,fun _=>0,m,fun _=>none,fun _=>(0,0)⟩ [] Γ.w0 where
 ext := .refl _
 sub:=e
 le0:=by rw [hm]; exact .refl _
 new:=⟨fun b o v h => .inl (by rw [hm]; exact h),fun b x h => .inl (by rw [hm]; exact h)⟩
 box:=fun d cs h=>by simp [get] at h
 inj:=fun d f cs c h=>by simp [get] at h
 own:=fun k=>⟨fun g a=>by simp [dq,lH] at a,.inl rfl,fun g d cs a=>by simp [dq,lH] at a,fun g j a=>by simp [dq,lH] at a⟩
 xo:=fun k b o h=>by cases h
theorem WI.keep {Γ:cr} {c:dM} {bx:List (Nat×List AV)} {w w':World} (a:WI Γ c bx w) (l:gV Γ.w0 w') (n:c.m.sub w') (e:∀ (k:Nat) (o:Obj),w.heap[k]?=some o->te o=true->w'.heap[k]?=some o):WI Γ c bx w' where
 ext:=l
 sub:=n
 le0:=a.le0
 new:=a.new.keep fun _ ⟨c,T,h⟩=>⟨c,T,e _ _ h rfl⟩
 box:=fun d cs j f=>by
  obtain ⟨h1,h2,i,vs,U,r,t,q⟩:=a.box d cs j f;exact ⟨h1,h2,i,vs,U,e _ _ r rfl,t,q⟩
 inj:=a.inj
 own:=fun k=>⟨fun g p=>by
  obtain ⟨len,cap,U,cells,h1,h2,i⟩:=(a.own k).blk g p;exact ⟨len,cap,U,cells,h1,e _ _ h2 rfl,i⟩,(a.own k).shape,(a.own k).box,(a.own k).apart⟩
 xo:=fun k b o h=>⟨(a.xo k b o h).new,e _ _ (a.xo k b o h).obj (a.xo k b o h).kept,(a.xo k b o h).kept,(a.xo k b o h).mem,(a.xo k b o h).map,(a.xo k b o h).box,(a.xo k b o h).own,(a.xo k b o h).inj⟩
structure j3 (P:Program) (f:FuncId) (args:List AV) (R:AV->Prop):Prop where
 enters:∀ (args:Array Value) (w:World),(callFunc f args).run P w = .ok (.enter f args) w
 runs:∀ (m:d5) (w:World) (vs:List Value),m.sub w->(gu P).le m->args.length=vs.length->(∀ (i:Nat) (x:AV) (v:Value),args[i]?=some x->vs[i]?=some v->RD m x v) ->
  Calls P f vs.toArray w fun e w'=>∃ r,R r/\∃ v m',e = .returned v/\RD m' r v/\m.le m'/\d5.sub m' w'/\RowKit.Below w.heap.size w w'/\m.News (w.heap.size<=·) m' w'/\jk w w'
theorem j3.one {P} {f} {args} {r} (h:j3 P f args (·=r)):ar P f args r:=
 ⟨h.enters,fun m w vs h1 b h2 a=>(h.runs m w vs h1 b h2 a).mono fun _ _ ⟨_,e,h⟩=>e ▸ h⟩
theorem j3.ofSP {P} {T} (hT:T.OK P) {f} {fn} {body} {args} {R} (hf:P.funcs[f]?=some fn) (A:fn.body=some body)
  (b:(fn.name == "runtime.NumGoroutine")=false) (hm:P.follows .mixedOrders=true) (Z:args.length<=fn.ntmps)
  (h:∀ (F:Fence) (n:Nat) (w0:World) (m0:d5),cr.OK ⟨P,F,n,w0,m0,fn.ntmps⟩->F.round=none->1<=n->SP ⟨P,F,n,w0,m0,fn.ntmps⟩ ⟨params 0 args,[]⟩ body (fun e s=>∃ r,R r/\Ends T fn.results.toList r e s)):j3 P f args R:=by
 refine ⟨jz hf b A,fun m w vs G o hlen N=>?_⟩;have hG:cr.OK ⟨P,Fence.wide,1,w,m,fn.ntmps⟩:=⟨fun _=>trivial,rfl,rfl,hm,o,o.sub G⟩;refine Wu.1 (tE (n:=1) hf A trivial ?_);have L:=h Fence.wide 1 w m hG rfl (ba _);refine dm (L _ w ⟨⟨_,nO (Γ:=⟨P,Fence.wide,1,w,m,fn.ntmps⟩) G rfl,fun d x hx=>?_⟩,by simp; omega,⟨[],rfl,fE,by simp⟩,fun _ h=>nomatch h⟩) ?_
 ·obtain ⟨_,h2⟩:=lh _ _ _ _ hx;simp only [sm] at h2;have Q:d<args.length:=(aq.1 h2).1;refine RC.of_RD (c:=⟨_,_,_,m,_,_⟩) (N d x _ h2 ?_);rw [aJ,c9 (by simp; omega)];grind
 ·intro e a w' ⟨z,_,s',M,⟨r,u,⟨he,X⟩⟩⟩
  have i:LeavesInM Fence.wide 1 P fn a.tmps (fun e w'=>∃ r,R r/\∃ v m',e = .returned v/\RD m' r v/\m.le m'/\d5.sub m' w'/\RowKit.Below w.heap.size w w'/\m.News (w.heap.size<=·) m' w'/\jk w w') a.defers .returning w':=by
   obtain ⟨⟨c,j,H⟩,_,⟨U,t,y,l⟩,_⟩:=M;rw [t];refine uF U w' (j.ext.toBelow z) j.sub y (fun D B=>⟨(l D B).1,(l D B).2⟩) fun w2 h1 h2 E J=>?_;obtain ⟨v,p,q⟩:=pT (a:=a) hT (j.keep (.ofBelow h1) h2 E) H X;exact ⟨v,p,r,u,v,c.m,rfl,q,j.le0,h2,h1,(j.new.unfree j.sub z).keep fun _ ⟨c,T,h⟩=>⟨c,T,E _ _ h rfl⟩,z.more.trans J⟩
  rcases he with rfl | rfl <;> exact i
theorem ar.ofSP {P} {T} (hT:T.OK P) {f} {fn} {body} {args} {r} (hf:P.funcs[f]?=some fn) (c:fn.body=some body)
  (a:(fn.name == "runtime.NumGoroutine")=false) (hm:P.follows .mixedOrders=true) (d:args.length<=fn.ntmps)
  (h:∀ (F:Fence) (n:Nat) (w0:World) (m0:d5),cr.OK ⟨P,F,n,w0,m0,fn.ntmps⟩->F.round=none->1<=n->SP ⟨P,F,n,w0,m0,fn.ntmps⟩ ⟨params 0 args,[]⟩ body (Ends T fn.results.toList r)):ar P f args r:=
 j3.one (j3.ofSP hT hf c a hm d fun F n w0 m0 h1 h2 b=>(h F n w0 m0 h1 h2 b).mono fun _ _ he=>⟨_,rfl,he⟩)
theorem ar.of {P} {T} (hT:T.OK P) {f} {fn} {body} {args} {r} (keep) (hf:P.funcs[f]?=some fn) (d:fn.body=some body)
  (a:(fn.name == "runtime.NumGoroutine")=false) (hm:P.follows .mixedOrders=true) (b:dL fn.ntmps body=true) (e:args.length<=fn.ntmps)
  (h:∀ (F:Fence) (n:Nat) (w0:World) (m0:d5),cr.OK ⟨P,F,n,w0,m0,fn.ntmps⟩->F.round=none->1<=n->X6 ⟨P,F,n,w0,m0,fn.ntmps⟩ T keep body ⟨params 0 args,[]⟩ (Ends T fn.results.toList r)):ar P f args r:=
 ar.ofSP hT hf d a hm e fun F n w0 m0 hG c h1=>eM hG hT body _ _ b (h F n w0 m0 hG c h1)
open Go
open Go.RowKit (Below)
structure Gr (W a:World):Prop where
 below:Below W.heap.size W a
 more:jk W a
structure Mb (N:Nat) (W a:World):Prop where
 os:a.os=W.os
 tape:a.tape=W.tape
 output:a.output=W.output
 size:W.heap.size<=a.heap.size
 block:∀ b,b<W.heap.size->(b<N\/DV W.heap[b]?=false)->a.heap[b]?=W.heap[b]?
 more:jk W a
theorem Gr.toI {N} {W W'} (h:Gr W W'):Mb N W W':=⟨h.below.os,h.below.tape,h.below.output,h.below.size,fun b a _=>h.below.block b a,h.more⟩
theorem Mb.obj {N} {W W'} (h:Mb N W W') {b} {o} (a:W.heap[b]?=some o) (c:b<N\/DV (some o)=false):W'.heap[b]?=some o:=by
 rw [h.block b (aX.1 a).1 (by rw [a]; exact c)]; exact a
def Y1 (W a:World):Prop:=∀ (b:Nat) (o:Obj),W.heap[b]?=some o->DV (some o)=true->a.heap[b]?=some o
def s5 (P:Program) {α:Type} (vals:α->Array Value) (f:FuncId) (cap:List AV) (nx:List α->α->Prop) (fin:List α->Prop):Prop:=
 (∀ (args:Array Value) (w:World),(callFunc f args).run P w = .ok (.enter f args) w) /\
 ∀ (m:d5) (d:Array Value),cap.length=d.size->(∀ (i:Nat) (x:AV) (v:Value),cap[i]?=some x->d[i]?=some v->RD m x v) ->
  ∀ (F:Fence) (n:Nat),(∀ f,F.fn f)->F.depth=none->F.alive=false->F.round=none->∀ (l:Nat) (J:List α->World->Prop) (Jx:World->Prop) (W:World),m.sub W->(gu P).le m ->
   (∀ p a c,J p a->Mb W.heap.size a c->J p c)->(∀ a c,Jx a->Mb W.heap.size a c->Jx c) ->
   (∀ p x a,nx p x->J p a->m.sub a->YieldAt F (n - 1) P l (vals x) a fun e b=>
    (e = .returned (.bool true)/\J (p++[x]) b/\m.sub b/\Y1 a b)\/(e = .returned (.bool false)/\Jx b/\m.sub b)) ->
   J [] W->CallsIn F n P f (#[.func (.yield l) #[] #[]]++d) W fun e b=>(∃ v,e = .returned v)/\((∃ p,fin p/\J p b)\/Jx b)
def L4 (P:Program) {α:Type} (vals:α->Array Value) (f:FuncId) (cap:List AV) (items:List α):Prop:=
 s5 P vals f cap (fun p x=>∃ r,items=p++x::r) (fun p=>p=items)
theorem WI.re {Γ Γ':cr} {c:dM} {bx:List (Nat×List AV)} {w:World} (a:WI Γ c bx w) (d:Γ'.w0=Γ.w0) (hm:Γ'.m0.le c.m) (e:Γ'.m0.News (free Γ.w0) c.m w):WI Γ' c bx w where
 ext:=by rw [d]; exact a.ext
 sub:=a.sub
 le0:=hm
 new:=by rw [d]; exact e
 box:=by rw [d]; exact a.box
 inj:=a.inj
 own:=fun k=>⟨by rw [d]; exact (a.own k).blk,by rw [d]; exact (a.own k).shape,(a.own k).box,(a.own k).apart⟩
 xo:=fun k b o h=>⟨by rw [d]; exact (a.xo k b o h).new,(a.xo k b o h).obj,(a.xo k b o h).kept,(a.xo k b o h).mem,(a.xo k b o h).map,(a.xo k b o h).box,(a.xo k b o h).own,(a.xo k b o h).inj⟩
theorem WI.grown {Γ} {c} {bx} {w w'} (e:WI Γ c bx w) {row} (d:w.grownBy w' row) (i:∀ r,row=some r->free Γ.w0 r/\∃ o:Obj,w.heap[r]?=some o/\te o=false):WI Γ c bx w':=by
 have a:∀ (k:Nat) (o:Obj),w.heap[k]?=some o->te o=true->w'.heap[k]?=some o:=by
  intro k o hk h;rw [d.block k (aX.1 hk).1 ?_]
  ·exact hk
  ·grind
 refine e.keep ?_ ?_ a
 ·refine e.ext.trans ⟨d.os,d.tape,d.output,d.size,fun k hk=>d.block k (by have:=e.ext.size; have:=jF hk; omega) fun j=>?_⟩;grind
 ·refine ⟨fun b o v hv=>?_,fun b x hx=>a b _ (e.sub.map b x hx) rfl⟩;have:=e.sub.cell b o v hv;simp only [World.cell?] at this ⊢
  cases f:w.heap[b]? with
  | none=>grind
  | some p=>
   rw [f] at this
   cases p with
   | cells vs U fr=>rw [a b _ f rfl]; exact this
   | _=>cases this
theorem WI.grownI {Γ} {c} {bx} {w w'} (e:WI Γ c bx w) {N} (i:Γ.w0.heap.size<=N) (d:Mb N w w'):WI Γ c bx w':=by
 have a:∀ (k:Nat) (o:Obj),w.heap[k]?=some o->te o=true->w'.heap[k]?=some o:=fun k o hk h=>d.obj hk (.inr (CJ h));refine e.keep (e.ext.trans ⟨d.os,d.tape,d.output,d.size,fun k hk=>d.block k (by have:=e.ext.size; have:=jF hk; omega) (.inl (by have:=jF hk; omega))⟩) ⟨fun b o v hv=>?_,fun b x hx=>a b _ (e.sub.map b x hx) rfl⟩ a;have:=e.sub.cell b o v hv;simp only [World.cell?] at this ⊢
 cases f:w.heap[b]? with
 | none=>grind
 | some p=>
  rw [f] at this
  cases p with
  | cells vs U fr=>rw [a b _ f rfl]; exact this
  | _=>cases this
structure ju (Γ:cr) (s:St) (a:Act) (w:World):Prop where
 ex:∃ c,WI Γ c s.b w/\∀ d x,get s.t d=some x->RC c x (a.tmps.getD d Go.undef)
 size:a.tmps.size=Γ.nt
theorem ef.toT {Γ} {s} {a} {w} (h:ef Γ s a w):ju Γ s a w:=⟨h.ex,h.size⟩
theorem ju.grown {Γ} {s} {a} {w w'} (h:ju Γ s a w) {row} (f:w.grownBy w' row) (d:∀ r,row=some r->free Γ.w0 r/\∃ o:Obj,w.heap[r]?=some o/\te o=false):ju Γ s a w':=by
 obtain ⟨⟨c,b,e⟩,h2⟩:=h;exact ⟨⟨c,b.grown f d,e⟩,h2⟩
theorem ju.grownI {Γ} {s} {a} {w w'} (h:ju Γ s a w) {N} (f:Γ.w0.heap.size<=N) (b:Mb N w w'):ju Γ s a w':=by
 obtain ⟨⟨c,d,e⟩,h2⟩:=h;exact ⟨⟨c,d.grownI f b,e⟩,h2⟩
theorem NC.grownI {w0 w w'} (h:NC w0 w) {N} (i:w0.heap.size<=N) (d:Mb N w w'):NC w0 w':=
 ⟨bH h.size d.size,fun b o a f=>d.obj (h.same b o a f) (.inl (dv (aX.1 a).1 i)),h.more.trans d.more,fun b a=>by
  obtain ⟨c,T,e⟩:=h.soft b a;exact ⟨c,T,d.obj e (.inr rfl)⟩⟩
theorem ju.less {Γ} {s s'} {a} {w} (h:ju Γ s a w) (hle:s.le s'):ju Γ s' a w:=by
 obtain ⟨⟨c,e,f⟩,h2⟩:=h;exact ⟨⟨c,e.less hle.b,fun d x hx=>f d x (hle.t d x hx)⟩,h2⟩
theorem ju.tmps {Γ} {s} {a a'} {w} (h:ju Γ s a w) (f:a'.tmps.size=a.tmps.size) (e:∀ d∈f7 s.t,a'.tmps.getD d Go.undef=a.tmps.getD d Go.undef):ju Γ s a' w:=by
 obtain ⟨⟨c,b,h1⟩,h2⟩:=h;exact ⟨⟨c,b,fun d x hx=>by rw [e d (fq.2 (by rw [hx]; simp))]; exact h1 d x hx⟩,f.trans h2⟩
theorem NC.grown {w0 w w'} (h:NC w0 w) {row} (d:w.grownBy w' row) (m:∀ r,row=some r->w0.heap.size<=r) (f:jk w w'):NC w0 w':=
 ⟨bH h.size d.size,fun b o a i=>by
  have:=h.same b o a i
  rw [d.block b (aX.1 this).1 fun j=>by
   grind]
  exact this,h.more.trans f,fun b a=>by
  obtain ⟨c,T,e⟩:=h.soft b a;obtain ⟨c0,l,n⟩:=a;refine ⟨c,T,?_⟩
  rw [d.block b (aX.1 e).1 fun j=>by
   grind]
  exact e⟩
def Bk:List Nat->List AV->List (Nat×AV)
 | p::ps,v::vs=>(p,v)::Bk ps vs
 | _,_=>[]
theorem xD:∀ (ps:List Nat) (vs:List Value) (t:Array Value),((ps.zip vs).foldl (fun t (p:Nat×Value)=>t.setIfInBounds p.1 p.2) t).size=t.size
 | [],_,_=>by simp
 | _::_,[],_=>by simp
 | p::ps,v::vs,t=>by simp [xD ps vs]
theorem ml:∀ (ps:List Nat) (vs:List Value) (t:Array Value) (d:Nat),d ∉ ps->((ps.zip vs).foldl (fun t (p:Nat×Value)=>t.setIfInBounds p.1 p.2) t).getD d Go.undef=t.getD d Go.undef
 | [],_,_,_,_=>by simp
 | _::_,[],_,_,_=>by simp
 | p::ps,v::vs,t,d,a=>by
  simp only [bC,not_or] at a;simp only [List.zip_cons_cons,rG];rw [ml ps vs _ d a.2];simp only [aJ,SV (Ne.symm a.1)]
theorem zu {m:d5}:∀ (ps:List Nat) (vs:List Value) (xs:List AV) (t:Array Value) (d:Nat) (x:AV),ps.Nodup->(∀ p∈ps,p<t.size)->xs.length=vs.length ->
  (∀ (i:Nat) (a:AV) (v:Value),xs[i]?=some a->vs[i]?=some v->RD m a v)->get (Bk ps xs) d=some x->RD m x (((ps.zip vs).foldl (fun t (p:Nat×Value)=>t.setIfInBounds p.1 p.2) t).getD d Go.undef)
 | [],_,_,_,_,_,_,_,_,_,h=>by simp [Bk,get] at h
 | p::ps,vs,[],_,_,_,_,_,_,_,h=>by simp [Bk,get] at h
 | p::ps,[],x::xs,_,_,_,_,_,hl,_,_=>by simp at hl
 | p::ps,v::vs,y::xs,t,d,x,c,b,hl,e,h=>by
  simp only [Bk,bf] at h;simp only [List.zip_cons_cons,rG];obtain ⟨h1,h2⟩:=Yp.1 c;split at h
  ·rename_i f;subst f;cases h;rw [ml ps vs _ d h1]
   have:(t.setIfInBounds d v).getD d Go.undef=v:=by
    rw [aJ,Array.getElem?_setIfInBounds_self_of_lt (b d aW)]; rfl
   rw [this];exact e 0 y v rfl rfl
  ·exact zu ps vs xs _ d x h2 (fun q j=>by grind) (by simpa using hl) (fun i a u g1 g2=>e (i+1) a u (by simpa using g1) (by simpa using g2)) h
open Go
open Go.RowKit (Below)
def d5.both (a b:d5):d5:=⟨fun x o=>match a x o with | some v=>some v | none=>b x o,fun x=>match a.maps x with | some v=>some v | none=>b.maps x⟩
theorem Cd (a b:d5):a.le (a.both b):=⟨fun x o v h=>by simp [d5.both,h],fun x v h=>by simp [d5.both,h]⟩
theorem A9 {a b:d5} {w} (c:a.sub w) (d:b.sub w):b.le (a.both b):=by
 refine ⟨fun x o v h=>?_,fun x v h=>?_⟩
 ·simp only [d5.both]
  cases hx:a x o with
  | none=>exact h
  | some u=>
   have h1:=c.cell x o u hx;have h2:=d.cell x o v h;rw [h1] at h2; exact h2
 ·simp only [d5.both]
  cases hx:a.maps x with
  | none=>exact h
  | some u=>
   have h1:=c.map x u hx;have h2:=d.map x v h;grind
theorem HJ {a b:d5} {w} (c:a.sub w) (d:b.sub w):(a.both b).sub w:=by
 refine ⟨fun x o v h=>?_,fun x v h=>?_⟩
 ·simp only [d5.both] at h
  cases hx:a x o with
  | none=>rw [hx] at h; exact d.cell x o v h
  | some u=>rw [hx] at h; cases h; exact c.cell x o _ hx
 ·simp only [d5.both] at h
  cases hx:a.maps x with
  | none=>rw [hx] at h; exact d.map x v h
  | some u=>rw [hx] at h; cases h; exact c.map x _ hx
theorem sZ {a b:d5} {x o} {v} (h:(a.both b) x o=some v):a x o=some v\/b x o=some v:=by
 simp only [d5.both] at h;grind
theorem sY {a b:d5} {x} {v} (h:(a.both b).maps x=some v):a.maps x=some v\/b.maps x=some v:=by
 simp only [d5.both] at h;grind
theorem Mb.soft {N} {W W'} (h:Mb N W W') {b} (a:eV W b):eV W' b:=by
 obtain ⟨c,T,a⟩:=a;exact ⟨c,T,h.obj a (.inr rfl)⟩
theorem d5.News.trans {m m' m2:d5} {B B2} {w w2} (h:m.News B m' w) (k:m'.News B2 m2 w2) (a:∀ k,B2 k->B k) (c:∀ b,eV w b->eV w2 b):m.News B m2 w2:=by
 refine ⟨fun b o v hv=>?_,fun b x hx=>?_⟩
 ·rcases k.cell b o v hv with h1 | h1
  ·exact (h.cell b o v h1).imp id fun ⟨g1,g2⟩=>⟨g1,c b g2⟩
  grind
 ·rcases k.map b x hx with h1 | h1
  ·exact h.map b x h1
  ·exact .inr (a _ h1)
def PR (P:Program) {α:Type} (avs:α->List AV) (f:FuncId) (cap:List AV) (nx:List α->α->Prop) (fin:List α->Prop):Prop:=
 (∀ (args:Array Value) (w:World),(callFunc f args).run P w = .ok (.enter f args) w) /\
 ∀ (m:d5) (h:Array Value),cap.length=h.size->(∀ (i:Nat) (x:AV) (v:Value),cap[i]?=some x->h[i]?=some v->RD m x v) ->
  ∀ (F:Fence) (n:Nat),(∀ f,F.fn f)->F.depth=none->F.alive=false->F.round=none->∀ (l:Nat) (J:List α->d5->World->Prop) (Jx:World->Prop) (W:World),m.sub W->(gu P).le m ->
   (∀ p m1 m2 b d,J p m1 b->Mb W.heap.size b d->m1.le m2->m2.sub d->m1.News (b.heap.size<=·) m2 d->J p m2 d)->(∀ b d,Jx b->Mb W.heap.size b d->Jx d) ->
   (∀ p x m1 b (vs:Array Value),nx p x->m.le m1->m1.sub b->J p m1 b->(avs x).length=vs.size->(∀ (i:Nat) (a:AV) (v:Value),(avs x)[i]?=some a->vs[i]?=some v->RD m1 a v) ->
    YieldAt F (n - 1) P l vs b fun e c=>(e = .returned (.bool true)/\J (p++[x]) m1 c/\m1.sub c/\Y1 b c)\/(e = .returned (.bool false)/\Jx c/\m1.sub c)) ->
   J [] m W->CallsIn F n P f (#[.func (.yield l) #[] #[]]++h) W fun e c=>(∃ v,e = .returned v)/\((∃ p m',fin p/\J p m' c)\/Jx c)
def jA (P:Program) {α:Type} (avs:α->List AV) (f:FuncId) (cap:List AV) (items:List α):Prop:=PR P avs f cap (fun p x=>∃ r,items=p++x::r) (fun p=>p=items)
theorem WI.growM {Γ} {c} {bx} {w w'} (a:WI Γ c bx w) {N} (E:Γ.w0.heap.size<=N) (e:Mb N w w') {m'} (hle:c.m.le m') (z:m'.sub w') (q:c.m.News (w.heap.size<=·) m' w') :
  WI Γ { c with m:=m' } bx w':=by
 have D:Γ.w0.heap.size<=w.heap.size:=a.ext.size;have hle':c.le { c with m:=m' }:=⟨hle,rfl,rfl,rfl,rfl,rfl⟩
 have f:∀ b o,b<w.heap.size->c.m b o=none->m' b o=none:=fun b o B h=>by
  cases hm:m' b o with
  | none=>rfl
  | some v=>
   rcases q.cell b o v hm with h1 | h1
   ·rw [h] at h1; cases h1
   ·omega
 refine ⟨a.ext.trans ⟨e.os,e.tape,e.output,e.size,fun k hk=>e.block k (by have:=jF hk; omega) (.inl (by have:=jF hk; omega))⟩,z,a.le0.trans hle,⟨fun b o v h=>?_,fun b x h=>?_⟩,fun d cs h l=>?_,a.inj,fun k=>?_,fun k b o h=>?_⟩
 ·rcases q.cell b o v h with h | h
  ·exact (a.new.cell b o v h).imp id fun ⟨h1,h2⟩=>⟨h1,e.soft h2⟩
  grind [jQ,Nat.le_trans]
 ·rcases q.map b x h with h | h
  ·exact a.new.map b x h
  grind [jQ,Nat.le_trans]
 ·have j:=a.lt_box h l;obtain ⟨h1,h2,y,vs,T,r,t,A⟩:=a.box d cs h l;exact ⟨h1,fun o=>f _ o j (h2 o),y,vs,T,e.obj r (.inr rfl),t,fun i x v g1 g2=>(A i x v g1 g2).mono hle'⟩
 ·have p:=a.own k;refine ⟨fun g n=>?_,p.shape,p.box,p.apart⟩;obtain ⟨len,cap,T,cells,h1,h2,y,r,t⟩:=p.blk g n;exact ⟨len,cap,T,cells,h1,e.obj h2 (.inr rfl),y,fun o u=>f g o (a.lt_own n) (r o u),t⟩
 ·have hx:=a.xo k b o h;have j:=a.lt_x h;refine ⟨hx.new,e.obj hx.obj (.inr (CJ hx.kept)),hx.kept,fun i hi=>f b i j (hx.mem i hi),?_,hx.box,hx.own,hx.inj⟩;show m'.maps b=none
  cases hm:m'.maps b with
  | none=>rfl
  | some v=>
   rcases q.map _ _ hm with h1 | h1
   ·rw [hx.map] at h1; cases h1
   ·omega
theorem ju.growM {P} {F} {n nt} {w0} {m1 m2} {s} {a} {w w'} (h:ju ⟨P,F,n,w0,m1,nt⟩ s a w) {N} (q:w0.heap.size<=N) (i:Mb N w w') (hle:m1.le m2) (l:m2.sub w') (p:m1.News (w.heap.size<=·) m2 w') :
  ju ⟨P,F,n,w0,m2,nt⟩ s a w':=by
 obtain ⟨⟨c,e,r⟩,h2⟩:=h;have f:c.m.sub w':=(e.grownI q i).sub;have j:=A9 l f
 have hW':=e.growM q i (m':=m2.both c.m) j (HJ l f) ⟨fun b o v hv=>by
  rcases sZ hv with h | h
  ·rcases p.cell b o v h with h | h
   ·exact .inl (e.le0.cell b o v h)
   ·exact .inr h
  ·exact .inl h,fun b x hx=>by
  rcases sY hx with h | h
  ·rcases p.map b x h with h | h
   ·exact .inl (e.le0.map b x h)
   ·exact .inr h
  ·exact .inl h⟩
 refine ⟨⟨_,hW'.re (Γ':=⟨P,F,n,w0,m2,nt⟩) rfl (Cd m2 c.m) ⟨fun b o v hv=>?_,fun b x hx=>?_⟩,fun d x hx=>RC.mono (c':={ c with m:=m2.both c.m }) ⟨j,rfl,rfl,rfl,rfl,rfl⟩ (r d x hx)⟩,h2⟩
 ·rcases sZ hv with h | h
  ·exact .inl h
  ·rcases e.new.cell b o v h with h | h
   ·exact .inl (hle.cell b o v h)
   ·exact .inr ⟨h.1,i.soft h.2⟩
 ·rcases sY hx with h | h
  ·exact .inl h
  ·rcases e.new.map b x h with h | h
   ·exact .inl (hle.map b x h)
   ·exact .inr h
theorem d5.sub.grI {m:d5} {w w'} (h:m.sub w) {N} (c:Mb N w w'):m.sub w':=by
 refine ⟨fun b o v hv=>?_,fun b x hx=>c.obj (h.map b x hx) (.inr rfl)⟩;have:=h.cell b o v hv;simp only [World.cell?] at this ⊢
 cases a:w.heap[b]? with
 | none=>grind
 | some p=>
  rw [a] at this
  cases p with
  | cells vs U fr=>rw [c.obj a (.inr rfl)]; exact this
  | _=>cases this
theorem Ck {F} {n} {P} {l} {vs} {w} {R R'} (h:YieldAt F n P l vs w R) (k:∀ e w',R e w'->R' e w'):YieldAt F n P l vs w R':=
 let ⟨fn,t,a,b,h1,h2⟩:=h
 ⟨fn,t,a,b,h1,h2.mono k⟩
theorem vZ {P} {α} {avs} {vals} {f} {cap} {nx} {fin} (h:s5 P vals f cap nx fin) (d:∀ x,(avs x).length=(vals x).size)
  (o:∀ (m:d5) (x:α) (i:Nat) (a:AV) (v:Value),(avs x)[i]?=some a->(vals x)[i]?=some v->RD m a v):PR P avs f cap nx fin:=by
 refine ⟨h.1,fun m y h1 h2 F n u A D B l J Jx W hm t w r hy q=>(h.2 m y h1 h2 F n u A D B l (fun p W=>J p m W/\m.sub W) Jx W hm t (fun p j z hj b=>?_) r (fun p x j hx hj c=>Ck (hy p x m j (vals x) hx (.refl _) c hj.1 (d x) (o m x)) fun e E k=>?_) ⟨q,hm⟩).mono fun e E k=>⟨k.1,k.2.imp (fun ⟨p,k1,k2⟩=>⟨p,m,k1,k2.1⟩) id⟩⟩
 ·have c:=hj.2.grI b;exact ⟨w p m m j z hj.1 b (.refl _) c ⟨fun _ _ _ h => .inl h,fun _ _ h => .inl h⟩,c⟩
 grind
def YZ {α:Type} (t0:List α->List (Nat×AV)) (B:List α->List (Nat×List AV)) (K:Exit->St->Prop) (xs:List α) (e:Exit) (s:St):Prop:=match e with
 | .normal=>s.le ⟨t0 xs,B xs⟩
 | .ret=>∃ b,s.le ⟨t0 xs,b⟩/\K .ret ⟨t0 xs,b⟩
 | .exit id=>∃ b,s.le ⟨t0 xs,b⟩/\K (.exit id) ⟨t0 xs,b⟩
 | _=>False
def aaf {α X:Type} (I:List α->X->Prop) (t0:List α->X->List (Nat×AV)) (B:List α->X->List (Nat×List AV)) (K:Exit->St->Prop) (xs:List α) (e:Exit) (s:St):Prop:=match e with
 | .normal=>∃ q,I xs q/\s.le ⟨t0 xs q,B xs q⟩
 | .ret=>∃ q b,s.le ⟨t0 xs q,b⟩/\K .ret ⟨t0 xs q,b⟩
 | .exit id=>∃ q b,s.le ⟨t0 xs q,b⟩/\K (.exit id) ⟨t0 xs q,b⟩
 | _=>False
section
variable {Γ:cr}
theorem xr (hΓ:Γ.OK) (h1:1<=Γ.n) {s} {g} {ps} {assign body} {K} {α} (avs)
  {f} {cap} {nx} {fin} (hg:ev s g = .clo f cap) (hseq:PR Γ.P avs f cap nx fin) (hsz:∀ x,(avs x).length=ps.size)
  {X} (I) (t0) (ks) (hks:∀ p q,f7 (t0 p q)=ks) (B) (q0) (hI0:I [] q0) (hle:s.le ⟨t0 [] q0,B [] q0⟩)
  (hk:(nb ks (p0 assign++(p0 body++ps.toList))&&nb ks [1000000000]&&nb [1000000000] (p0 assign)&&(ps.toList.all fun p=>Nat.blt p Γ.nt))=true) (hnd:ps.toList.Nodup)
  (round:∀ (F':Fence) (n':Nat) (m':d5),cr.OK ⟨Γ.P,F',n',Γ.w0,m',Γ.nt⟩->(∃ l,F'.round=some l)->n'=Γ.n - 1 - 1->∀ (pre:List α) (x:α) (q:X),nx pre x->I pre q ->
   SP ⟨Γ.P,F',n',Γ.w0,m',Γ.nt⟩ ⟨Bk ps.toList (avs x)++t0 pre q,B pre q⟩ assign fun e s1=>e = .normal/\s1.le ⟨t0 pre q,B pre q⟩ /\
    SP ⟨Γ.P,F',n',Γ.w0,m',Γ.nt⟩ s1 body (aaf I t0 B K (pre++[x])))
  (done:∀ p q,fin p->I p q->K .normal ⟨t0 p q,B p q⟩):SP Γ s (.rangeFunc g ps assign body) K:=by
 intro a w hI;simp only [al] at hk;obtain ⟨⟨⟨hk1,hk2⟩,hk3⟩,hk4⟩:=hk;obtain ⟨⟨c,hW,ht⟩,hsize,⟨Ds,hD1,hD2,hD3⟩,hrn⟩:=hI;have hgv:RC c (.clo f cap) (a.eval g):=by rw [<- hg]; exact cq ht g
 obtain ⟨lb,hlb,hcl,hcr⟩:∃ lb:Array Value,a.eval g = .func (.func f) #[] lb/\cap.length=lb.size/\∀ (i:Nat) (x:AV) (v:Value),cap[i]?=some x->lb[i]?=some v->RD c.m x v:=by
  have h:RD c.m (.clo f cap) (a.eval g):=hgv;generalize a.eval g=v at h
  cases h with
  | clo _ _ vs hl hr=>grind
 have hw0:Γ.w0.heap.size<=w.heap.size:=hW.ext.size
 -- the ground of the rounds
 have hΓ2:∀ l m,Γ.m0.le m->cr.OK ⟨Γ.P,Γ.F.inRound l,Γ.n - 1 - 1,Γ.w0,m,Γ.nt⟩:=fun l m hm=>⟨hΓ.fn,hΓ.depth,hΓ.alive,hΓ.mixed,hΓ.gm.trans hm,hΓ.gw⟩
 let G:d5->cr:=fun m=>⟨Γ.P,Γ.F,Γ.n,Γ.w0,m,Γ.nt⟩
 have hGl:∀ (m:d5) (l:Nat) (s:St) (a:Act) (w:World),ju (G m) s a w->ju ⟨Γ.P,Γ.F.inRound l,Γ.n - 1 - 1,Γ.w0,m,Γ.nt⟩ s a w:=fun m l s a w h=>by
  obtain ⟨⟨c',j,ht'⟩,h2⟩:=h;exact ⟨⟨c',j.re rfl j.le0 j.new,ht'⟩,h2⟩
 have hlG:∀ (m:d5) (l:Nat) (s:St) (a:Act) (w:World),ju ⟨Γ.P,Γ.F.inRound l,Γ.n - 1 - 1,Γ.w0,m,Γ.nt⟩ s a w->ju (G m) s a w:=fun m l s a w h=>by
  obtain ⟨⟨c',j,ht'⟩,h2⟩:=h;exact ⟨⟨c',j.re rfl j.le0 j.new,ht'⟩,h2⟩
 have hT0:ju (G c.m) ⟨t0 [] q0,B [] q0⟩ a w:=(show ju (G c.m) s a w from ⟨⟨c,hW.re rfl (.refl _) ⟨fun b o v h => .inl h,fun b x h => .inl h⟩,ht⟩,hsize⟩).less hle
 have hback:∀ (m:d5) (s:St) (a:Act) (W:World),c.m.le m->c.m.News (w.heap.size<=·) m W->(∀ b,eV w b->eV W b)->ju (G m) s a W->∃ c,WI Γ c s.b W/\∀ d x,get s.t d=some x->RC c x (a.tmps.getD d Go.undef):=fun m s a W hle hnew hk h=>by
  obtain ⟨⟨c',j,ht'⟩,_⟩:=h;refine ⟨c',j.re rfl (hW.le0.trans (hle.trans j.le0)) ⟨fun b o v h=>?_,fun b x h=>?_⟩,ht'⟩
  ·rcases j.new.cell b o v h with h | h
   ·rcases hnew.cell b o v h with h | h
    ·rcases hW.new.cell b o v h with h | h
     ·exact .inl h
     grind
    grind [jQ,Nat.le_trans]
   ·exact .inr h
  ·rcases j.new.map b x h with h | h
   ·rcases hnew.map b x h with h | h
    ·rcases hW.new.map b x h with h | h
     ·exact .inl h
     ·exact .inr h
    grind [jQ,Nat.le_trans]
   ·exact .inr h
 have U:∀ (m:d5) (s:St) (a:Act) (W:World),ju (G m) s a W->m.sub W:=fun m s a W h=>by
  obtain ⟨⟨c',j,_⟩,_⟩:=h;exact ⟨fun b o v J=>j.sub.cell b o v (j.le0.cell b o v J),fun b x J=>j.sub.map b x (j.le0.map b x J)⟩
 refine wpIn_rangeFunc ?_;intro fn hfn
 obtain ⟨L,Dl,dd,W1,hE,hL1,hK1,hB1,hM1,hL,hDn,hDl⟩:∃ (L:Nat) (Dl:List Nat) (dd:Nat) (W1:World),(Instr.enterLoop fn a.tmps ps assign body Γ.F.round).run Γ.P w = .ok (L,la Dl) W1 /\
   W1.heap[L]?=some (.loop { state := .ready,pending:=none,fn,tmps:=a.tmps,params:=ps,assign,body,defers:=dd })/\(∀ D∈Dl,W1.heap[D]?=some (.deferred (some [])))/\Below w.heap.size w W1/\jk w W1/\w.heap.size<=L/\Dl.Nodup/\∀ D∈Dl,w.heap.size<=D/\D≠L:=by
  have hs:∀ {o:Obj},te o=false->uc o:=fun h c T fr e=>by subst e; cases h
  cases hro:Γ.F.round with
  | none=>
   refine ⟨_,[w.heap.size],w.heap.size,_,run_enterLoop_outer _ _ _ _ _,?_,fun D M=>?_,((abs _ w).alloc (ba _) _).alloc dc _,(jk.alloc w (hs rfl)).trans (.alloc _ (hs rfl)),by omega,by simp,fun D M=>?_⟩
   ·have:=fx (w.alloc (.deferred (some []))) (.loop { state := .ready,pending:=none,fn,tmps:=a.tmps,params:=ps,assign,body,defers:=w.heap.size }); rwa [World.size_alloc] at this
   ·grind [Below.heap_alloc,trans,World.alloc_heap_new]
   grind
  | some l0=>
   obtain ⟨r0,hr0⟩:=hrn l0 hro;exact ⟨w.heap.size,[],r0.defers,_,run_enterLoop_inner hr0 _ _ _ _ _,fx w _,by simp,(abs _ w).alloc (ba _) _,.alloc _ (hs rfl),ba _,by simp,by simp⟩
 have hfin:∀ (m:d5) (s:St) (W:World),c.m.le m->c.m.News (w.heap.size<=·) m W->ju (G m) s a W->NC w W->(∀ D∈Dl,W.heap[D]?=some (.deferred (some [])))->ef Γ s { a with defers:=la Dl++a.defers } W:=fun m s W hle hnew hT hN hWD=>by
  refine ⟨hback m s a W hle hnew hN.soft hT,hsize,⟨Dl++Ds,by simp [la,hD1],wj.2 ⟨hDn,hD2,fun x hx y hy e=>?_⟩,fun E hE=>?_⟩,fun l e=>?_⟩
  ·grind
  ·rcases eY.1 hE with hE | hE
   ·grind
   ·exact ⟨hN.same E _ (hD3 E hE).1 rfl,(hD3 E hE).2⟩
  ·obtain ⟨r0,hr0⟩:=hrn l e;exact ⟨_,hN.same _ _ hr0 rfl⟩
 obtain ⟨u,hrec⟩:∃ u:LoopState->Option Code->Loop,u=fun st pe=>{ state:=st,pending:=pe,fn,tmps:=a.tmps,params:=ps,assign,body,defers:=dd }:=⟨_,rfl⟩;rw [show (Loop.mk _ _ _ _ _ _ _ _:Loop)=u .ready none by rw [hrec]] at hL1;have hB1N:Γ.w0.heap.size<=W1.heap.size:=bH hw0 hB1.size;have hgr:∀ {A B:World},Below A.heap.size A B->A.grownBy B none:=fun h=>⟨h.os,h.tape,h.output,h.size,fun k hk _=>h.block k hk⟩;have hIg:∀ {m:d5} {s:St} {a:Act} {A B:World},ju (G m) s a A->Below A.heap.size A B->ju (G m) s a B:=fun h J=>h.grown (hgr J) (by intro r e; cases e);have hNg:∀ {A B:World},NC w A->Gr A B->NC w B:=fun h J=>h.grown (hgr J.below) (by intro r e; cases e) J.more
 -- the record is turned
 have N:∀ {m:d5} {s:St} {a:Act} {A:World} {r:Loop} (o:Obj),ju (G m) s a A->A.heap[L]?=some (.loop r)->ju (G m) s a (A.putObj L o):=fun o h hl=>
  h.grown (grownBy_putObj' _ _ o) (by intro r e; cases e; exact ⟨jQ (by grind),_,hl,rfl⟩)
 have H:∀ {A:World} (o:Obj),uc o->NC w A->NC w (A.putObj L o):=fun o ho h=>h.grown (grownBy_putObj' _ _ o) (by grind) (jk.putObj _ _ ho);have hsP:∀ {A:World} {r:Loop} (o:Obj),A.heap[L]?=some (.loop r)->∀ b,eV A b->eV (A.putObj L o) b:=fun o hl b J=>oZ J hl (fun _ _ h=>nomatch h) o
 refine ⟨L,la Dl,W1,{ target := .fn (.func f) lb,args:=#[.func (.yield L) #[] #[]] },W1,f,
  #[.func (.yield L) #[] #[]]++lb,W1,?_,?_,?_,?_,fun _=>h1,?_⟩
 ·exact hE
 ·simp only [resolve,hlb];simp [go_sem]
 ·intro f' hf'; exact hΓ.fn f'
 ·have hen:=hseq.1;simp [invoke,go_sem,hen]
 refine (hseq.2 c.m lb hcl hcr { Γ.F with round:=none } (Γ.n - 1) hΓ.fn hΓ.depth hΓ.alive rfl L
  (fun p m W=>∃ q,I p q/\ju (G m) ⟨t0 p q,B p q⟩ a W/\NC w W/\W.heap[L]?=some (.loop (u .ready none))/\(∀ D∈Dl,W.heap[D]?=some (.deferred (some [])))/\c.m.le m/\c.m.News (w.heap.size<=·) m W)
  (fun W=>∃ m cd e t b,(cd=Code.ret/\e=Exit.ret\/∃ id,cd = .exit id/\e = .exit id)/\K e ⟨t,b⟩/\ju (G m) ⟨t,b⟩ a W/\NC w W/\W.heap[L]?=some (.loop (u .done (some cd)))/\(∀ D∈Dl,W.heap[D]?=some (.deferred (some [])))/\c.m.le m/\c.m.News (w.heap.size<=·) m W)
  W1 (U _ _ a _ (hIg hT0 hB1)) (hΓ.gm.trans hW.le0) ?_ ?_ ?_ ⟨q0,hI0,hIg hT0 hB1,hNg (.refl w) ⟨hB1,hM1⟩,hL1,hK1,.refl _,fun _ _ _ h => .inl h,fun _ _ h => .inl h⟩).mono ?_
 ·rintro k m1 m2 A B' ⟨q,g0,g1,g2,g3,g4,g5,g6⟩ J hle' hs' hnew';exact ⟨q,g0,g1.growM hB1N J hle' hs' hnew',g2.grownI hB1.size J,J.obj g3 (.inr rfl),fun D M=>J.obj (g4 D M) (.inr rfl),g5.trans hle',g6.trans hnew' (fun _=>bH g2.size) fun _ h=>J.soft h⟩
 ·rintro A B' ⟨m,cd,e,t,b,g0,gk,g1,g2,g3,g4,g5,g6⟩ J;exact ⟨m,cd,e,t,b,g0,gk,g1.grownI hB1N J,g2.grownI hB1.size J,J.obj g3 (.inr rfl),fun D M=>J.obj (g4 D M) (.inr rfl),g5,g6.keep fun _ h=>J.soft h⟩
 ·-- ONE ROUND
  rintro p x m1 W vs hx hmle hms ⟨q,hq,hi,hn,hl,hd,hcm,hcn⟩ hvl hvr;have hy:=run_yield (P:=Γ.P) (args:=vs) hl (by grind);rw [hrec] at hy;have hrd2:=round (Γ.F.inRound L) (Γ.n - 1 - 1) m1 (hΓ2 _ _ (hW.le0.trans hmle)) ⟨_,rfl⟩ rfl p x q hx hq
  have htm:((ps.zip vs).foldl (fun (t:Array Value) (q:Nat×Value)=>t.setIfInBounds q.1 q.2) a.tmps)=((ps.toList.zip vs.toList).foldl (fun t (p:Nat×Value)=>t.setIfInBounds p.1 p.2) a.tmps):=by
   rw [<- Array.foldl_toList,Array.toList_zip]
  have hpl:∀ p∈ps.toList,p<a.tmps.size:=fun p hp=>by
   rw [hsize];exact ah (aN.1 hk4 p hp)
  refine ⟨fn,_,assign,body,hy,roundIn_of_wpIn hfn (dm (hrd2 _ W ⟨?_,?_,⟨[],rfl,fE,by simp⟩,fun l e=>by cases e; exact ⟨_,hl⟩⟩) ?_)⟩
  ·obtain ⟨⟨c',j,ht'⟩,_⟩:=hi;refine ⟨c',j.re rfl j.le0 j.new,fun d y hy=>?_⟩;simp only at hy ⊢;rw [show ((ps.zip vs).foldl (fun (t:Array Value) (q:Nat×Value)=>match q with | (p,v)=>t.setIfInBounds p v) a.tmps)=_ from htm];rw [eI] at hy
   cases hz:get (Bk ps.toList (avs x)) d with
   | some z=>
    rw [hz] at hy;cases hy;exact RC.of_RD ((zu _ _ _ _ d _ hnd hpl am (fun i a v g1 g2=>hvr i a v g1 (by simpa using g2)) hz).mono j.le0)
   | none=>
    rw [hz] at hy;have hy:get (t0 p q) d=some y:=hy;have Z:d∈ks:=by rw [<- hks p q]; exact fq.2 (by rw [hy]; simp)
    grind [ml,dQ,List.mem_append_right]
  ·grind [Array,Value,Nat,xD]
  ·rintro e a2 W2 ⟨hN2,hF2,s1,hI1,rfl,hle1,hSP⟩;have hd2:a2.defers=[]:=hF2.defers fun hc=>dQ hk3 dc hc;have hl2:=hN2.same _ _ hl rfl;have hdd2:=fun D M=>hN2.same D _ (hd D M) rfl
   have ht2:∀ d∈ks,a2.tmps.getD d Go.undef=a.tmps.getD d Go.undef:=fun d Z=>by
    rw [hF2.tmps (fun hc=>dQ hk1 Z (bc _ hc)) (fun hc=>dQ hk2 Z (by simp [hc]))];grind [Array,Value,Nat,ml,dQ,List.mem_append_right]
   refine ⟨_,run_beginRound hl2 (by rw [hrec]),?_⟩;have hT2:=N (.loop { u .ready none with state := .busy }) (hlG _ _ _ _ _ hI1.toT) hl2;have hl3:(W2.putObj L (.loop { u .ready none with state := .busy })).heap[L]?=some (.loop { u .ready none with state := .busy }):=oN (aX.1 hl2).1;have hd3:∀ D∈Dl,(W2.putObj L (.loop { u .ready none with state := .busy })).heap[D]?=some (.deferred (some [])):=fun D M=>(dg (hDl D M).2).trans (hdd2 D M);have hN3:=H (.loop { u .ready none with state := .busy }) (fun _ _ _ h=>nomatch h) (hn.trans hN2);refine dm (hSP a2 _ ⟨(hGl _ _ _ _ _ hT2).ex,(hGl _ _ _ _ _ hT2).size,⟨[],by simpa [la] using hd2,fE,by simp⟩,fun l e=>by cases e; exact ⟨_,hl3⟩⟩) ?_;rintro e a3 W3 ⟨hN4,hF4,s2,hI4,hR⟩;have hl4:=hN4.same _ _ hl3 rfl;have hd4:=fun D M=>hN4.same D _ (hd3 D M) rfl;have hN5:=hN3.trans hN4;have hs5:∀ b,eV W b->eV W3 b:=fun b h=>hN4.soft b (hsP _ hl2 b (hN2.soft b h))
   have hT4:∀ {p:List α} {q:X} {b:List (Nat×List AV)},s2.le ⟨t0 p q,b⟩->ju (G m1) ⟨t0 p q,b⟩ a W3:=fun hle=>((hlG _ _ _ _ _ hI4.toT).less hle).tmps (hsize.trans hI4.size.symm) fun d Z=>by
    have Z:d∈ks:=(hks _ _) ▸ Z;rw [<- ht2 d Z];exact (hF4.tmps (fun hc=>dQ hk1 Z (bh _ (bc _ hc))) (fun hc=>dQ hk2 Z (by simp [hc]))).symm
   have fin:∀ (Q:Option Code),(Instr.endRound L Q).run Γ.P W3 = .ok (.bool Q.isNone) (W3.putObj L (.loop (u (if Q.isNone then .ready else .done) Q))):=fun Q=>by
    have:=run_endRound (P:=Γ.P) Q hl4;grind
   have hl5:∀ (o:Obj),(W3.putObj L o).heap[L]?=some o:=fun o=>oN (aX.1 hl4).1;have hd5:∀ (o:Obj),∀ D∈Dl,(W3.putObj L o).heap[D]?=some (.deferred (some [])):=fun o D M=>(dg (hDl D M).2).trans (hd4 D M);have hc5:∀ (o:Obj),c.m.News (w.heap.size<=·) m1 (W3.putObj L o):=fun o=>hcn.keep fun b h=>hsP o hl4 b (hs5 b h)
   cases e with
   | normal=>
    obtain ⟨q',hq',hR⟩:=hR;have hT5:=N (.loop (u .ready none)) (hT4 hR) hl4;refine ⟨_,_,fin none,.inl ⟨rfl,⟨q',hq',hT5,H _ (fun _ _ _ h=>nomatch h) hN5,hl5 _,hd5 _,hcm,hc5 _⟩,U _ _ _ _ hT5,fun b o J ho=>?_⟩⟩;have hno:te o=false:=by cases o <;> first | rfl | cases ho
    have h1:=hN2.same b o J hno;have hbl:b≠L:=fun e=>by rw [e,hl2] at h1; cases h1; cases ho
    exact (dg hbl).trans (hN4.same b o ((dg hbl).trans h1) hno)
   | ret=>
    obtain ⟨q',b,g1,g2⟩:=hR;have hT5:=N (.loop (u .done (some .ret))) (hT4 g1) hl4;exact ⟨_,_,fin (some .ret),.inr ⟨rfl,⟨m1,.ret,.ret,_,b,.inl ⟨rfl,rfl⟩,g2,hT5,H _ (fun _ _ _ h=>nomatch h) hN5,hl5 _,hd5 _,hcm,hc5 _⟩,U _ _ _ _ hT5⟩⟩
   | exit id=>
    obtain ⟨q',b,g1,g2⟩:=hR;have hT5:=N (.loop (u .done (some (.exit id)))) (hT4 g1) hl4;exact ⟨_,_,fin (some (.exit id)),.inr ⟨rfl,⟨m1,.exit id,.exit id,_,b,.inr ⟨id,rfl,rfl⟩,g2,hT5,H _ (fun _ _ _ h=>nomatch h) hN5,hl5 _,hd5 _,hcm,hc5 _⟩,U _ _ _ _ hT5⟩⟩
   | goto l=>exact hR.elim
   | panic ch=>exact hR.elim
   | outgrown=>exact hR.elim
 ·-- BEHIND THE ITERATOR
  have hFTd:∀ (ds:List Deferred),FT (p0 (.rangeFunc g ps assign body)) a { a with defers:=ds }:=fun ds d hd=>by
   grind [p0,vw]
  rintro e W2 ⟨⟨v,rfl⟩,(⟨p,m',hp,q,hq,hi,hn,hl,hd,hcm,hcn⟩ | ⟨m',cd,e,t,b,h0,hK,hi,hn,hl,hd,hcm,hcn⟩)⟩
  ·refine ⟨none,W2.putObj L (.loop { u .ready none with state := .exhausted }),by grind [run_endLoop],?_⟩;exact ⟨H _ (fun _ _ _ h=>nomatch h) hn,hFTd _,_,hfin m' _ _ hcm (hcn.keep (hsP _ hl)) (N _ hi hl) (H _ (fun _ _ _ h=>nomatch h) hn) (fun D M=>(dg (hDl D M).2).trans (hd D M)),done p q hp hq⟩
  ·refine ⟨some cd,W2.putObj L (.loop { u .done (some cd) with state := .exhausted }),by grind [run_endLoop],?_⟩
   have hpost:=(show NC w (W2.putObj L (.loop { u .done (some cd) with state := .exhausted }))/\FT (p0 (.rangeFunc g ps assign body)) a { a with defers:=la Dl++a.defers }/\∃ s',ef Γ s' { a with defers:=la Dl++a.defers } (W2.putObj L (.loop { u .done (some cd) with state := .exhausted }))/\K e s' from
    ⟨H _ (fun _ _ _ h=>nomatch h) hn,hFTd _,_,hfin m' _ _ hcm (hcn.keep (hsP _ hl)) (N _ hi hl) (H _ (fun _ _ _ h=>nomatch h) hn) (fun D M=>(dg (hDl D M).2).trans (hd D M)),hK⟩)
   rcases h0 with ⟨rfl,rfl⟩ | ⟨id,rfl,rfl⟩
   ·exact wpIn_ret hpost
   ·exact wpIn_exit hpost
theorem xq (o:Γ.OK) (h1:1<=Γ.n) {s} {g} {ps} {assign body} {K} {α} (avs)
  {f} {cap} {nx} {fin} (t:ev s g = .clo f cap) (c:PR Γ.P avs f cap nx fin) (j:∀ x,(avs x).length=ps.size)
  (t0) (ks) (i:∀ p,f7 (t0 p)=ks) (B) (hle:s.le ⟨t0 [],B []⟩)
  (hk:(nb ks (p0 assign++(p0 body++ps.toList))&&nb ks [1000000000]&&nb [1000000000] (p0 assign)&&(ps.toList.all fun p=>Nat.blt p Γ.nt))=true) (d:ps.toList.Nodup)
  (round:∀ (b:Fence) (a:Nat) (m':d5),cr.OK ⟨Γ.P,b,a,Γ.w0,m',Γ.nt⟩->(∃ l,b.round=some l)->a=Γ.n - 1 - 1->∀ (pre:List α) (x:α),nx pre x ->
   SP ⟨Γ.P,b,a,Γ.w0,m',Γ.nt⟩ ⟨Bk ps.toList (avs x)++t0 pre,B pre⟩ assign fun e s1=>e = .normal/\s1.le ⟨t0 pre,B pre⟩ /\
    SP ⟨Γ.P,b,a,Γ.w0,m',Γ.nt⟩ s1 body (YZ t0 B K (pre++[x])))
  (done:∀ p,fin p->K .normal ⟨t0 p,B p⟩):SP Γ s (.rangeFunc g ps assign body) K:=
 xr o h1 avs t c j (X:=Unit) (fun _ _=>True) (fun p _=>t0 p) ks (fun p _=>i p) (fun p _=>B p) () trivial hle hk d
  (fun b a m' q hl u pre x _ hx _=>(round b a m' q hl u pre x hx).mono fun e s1 ⟨h1,h2,r⟩=>⟨h1,h2,r.mono fun e s h=>match e,h with
   | .normal,h=>⟨(),trivial,h⟩
   | .ret,h=>⟨(),h⟩
   | .exit _,h=>⟨(),h⟩⟩) (fun p _ m _=>done p m)
theorem kk (m:Γ.OK) (h1:1<=Γ.n) {s} {g} {ps} {assign body} {K} {α} (avs)
  {f} {cap} {items} (q:ev s g = .clo f cap) (c:jA Γ.P avs f cap items) (i:∀ x,(avs x).length=ps.size)
  (t0) (ks) (h:∀ p,f7 (t0 p)=ks) (B) (hle:s.le ⟨t0 [],B []⟩)
  (hk:(nb ks (p0 assign++(p0 body++ps.toList))&&nb ks [1000000000]&&nb [1000000000] (p0 assign)&&(ps.toList.all fun p=>Nat.blt p Γ.nt))=true) (d:ps.toList.Nodup)
  (round:∀ (b:Fence) (a:Nat) (m':d5),cr.OK ⟨Γ.P,b,a,Γ.w0,m',Γ.nt⟩->(∃ l,b.round=some l)->a=Γ.n - 1 - 1->∀ (pre:List α) (x:α) (rest:List α),items=pre++x::rest ->
   SP ⟨Γ.P,b,a,Γ.w0,m',Γ.nt⟩ ⟨Bk ps.toList (avs x)++t0 pre,B pre⟩ assign fun e s1=>e = .normal/\s1.le ⟨t0 pre,B pre⟩ /\
    SP ⟨Γ.P,b,a,Γ.w0,m',Γ.nt⟩ s1 body (YZ t0 B K (pre++[x])))
  (done:K .normal ⟨t0 items,B items⟩):SP Γ s (.rangeFunc g ps assign body) K:=
 xq m h1 avs q c i t0 ks h B hle hk d (fun b a m' o hl t pre x ⟨r,hx⟩=>round b a m' o hl t pre x r hx) (fun p j=>j ▸ done)
end
open Go
open Go.RowKit (Below)
def ve:List AV->Option (List Value)
 | []=>some []
 | .int k n::r=>match ve r with
  | some l=>some (.int k n::l)
  | none=>none
 | _=>none
def Ey:AV->Option Value
 | .int k n=>some (.int k n)
 | .bool b=>some (.bool b)
 | .agg cs=>match ve cs with
  | some l=>some (.agg l.toArray)
  | none=>none
 | _=>none
theorem vd {c:dM}:∀ {cs:List AV} {l vs:List Value},ve cs=some l->cs.length=vs.length->(∀ (i:Nat) (x:AV) (u:Value),cs[i]?=some x->vs[i]?=some u->fD c x u)->vs=l
 | [],l,vs,h,hl,_=>by
  simp only [ve,aB] at h;subst h;exact qo (by simpa using hl.symm)
 | x::r,l,[],h,hl,_=>by simp at hl
 | x::r,l,v::vs,h,hl,b=>by
  unfold ve at h;split at h
  ·rename_i heq; cases heq
  ·rename_i k n e heq;cases heq;split at h
   ·rename_i f a;cases h;have d:=b 0 (.int k n) v rfl rfl;rw [RC.int (c:=c) d,vd (c:=c) (vs:=vs) a (by simpa using hl) fun i x u h1 h2=>b (i+1) x u (by simpa using h1) (by simpa using h2)]
   ·cases h
  ·cases h
theorem Ex {c} {x} {v u} (h:Ey x=some v) (a:RC c x u):u=v:=by
 cases x <;> simp only [Ey] at h <;> first | cases h | skip
 ·exact RC.int a
 ·exact RC.bool a
 ·split at h
  ·rename_i l hl;cases h;obtain ⟨vs,rfl,h1,_,h2⟩:=a
   congr 1
   apply tT;simpa using vd (c:=c) (vs:=vs.toList) hl (by simpa using h1) fun i x u g1 g2=>h2 i x u g1 (by simpa using g2)
  ·cases h
def ly:List (Nat×AV)->List (Nat×AV)
 | []=>[]
 |(d,.int k n)::r=>(d,.int k n)::ly r
 |(d,.bool b)::r=>(d,.bool b)::ly r
 |(d,_)::r=>(d,.junk)::ly r
theorem Jr {m} {c} {t} {d} {x} (h:get (ly t) d=some x) {v} (a:∀ y,get t d=some y->RC c y v):RD m x v:=by
 induction t with
 | nil=>simp [ly,get] at h
 | cons p r b=>
  obtain ⟨k,y⟩:=p;by_cases hk:d=k
  ·subst hk;have hy:=a y (by rw [bf,aV rfl]);cases y <;> simp only [ly,bf,cR,aB] at h <;> subst h <;> first | exact RD.junk v | (rw [hy.int]; exact RD.int _ _) | (rw [hy.bool]; exact RD.bool _)
  ·have hr':∀ y,get r d=some y->RC c y v:=fun z hz=>a z (by rw [bf,aY hk]; exact hz);cases y <;> simp only [ly,bf,aY hk] at h <;> exact b h hr'
def vc:List AV->Option (List Value)
 | []=>some []
 | x::r=>match Ey x,vc r with
  | some v,some l=>some (v::l)
  | _,_=>none
theorem vb {c:dM} {e:Operand->AV} {ρ:Operand->Value}:∀ {xs:List Operand} {vs:List Value},(∀ x∈xs,RC c (e x) (ρ x))->vc (xs.map e)=some vs->xs.map ρ=vs
 | [],vs,_,h=>by simp only [eZ,vc,aB] at h; exact h
 | x::r,vs,a,h=>by
  simp only [cp,vc] at h;split at h
  ·rename_i v l hv hl;cases h;rw [cp,vb (fun y hy=>a y (aS _ hy)) hl,Ex hv (a x aW)]
  ·cases h
structure YB (ι α:Type) where
 P:Program
 F:Fence
 n:Nat
 nt:Nat
 m:d5
 l:Nat
 J:ι->World->Prop
 Jx:ι->World->Prop
 ok:ι->α->Prop
 nxt:ι->α->ι
 vals:α->Array Value
 tm:List (Nat×AV)
def YB.base {ι α:Type} (Y:YB ι α) (W:World):cr:=⟨Y.P,Y.F,Y.n,W,Y.m,Y.nt⟩
structure YB.OK {ι α:Type} (Y:YB ι α):Prop where
 base:∀ W,(gu Y.P).sub W->(Y.base W).OK
 round:Y.F.round=none
 ab:∀ k W a,Y.J k W->Gr W a->Y.J k a
 abx:∀ k W a,Y.Jx k W->Gr W a->Y.Jx k a
 yld:∀ k x b,Y.ok k x->Y.J k b->Y.m.sub b->YieldAt Y.F (Y.n - 1) Y.P Y.l (Y.vals x) b fun e a=>
    (e = .returned (.bool true)/\Y.J (Y.nxt k x) a/\Y.m.sub a)\/(e = .returned (.bool false)/\Y.Jx (Y.nxt k x) a/\Y.m.sub a)
abbrev s4 (ι:Type):=Bool×ι
structure YI {ι α:Type} (Y:YB ι α) (g:s4 ι) (s:St) (a:Act) (w:World):Prop where
 ex:∃ b,(bif g.1 then Y.Jx g.2 b else Y.J g.2 b)/\ju (Y.base b) s a w/\NC b w/\(gu Y.P).sub b
 tm:∀ d x,get Y.tm d=some x->RD Y.m x (a.tmps.getD d Go.undef)
 df:a.defers=[]
def YP {ι α:Type} (Y:YB ι α) (g:s4 ι) (s:St) (c:Code) (K:Exit->s4 ι->St->Prop):Prop:=
 ∀ a w,YI Y g s a w->c.wpIn Y.F Y.n Y.P (fun e d w'=>∃ b s',YI Y b s' d w'/\K e b s') a w
section
variable {ι α:Type} {Y:YB ι α} (hY:Y.OK)
theorem YI.less {g} {s s'} {a} {w} (h:YI Y g s a w) (hle:s.le s'):YI Y g s' a w:=
 ⟨let ⟨b,h1,h2,c⟩:=h.ex; ⟨b,h1,h2.less hle,c⟩,h.tm,h.df⟩
def wr (tm:List (Nat×AV)) (ds:List Nat):Bool:=nb (1000000000::f7 tm) ds&&nb [1000000000] (f7 tm)
theorem UW {g} {s} {c} {K} (n:Y.F.round=none) (j:wr Y.tm (p0 c)=true) (h:∀ b,(gu Y.P).sub b->SP (Y.base b) s c fun e s'=>K e g s'):YP Y g s c K:=by
 intro a w q;obtain ⟨⟨b,h1,h2,m,f⟩,r,o⟩:=q;simp only [wr,al] at j;refine dm (h b f a w ⟨h2.ex,h2.size,⟨[],by simpa [la] using o,fE,by simp⟩,fun _ e=>nomatch (show none=some _ from n ▸ e)⟩) ?_;rintro e v w' ⟨t,p,s',l,u⟩;refine ⟨g,s',⟨⟨b,h1,l.toT,m.trans t,f⟩,fun d x hx=>?_,?_⟩,u⟩
 ·have hk:d∈f7 Y.tm:=fq.2 (by rw [hx]; simp);rw [p.tmps (fun i=>dQ j.1 (aS _ hk) i) (fun i=>dQ j.2 dc (i ▸ hk))];exact r d x hx
 ·rw [p.defers fun i=>dQ j.1 aW i]; exact o
theorem YP.seq {g} {s} {x y} {K K1} (h:YP Y g s x K1) (j:∀ g s,K1 .normal g s->YP Y g s y K) (he:∀ e g s,e≠.normal->K1 e g s->K e g s):YP Y g s (.seq x y) K:=by
 intro a w i;refine wpIn_seq (dm (h a w i) fun e n w' m=>?_);obtain ⟨d,s',b,f⟩:=m
 cases e with
 | normal=>exact j d s' f n w' b
 | exit id=>exact ⟨d,s',b,he _ _ _ (by intro h; cases h) f⟩
 | goto l=>exact ⟨d,s',b,he _ _ _ (by intro h; cases h) f⟩
 | ret=>exact ⟨d,s',b,he _ _ _ (by intro h; cases h) f⟩
 | panic c=>exact ⟨d,s',b,he _ _ _ (by intro h; cases h) f⟩
 | outgrown=>exact ⟨d,s',b,he _ _ _ (by intro h; cases h) f⟩
theorem YP.block {g} {s} {id} {c} {K} (h:YP Y g s c fun e g s=>match e with | .exit j=>bif Nat.beq j id then K .normal g s else K (.exit j) g s | e=>K e g s):YP Y g s (.block id c) K:=by
 intro a w m;refine abt (dm (h a w m) fun e o w' n=>?_);obtain ⟨f,s',b,d⟩:=n
 cases e with
 | exit j=>
  simp only at d;unfold Exit.inBlock
  cases i:Nat.beq j id with
  | true=>rw [i] at d; simp only [ak i,cR]; exact ⟨f,s',b,d⟩
  | false=>rw [i] at d; simp only [dk i,cv]; exact ⟨f,s',b,d⟩
 | normal=>exact ⟨f,s',b,d⟩
 | goto l=>exact ⟨f,s',b,d⟩
 | ret=>exact ⟨f,s',b,d⟩
 | panic c=>exact ⟨f,s',b,d⟩
 | outgrown=>exact ⟨f,s',b,d⟩
theorem YP.loop {g} {s} {c} {K} {X:Type} (sh:X->s4 ι×St) (I:X->Prop) (μ:X->Nat) (x0) (o:I x0) (p:(sh x0).1=g) (hle:s.le (sh x0).2)
  (body:∀ x,I x->YP Y (sh x).1 (sh x).2 c fun e d s'=>match e with | .normal=>∃ h,I h/\μ h<μ x/\(sh h).1=d/\s'.le (sh h).2 | e=>K e d s'):YP Y g s (.loop c) K:=by
 intro a0 w r
 have key:∀ (m:Nat) (x:X) (a:Act) (w1:World),I x->μ x<m->YI Y (sh x).1 (sh x).2 a w1 ->
   Code.roundsIn Y.F Y.n Y.P c (fun e i w'=>∃ d s',YI Y d s' i w'/\K e d s') m a w1:=by
  intro m
  induction m with
  | zero=>intro x a w1 _ hm; omega
  | succ m t=>
   intro x a w1 hx hm j;rw [roundsIn_succ];refine dm (body x hx a w1 j) fun e i w' q=>?_;obtain ⟨d,s',b,f⟩:=q
   cases e with
   | normal=>
    obtain ⟨h,g1,g2,g3,g4⟩:=f;exact t h i w' g1 am (by rw [g3]; exact b.less g4)
   | exit id=>exact ⟨d,s',b,f⟩
   | goto l=>exact ⟨d,s',b,f⟩
   | ret=>exact ⟨d,s',b,f⟩
   | panic c=>exact ⟨d,s',b,f⟩
   | outgrown=>exact ⟨d,s',b,f⟩
 exact Yu (μ x0+1) (key _ x0 a0 w o am (by rw [p]; exact r.less hle))
theorem YP.pure {g} {s} {c} {K} {e} (d:∀ {F:Fence} {n:Nat} {P:Program} {Q:Exit->Act->World->Prop} {a:Act} {w:World},Q e a w->c.wpIn F n P Q a w) (h:K e g s):YP Y g s c K:=
 fun _ _ b=>d ⟨g,s,b,h⟩
end
open Go
open Go.RowKit (Below)
def rP (s:St) (o:Oper):Bool:=match o.op with
 | .call c=>match c.callee with
  | .value f=>match ev s f with
   | .lit (.func (.yield _) _ _)=>true
   | _=>false
  | _=>false
 | _=>false
section
variable {ι α:Type} (Y:YB ι α) (T:eX) (keep:List Nat)
def Md (g:s4 ι) (s:St) (o:Oper) (K:s4 ι->St->Prop):Prop:=match o.op,o.dst with
 | .call c,some d=>match c.callee with
  | .value f=>match g,vc (c.args.toList.map (ev s)) with
   |(false,k),some vs=>ev s f = .lit (.func (.yield Y.l) #[] #[])/\∃ x,Y.ok k x/\vs.toArray=Y.vals x /\
     K (false,Y.nxt k x) ⟨(d,.bool true)::(Y.tm++ly s.t),[]⟩/\K (true,Y.nxt k x) ⟨(d,.bool false)::(Y.tm++ly s.t),[]⟩
   | _,_=>False
  | _=>False
 | _,_=>False
def rT (all:List Oper) (guards:List Nat):List Oper->s4 ι->St->(s4 ι->St->Prop)->Prop
 | [],g,s,K=>K g s
 | o::rest,g,s,K=>match j6 all s o with
  | 0=>bif rP s o then Md Y g s o fun g s=>rT all guards rest g s K
   else nu T (ar Y.P) s o.dst o.type o.op fun s=>D6 o.op s fun s=>gS guards o.dst s fun s=>rT all guards rest g s K
  | 1=>fJ s o.dst .undef fun s=>rT all guards rest g s K
  | _=>False
def Jz:Code->s4 ι->St->(Exit->s4 ι->St->Prop)->Prop
 | .skip,g,s,K=>K .normal g s
 | .label _,g,s,K=>K .normal g s
 | .ret,g,s,K=>K .ret g s
 | .exit j,g,s,K=>K (.exit j) g s
 | .seq a b,g,s,K=>Jz a g s fun e g s=>match e with
  | .normal=>Jz b g s K
  | e=>K e g s
 | .cond c a b,g,s,K=>match ev s c with
  | .bool t=>(t=true->Jz a g s K)/\(t=false->Jz b g s K)
  | _=>False
 | .block id c,g,s,K=>Jz c g s fun e g s=>match e with
  | .exit j=>bif Nat.beq j id then K .normal g s else K (.exit j) g s
  | e=>K e g s
 | .region _ ops false,g,s,K=>rT Y T ops.toList (dI ops.toList ops.toList) ops.toList g s fun g s=>gt keep s (K .normal g)
 | c,g,s,K=>YP Y g s c K
end
section
variable {ι α:Type} {Y:YB ι α} (hY:Y.OK) {T:eX} (hT:T.OK Y.P) {keep:List Nat} {Q:Exit->Act->World->Prop} {next:Act->World->Prop}
theorem YI.inv {g} {s} {a} {w} (h:YI Y g s a w) (c:Y.F.round=none):∃ b,(bif g.1 then Y.Jx g.2 b else Y.J g.2 b)/\ef (Y.base b) s a w/\NC b w/\(gu Y.P).sub b:=by
 obtain ⟨⟨b,h1,h2,f⟩,_,d⟩:=h;exact ⟨b,h1,⟨h2.ex,h2.size,⟨[],by simpa [la] using d,fE,by simp⟩,fun _ e=>nomatch (show none=some _ from c ▸ e)⟩,f⟩
theorem YI.put {g} {s s'} {a a'} {w w' W0} (h:YI Y g s a w) (m:(bif g.1 then Y.Jx g.2 W0 else Y.J g.2 W0)) (l:ef (Y.base W0) s' a' w') {dst} (j:∃ v,a'=a.put dst v) (e:NC W0 w') (f:(gu Y.P).sub W0) (c:wr Y.tm dst.toList=true):YI Y g s' a' w':=by
 simp only [wr,al] at c;have i:=FT.put j;refine ⟨⟨W0,m,l.toT,e,f⟩,fun d x hx=>?_,?_⟩
 ·have hk:d∈f7 Y.tm:=fq.2 (by rw [hx]; simp);rw [i.tmps (fun b=>dQ c.1 (aS _ hk) b) (fun b=>dQ c.2 dc (b ▸ hk))];exact h.tm d x hx
 ·rw [i.defers fun b=>dQ c.1 aW b]; exact h.df
theorem qy {tm} {ds es} (h:wr tm ds=true) (a:∀ d∈es,d∈ds):wr tm es=true:=by
 simp only [wr,al] at h ⊢;refine ⟨aN.2 fun x hx=>?_,h.2⟩
 cases hm:dn es x with
 | false=>rfl
 | true=>exact (dQ h.1 hx (a x (dH.1 hm))).elim
include hY in
theorem Di {g} {s} {o} {a} {w} {K} (hI:YI Y g s a w) (r:∀ d,o.dst=some d->d<Y.nt) (p:wr Y.tm o.dst.toList=true) (h:Md Y g s o K)
  (hn:∀ g' s' a' w',K g' s'->YI Y g' s' a' w'->next a' w'):o.wpIn Y.F Y.n Y.P a w next Q:=by
 obtain ⟨W0,hJ,A,H,hgs⟩:=hI.inv hY.round;have hG:=hY.base W0 hgs;unfold Md at h;split at h
 ·rename_i c d X L;split at h
  ·rename_i f D;split at h
   ·rename_i k vs hvs;obtain ⟨hf,x,hx,hxv,hK1,hK2⟩:=h;obtain ⟨⟨cx,q,N⟩,B,hdf⟩:=A
    have Z:a.eval f = .func (.yield Y.l) #[] #[]:=by
     have:=cq N f;rw [hf] at this;have this:RD cx.m _ _:=this;generalize a.eval f=u at this;cases this;rfl
    have M:=vb (c:=cx) (ρ:=a.eval) (fun y _=>cq N y) hvs;have hJw:Y.J k w:=hY.ab k W0 w hJ ⟨q.ext.toBelow H,H.more⟩;have hmw:Y.m.sub w:=⟨fun b o v U=>q.sub.cell b o v (q.le0.cell b o v U),fun b x U=>q.sub.map b x (q.le0.map b x U)⟩;obtain ⟨fn,tmps,assign,body,hy,hR⟩:=hY.yld k x w hx hJw hmw
    have i:c.args.map a.eval=Y.vals x:=by
     rw [<- hxv,<- M];apply tT;simp
    have E:(execOp a.eval o).run Y.P w = .ok (.round Y.l fn tmps assign body) w:=by
     simp only [execOp,X,aD,resolve,D,Z,Deferred.ofValue,aL,aw,invoke,i];simpa using hy
    refine ⟨fun f _=>hG.fn f,?_⟩;rw [kW _ _ _ (by grind),E,Oper.uponIn_round];refine ⟨fun h=>(by rw [show Y.F.depth=none from hG.depth] at h; cases h),hR.mono ?_⟩
    have fin:∀ (b:Bool) (w':World),Y.m.sub w'->(bif !b then Y.Jx (Y.nxt k x) w' else Y.J (Y.nxt k x) w')->YI Y (!b,Y.nxt k x) ⟨(d,.bool b)::(Y.tm++ly s.t),[]⟩ (a.put o.dst (.bool b)) w':=by
     intro b w' hm hj;have G:d<a.tmps.size:=by rw [B]; exact r d L
     have hF:FT o.dst.toList a (a.put o.dst (.bool b)):=FT.put ⟨_,rfl⟩;simp only [wr,al] at p
     have htm':∀ (d:Nat) (x:AV),get Y.tm d=some x->RD Y.m x ((a.put o.dst (.bool b)).tmps.getD d Go.undef):=fun e y hy=>by
      have hk:e∈f7 Y.tm:=fq.2 (by rw [hy]; simp);rw [hF.tmps (fun hc=>dQ p.1 (aS _ hk) hc) (fun hc=>dQ p.2 dc (hc ▸ hk))];exact hI.tm e y hy
     refine ⟨⟨w',hj,⟨⟨_,nO (Γ:=Y.base w') hm rfl,fun e y hy=>?_⟩,by rw [fI]; exact B⟩,.refl _,hG.gm.sub hm⟩,htm',by rw [er]; exact hI.df⟩;refine RC.of_RD (c:=⟨_,_,_,Y.m,_,_⟩) ?_;simp only [bf] at hy;split at hy
     ·rename_i j;cases hy;rw [L,fM _ _ _ _ G,aV j];exact RD.bool b
     ·rename_i j;rw [eI] at hy
      cases hg:get Y.tm e with
      | some z=>grind
      | none=>
       rw [hg] at hy;rw [L,fM _ _ _ _ G,aY j];exact Jr hy fun z hz=>N e z hz
    rintro e w' (⟨rfl,hj,hm⟩ | ⟨rfl,hj,hm⟩)
    ·exact hn _ _ _ _ hK1 (fin true w' hm hj)
    ·exact hn _ _ _ _ hK2 (fin false w' hm hj)
   ·exact h.elim
  ·exact h.elim
 ·exact h.elim
end
open Go
open Go.RowKit (Below)
section
variable {ι α:Type} {Y:YB ι α} (hY:Y.OK) {T:eX} (hT:T.OK Y.P) {keep:List Nat} {Q:Exit->Act->World->Prop} {next:Act->World->Prop}
include hY hT in
theorem jK {all:List Oper} {guards:List Nat} (b:∀ j d,jx all j=some d->d<Y.nt) (i:wr Y.tm (eJ all)=true):∀ (l:List Oper) (k:Nat) (g:s4 ι) (s:St) (a:Act) (w:World) (K:s4 ι->St->Prop),
  (∀ j,l[j]?=all[k+j]?)->rT Y T all guards l g s K->YI Y g s a w->(∀ z s' t w',K z s'->YI Y z s' t w'->Q .normal t w')->wpOpsIn Y.F Y.n Y.P all.toArray Q (List.range' k l.length) a w
 | [],k,g,s,a,w,K,_,h,u,v=>v g s a w h u
 | o::rest,k,g,s,a,w,K,hk,h,u,v=>by
  have H:all.toArray[k]?=some o:=by simpa using (hk 0).symm
  have h0':all[k]?=some o:=by simpa using H
  have hk':∀ j,rest[j]?=all[k+1+j]?:=fun j=>by have:=hk (j+1); simpa [d3,oc 1 j] using this
  have e:∀ d,o.dst=some d->d<Y.nt:=fun d E=>b k d (by rw [eK,h0']; exact E);have m:wr Y.tm o.dst.toList=true:=qy i fun d E=>iZ h0' E;obtain ⟨y,G,c,x,r⟩:=u.inv hY.round;have hG:=hY.base y r;simp only [bu,fj,wpOpsIn,H];simp only [rT] at h;split at h
  ·rename_i D;rw [dC (Γ:=Y.base y) b c 0 D am];simp only [ei,cR]
   cases hy:rP s o with
   | true=>
    rw [hy,aP] at h;exact Di hY u e m h fun z s' t w' A p=>jK b i rest (k+1) z s' t w' K hk' A p v
   | false=>
    rw [hy,bq] at h;refine eL (Γ:=Y.base y) hG hT rfl c e h ?_;intro s' t w' A p L J;rw [uQ] at A;obtain ⟨s2,q,hle⟩:=ja A;exact jK b i rest (k+1) g s2 t w' K hk' q ((u.put G p J (x.trans L) r m).less hle) v
  ·rename_i D;rw [dC (Γ:=Y.base y) b c 1 D am];simp only [Nat.reduceBEq,br,cv];obtain ⟨s2,q,B⟩:=fY c e h;exact ⟨fun f _=>hG.fn f,jK b i rest (k+1) g s2 _ w K hk' q (u.put G B ⟨_,rfl⟩ x r m) v⟩
  ·exact h.elim
include hY hT in
theorem fB:∀ (c:Code) (g:s4 ι) (s:St) (K:Exit->s4 ι->St->Prop),dL Y.nt c=true->wr Y.tm (p0 c)=true->Jz Y T keep c g s K->YP Y g s c K
 | .skip,g,s,K,_,_,h=>YP.pure wpIn_skip h
 | .label _,g,s,K,_,_,h=>YP.pure wpIn_label h
 | .ret,g,s,K,_,_,h=>YP.pure wpIn_ret h
 | .exit j,g,s,K,_,_,h=>YP.pure wpIn_exit h
 | .seq a b,g,s,K,f,i,h=>by
  simp only [dL,al] at f;refine YP.seq (fB a g s _ f.1 (qy i fun d m=>bc _ m) h) (fun p s' u=>fB b p s' K f.2 (qy i fun d m=>bh _ m) u) (fun e p s' he u=>?_);grind
 | .cond c x y,g,s,K,f,o,h=>by
  simp only [dL,al] at f;intro a w n;simp only [Jz] at h;split at h
  ·rename_i t i;obtain ⟨A,E,⟨⟨v,B,r⟩,_⟩,_⟩:=n.inv hY.round
   have he:RC v (.bool t) (a.eval c):=by
    have:=cq r c;rwa [i] at this
   exact Do he.bool (fun g1=>fB x g s K f.1 (qy o fun d m=>bc _ m) (h.1 g1) a w n) (fun g1=>fB y g s K f.2 (qy o fun d m=>bh _ m) (h.2 g1) a w n)
  ·exact h.elim
 | .block id c,g,s,K,f,i,h=>YP.block (fB c g s _ (by simpa [dL] using f) (by simpa [p0] using i) h)
 | .region id ops false,g,s,K,f,i,h=>by
  intro a w n;obtain ⟨l⟩:=ops;refine fT ?_;rw [show (⟨l⟩:Array Oper).size=l.length from rfl,db];refine jK hY hT (eB f) i l 0 g s a w _ (fun j=>by simp) h n ?_;intro p s' D w' z q;obtain ⟨s2,h2,hle⟩:=ek z;exact ⟨p,s2,q.less hle,h2⟩
 | .region _ _ true,g,s,K,_,_,h=>h
 | .loop c,g,s,K,_,_,h=>h
 | .rangeFunc _ _ _ _,g,s,K,_,_,h=>h
 | .scope c,g,s,K,_,_,h=>h
 | .goto _,g,s,K,_,_,h=>h
 | .refuse _,g,s,K,_,_,h=>h
end
structure iL (n:Nat) (e:Exit) (g:s4 Nat) (s:St):Prop where
 ex:e = .ret\/e = .normal
 all:g=(false,n)\/g.1=true
theorem L4.of {P} {T:eX} (hT:T.OK P) {α:Type} {vals:α->Array Value} {f:FuncId} {fn:Func} {body:Code} {cap:List AV} {items:List α} (keep:List Nat) (hf:P.funcs[f]?=some fn) (hb:fn.body=some body)
  (j:(fn.name == "runtime.NumGoroutine")=false) (hm:P.follows .mixedOrders=true) (L:dL fn.ntmps body=true) (hn:cap.length+1<=fn.ntmps) (q:fn.results=#[])
  (U:∀ l:Nat,wr (params 0 (.lit (.func (.yield l) #[] #[])::cap)) (p0 body)=true)
  (h:∀ (F:Fence) (n:Nat) (m:d5) (l:Nat) (J Jx:Nat->World->Prop),YB.OK ⟨P,F,n,fn.ntmps,m,l,J,Jx,fun k x=>items[k]?=some x,fun k _=>k+1,vals,params 0 (.lit (.func (.yield l) #[] #[])::cap)⟩ ->
   Jz ⟨P,F,n,fn.ntmps,m,l,J,Jx,fun k x=>items[k]?=some x,fun k _=>k+1,vals,params 0 (.lit (.func (.yield l) #[] #[])::cap)⟩ T keep body (false,0) ⟨params 0 (.lit (.func (.yield l) #[] #[])::cap),[]⟩ fun e g s=>iL items.length e g s):L4 P vals f cap items:=by
 refine ⟨jz hf j hb,fun m lb hl hr F n r D N w l J Jx W hs E t b z G=>?_⟩
 let Y:YB Nat α:=⟨P,F,n,fn.ntmps,m,l,fun k=>J (items.take k),fun _=>Jx,fun k x=>items[k]?=some x,fun k _=>k+1,vals,params 0 (.lit (.func (.yield l) #[] #[])::cap)⟩
 have hY:Y.OK:=⟨fun W hgs=>⟨r,D,N,hm,E,hgs⟩,w,fun k A H h1 h2=>t _ A H h1 h2.toI,fun _ A H h1 h2=>b A H h1 h2.toI,fun k x A hx i hm=>by
  have hlt:=(aq.1 hx).1;have hxx:=(aq.1 hx).2;have X:items.take (k+1)=items.take k++[x]:=by rw [eN,hx]; rfl
  have hz:=z _ x A ⟨items.drop (k+1),by grind [List.drop_eq_getElem_cons,List.take_append_drop]⟩ i hm;rw [<- X] at hz;obtain ⟨fn,tmps,Z,bd,q1,q2⟩:=hz;exact ⟨fn,tmps,Z,bd,q1,q2.mono fun e W' h=>h.imp (fun ⟨h1,h2,h3,_⟩=>⟨h1,h2,h3⟩) id⟩⟩
 have hp:=fB hY hT body _ _ _ L (U l) (h F n m l _ _ hY)
 have y:∀ (d:Nat) (x:AV),get (params 0 (.lit (.func (.yield l) #[] #[])::cap)) d=some x->RD m x ((#[Value.func (.yield l) #[] #[]]++lb++Array.replicate (fn.ntmps - (#[Value.func (.yield l) #[] #[]]++lb).size) Go.undef).getD d Go.undef):=by
  intro d x hx;obtain ⟨_,h2⟩:=lh _ _ _ _ hx;simp only [sm] at h2;have hdl:=(aq.1 h2).1;simp only [bu] at hdl;rw [aJ,c9 (by simp; omega)]
  cases d with
  | zero=>
   simp at h2;subst h2;rw [c9 dc];exact .lit (.func (.yield l) #[] #[]) rfl rfl
  | succ d=>
   grind
 refine callsIn_of_wp hf hb (r f) (dm (hp _ W ⟨⟨W,G,⟨⟨_,nO (Γ:=Y.base W) hs rfl,fun d x hx=>RC.of_RD (c:=⟨_,_,_,m,_,_⟩) (y d x hx)⟩,?_⟩,.refl _,E.sub hs⟩,y,rfl⟩) ?_) w
 ·grind [YB.base,Array.size_append,Array.size_replicate,List.size_toArray,List.length_cons,List.length_nil]
 ·rintro e a' w' ⟨g',s',hI,⟨he,B⟩⟩
  have o:a'.defers=[]/\∃ v,(results fn a'.tmps).run P w' = .ok v w'/\((∃ u,Ending.returned v = .returned u)/\((∃ p,p=items/\J p w')\/Jx w')):=by
   refine ⟨hI.df,.tuple #[],by simp [results,q],⟨_,rfl⟩,?_⟩;obtain ⟨W0,i,M,a,_⟩:=hI.ex;obtain ⟨⟨c,hW,_⟩,_⟩:=M;rcases B with rfl | hg
   ·exact .inl ⟨items,rfl,t _ _ _ (by have i:J (items.take items.length) W0:=i; rwa [ej] at i) (Gr.toI ⟨hW.ext.toBelow a,a.more⟩)⟩
   ·rw [hg] at i;exact .inr (b _ _ i (Gr.toI ⟨hW.ext.toBelow a,a.more⟩))
  rcases he with rfl | rfl <;> exact o
open Go
def leT {α:Type} (t:List (Nat×α)):List (Nat×α)->Prop
 | []=>True
 |(d,v)::r=>get t d=some v/\leT t r
theorem zY {α:Type} {t:List (Nat×α)}:∀ {a:List (Nat×α)},leT t a->∀ d x,get a d=some x->get t d=some x
 | [],_,d,x,h=>by simp [get] at h
 |(e,v)::r,h,d,x,hx=>by
  rw [bf] at hx;split at hx
  ·rename_i b; subst b; cases hx; exact h.1
  ·exact zY h.2 d x hx
theorem St.le.of {s s':St} (a:leT s.t s'.t) (c:leT s.b s'.b):s.le s':=⟨zY a,fun d cs h _=>zY c d cs h⟩
open Go
theorem ar.args {P} {f} {us bs} {r} (h:ar P f bs r) (hl:us.length=bs.length) (c:∀ (i:Nat) (a b:AV),us[i]?=some a->bs[i]?=some b->a.weak b):ar P f us r:=by
 refine ⟨h.1,fun m w vs e j hlen d=>h.2 m w vs e j (hl ▸ hlen) fun i x v h1 h2=>?_⟩;have hi:i<us.length:=by rw [hl]; exact (aq.1 h1).1
 exact c i _ x (ai hi) h1 m v (d i _ v (ai hi) h2)
theorem AV.weak.sl {o} {sz} {xs}:(AV.sl o sz xs).weak (.sl .no sz xs):=fun _ _ h=>h.no
inductive bF:List AV->List AV->Prop
 | nil:bF [] []
 | cons {a b:AV} {us c:List AV} (h:a.weak b) (t:bF us c):bF (a::us) (b::c)
theorem bF.refl:∀ l:List AV,bF l l
 | [] => .nil
 | a::l => .cons (.refl a) (bF.refl l)
theorem bF.spec {us bs} (h:bF us bs):us.length=bs.length/\∀ (i:Nat) (a b:AV),us[i]?=some a->bs[i]?=some b->a.weak b:=by
 induction h with
 | nil=>exact ⟨rfl,by simp⟩
 | cons h t c=>
  grind
theorem ar.weak {P} {f} {us bs} {r} (h:ar P f bs r) (a:bF us bs):ar P f us r:=h.args a.spec.1 a.spec.2
theorem ar.sl0 {P} {f} {o} {sz} {xs} {us} {r} (h:ar P f (.sl .no sz xs::us) r):ar P f (.sl o sz xs::us) r:=h.weak (.cons .sl (.refl _))
open Go
section
variable {P:Program} {b:Frame} {a:Act} {k:List Item} {cs:List Frame} {w:World} {F:Fence} {n:Nat} {Q:Exit->Act->World->Prop}
theorem j7 {c}:step P (lone (b.atR a (.code (.scope c)::k)) cs w) = .next (lone (b.atR a (.code c :: .inScope c::k)) cs w):=
 step_lone_go (by simp [stepG,stepG.exec,Frame.atR])
theorem Bo {c}:step P (lone (b.atR a (.inScope c::k)) cs w) = .next (lone (b.atR a k) cs w):=
 step_lone_go (by simp [stepG,stepG.exec,Frame.atR])
theorem Mh {c} (h:c.wpIn F n P (fun e a w=>(∀ l,e≠.goto l)/\Q e a w) a w):(Code.scope c).wpIn F n P Q a w:=by
 intro b k cs r q p;have f:(lone (b.atR a (.code (.scope c)::k)) cs w).fenced P F:=fenced_calm q p rfl;obtain ⟨e,m,i,⟨t,j⟩,d⟩:=h b (.inScope c::k) cs r q p
 cases e with
 | normal=>exact ⟨.normal,m,i,j,.head f j7 (StepsIn.trans d (.one (fenced_calm q p rfl) Bo))⟩
 | exit id=>
  have hx:exitTo id (.inScope c::k)=exitTo id k:=by simp [exitTo]
  exact ⟨.exit id,m,i,j,fun k' hk => .head f j7 (d.1 k' (by rw [hx]; exact hk)),
   fun o hk=>let ⟨k₁,h1,h2⟩:=d.2 o (by rw [hx]; exact hk); ⟨k₁,h1,.head f j7 h2⟩⟩
 | goto l=>exact absurd rfl (t l)
 | ret=>exact ⟨_,m,i,j,.of_steps (.one f j7) d⟩
 | panic u=>exact ⟨_,m,i,j,.of_steps (.one f j7) d⟩
 | outgrown=>exact ⟨_,m,i,j,.of_steps (.one f j7) d⟩
end
theorem SP.scope {Γ} {s} {c} {K} (h:SP Γ s c fun e s'=>(∀ l,e≠.goto l)/\K e s'):SP Γ s (.scope c) K:=by
 intro a w d;refine Mh (dm (h a w d) ?_);rintro e m w' ⟨h1,h2,s',f,i,j⟩;exact ⟨i,h1,h2,s',f,j⟩
theorem SP.scopeEnds {Γ} {s} {c} {T} {rs} {r} (h:SP Γ s c (Ends T rs r)):SP Γ s (.scope c) (Ends T rs r):=by
 refine SP.scope fun a w f=>dm (h a w f) ?_;rintro e j w' ⟨h1,h2,s',i,d⟩;exact ⟨h1,h2,s',i,fun l hl=>by rcases d.ex with h | h <;> (rw [h] at hl; cases hl),d⟩
open Go Go.ChangeShapes Go.WideShapes Go.RowKit
inductive Sh where
 | int (k:IntKind) | bool | str | sl (e:List Sh)
def Fa {α β:Type} (R:α->β->Prop):List α->List β->Prop
 | [],[]=>True
 | a::l,b::r=>R a b/\Fa R l r
 | _,_=>False
theorem Fa.mono {α β:Type} {R S:α->β->Prop} (h:∀ a b,R a b->S a b):∀ {l:List α} {r:List β},Fa R l r->Fa S l r
 | [],[],_=>trivial
 | _::_,_::_,g=>⟨h _ _ g.1,Fa.mono h g.2⟩
 | [],_::_,g=>g
 | _::_,[],g=>g
theorem Fa.length {α β:Type} {R:α->β->Prop}:∀ {l:List α} {r:List β},Fa R l r->l.length=r.length
 | [],[],_=>rfl
 | _::_,_::_,g=>by simp [Fa.length g.2]
 | [],_::_,g=>g.elim
 | _::_,[],g=>g.elim
theorem Fa.append {α β:Type} {R:α->β->Prop}:∀ {l l2:List α} {r a:List β},Fa R l r->Fa R l2 a->Fa R (l++l2) (r++a)
 | [],_,[],_,_,h=>h
 | _::_,_,_::_,_,g,h=>⟨g.1,Fa.append g.2 h⟩
 | [],_,_::_,_,g,_=>g.elim
 | _::_,_,[],_,g,_=>g.elim
theorem Fa.mem {α β:Type} {R:α->β->Prop}:∀ {l:List α} {r:List β},Fa R l r->∀ b∈r,∃ a,R a b
 | [],[],_,_,h=>nomatch h
 | a::_,b::_,g,c,h=>by
  rcases bC.1 h with rfl | h
  ·exact ⟨a,g.1⟩
  ·exact Fa.mem g.2 c h
 | [],_::_,g,_,_=>g.elim
 | _::_,[],g,_,_=>g.elim
def kP:Nat->Sh->AV->Prop
 | 0,_,_=>False
 | _+1,.int k,a=>∃ z,a = .int k z/\k.min<=z/\z<=k.max
 | _+1,.bool,a=>∃ b,a = .bool b
 | _+1,.str,a=>∃ s,a = .str s
 | n+1,.sl e,a=>∃ xs,a = .sl .no e.length xs/\xs.length<=9223372036854775807/\∀ x∈xs,Fa (kP n) e x
theorem kP.mono:∀ {n:Nat} {s:Sh} {a:AV},kP n s a->kP (n+1) s a
 | 0,_,_,h=>h.elim
 | _+1,.int _,_,h=>h
 | _+1,.bool,_,h=>h
 | _+1,.str,_,h=>h
 | n+1,.sl e,a,h=>by
  obtain ⟨xs,h1,b,h2⟩:=h;exact ⟨xs,h1,b,fun x hx=>(h2 x hx).mono fun _ _=>kP.mono⟩
theorem kP.cell:∀ {n:Nat} {s:Sh} {a:AV},kP n s a->a.isCell=true
 | 0,_,_,h=>h.elim
 | _+1,.int _,_,⟨_,h,_⟩=>by rw [h]; rfl
 | _+1,.bool,_,⟨_,h⟩=>by rw [h]; rfl
 | _+1,.str,_,⟨_,h⟩=>by rw [h]; rfl
 | _+1,.sl _,_,⟨_,h,_⟩=>by rw [h]; rfl
def qC (P:Program) (g:TypeId->Option (List Sh)):List Field->Nat->Option (List Sh)
 | [],_=>some []
 | f::r,off=>match g f.type with
  | some l=>bif Nat.beq f.offset off&&Nat.beq l.length (P.cellsOf f.type) then (match qC P g r (off+l.length) with | some l2=>some (l++l2) | none=>none) else none
  | none=>none
def Zi {α:Type}:Nat->List α->List α
 | 0,_=>[]
 | n+1,l=>l++Zi n l
def Ii (P:Program):Nat->TypeId->Option (List Sh)
 | 0,_=>none
 | n+1,t=>match P.underlying t with
  | some .bool=>some [.bool]
  | some (.int k)=>some [.int k]
  | some .string=>some [.str]
  | some (.slice e)=>match Ii P n e with
   | some (a::l)=>bif Nat.beq (P.cellsOf e) (l.length+1) then some [.sl (a::l)] else none
   | _=>none
  | some (.struct b)=>match qC P (Ii P n) b.toList 0 with
   | some l=>bif Nat.beq (P.cellsOf t) l.length then some l else none
   | none=>none
  | some (.array m e)=>match Ii P n e with
   | some l=>bif Nat.beq l.length (P.cellsOf e)&&Nat.beq (P.cellsOf t) (m*l.length) then some (Zi m l) else none
   | none=>none
  | _=>none
def k9 (w:World):d5:=⟨fun b o=>w.cell? ⟨b,o,none⟩,fun b=>match w.heap[b]? with | some (.map es k)=>some (es,k) | _=>none⟩
theorem Qu (w):(k9 w).sub w:=⟨fun _ _ _ h=>h,fun b x h=>by
 grind [k9]⟩
def kR (m:d5) (n:Nat) (L:List Sh) (cs:List Value):Prop:=∃ avs:List AV,Fa (kP n) L avs/\avs.length=cs.length/\∀ (i:Nat) (a:AV) (v:Value),avs[i]?=some a->cs[i]?=some v->RD m a v
theorem kR.mono {m} {n} {L} {cs} (h:kR m n L cs):kR m (n+1) L cs:=by
 obtain ⟨avs,h1,h2⟩:=h;exact ⟨avs,h1.mono fun _ _=>kP.mono,h2⟩
theorem kR.nil {m} {n}:kR m n [] []:=⟨[],trivial,rfl,by simp⟩
theorem kR.append {m} {n} {L L2} {cs cs2} (h:kR m n L cs) (g:kR m n L2 cs2):kR m n (L++L2) (cs++cs2):=by
 obtain ⟨avs,h1,h2,d⟩:=h;obtain ⟨b,g1,g2,g3⟩:=g;refine ⟨avs++b,h1.append g1,by simp [h2,g2],fun i a v c e=>?_⟩;grind
theorem kR.one {m} {n} {s} {a} {v} (h:kP n s a) (b:RD m a v):kR m n [s] [v]:=
 ⟨[a],⟨h,trivial⟩,rfl,fun i x u h1 h2=>by
  grind⟩
section
variable {H:Type} {enc:TypeId×Value->H} {P:Program} {w:World} {sp:Nat->Bool} {held:Bool}
theorem uA {n:Nat} {g:TypeId->Option (List Sh)} {fuel:Nat} (j:∀ t L cs x,g t=some L->DataW.trod enc P w 0 sp held fuel t cs=some x->kR (k9 w) n L cs) :
  ∀ (m:List Field) (off:Nat) (L:List Sh) (cs:List Value),qC P g m off=some L->cs.length=off+L.length->(∀ f∈m,∃ x,DataW.trod enc P w 0 sp held fuel f.type ((cs.drop f.offset).take (P.cellsOf f.type))=some x) ->
  kR (k9 w) n L (cs.drop off)
 | [],off,L,cs,h,hl,_=>by
  simp only [qC,aB] at h;subst h;rw [c7 (by simp at hl; omega)];exact .nil
 | f::r,off,L,cs,h,hl,hx=>by
  simp only [qC] at h;split at h
  ·rename_i l e
   cases a:(Nat.beq f.offset off&&Nat.beq l.length (P.cellsOf f.type)) with
   | false=>rw [a] at h; cases h
   | true=>
    rw [a,aP] at h;have i:=ak (qr.1 a).1;have d:=ak (qr.1 a).2;split at h
    ·rename_i l2 b;simp only [aB] at h;subst h;obtain ⟨x,c⟩:=hx f aW;have h1:=j _ _ _ _ e c;rw [i,<- d] at h1;have h2:=uA j r _ _ cs b (by simp at hl; omega) (fun f hf=>hx f (aS _ hf));have:=h1.append h2;grind [List.drop_drop,List.take_append_drop]
    ·cases h
  ·cases h
theorem CO {n:Nat} {l:List Sh} {fuel:Nat} {e:TypeId} (c:∀ cs x,DataW.trod enc P w 0 sp held fuel e cs=some x->kR (k9 w) n l cs) (d:l.length=P.cellsOf e) :
  ∀ (k:Nat) (cs:List Value),cs.length=k*l.length->(∀ i,i<k->∃ x,DataW.trod enc P w 0 sp held fuel e ((cs.drop (i*P.cellsOf e)).take (P.cellsOf e))=some x)->kR (k9 w) n (Zi k l) cs
 | 0,cs,hl,_=>by
  have:cs=[]:=yN.1 (by simpa using hl);subst this;exact .nil
 | k+1,cs,hl,hx=>by
  obtain ⟨x,a⟩:=hx 0 am;simp only [SB,HN] at a;have h1:=c _ _ a
  have h2:=CO c d k (cs.drop (P.cellsOf e)) (by grind) (fun i hi=>by
   obtain ⟨x,b⟩:=hx (i+1) am;refine ⟨x,?_⟩;rw [List.drop_drop,<- b];grind)
  have:=h1.append h2;rwa [Ce] at this
theorem Da {a:Addr} (h:a.spot=none) (n):a.add n=⟨a.block,a.off+n,none⟩:=by
 obtain ⟨b,o,s⟩:=a;simp only at h;subst h;unfold Addr.add;grind
theorem qK:∀ (n:Nat) (t:TypeId) (L:List Sh),Ii P n t=some L->∀ (fuel:Nat) (cs:List Value) (x:DataW H×List MemPlace),DataW.trod enc P w 0 sp held fuel t cs=some x->kR (k9 w) n L cs
 | 0,_,_,h=>by cases h
 | n+1,t,L,h=>by
  intro fuel cs x hx;simp only [Ii] at h;split at h
  ·rename_i r;cases h;obtain ⟨b,rfl,_⟩:=DataW.trod_bool r hx;exact .one (a := .bool b) ⟨b,rfl⟩ (.bool b)
  ·rename_i k r;cases h;obtain ⟨z,rfl,_,Q⟩:=DataW.trod_int r hx;simp only [Lit.wf,al,aO] at Q;exact .one (a := .int k z) ⟨z,rfl,Q.1,Q.2⟩ (.int k z)
  ·rename_i r;cases h;obtain ⟨s,rfl,_⟩:=DataW.trod_string r hx;exact .one (a := .str s) ⟨s,rfl⟩ (.str s)
  ·rename_i e r;split at h
   ·rename_i a l hl
    cases p:Nat.beq (P.cellsOf e) (l.length+1) with
    | false=>rw [p] at h; cases h
    | true=>
     rw [p,aP] at h;cases h;have p:=ak p;rcases DataW.trod_slice r hx with ⟨rfl,_⟩ | ⟨d,len,cap,elems,rest,m,rfl,rfl,_,_,U,N,hel,E,_,_⟩
     ·refine .one (a := .sl .no (a::l).length []) ⟨[],rfl,by simp,by simp⟩ ?_;exact .sl _ _ _ _ _ _ (by intro k hk; cases hk) (by intro hk; cases hk) rfl (ba _) dc dc 0 0 am (fun _ _=>Go.undef) dc dc
     ·have y:∀ i,i<len->∃ ci,w.cells? 0 (d.add (i*P.cellsOf e)) (P.cellsOf e)=some ci/\kR (k9 w) n (a::l) ci:=by
       intro i hi;have:=E i hi;rw [ai am] at this;obtain ⟨ci,h1,h2⟩:=Option.bind_eq_some_iff.1 this;exact ⟨ci,h1,qK n e _ hl _ _ _ h2⟩
      let f:Nat->List AV:=fun i=>if h:i<len then Classical.choose (oQ (y i h)).2 else []
      have hf:∀ i,i<len->∃ ci,w.cells? 0 (d.add (i*P.cellsOf e)) (P.cellsOf e)=some ci/\Fa (kP n) (a::l) (f i)/\(f i).length=ci.length/\∀ (j:Nat) (c:AV) (v:Value),(f i)[j]?=some c->ci[j]?=some v->RD (k9 w) c v:=by
       intro i hi;refine ⟨_,(oQ (y i hi)).1,?_⟩;simp only [f,hi,dif_pos];exact oQ (oQ (y i hi)).2
      have hlen:∀ i,i<len->(f i).length=l.length+1:=fun i hi=>by
       obtain ⟨ci,_,h2,_⟩:=hf i hi;have:=h2.length;simpa using this.symm
      have u:0<len->d=⟨d.block,d.off,none⟩:=by
       intro D;obtain ⟨ci,h1,_⟩:=hf 0 D;have A:=(Wv h1).2.2 0 am;have hcl:=(Wv h1).2.1;rw [ai am] at A
       have:d.spot=none:=by
        simp only [SB,Addr.add,cR] at A;simp only [World.cell?] at A;split at A
        ·cases G:d.spot with
         | none=>rfl
         | some q=>grind
        ·cases A
       obtain ⟨b,o,s⟩:=d;simp only at this;subst this;rfl
      have B:∀ i j,i<len->j<P.cellsOf e->∀ ci,w.cells? 0 (d.add (i*P.cellsOf e)) (P.cellsOf e)=some ci->w.cell? ⟨d.block,d.off+i*P.cellsOf e+j,none⟩=ci[j]?:=by
       intro i j hi hj ci h1;have A:=(Wv h1).2.2 j hj;have G:d.spot=none:=by rw [u am]
       rw [Da G,Da rfl] at A;exact A
      have M:∀ (i:Nat) (x:List AV),((List.range len).map f)[i]?=some x->i<len/\x=f i:=by
       intro i x h;rw [aT] at h;obtain ⟨k,h1,h2⟩:=aA.1 h;obtain ⟨A,h4⟩:=aq.1 h1;simp only [SE] at A;simp only [List.getElem_range] at h4;subst h4;exact ⟨A,h2.symm⟩
      have F:∀ x∈(List.range len).map f,∃ i,i<len/\x=f i:=by
       intro x hx;obtain ⟨i,h1,h2⟩:=bp.1 hx;exact ⟨i,bz.1 h1,h2.symm⟩
      refine .one (a := .sl .no (a::l).length ((List.range len).map f)) ⟨_,rfl,by simp; unfold maxLen at N; omega,fun x hx=>?_⟩ ?_
      ·grind
      ·refine .sl _ _ _ _ len cap (by intro k hk; cases hk) (by intro hk; cases hk) dc U (fun x hx=>?_) (fun x hx c hc=>?_) d.block d.off (fun h=>by rw [<- u h]) (fun i j=>(w.cell? ⟨d.block,d.off+i*P.cellsOf e+j,none⟩).getD Go.undef) ?_ ?_
       ·grind
       ·obtain ⟨i,hi,rfl⟩:=F x hx;obtain ⟨ci,_,h2,_⟩:=hf i hi;obtain ⟨s,G⟩:=h2.mem c hc;exact G.cell
       ·intro i x j c h1 h2;obtain ⟨hi,rfl⟩:=M i x h1;have hj:j<P.cellsOf e:=by have:=(aq.1 h2).1; rw [hlen i hi] at this; omega
        obtain ⟨ci,g1,_,g3,_⟩:=hf i hi;have:=B i j hi hj ci g1;rw [ai (by grind)] at this;show w.cell? ⟨d.block,d.off+i*(l.length+1)+j,none⟩=_;rw [<- p,this]; rfl
       grind
   ·cases h
  ·rename_i fs r;split at h
   ·rename_i l hl
    cases p:Nat.beq (P.cellsOf t) l.length with
    | false=>rw [p] at h; cases h
    | true=>
     rw [p,aP] at h;cases h;have p:=ak p;obtain ⟨xs,m,rfl,_,hlen,J,hf⟩:=DataW.trod_struct r hx
     have:=uA (fuel:=m) (fun t L cs x h1 h2=>qK n t L h1 m cs x h2) fs.toList 0 _ cs hl am (fun f X=>by
      obtain ⟨i,hi1,hi2⟩:=cI X;have:=hf i f (by grind);grind)
     exact kR.mono (by simpa using this)
   ·cases h
  ·rename_i m e r;split at h
   ·rename_i l hl
    cases p:(Nat.beq l.length (P.cellsOf e)&&Nat.beq (P.cellsOf t) (m*l.length)) with
    | false=>rw [p] at h; cases h
    | true=>
     rw [p,aP] at h;cases h;have Z:=ak (qr.1 p).1;have hb2:=ak (qr.1 p).2;obtain ⟨xs,q,rfl,_,hlen,J,hf⟩:=DataW.trod_array r hx;refine kR.mono (CO (fun cs x h2=>qK n e l hl q cs x h2) Z m cs am (fun i hi=>?_));grind
   ·cases h
  ·cases h
end
open Go Go.ChangeShapes Go.WideShapes Go.RowKit
def vT (n:Nat):List (Bool×List Sh)->List AV->Prop
 | [],[]=>True
 |(b,L)::r,a::q=>(bif b then ∃ cs,a = .agg cs/\Fa (kP n) L cs else ∃ s,L=[s]/\kP n s a)/\vT n r q
 | _,_=>False
def o5 (P:Program) (n:Nat):List TypeId->Option (List (Bool×List Sh))
 | []=>some []
 | t::r=>match P.underlying t,Ii P n t,o5 P n r with
  | some (.struct _),some l,some q=>some ((true,l)::q)
  | some (.array _ _),some l,some q=>some ((true,l)::q)
  | some .bool,some [s],some q=>some ((false,[s])::q)
  | some (.int _),some [s],some q=>some ((false,[s])::q)
  | some .string,some [s],some q=>some ((false,[s])::q)
  | some (.slice _),some [s],some q=>some ((false,[s])::q)
  | _,_,_=>none
section
variable {H:Type} {enc:TypeId×Value->H} {P:Program} {w:World} {sp:Nat->Bool} {held:Bool} {r:Reach} {b0:Nat}
theorem PJ {n} {t} {L} {v} {d} {ps} (b:Ii P n t=some L) (hv:∃ cs,v = .agg cs/\cs.size=P.cellsOf t/\Row.okWide P w r b0 t cs) (h:DataW.Trod enc P w 0 sp held t v d ps) :
  ∃ a,(∃ cs,a = .agg cs/\Fa (kP n) L cs)/\RD (k9 w) a v:=by
 obtain ⟨cs,rfl,_,_⟩:=hv;obtain ⟨fuel,hf⟩:=h;obtain ⟨avs,h1,h2,c⟩:=qK n t L b fuel _ _ hf;simp only [Value.cells] at h2 c;refine ⟨.agg avs,⟨avs,rfl,h1⟩,.agg avs cs (by simpa using h2) (fun x hx=>?_) (fun i x v g1 g2=>c i x v g1 (by simpa using g2))⟩;obtain ⟨s,b⟩:=h1.mem x hx;exact b.cell
theorem ze {n} {t} {s} {v} {d} {ps} (c:Ii P n t=some [s]) (hv:v.cells=#[v]) (h:DataW.Trod enc P w 0 sp held t v d ps) :
  ∃ a,(∃ s',[s]=[s']/\kP n s' a)/\RD (k9 w) a v:=by
 obtain ⟨fuel,hf⟩:=h;obtain ⟨avs,h1,h2,b⟩:=qK n t [s] c fuel _ _ hf;rw [hv] at h2 b
 match avs,h1 with
 | [a],h1=>exact ⟨a,⟨s,rfl,h1.1⟩,b 0 a v rfl rfl⟩
 | [],h1=>exact h1.elim
 | _::_::_,h1=>exact h1.2.elim
theorem PI {n:Nat}:∀ (z:List TypeId) (sh:List (Bool×List Sh)),o5 P n z=some sh->∀ (vs:List Value) (ds:List (DataW H)) (ps:List MemPlace),DataW.TrodAll enc P w 0 sp held z vs ds ps ->
  (∀ (j:Nat) (t:TypeId) (v:Value),z[j]?=some t->vs[j]?=some v->Value.okWide P w r b0 t v) ->
  ∃ avs,vT n sh avs/\avs.length=vs.length/\∀ (i:Nat) (a:AV) (v:Value),avs[i]?=some a->vs[i]?=some v->RD (k9 w) a v
 | [],sh,h,vs,ds,ps,A,_=>by
  simp only [o5,aB] at h;subst h;obtain ⟨rfl,rfl,rfl⟩:=trodAll_nil A;exact ⟨[],trivial,rfl,by simp⟩
 | t::z,sh,h,vs,ds,ps,A,hv=>by
  obtain ⟨v,vs,d,D,p,q,rfl,rfl,rfl,y,o⟩:=trodAll_cons A;have e:=hv 0 t v rfl rfl
  have key:∀ (b:Bool) (L:List Sh) (rest:List (Bool×List Sh)),o5 P n z=some rest->sh=(b,L)::rest->(∃ a,(bif b then ∃ cs,a = .agg cs/\Fa (kP n) L cs else ∃ s,L=[s]/\kP n s a)/\RD (k9 w) a v) ->
    ∃ avs,vT n sh avs/\avs.length=(v::vs).length/\∀ (i:Nat) (a:AV) (u:Value),avs[i]?=some a->(v::vs)[i]?=some u->RD (k9 w) a u:=by
   rintro b L rest E rfl ⟨a,G,B⟩;obtain ⟨avs,h1,h2,F⟩:=PI z rest E vs D q o (fun j t v g1 g2=>hv (j+1) t v g1 g2);refine ⟨a::avs,⟨G,h1⟩,by simp [h2],fun i x u g1 g2=>?_⟩
   cases i with
   | zero=>simp at g1 g2; subst g1; subst g2; exact B
   | succ i=>exact F i x u (by simpa using g1) (by simpa using g2)
  simp only [o5] at h;split at h
  ·rename_i hu m f; cases h;exact key _ _ _ f rfl (by simpa using PJ m (by simpa [Value.okWide,hu] using e) y)
  ·rename_i hu m f; cases h;exact key _ _ _ f rfl (by simpa using PJ m (by simpa [Value.okWide,hu] using e) y)
  ·rename_i hu m f; cases h;exact key _ _ _ f rfl (by obtain ⟨b,rfl⟩:=okWide_bool hu e; simpa using ze m rfl y)
  ·rename_i hu m f; cases h;exact key _ _ _ f rfl (by obtain ⟨b,rfl⟩:=okWide_int hu e; simpa using ze m rfl y)
  ·rename_i hu m f; cases h;exact key _ _ _ f rfl (by obtain ⟨b,rfl⟩:=okWide_string hu e; simpa using ze m rfl y)
  ·rename_i hu m f; cases h;exact key _ _ _ f rfl (by obtain ⟨a,l,c,rfl⟩:=okWide_slice hu e; simpa using ze m rfl y)
  ·cases h
end
theorem C8 {H:Type} {enc:TypeId×Value->H} {P:Program} (hl:laidOutB P=true) {w w':World} (i:Below w.heap.size w w') {sp:Nat->Bool} :
  ∀ {e:List TypeId} {vs:List Value} {ds:List (DataW H)} {ps:List MemPlace},(∀ t∈e,P.readableRec t=true/\t<P.types.size)->DataW.TrodAll enc P w 0 (fun _=>true) true e vs ds ps->(∀ x∈ps,x.block<w.heap.size)->(∀ x∈ps,sp x.block=true) ->
   DataW.TrodAll enc P w' 0 sp true e vs ds ps
 | [],_,_,_,_,h,_,_=>by obtain ⟨rfl,rfl,rfl⟩:=trodAll_nil h; rfl
 | t::e,vs,ds,ps,f,h,b,c=>by
  obtain ⟨v,n,d,m,p,q,rfl,rfl,rfl,j,a⟩:=trodAll_cons h
  refine ⟨p,q,WideElems.Trod_stays hl (f t aW).1 (f t aW).2 j (fun x hx=>i.same (b x (bc _ hx))) (fun x hx=>c x (bc _ hx)),
   C8 hl i (fun t l=>f t (aS _ l)) a (fun x hx=>b x (bh _ hx)) (fun x hx=>c x (bh _ hx)),rfl⟩
open Go
inductive aI (Γ:cr) (s:St) (c:Code) (K:Exit->St->Prop):Prop
 | mk (h:SP Γ s c K)
section
variable {Γ:cr} {T:eX} {s:St} {K:Exit->St->Prop}
theorem aI.out {c} (h:aI Γ s c K):SP Γ s c K:=by cases h; assumption
theorem ip (a:Γ.OK) (b:T.OK Γ.P) (keep) {c} (d:dL Γ.nt c=true) (h:X6 Γ T keep c s K):aI Γ s c K:=⟨eM a b c s K d h⟩
theorem aI.skip (a:Γ.OK) (b:T.OK Γ.P) (h:K .normal s):aI Γ s .skip K:=ip a b [] rfl h
theorem aI.ret (a:Γ.OK) (b:T.OK Γ.P) (h:K .ret s):aI Γ s .ret K:=ip a b [] rfl h
theorem aI.exit (a:Γ.OK) (b:T.OK Γ.P) {j} (h:K (.exit j) s):aI Γ s (.exit j) K:=ip a b [] rfl h
theorem aI.seq {a b} (h:aI Γ s a fun e s'=>match e with | .normal=>aI Γ s' b K | e=>K e s'):aI Γ s (.seq a b) K:=
 ⟨SP.seq h.out (fun _ h=>h.out) (fun e s' he h=>by cases e <;> first | exact absurd rfl he | exact h)⟩
theorem aI.block {id} {c} (h:aI Γ s c fun e s'=>match e with
  | .exit j=>bif Nat.beq j id then K .normal s' else K (.exit j) s'
  | e=>K e s'):aI Γ s (.block id c) K:=by
 refine ⟨fun a w n=>abt (dm (h.out a w n) fun e p w' o=>?_)⟩;obtain ⟨i,f,s',b,d⟩:=o
 cases e with
 | exit j=>
  simp only at d;unfold Exit.inBlock
  cases m:Nat.beq j id with
  | true=>rw [m] at d; simp only [ak m,cR]; exact ⟨i,f,s',b,d⟩
  | false=>rw [m] at d; simp only [dk m,cv]; exact ⟨i,f,s',b,d⟩
 | normal=>exact ⟨i,f,s',b,d⟩
 | goto l=>exact ⟨i,f,s',b,d⟩
 | ret=>exact ⟨i,f,s',b,d⟩
 | panic c=>exact ⟨i,f,s',b,d⟩
 | outgrown=>exact ⟨i,f,s',b,d⟩
theorem aI.cond {c} {x y} {t} (l:ev s c = .bool t) (h:(t=true->aI Γ s x K)/\(t=false->aI Γ s y K)):aI Γ s (.cond c x y) K:=by
 refine ⟨fun a w e=>?_⟩;obtain ⟨j,m,i⟩:=e.ex
 have he:RC j (.bool t) (a.eval c):=by
  have:=cq i c;rwa [l] at this
 exact Do he.bool (fun g=>dm ((h.1 g).out a w e) fun _ _ _ ⟨h1,h2,f⟩=>⟨h1,h2.mono fun d b=>bc _ b,f⟩)
  (fun g=>dm ((h.2 g).out a w e) fun _ _ _ ⟨h1,h2,f⟩=>⟨h1,h2.mono fun d b=>bh _ b,f⟩)
theorem cc {c} {x y} (a:ev s c = .bool true) (h:aI Γ s x K):aI Γ s (.cond c x y) K:=aI.cond a ⟨fun _=>h,fun h=>Bool.noConfusion h⟩
theorem ce {c} {x y} (a:ev s c = .bool false) (h:aI Γ s y K):aI Γ s (.cond c x y) K:=aI.cond a ⟨fun h=>Bool.noConfusion h,fun _=>h⟩
theorem oJ (a:Γ.OK) (b:T.OK Γ.P) (keep) {id} {ops} (d:dL Γ.nt (.region id ops true)=true) (h:rV T (ar Γ.P) (bW Γ.P) [] keep ops.toList s (K .normal)):aI Γ s (.region id ops true) K:=
 ip a b keep d h
theorem aI.reg (b:Γ.OK) (d:T.OK Γ.P) (keep) {id} {ops} (a:dL Γ.nt (.region id ops false)=true)
  (h:li T (ar Γ.P) (bW Γ.P) ops.toList (dI ops.toList ops.toList) ops.toList s fun s'=>gt keep s' (K .normal)):aI Γ s (.region id ops false) K:=ip b d keep a h
theorem nk (i:Γ.OK) (m:T.OK Γ.P) (keep b:List Nat) {id} {ops} (e:dL Γ.nt (.region id ops false)=true)
  (h:li T (ar Γ.P) (bW Γ.P) ops.toList (b.map (1000000000+·)++dI ops.toList ops.toList) ops.toList s fun s'=>gt keep s' (K .normal)):aI Γ s (.region id ops false) K:=by
 refine ⟨fun a w f=>?_⟩;obtain ⟨l⟩:=ops;refine fT ?_;rw [show (⟨l⟩:Array Oper).size=l.length from rfl,db];refine kG i m (eB e) l 0 s a w _ (fun j=>by simp) h f ?_;intro s' q w' n d o p;obtain ⟨s2,h2,hle⟩:=ek n;exact ⟨o,p,s2,d.less hle,h2⟩
theorem aI.loop {c} {X:Type} (sh:X->St) (I:X->Prop) (μ:X->Nat) (x0) (b:I x0) (hle:s.le (sh x0))
  (body:∀ x,I x->aI Γ (sh x) c fun e s'=>match e with | .normal=>∃ a,I a/\μ a<μ x/\s'.le (sh a) | e=>K e s'):aI Γ s (.loop c) K:=
 ⟨SP.loop sh I μ x0 b hle fun x hx=>(body x hx).out⟩
theorem aI.le {c} {s'} (hle:s.le s') (h:aI Γ s' c K):aI Γ s c K:=⟨fun a w b=>h.out a w (b.less hle)⟩
theorem aI.scopeEnds {c} {rs} {r} (h:aI Γ s c (Ends T rs r)):aI Γ s (.scope c) (Ends T rs r):=⟨SP.scopeEnds h.out⟩
end
theorem ar.ofB {P} {T} (b:T.OK P) {f} {fn} {body} {args} {r} (hf:P.funcs[f]?=some fn) (e:fn.body=some body)
  (a:(fn.name == "runtime.NumGoroutine")=false) (hm:P.follows .mixedOrders=true) (i:args.length<=fn.ntmps)
  (h:∀ (F:Fence) (n:Nat) (w0:World) (m0:d5),cr.OK ⟨P,F,n,w0,m0,fn.ntmps⟩->F.round=none->1<=n->aI ⟨P,F,n,w0,m0,fn.ntmps⟩ ⟨params 0 args,[]⟩ body (Ends T fn.results.toList r)):ar P f args r:=
 ar.ofSP b hf e a hm i fun F n w0 m0 hG d h1=>(h F n w0 m0 hG d h1).out
open Go
theorem bI {o} {sz sz'}:(AV.sl o sz []).weak (.sl .no sz' []):=fun m v h=>by
 cases h with
 | sl _ _ _ base len cap i hf hl e f a b off d g hm j=>
  exact .sl _ _ _ _ _ _ (by intro k hk; cases hk) (by intro hk; cases hk) hl e dc dc b off d g dc dc
open Go
section
variable {Γ:cr} {T:eX} {s:St} {K:Exit->St->Prop}
theorem aI.cut {c} {X:Type} (sh:X->St) (P:X->Prop) (h:aI Γ s c fun e s'=>e = .normal/\∃ x,P x/\s'.le (sh x)) (k:∀ x,P x->K .normal (sh x)):aI Γ s c K:=by
 refine ⟨fun a w d=>dm (h.out a w d) ?_⟩;rintro e j w' ⟨f,i,s',b,rfl,x,hx,hle⟩;exact ⟨f,i,sh x,b.less hle,k x hx⟩
theorem aI.frz {c} (l) (h:kC s l fun s'=>aI Γ s' c K):aI Γ s c K:=by
 refine ⟨fun a w b=>?_⟩;obtain ⟨s',h1,h2⟩:=hX _ _ h b;exact h1.out a w h2
end
open Go
section
variable {Γ:cr} {c:dM} {bx:List (Nat×List AV)} {w:World}
theorem WI.rebox (l:WI Γ c bx w) {d} {cs n} (h:get bx d=some cs) (j:cs≠[]) (hl:n.length=cs.length) (F:∀ x∈n,x.isCell=true)
  (D:∀ (vs:Array Value),(∀ (i:Nat) (x:AV) (v:Value),cs[i]?=some x->vs[i]?=some v->fD c x v)->∀ (i:Nat) (x:AV) (v:Value),n[i]?=some x->vs[i]?=some v->fD c x v):WI Γ c ((d,n)::bx) w:=by
 obtain ⟨h1,h2,G,vs,T,A,B,E⟩:=l.box d cs h j;refine ⟨l.ext,l.sub,l.le0,l.new,fun q ds a f=>?_,fun d1 d2 c1 c2 g1 g2 n1 n2 r=>?_,fun k=>?_,fun k b o hx=>?_⟩
 ·rw [bf] at a;split at a
  ·rename_i u;subst u;cases a;exact ⟨h1,h2,F,vs,T,A,hl.trans B,D vs E⟩
  ·exact l.box q ds a f
 ·rw [bf] at g1 g2;split at g1
  ·rename_i y;split at g2
   ·rename_i t; rw [y,t]
   ·rename_i t;rw [y] at r ⊢;exact l.inj d d2 cs c2 h g2 j n2 r
  ·rename_i y;split at g2
   ·rename_i t;rw [t] at r ⊢;exact l.inj d1 d c1 cs g1 h n1 j r
   ·exact l.inj d1 d2 c1 c2 g1 g2 n1 n2 r
 ·have p:=l.own k;refine ⟨p.blk,p.shape,fun g q ds z a f=>?_,p.apart⟩;rw [bf] at a;split at a
  ·rename_i e; rw [e]; exact p.box g d cs z h j
  ·exact p.box g q ds z a f
 ·have m:=l.xo k b o hx;refine ⟨m.new,m.obj,m.kept,m.mem,m.map,fun q ds a f=>?_,m.own,m.inj⟩;rw [bf] at a;split at a
  ·rename_i e; rw [e]; exact m.box d cs h j
  ·exact m.box q ds a f
end
section
variable {Γ:cr} {T:eX} {s:St} {K:Exit->St->Prop}
theorem Oj {c} (k d) {b} {rows} (h1:get s.t (xk k)=some (.me .ents k b rows)) (h2:get s.b d=some [.lit (.map (some b))]) (h:aI Γ ⟨jC (AV.unme k) s.t,(d,[.mapv rows])::s.b⟩ c K):aI Γ s c K:=by
 refine ⟨fun a w G=>h.out a w ?_⟩;obtain ⟨⟨D,B,q⟩,J,y,j⟩:=G;have hx:=(show RX D .ents k b rows (a.tmps.getD (xk k) Go.undef) from q _ _ h1);have l:=hx;obtain ⟨es,clock,u,_⟩:=l;obtain ⟨E,r⟩:=B.freezeMap u;refine ⟨⟨_,E.rebox h2 dc rfl (by simp [AV.isCell]) (fun vs o i x v n L=>?_),fun e z hz=>?_⟩,J,y,j⟩
 ·cases i with
  | succ i=>simp at n
  | zero=>
   simp only [bD,aB] at n;subst n;have H:=(show RD _ (.lit (.map (some b))) v from o 0 _ v rfl L);cases H
   exact hx.mapv r.m fun F f he=>by
    rw [u] at he;cases he;exact aV rfl
 ·rw [dO] at hz;obtain ⟨A,p,rfl⟩:=aA.1 hz;exact (q e A p).leX r
theorem j3.ofB {P:Program} {T:eX} (j:T.OK P) {f:FuncId} {fn:Func} {body:Code} {args:List AV} {R:AV->Prop} (hf:P.funcs[f]?=some fn) (d:fn.body=some body)
  (a:(fn.name == "runtime.NumGoroutine")=false) (hm:P.follows .mixedOrders=true) (i:args.length<=fn.ntmps)
  (h:∀ (F:Fence) (n:Nat) (w0:World) (m0:d5),cr.OK ⟨P,F,n,w0,m0,fn.ntmps⟩->F.round=none->1<=n->aI ⟨P,F,n,w0,m0,fn.ntmps⟩ ⟨params 0 args,[]⟩ body (fun e s=>∃ r,R r/\Ends T fn.results.toList r e s)):j3 P f args R:=
 j3.ofSP j hf d a hm i fun F n w0 m0 hG b h1=>(h F n w0 m0 hG b h1).out
end
open Go
open Go.RowKit (Below)
def jc (w:World) (d:Nat):World:={ w with drawn:=w.drawn+d }
theorem mW {F} {n} {P} {all} {Q} {i} {l} {a} {w} {o} (c:all[i]?=some o) (d:o.guard=none)
  (h:o.wpIn F n P a w (fun a w=>wpOpsIn F n P all Q l a w) Q):wpOpsIn F n P all Q (i::l) a w:=by
 simp only [wpOpsIn,c,Region.wanted,d,cR];exact h
section
variable {P:Program} {W:World} {r b:Nat} {es:Array MapEntry} {clock:Nat} {seen:Array Nat}
theorem run_range_map {t} {k e} (a:P.underlying t=some (.map k e)) (c:W.heap[b]?=some (.map es clock)) :
  (Instr.range t (.map (some b))).run P W = .ok (.pointer (some ⟨W.heap.size,0,none⟩)) (W.alloc (.mapIter (some b) clock #[] clock)):=by
 simp only [Instr.range,aD,a7 a,aw,da c,aL,wd];rfl
theorem qb {s} {q} (a:W.heap[r]?=some (.mapIter (some b) s seen q)):(getObj r).run P W = .ok (.mapIter (some b) s seen q) W:=by
 simp [getObj,Sem.run,a]
theorem yq {s} {q} (a:W.heap[r]?=some (.mapIter (some b) s seen q)) (o):(setObj r o).run P W = .ok () (W.putObj r o):=by
 simp [setObj,Sem.run,a,World.putObj]
theorem Mp (n) (c:0<n):∃ k d,k<n/\(choose (.mapNext n)).run P W = .ok k (jc W d):=by
 have a:(choose (.mapNext n)).run P W=if (Question.mapNext n).forced then .ok 0 W else .ok ((Question.mapNext n).cut (W.tape W.drawn (.mapNext n))) { W with drawn:=W.drawn+1 }:=rfl
 rw [a]
 cases hf:(Question.mapNext n).forced with
 | true=>exact ⟨0,0,c,rfl⟩
 | false=>exact ⟨_,1,nq _ c,rfl⟩
theorem run_next_map (T) (t:W.heap[r]?=some (.mapIter (some b) clock seen clock)) (u:W.heap[b]?=some (.map es clock)) (c:∀ e∈es.toList,e.born<clock) :
  (∃ d,(Instr.next (.pointer (some ⟨r,0,none⟩)) false T).run P W = .ok (.tuple #[.bool false]) (jc W d)/\∀ e∈es.toList,seen.contains e.born=true) \/
  ∃ e d,e∈es.toList/\seen.contains e.born=false/\(Instr.next (.pointer (some ⟨r,0,none⟩)) false T).run P W = .ok (.tuple #[.bool true,e.key,e.val]) ((jc W d).putObj r (.mapIter (some b) clock (seen.push e.born) clock)):=by
 have l:(!seen.isEmpty && !es.isEmpty&&es.all (·.born>=clock))=false:=by
  cases h1:es.isEmpty with
  | true=>simp
  | false=>
   have:es.all (·.born>=clock)=false:=by
    rw [Bool.eq_false_iff];intro v
    have n:0<es.size:=by
     rw [Array.isEmpty_eq_false_iff] at h1;exact Array.size_pos_iff.2 h1
    have h2:=Array.all_eq_true.1 v 0 n;have w:=c es[0] dc;simp at h2; omega
   simp [this]
 obtain ⟨left,f⟩:∃ left,es.filter (fun e => !seen.contains e.born)=left:=⟨_,rfl⟩
 have j:∀ e,e∈left.toList↔e∈es.toList/\seen.contains e.born=false:=fun e=>by
  rw [<- f]; simp
 have m:left.filter (fun e=>decide (e.born<clock))=left:=by
  rw [Array.filter_eq_self];intro e he;simpa using c e ((j e).1 (by simpa using he)).1
 have o:left.filter (fun e=>decide (e.born>=clock))=#[]:=by
  rw [Array.filter_eq_empty_iff];intro e he;have:=c e ((j e).1 (by simpa using he)).1;simp; omega
 have h:∀ a:Array (Option MapEntry),a=(if left.isEmpty then #[none] else #[])++(left++#[]).map some->0<a.size/\∀ k (hk:k<a.size),(a[k]?=some none/\left=#[])\/∃ e,a[k]?=some (some e)/\e∈left.toList:=by
  rintro a rfl
  cases hl:left.isEmpty with
  | true=>
   grind
  | false=>
   grind
 obtain ⟨p,q⟩:=h _ rfl;obtain ⟨k,d,hk,i⟩:=Mp (P:=P) (W:=W) _ p;have hr':(jc W d).heap[r]?=some (.mapIter (some b) clock seen clock):=t;simp only [Instr.next,aD,qb t,aw,da u,l,br,cv,aL,f,m,o,i];rcases q k hk with ⟨h1,h2⟩ | ⟨e,h1,h2⟩
 ·refine .inl ⟨d,by simp only [h1,aL],fun e he=>?_⟩;grind
 grind [Sem.run_bind,yq,Result.andThen_ok,Sem.run_pure]
theorem run_entry_map {e} (c:W.heap[r]?=some (.mapIter (some b) clock seen clock)) (d:W.heap[b]?=some (.map es clock)) (a:seen.back?=some e.born) (he:e∈es.toList) (hu:∀ f∈es.toList,f.born=e.born->f=e) :
  (Instr.entry (.pointer (some ⟨r,0,none⟩))).run P W = .ok (.tuple #[e.key,e.val]) W:=by
 have hf:es.find? (fun f=>f.born==e.born)=some e:=by
  rw [<- Array.find?_toList]
  cases hx:es.toList.find? (fun f=>f.born==e.born) with
  | none=>
   grind
  | some f=>
   grind
 simp only [Instr.entry,aD,qb c,aw,a,da d,bne_self_eq_false,br,cv,aL,hf]
end
section
variable {ι α:Type} {Y:YB ι α} (hY:Y.OK)
theorem rX {k} {s} {a} {w} (n:Y.J k w) (hm:Y.m.sub w) (j:a.tmps.size=Y.nt) (i:∀ d x,get Y.tm d=some x->RD Y.m x (a.tmps.getD d Go.undef)) (e:a.defers=[])
  (hx:∀ d x,get s.t d=some x->RD Y.m x (a.tmps.getD d Go.undef)) (l:s.b=[]) (f:(gu Y.P).sub w):YI Y (false,k) s a w:=by
 obtain ⟨t,b⟩:=s;simp only at l;subst l;exact ⟨⟨w,n,⟨⟨_,nO (Γ:=Y.base w) hm rfl,fun d x h=>RC.of_RD (c:=⟨_,_,_,Y.m,_,_⟩) (hx d x h)⟩,j⟩,.refl _,f⟩,i,e⟩
theorem YI.sub {g} {s} {a} {w} (h:YI Y g s a w):Y.m.sub w:=by
 obtain ⟨⟨f,h1,h2,i⟩,_⟩:=h;obtain ⟨⟨c,d,_⟩,_⟩:=h2;exact ⟨fun b o v e=>d.sub.cell b o v (d.le0.cell b o v e),fun b x e=>d.sub.map b x (d.le0.map b x e)⟩
include hY in
theorem YI.now {k} {s} {a} {w} (h:YI Y (false,k) s a w):Y.J k w:=by
 obtain ⟨⟨e,h1,h2,d⟩,_⟩:=h;obtain ⟨⟨c,f,_⟩,_⟩:=h2;exact hY.ab k e w h1 ⟨f.ext.toBelow d.1,d.1.more⟩
theorem YI.nt {g} {s} {a} {w} (h:YI Y g s a w):a.tmps.size=Y.nt:=by
 obtain ⟨⟨c,h1,h2,d⟩,_⟩:=h;exact h2.size
end
end Go.AI
