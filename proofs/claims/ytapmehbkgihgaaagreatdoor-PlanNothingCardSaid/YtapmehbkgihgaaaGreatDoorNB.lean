/- Part 2 of the proof: an abstract interpreter for the code, contracts of the functions, and plain facts; the conditions are those typed. -/
import Derived.Test.YtapmehbkgihgaaaGreatDoorNA
import Derived.OrdersIn
import Derived.LoopNIn
import Derived.RangeFuncLeaves
import Derived.Shelf.Abstract
import Derived.RangeFuncNested
import Derived.ProofKit
import Derived.OpenShut
import Derived.Below
import Derived.Carry
import Derived.ChangeCalls
import Derived.MapKept
set_option linter.unusedSectionVars false
set_option linter.unusedVariables false
set_option linter.unusedSimpArgs false
namespace Go.AI
open Go
abbrev bc:=@List.mem_append_left
abbrev bj:=@List.mem_append_right
abbrev co:=@Array.getElem?_append_left
abbrev db:=@Go.wpIn_mono
abbrev dl:=@List.take_length
abbrev ef:=@List.take_add_one
abbrev eq:=@decide_eq_false
abbrev eG:=@List.map_congr_left
abbrev eJ:=@List.any_eq_false
abbrev eP:=@List.nodup_nil
abbrev eT:=@List.mem_append
abbrev fP:=@Go.wpIn_region
abbrev gx:=@List.mem_filter
abbrev gB:=@Go.mem_ready
abbrev gC:=@Go.Proofs.enters_of
abbrev gT:=@List.cons_append
abbrev mz:=@Array.getElem?_replicate
abbrev mC:=@Go.callsIn_of_wp_marks
abbrev mE:=@Nat.not_lt_zero
abbrev nZ:=@Nat.sub_zero
abbrev n3:=@Nat.add_comm
abbrev oO:=@Classical.choose_spec
abbrev pU:=@List.eq_nil_iff_forall_not_mem
abbrev qp:=@Bool.and_eq_true_iff
abbrev vP:=@List.nodup_append
abbrev vQ:=@List.length_range
abbrev yl:=@List.length_eq_zero_iff
abbrev yp:=@Bool.not_eq_true
abbrev AF:=@Nat.mul_comm
abbrev BE:=@List.take_append_drop
abbrev BG:=@Array.getElem?_mapIdx
abbrev Cx:=@Go.callsIn_wide
abbrev CR:=@Go.wpIn_region_any
abbrev CS:=@Go.wpIn_cond_split
abbrev He:=@List.reverse_reverse
abbrev Hf:=@List.map_id
abbrev Hh:=@List.drop_zero
abbrev Lf:=@List.mem_map_of_mem
abbrev RS:=@Nat.zero_mul
abbrev VE:=@Go.World.cells?_some
abbrev Xu:=@List.nodup_cons
abbrev Xy:=@Go.wpIn_loop_rounds
abbrev aaC:=@Go.wpIn_block
end Go.AI
namespace Go.AI
open Go
open Go.RowKit (Below)
theorem wz {k:List Int}:∀ {l:List (List Int×AV)},(∀ p∈l,p.1≠k)->nj k l=none
 | [],_=>rfl
 |(k',c)::r,h=>by rw [nj,aV (h (k',c) a7),wz fun p b=>h p (a6 _ b)]
theorem wy {k:List Int}:∀ {l:List (List Int×AV)} {j:Nat} {p:List Int×AV},l[j]?=some p->p.1=k->(∀ (i c:Nat) (q d:List Int×AV),l[i]?=some q->l[c]?=some d->q.1=d.1->i=c)->nj k l=some p.2
 | [],j,p,h,_,_=>by simp at h
 |(k',m)::r,0,p,h,b,_=>by
  simp only [bw,aB] at h;subst h;rw [nj,aX b]
 |(k',m)::r,j+1,p,h,b,hu=>by
  simp only [fg] at h
  have f:k'≠k:=fun e=>by
   have:=hu 0 (j+1) (k',m) p rfl h (by rw [e,b]);omega
  rw [nj,aV f,wy h b fun i c q d h1 h2 e=>by
   have:=hu (i+1) (c+1) q d (by simpa using h1) (by simpa using h2) e;omega]
theorem RO.toRC1 {c} {y} {u} (b:y.isCell=true) (h:RO c y u):fp c y u:=by
 cases y with
 | loc d off=>cases b
 | me g k n xs=>cases b
 | sl o sz xs=>cases o <;> exact h
 | _=>exact h
theorem vu {c} {y} {u} (b:y.isCell=true) (h:fp c y u):RO c y u:=by
 cases y with
 | loc d off=>cases b
 | me g k n xs=>cases b
 | sl o sz xs=>cases o <;> exact h
 | _=>exact h
theorem zc {s} {k b} {own} (h:zd s k=some (b,own)):get s.t (xk k)=some (.me .box k b [own]):=by
 unfold zd at h;split at h
 ·rename_i k' f c e
  cases d:Nat.beq k' k with
  | false=>rw [d] at h; cases h
  | true=>grind [Nat.eq_of_beq_eq_true]
 ·cases h
section
variable {Γ:ce} (hΓ:Γ.OK) {T:eS} (hT:T.OK Γ.P) {s:St} {o:Oper} {a:Act} {w:World}
 {next:Act->World->Prop} {Q:Exit->Act->World->Prop}
include hT in
theorem BP {t} {i} (g:get T t=some i) (b:i.zero.isCell=true):∃ z,(zeroValue t).run Γ.P w = .ok z w/\∀ m,RD m i.zero z:=by
 obtain ⟨j,d,h1,h2,c⟩:=ei hT g;simp only [TI.of,h1,h2,aB] at c;have hzero:=(ax TI.zero c).symm;simp only at hzero
 cases hj:j.zero with
 | none=>rw [hj] at hzero; simp only at hzero; rw [hzero] at b; cases b
 | some z=>
  rw [hj] at hzero;simp only at hzero;refine ⟨z,by simp only [zeroValue,typeInfo,aD,x7,aw,h1,aL,hj],fun m=>?_⟩;rw [hzero] at b ⊢
  have key:∀ v:Value,(∀ cs,v≠.agg cs)->Qr v=cst v:=fun v hv=>by
   cases v with
   | agg cs=>exact absurd rfl (hv cs)
   | _=>rfl
  rw [key z fun cs e=>by rw [e] at b; cases b];exact RD.cst m z
include hT in
theorem Pj {K} {t} {x y} {b} {ok} {c} (hW:WI Γ c s.b w) (Z:∀ d x,get s.t d=some x->RC c x (a.tmps.getD d Go.undef)) (hx:ev s x = .lit (.map (some b))) (h:n9 T s t b (ev s y) ok K) :
  ∃ v u,K v/\RC c v u/\(Instr.lookup t (a.eval x) (a.eval y) ok).run Γ.P w = .ok u w:=by
 unfold n9 at h;split at h
 ·rename_i im him;split at h
  ·rename_i kz kt hfl;split at h
   ·rename_i i j hi hj
    cases X:(Nat.beq im.kind 9&&j.zero.isCell) with
    | false=>grind
    | true=>
     rw [X,aR] at h;rw [al] at X
     cases F:ny i with
     | none=>grind
     | some skn=>
     obtain ⟨sk,sn⟩:=skn;rw [F] at h;have A:=tc hT hi F;obtain ⟨k,l,key,g,⟨hk,G,hlen,B,hg⟩,hK⟩:=h;have hm:=CX hT him (aj X.1) hfl;obtain ⟨es,clock,e1,q1,U,f⟩:=Vr A.pos B (show RX c .ents k b (f8 sk l) (a.tmps.getD (xk k) Go.undef) from Z _ _ hk);have hq:=hW.xo k b _ e1;have M:RD c.m (.lit (.map (some b))) (a.eval x):=by have:=cc Z x; rwa [hx] at this
     have hvx:a.eval x = .map (some b):=by generalize a.eval x=u at M; cases M; rfl
     have J:=cc Z y;rw [G] at J;have hvy:=(J.keyE_RD A.pos hlen).keyE A.pos hlen
     have hes:∀ e∈es.toList,∃ y:List Int,e.key=sf sk y/\y.length=sn:=fun e he=>by
      obtain ⟨j,hj,rfl⟩:=cw he;obtain ⟨p,p1,p2,_⟩:=f j _ (by rw [<- cL]; exact ai hj);grind
     obtain ⟨z,hz1,hz2⟩:=BP (w:=w) hT hj X.2;rw [hvx,hvy];rcases A.find w key hlen es.toList hes with ⟨h1,h2⟩ | ⟨n,e,h1,h2,h3⟩
     ·have hgn:g=none:=by
       rw [<- hg];refine wz fun p hp hc=>?_;obtain ⟨n,hn,rfl⟩:=cw hp;have hje:=aE (show n<es.size by omega);obtain ⟨p',p1,p2,_⟩:=f n _ hje;rw [ai hn] at p1;cases p1;exact h2 es[n] cU (by rw [p2,hc])
      subst hgn;refine ⟨_,if ok then .tuple #[z,.bool false] else z,hK,?_,?_⟩
      ·cases ok with
       | false=>exact RC.of_RD (hz2 c.m)
       | true=>
        refine RC.of_RD (c:=c) (.tup _ _ rfl fun n x u g1 g2=>?_);rcases n with _ | _ | n <;> simp at g1 g2
        ·grind
        ·subst g1; subst g2; exact .bool _
      ·simp only [Instr.lookup,aD,aY hm,aw,cY hq.obj,aL,A.check w _ key hlen,h1,hz1]
     ·have h2':es[n]?=some e:=by simpa using h2
      obtain ⟨p,p1,p2,p3⟩:=f n e h2';have hpk:p.1=key:=by rw [h3] at p2; exact (A.inj _ _ hlen (B p (aC p1)) p2).symm
      have D:∀ (i E:Nat) (q q':List Int×AV),l[i]?=some q->l[E]?=some q'->q.1=q'.1->i=E:=fun i E q q' h4 h5 h6=>by
       have N:i<es.size:=by rw [<- U]; exact (am.1 h4).1
       have H:E<es.size:=by rw [<- U]; exact (am.1 h5).1
       obtain ⟨r,r1,r2,_⟩:=f i _ (aE N);obtain ⟨r',L,r2',_⟩:=f E _ (aE H);rw [h4] at r1; cases r1;rw [h5] at L; cases L;exact q1.2.2 i E _ _ (aE N) (aE H) (by rw [r2,r2',h6])
      have hgs:g=some p.2:=by rw [<- hg]; exact wy p1 hpk D
      subst hgs;refine ⟨_,if ok then .tuple #[e.val,.bool true] else e.val,hK,?_,?_⟩
      ·cases ok with
       | false=>exact RC.of_RD p3
       | true=>
        refine RC.of_RD (c:=c) (.tup _ _ rfl fun n x u g1 g2=>?_);rcases n with _ | _ | n <;> simp at g1 g2
        ·grind
        ·subst g1; subst g2; exact .bool _
      ·simp only [Instr.lookup,aD,aY hm,aw,cY hq.obj,aL,A.check w _ key hlen,h1]
   ·exact h.elim
  ·exact h.elim
 ·exact h.elim
include hΓ hT in
theorem Sb {K} {t} {x y} {b} {ok} (j:o.op = .lookup t x y ok) (f:d5 Γ s a w) (l:∀ d,o.dst=some d->d<Γ.nt) (hx:ev s x = .lit (.map (some b)))
  (h:n9 T s t b (ev s y) ok fun v=>fx s o.dst v K) (p:dO Γ a o.dst w K next):o.wpIn Γ.F Γ.n Γ.P a w next Q:=by
 obtain ⟨c,e,i⟩:=f.ex;obtain ⟨v,u,h1,h2,m⟩:=Pj hT e i hx h;grind [od,execOp,Sem.run_bind,Result.andThen_ok,Sem.run_pure]
include hT in
theorem PP {K} {t} {x y} {xs} {ok} {c} (hW:WI Γ c s.b w) (ht:∀ d x,get s.t d=some x->RC c x (a.tmps.getD d Go.undef)) (hx:ev s x = .mapv xs) (h:sC T t xs (ev s y) ok K) :
  ∃ v u,K v/\RC c v u/\(Instr.lookup t (a.eval x) (a.eval y) ok).run Γ.P w = .ok u w:=by
 unfold sC at h;split at h
 ·rename_i im him;split at h
  ·rename_i kz kt hfl;split at h
   ·rename_i i j hi hj
    cases Z:(Nat.beq im.kind 9&&j.zero.isCell) with
    | false=>grind
    | true=>
     rw [Z,aR] at h;rw [al] at Z
     cases H:ny i with
     | none=>grind
     | some skn=>
     obtain ⟨sk,sn⟩:=skn;rw [H] at h;have A:=tc hT hi H;obtain ⟨l,key,g,⟨hk,J,hlen,E,hg⟩,hK⟩:=h;have hm:=CX hT him (aj Z.1) hfl;subst hk;have U:RD c.m (.mapv (f8 sk l)) (a.eval x):=by have:=cc ht x; rwa [hx] at this
     obtain ⟨b,es,clock,hvx,D,q1,B,f⟩:∃ b es clock,a.eval x = .map (some b)/\c.m.maps b=some (es,clock)/\li es clock/\l.length=es.size/\∀ (j:Nat) (e:MapEntry),es[j]?=some e->∃ p,l[j]?=some p/\e.key=sf sk p.1/\RD c.m p.2 e.val:=by
      generalize a.eval x=u at U
      cases U with
      | mapv _ b es clock D q1 q2 q3 q4 q5=>
       have B:l.length=es.size:=by rw [wd] at q2; exact q2
       refine ⟨b,es,clock,rfl,D,q1,B,fun j e he=>?_⟩;have hj:j<l.length:=by rw [B]; exact (aO.1 he).1
       have hp:(f8 sk l)[j]?=some [Go.AI.keyE sk l[j].1,l[j].2]:=HU (ai hj);exact ⟨l[j],ai hj,(q4 j _ e _ hp he rfl).keyE A.pos (E _ (bT hj)),q5 j _ e _ hp he rfl⟩
     have M:=cc ht y;rw [J] at M;have hvy:=(M.keyE_RD A.pos hlen).keyE A.pos hlen
     have hes:∀ e∈es.toList,∃ y:List Int,e.key=sf sk y/\y.length=sn:=fun e he=>by
      obtain ⟨j,hj,rfl⟩:=cw he;obtain ⟨p,p1,p2,_⟩:=f j _ (by rw [<- cL]; exact ai hj);grind
     obtain ⟨z,hz1,hz2⟩:=BP (w:=w) hT hj Z.2;rw [hvx,hvy];rcases A.find w key hlen es.toList hes with ⟨h1,h2⟩ | ⟨n,e,h1,h2,h3⟩
     ·have hgn:g=none:=by
       rw [<- hg];refine wz fun p hp hc=>?_;obtain ⟨n,hn,rfl⟩:=cw hp;have hje:=aE (show n<es.size by omega);obtain ⟨p',p1,p2,_⟩:=f n _ hje;rw [ai hn] at p1;cases p1;exact h2 es[n] cU (by rw [p2,hc])
      subst hgn;refine ⟨_,if ok then .tuple #[z,.bool false] else z,hK,?_,?_⟩
      ·cases ok with
       | false=>exact RC.of_RD (hz2 c.m)
       | true=>
        refine RC.of_RD (c:=c) (.tup _ _ rfl fun n x u g1 g2=>?_);rcases n with _ | _ | n <;> simp at g1 g2
        ·grind
        ·subst g1; subst g2; exact .bool _
      ·simp only [Instr.lookup,aD,aY hm,aw,cY (hW.sub.map _ _ D),aL,A.check w _ key hlen,h1,hz1]
     ·have h2':es[n]?=some e:=by simpa using h2
      obtain ⟨p,p1,p2,p3⟩:=f n e h2';have hpk:p.1=key:=by rw [h3] at p2; exact (A.inj _ _ hlen (E p (aC p1)) p2).symm
      have F:∀ (i G:Nat) (q q':List Int×AV),l[i]?=some q->l[G]?=some q'->q.1=q'.1->i=G:=fun i G q q' h4 h5 h6=>by
       have X:i<es.size:=by rw [<- B]; exact (am.1 h4).1
       have L:G<es.size:=by rw [<- B]; exact (am.1 h5).1
       obtain ⟨r,r1,r2,_⟩:=f i _ (aE X);obtain ⟨r',N,r2',_⟩:=f G _ (aE L);rw [h4] at r1; cases r1;rw [h5] at N; cases N;exact q1.2.2 i G _ _ (aE X) (aE L) (by rw [r2,r2',h6])
      have hgs:g=some p.2:=by rw [<- hg]; exact wy p1 hpk F
      subst hgs;refine ⟨_,if ok then .tuple #[e.val,.bool true] else e.val,hK,?_,?_⟩
      ·cases ok with
       | false=>exact RC.of_RD p3
       | true=>
        refine RC.of_RD (c:=c) (.tup _ _ rfl fun n x u g1 g2=>?_);rcases n with _ | _ | n <;> simp at g1 g2
        ·grind
        ·subst g1; subst g2; exact .bool _
      ·simp only [Instr.lookup,aD,aY hm,aw,cY (hW.sub.map _ _ D),aL,A.check w _ key hlen,h1]
   ·exact h.elim
  ·exact h.elim
 ·exact h.elim
include hΓ hT in
theorem SZ {K} {t} {x y} {xs} {ok} (i:o.op = .lookup t x y ok) (e:d5 Γ s a w) (j:∀ d,o.dst=some d->d<Γ.nt) (hx:ev s x = .mapv xs)
  (h:sC T t xs (ev s y) ok fun v=>fx s o.dst v K) (m:dO Γ a o.dst w K next):o.wpIn Γ.F Γ.n Γ.P a w next Q:=by
 obtain ⟨c,b,f⟩:=e.ex;obtain ⟨v,u,h1,h2,l⟩:=PP hT b f hx h;grind [od,execOp,Sem.run_bind,Result.andThen_ok,Sem.run_pure]
include hT in
theorem PA {K} {t} {x} {k b off} {cs} {c} (r:WI Γ c s.b w) (q:∀ d x,get s.t d=some x->RC c x (a.tmps.getD d Go.undef)) (hx:ev s x = .pin k b off cs) (h:qG T s t k b off cs K) :
  ∃ v u,K v/\RC c v u/\(Instr.loadAt t (a.eval x)).run Γ.P w = .ok u w:=by
 have f:=cc q x;rw [hx] at f;obtain ⟨i,e⟩:=lh (show RD c.m (.pin k b off cs) (a.eval x) from f);rw [i];unfold qG at h;split at h
 ·exact h.elim
 rename_i L hi;split at h
 ·rename_i v hv;obtain ⟨vals,g1,g2,g3,g4⟩:=wg r.sub e;obtain ⟨u,j,n⟩:=jQ hT hi g1 g2 g3 g4 hv;grind [Instr.loadAt,Instr.sureAddr,Sem.run_bind,Sem.run_pure,Result.andThen_ok]
 ·split at h
  ·rename_i l own F
   cases hl:Nat.ble (lo k) off with
   | false=>grind
   | true=>
    rw [hl,aR] at h;have H:=ah hl;split at h
    ·rename_i v hv;obtain ⟨rfl,J⟩:=h;obtain ⟨cells,U,z,G,E,M,A,B⟩:=(show RX c .box k l [own] (a.tmps.getD (xk k) Go.undef) from q _ _ (zc F));cases E;have D:=r.xo k l _ G
     obtain ⟨u,j,n⟩:=jQ (c:=c) (w:=w) hT hi (b:=l) (off:=off) (cells:=own.drop (off - lo k)) (vals:=cells.toList.drop off) (by grind)
      (fun y hy=>A y (gh hy)) (fun p y v g1 g2=>by
       rw [da] at g1 g2;refine (B _ y v g1 ?_).toRC1 (A y (aC g1));grind) (fun p v g=>by
       rw [da] at g;simp only [World.cell?,D.obj];simpa using g) hv
     grind [Instr.loadAt,Instr.sureAddr,Sem.run_bind,Sem.run_pure,Result.andThen_ok]
    ·exact h.elim
  ·exact h.elim
include hΓ hT in
theorem SH {K} {t} {x} {k b off} {cs} (j:o.op = .load t x) (f:d5 Γ s a w) (l:∀ d,o.dst=some d->d<Γ.nt) (hx:ev s x = .pin k b off cs)
  (h:qG T s t k b off cs fun v=>fx s o.dst v K) (p:dO Γ a o.dst w K next):o.wpIn Γ.F Γ.n Γ.P a w next Q:=by
 obtain ⟨c,e,i⟩:=f.ex;obtain ⟨v,u,h1,h2,m⟩:=PA hT e i hx h;grind [od,execOp,Sem.run_bind,Result.andThen_ok,Sem.run_pure]
theorem zp {K K'} {t} {xs} {kv} {ok} (h:sC T t xs kv ok K) (b:∀ v,K v->K' v):sC T t xs kv ok K':=by
 unfold sC at h ⊢;split at h
 ·split at h
  ·split at h
   ·grind
   ·exact h
  ·exact h
 ·exact h
theorem yL {K K'} {t} {b} {kv} {ok} (h:n9 T s t b kv ok K) (c:∀ v,K v->K' v):n9 T s t b kv ok K':=by
 unfold n9 at h ⊢;split at h
 ·split at h
  ·split at h
   ·grind
   ·exact h
  ·exact h
 ·exact h
theorem zf {K K'} {t} {k b off} {cs} (h:qG T s t k b off cs K) (c:∀ v,K v->K' v):qG T s t k b off cs K':=by
 unfold qG at h ⊢;split at h
 ·exact h
 ·split at h
  ·exact c _ h
  ·split at h
   ·generalize Nat.ble (lo k) off=d at h ⊢
    cases d with
    | false=>exact h
    | true=>
     simp only [aR] at h ⊢;split at h
     ·exact ⟨h.1,c _ h.2⟩
     ·exact h
   ·exact h
include hΓ hT in
theorem Om {K} {t} {x y} {k b off} {cs0} (hop:o.op = .store t x y) (hI:d5 Γ s a w) (hx:ev s x = .pin k b off cs0) (h:sY T s o.dst t k b off (ev s y) K)
  (J:∀ k v,K k v->∀ g d n xs,iD g=true->get s.t d=some (.me g k n xs)->d=xk k) (hn:∀ k v,K k v->dO Γ a o.dst w (fun s'=>s'=⟨(xk k,v)::s.t,s.b⟩) next):o.wpIn Γ.F Γ.n Γ.P a w next Q:=by
 obtain ⟨c,hW,ht⟩:=hI.ex;have Z:=cc ht x;rw [hx] at Z;obtain ⟨hav,_⟩:=lh (show RD c.m (.pin k b off cs0) (a.eval x) from Z);unfold sY at h;split at h
 ·rename_i ti cs p hi hcs;split at h
  ·exact h.elim
  rename_i M own hp
  cases G:(Nat.beq cs.length ti.size&&(cs.all (fun c=>c.isCell)&&(Nat.ble (lo k) off&&(Nat.ble (off - lo k+cs.length) own.length&&Nat.blt 0 cs.length)))) with
  | false=>grind
  | true=>
   rw [G,aR,lU] at h;obtain ⟨rfl,hK⟩:=h;have l:=J _ _ hK;simp only [al,aN] at G;obtain ⟨b1,b2,b3,b4,b5⟩:=G;have hlo:=ah b3;have hle:=ah b4;have hpos:1<=cs.length:=ah b5;obtain ⟨cells,U,own',D,e2,e3,e4,e5⟩:=(show RX c .box k M [own] (a.tmps.getD (xk k) Go.undef) from ht _ _ (zc hp));cases e2;have hq:=hW.xo k M _ D;obtain ⟨g1,g2⟩:=(cc ht y).cells0 hcs
   have L:∀ v∈(a.eval y).cells.toList,v.oneCell'=true:=by
    intro v hv;obtain ⟨n,X,hv'⟩:=cw hv;have B:n<cs.length:=by rw [g1]; simpa using X
    have h1:(a.eval y).cells[n]?=some v:=by
     rw [<- hv',<- cL]; exact ai X
    exact ((g2 n _ v (ai B) h1).one (b2 _ (bT B))).1
   have hnl:(a.eval y).cells.toList.length=cs.length:=by simp [g1]
   generalize e:(a.eval y).cells.toList=news at *;have N:=oJ Γ.P M off U news 0 cells w hq.obj ar L;simp only [ee] at N;have r:=fun n=>yw cells.toList news off n (by grind)
   obtain ⟨W1,q,W3⟩:=hW.storeX D (cells.toList.take off++news++cells.toList.drop (off+news.length)).toArray (fun i v hv=>by
    have B:i<lo k:=pR fun hc=>by rw [hq.mem i hc] at hv; cases hv
    rw [r,aV ar];have:=hW.sub.cell M i v hv;simpa [World.cell?,hq.obj] using this)
   refine mG hΓ (by grind) (w':=w.setRow M (cells.toList.take off++news++cells.toList.drop (off+news.length)).toArray) ?_ ?_
   ·have hsz:(a.eval y).cells.size=ti.size:=by rw [<- g1]; exact aj b1
    simp only [execOp,hop,hav,Instr.storeAt,Instr.sureAddr,aD,aL,aw,storeVar,eQ hT hi,hsz,AN,iN,cu,e,N]
   ·rw [p];refine hn _ _ hK _ _ _ rfl (hI.next W3 W1 (d:=none) (v:=Go.undef) (by intro k hk; cases hk) (fun d z hz=>?_)) W3 (lB p);rw [a8] at hz;split at hz
    ·rename_i hd;cases hz;refine ⟨_,U,_,aX rfl,rfl,?_,fun z hz=>?_,fun i z u h1 h2=>?_⟩
     ·grind [lm,qA,List.size_toArray,List.length_append,List.length_take,List.length_drop,Array.length_toList]
     ·rw [lm] at hz;rcases nr _ _ _ _ hz with h | h
      ·exact b2 z h
      ·exact e4 z h
     ·rw [lm,qB] at h1;rw [r] at h2;split at h1
      ·rename_i hr;rw [aX ar] at h2;rw [show lo k+i - off=i - (off - lo k) by omega] at h2;have h3:(a.eval y).cells[i - (off - lo k)]?=some u:=by rw [<- cL,e]; exact h2
       have h4:=g2 _ z u h1 h3;have h5:=(vu (b2 z (aC h1)) h4);exact h5.mono q.τ q.σ q.m
      ·rename_i hr;have hil:=(am.1 h1).1;rw [aV ar] at h2;exact (e5 i z u h1 (by simpa using h2)).mono q.τ q.σ q.m
    ·rename_i hd;have hz':=ht d z hz
     cases z with
     | me g k' n' j=>
      by_cases H:k'=k
      ·subst H
       cases g with
       | sl=>obtain ⟨p1,p2,p3,p4,f,E⟩:=(show RX c .sl k' n' j (a.tmps.getD d Go.undef) from hz'); rw [D] at f; cases f; exact ⟨_,_,_,p4,aX rfl,E⟩
       | ptr A j2=>obtain ⟨p1,p2,p3,f,E⟩:=(show RX c (.ptr A j2) k' n' j (a.tmps.getD d Go.undef) from hz'); rw [D] at f; cases f; exact ⟨_,_,_,aX rfl,E⟩
       | arr=>exact absurd (l _ _ _ _ rfl hz) hd
       | row _ _=>exact absurd (l _ _ _ _ rfl hz) hd
       | mp=>obtain ⟨p1,p2,p3,f,E⟩:=(show RX c .mp k' n' j (a.tmps.getD d Go.undef) from hz'); rw [D] at f; cases f
       | ents=>exact absurd (l _ _ _ _ rfl hz) hd
       | sub A l2=>obtain ⟨p1,p2,p3,p4,E,f,p7⟩:=(show RX c (.sub A l2) k' n' j (a.tmps.getD d Go.undef) from hz'); rw [D] at f; cases f; exact ⟨_,_,_,p4,E,aX rfl,p7⟩
       | box=>exact absurd (l _ _ _ _ rfl hz) hd
      ·have:=hz'.leX q;simp only [AV.unme,show Nat.beq k k'=false from by cases G:Nat.beq k k' with | false=>rfl | true=>exact absurd (aj G).symm H] at this;exact this
     | _=>exact hz'.leX q
 ·exact h.elim
include hΓ hT in
theorem X9 {K} (M:d5 Γ s a w) (hd:∀ d,o.dst=some d->d<Γ.nt) (h:Sf T s o.dst o.op K) (hn:dO Γ a o.dst w K next):o.wpIn Γ.F Γ.n Γ.P a w next Q:=by
 obtain ⟨c,hW,G⟩:=M.ex;unfold Sf at h;split at h
 ·rename_i t p q d ho b;have D:=hd d b;split at h
  ·rename_i i hi;split at h
   ·rename_i j hj;split at h
    ·rename_i k1 l k2 n H hl hc E
     cases J:(Nat.beq i.kind 3&&(Nat.beq H.length j.size&&(H.all (fun c=>c.isCell)&&Nat.blt 0 j.size))) with
     | false=>grind
     | true=>
      rw [J,aR] at h;simp only [al,aN] at J;obtain ⟨b1,b2,b3,b4⟩:=J;obtain ⟨h0,N,A,hmax,hK⟩:=h;have hpos:0<j.size:=ah b4;have hu:=d6 hT hi (aj b1);have L:=aj b2;obtain ⟨q',z,q1,q2,q3,q4,q5,_⟩:=jn (c:=c) w hT hj E L;obtain ⟨u,z1,z2,z3⟩:=mH hT (w:=w) hj E
      have X:u=z:=by
       simp only [zeroValue,typeInfo,aD,x7,aw,q1,aL,q4,Zr,tq] at z1;exact z1.symm
      subst X;have hp:=cc G p;rw [hl] at hp;have Z:=cc G q;rw [hc] at Z
      have f:(q'.bytes:Int)*n<=281474976710656:=by
       unfold gK at A;have:((n.toNat*j.bytes:Nat):Int)<=70368744177664:=by omega
       rw [q3,n5];rw [Int.natCast_mul,Int.toNat_of_nonneg ar] at this;omega
      have x:=run_make (P:=Γ.P) w t i.elem q' u hu q1 q4 k1 k2 l n h0 N f ar;rw [q2] at x;have B:(madeCells u.cells (n.toNat*j.size)).size=n.toNat*j.size:=by simp [madeCells]
      obtain ⟨W1,W2,W3⟩:=hW.newX d (l.toNat,n.toNat) (.cells (madeCells u.cells (n.toNat*j.size)) i.elem (0,0)) rfl (ed _ _);refine cT hΓ (by grind) (v := .slice (some ⟨w.heap.size,0,none⟩) l.toNat n.toNat) (w':=w.alloc (.cells (madeCells u.cells (n.toNat*j.size)) i.elem)) ?_ ?_
      ·simp only [execOp,ho,hp.int,Z.int,aD,x,aw,aL]
      ·rw [b];refine hn _ _ _ hK (M.next W3 W1 (d:=some d) (by grind) (eA (fun e z hz=>?_) (by rw [M.size]; exact D) ?_)) W3 (gF b)
       ·rw [a8] at hz;split at hz
        ·cases hz;refine ⟨_,_,i.elem,aX rfl,⟨by simp,by rw [B]; simp⟩,by rw [B,List.length_replicate]; exact bg _ ar,fun r hr=>?_,fun m r p y h1 h2=>?_⟩
         ·grind
         ·rw [yn] at h1;split at h1
          ·rename_i hm;cases h1;have hpl:p<H.length:=(am.1 h2).1;have hpz:p<u.cells.size:=by omega
           have hlt:m*j.size+p<n.toNat*j.size:=by
            have:(m+1)*j.size<=n.toNat*j.size:=bg _ ar;rw [AE] at this; omega
           grind [Array.getElem?_eq_getElem,sB,Nat.mul_comm,Nat.mul_add_mod,Nat.mod_eq_of_lt]
          ·cases h1
        ·rw [dG] at hz;obtain ⟨u,U,rfl⟩:=aA.1 hz;exact (G e u U).leX W2
       ·exact ⟨_,_,i.elem,n.toNat,aX rfl,rfl,⟨by simp,by simp⟩,by omega⟩
    ·exact h.elim
   ·exact h.elim
  ·exact h.elim
 ·exact h.elim
end
open Go
open Go.RowKit (Below)
section
variable {Γ:ce} (hΓ:Γ.OK) {T:eS} (hT:T.OK Γ.P) {s:St} {K:St->Prop} {o:Oper} {a:Act} {w:World}
 {next:Act->World->Prop} {Q:Exit->Act->World->Prop}
include hΓ hT in
theorem NJ {t} {x} {lo hi mx} {k n} {zs} (B:o.op = .slice t x lo hi mx) (H:d5 Γ s a w) (J:∀ d,o.dst=some d->d<Γ.nt) (hx:ev s x = .me .sl k n zs)
  (h:CP T s o.dst t k n (lo.map (ev s)) (hi.map (ev s)) (mx.map (ev s)) K) (hn:dO Γ a o.dst w K next):o.wpIn Γ.F Γ.n Γ.P a w next Q:=by
 obtain ⟨c,N,A⟩:=H.ex;unfold CP at h;split at h
 ·exact h.elim
 rename_i i D;split at h
 ·exact h.elim
 rename_i j hj;split at h
 ·exact h.elim
 rename_i sz xs hc
 cases e:(Nat.beq i.kind 3&&(Nat.beq j.size sz&&(mx.map (ev s)).isNone)) with
 | false=>grind
 | true=>
  rw [e] at h;simp only [aR] at h;simp only [al] at e;obtain ⟨b1,b2,M⟩:=e;have E:mx=none:=by cases mx with | none=>rfl | some _=>simp at M
  subst E;have hu:=d6 hT D (aj b1);have G:=aj b2;have u:=cc A x;rw [hx] at u;obtain ⟨b,cells,U,cap,e1,Z,e3,e4⟩:=(show RX c .sl k n zs (a.eval x) from u)
  have f:∀ (p:Option Operand) (d:Nat) (K':Nat->Prop),jU (p.map (ev s)) d K' ->
    ∃ n,K' n/\(∀ (y:Nat) (code:BoundsCode),n<=y->∀ v,p.map a.eval=some v->(Instr.sliceBound v y code).run Γ.P w = .ok n w)/\(p.map a.eval=none->n=d):=by
   intro p d K' e
   cases p with
   | none=>exact ⟨d,e,by simp,fun _=>rfl⟩
   | some y=>
    simp only [bH,jU] at e;split at e
    ·grind
    ·rename_i q n hy;simp only [aB] at hy;have:=cc A y;rw [hy] at this;refine ⟨n.toNat,e.2,fun z code hz v hv=>?_,by simp⟩;simp only [bH,aB] at hv;exact wJ (hv ▸ this.int) e.1 hz
    ·exact e.elim
  obtain ⟨l,h,hl1,X⟩:=f lo 0 _ h;obtain ⟨r,h,hr1,L⟩:=f hi n _ h;obtain ⟨g1,g2,h⟩:=h
  have m:(Instr.sliceBounds true n cap (lo.map a.eval) (hi.map a.eval) none).run Γ.P w = .ok (l,r,cap) w:=by
   refine xC ?_ ?_
   ·grind
   ·grind
  refine od hΓ H J N A (by grind) (x := .me (.sub sz l) k (r - l) []) (v := .slice (if cap=l then some ⟨b,0,none⟩ else (some (⟨b,0,none⟩:Addr)).map (·.add (l*j.size))) (r - l) (cap - l)) ?_ ?_ h hn
  ·refine ⟨b,cells,U,if cap=l then 0 else l*sz,cap - l,e1,?_,?_,by omega,by omega⟩
   ·split
    ·rfl
    ·rw [G]; simp only [bH,fm,bI]
   grind
  ·simp only [execOp,B,Z,Instr.sliceAt,aD,aY hu,aw,Instr.slice,m,eQ hT hj,aL,AP]
include hΓ hT in
theorem Xw {args} {ts} {x y} {sz k B} {zs} (hop:o.op = .call { callee := .builtin .append,args:=args,argTypes:=ts }) (ha:args.toList=[x,y]) (hI:d5 Γ s a w) (hd:∀ d,o.dst=some d->d<Γ.nt)
  (hx:ev s x = .me (.sub sz 0) k B zs) (h:VO T s o.dst ts.toList sz k B (ev s y) K) (hn:dO Γ a o.dst w K next):o.wpIn Γ.F Γ.n Γ.P a w next Q:=by
 obtain ⟨c,hW,ht⟩:=hI.ex;unfold VO at h;split at h
 ·rename_i d t t' H hts;have hdlt:=hd d H;split at h
  ·exact h.elim
  rename_i i hi;split at h
  ·exact h.elim
  rename_i j hj;split at h
  ·rename_i f l k' m ys hys;split at h
   ·exact h.elim
   rename_i Z xs hc
   cases hb:(Nat.beq i.kind 3&&(Nat.beq t t'&&(Nat.beq sz Z&&(Nat.beq f Z&&(Nat.beq k k'&&(Nat.beq j.size Z&&Nat.blt 0 Z)))))) with
   | false=>grind
   | true=>
    rw [hb] at h;simp only [al] at hb;obtain ⟨b1,b2,b3,b4,b5,b6,b7⟩:=hb;have q1:=aj b2;have q2:=aj b3;have q3:=aj b4;have q4:=aj b5;have q5:=aj b6;subst q1; subst q2; subst q3; subst q4;obtain ⟨hle,h⟩:=h;have hpos:0<f:=ah b7;obtain ⟨b,cells,U,e1,e2,e3,e4,e5⟩:=rj ht hc;have hq:=hW.xo k b _ e1;have hrx:=cc ht x;rw [hx] at hrx;obtain ⟨b',cells',U',off,cap,f1,f2,f3,f4,f5⟩:=(show RX c (.sub f 0) k B zs (a.eval x) from hrx);rw [e1] at f1;cases f1;have hoff:off=0:=f3.elim (fun h=>by rw [h,RS]) (fun h=>h.2);subst hoff;have hry:=cc ht y;rw [hys] at hry;obtain ⟨b'',cells'',U'',J,cap2,g1,g2,g3,g4,g5⟩:=(show RX c (.sub f l) k m ys (a.eval y) from hry);rw [e1] at g1;cases g1
    obtain ⟨q,hq1,hq2⟩:∃ q,Γ.P.info? i.elem=some q/\q.size=f:=by
     obtain ⟨q,d,h1,h2,h3⟩:=ei hT hj;grind [TI.of,Option.some.injEq]
    have hu:=d6 hT hi (aj b1);obtain ⟨news,hnews⟩:∃ news,news=(cells.toList.drop (l*f)).take (m*f):=⟨_,rfl⟩;have hlm:(l+m)*f<=cells.size:=bC (bg _ ar) e3;rw [dk] at hlm;have L:news.length=m*f:=by rw [hnews]; simp; omega
    have hng:∀ p,news[p]?=if p<m*f then cells[l*f+p]? else none:=fun p=>by
     grind
    have hone:∀ v∈news,v.oneCell'=true:=by
     intro v hv;obtain ⟨p,N⟩:=cn hv;rw [hng] at N;split at N
     ·rename_i hlt
      obtain ⟨r0,hr0⟩:∃ r0,xs[l+p / f]?=some r0:=by
       have:p / f<m:=Nat.div_lt_of_lt_mul (by grind);exact ⟨_,ai ar⟩
      have hrl:=(e4 r0 (aC hr0)).1;have hmod:=nd p hpos;obtain ⟨y0,hy0⟩:∃ y0,r0[p % f]?=some y0:=⟨_,ai ar⟩;obtain ⟨u,hu1,hu2⟩:=e5 _ r0 _ y0 hr0 hy0
      have hidx:(l+p / f)*f+p % f=l*f+p:=by
       rw [dk,dV,AF (p / f) f,Nat.div_add_mod]
      rw [hidx,N] at hu1;cases hu1;exact (hu2.one ((e4 r0 (aC hr0)).2 y0 (aC hy0))).1
     ·cases N
    have hcell:∀ p u,news[p]?=some u->w.cell? ((⟨b,J,none⟩:Addr).add p)=some u:=by
     intro p u N;rw [hng] at N;split at N
     ·rename_i hlt
      have:J=l*f:=by
       rcases g3 with h | h
       ·exact h
       ·grind
      rw [fm,this];simp only [World.cell?,hq.obj];simpa using N
     ·cases N
    have hfit:(B+m)*f<=cells.size:=bC (bg _ hle) e3;rw [dk] at hfit;have M:=la hu hq1 (w:=w) (T:=U) (cur:=cells) (g:=b) (sLen:=B) (sd:=cap) hq.obj ⟨b,J,none⟩ m cap2 news (by rw [L,hq2]) hcell hone ar (by rw [L,hq2]; omega) o.type;rw [hq2,L] at M;obtain ⟨A,D⟩:∃ A,A=(cells.toList.take (B*f)++news++cells.toList.drop (B*f+m*f)).toArray:=⟨_,rfl⟩;rw [<- D] at M
    have hc2:∀ p,A[p]?=if p<B*f then cells[p]? else if p<B*f+m*f then cells[l*f+(p - B*f)]? else cells[p]?:=fun p=>by
     have hl1:(cells.toList.take (B*f)).length=B*f:=by simp; omega
     have he:A[p]?=(cells.toList.take (B*f)++news++cells.toList.drop (B*f+m*f))[p]?:=by rw [D]; simp
     rw [he];by_cases X:p<B*f
     ·grind
     ·rw [aV X];by_cases hp2:p<B*f+m*f
      ·grind
      ·rw [aV hp2,cF (by grind),da,bY,hl1,L,show B*f+m*f+(p - (B*f+m*f))=p by omega]; simp
    have hsize2:A.size=cells.size:=by rw [D]; simp [L]; omega
    obtain ⟨E,W2,W3⟩:=hW.storeX e1 A (hq.ag (n8 hc));obtain ⟨c2,G⟩:∃ c2:dE,c2={ c with x:=fun j=>if j=k then some (b,.cells A U (0,0)) else c.x j,xn:=fun j=>if j=k then (B+m,cap) else c.xn j }:=⟨_,rfl⟩
    have W1':WI Γ c2 s.b (w.setRow b A):=by
     rw [G]
     exact ⟨E.ext,E.sub,E.le0,E.new,fun d cs h hne=>by
      obtain ⟨p1,p2,p3,us,V,p4,p5,p6⟩:=E.box d cs h hne;exact ⟨p1,p2,p3,us,V,p4,p5,fun i x v z1 z2=>fp.leX_cell (k:=k) (c:={ c with x:=fun j=>if j=k then some (b,.cells A U (0,0)) else c.x j }) (c':={ c with x:=fun j=>if j=k then some (b,.cells A U (0,0)) else c.x j,xn:=fun j=>if j=k then (B+m,cap) else c.xn j }) ⟨.refl _,rfl,rfl,rfl,fun j hj=>⟨rfl,aV hj⟩⟩ (p6 i x v z1 z2) (p3 x (aC z1))⟩,
      E.inj,fun j=>⟨(E.own j).blk,(E.own j).shape,(E.own j).box,(E.own j).apart⟩,fun j b' o' h=>⟨(E.xo j b' o' h).new,(E.xo j b' o' h).obj,(E.xo j b' o' h).kept,(E.xo j b' o' h).mem,(E.xo j b' o' h).map,(E.xo j b' o' h).box,(E.xo j b' o' h).own,(E.xo j b' o' h).inj⟩⟩
    have L2:c.leX k c2:=by rw [G]; exact ⟨.refl _,rfl,rfl,rfl,fun j hj=>⟨aV hj,aV hj⟩⟩
    have hx2:c2.x k=some (b,.cells A U (0,0)):=by rw [G]; exact aX rfl
    have hn2:c2.xn k=(B+m,cap):=by rw [G]; exact aX rfl
    have hm2:c2.m=c.m:=by rw [G]
    obtain ⟨args⟩:=args;obtain ⟨ts⟩:=ts;simp only at ha hts;subst ha;subst hts;refine cT hΓ (by grind) (v := .slice (some ⟨b,0,none⟩) (B+m) cap) (w':=w.setRow b A) ?_ ?_
    ·simp only [execOp,hop,aD,d3,aw,invoke,builtin,ez,cp,eU,f2,g2,M,aL]
    ·rw [H];refine hn _ _ _ h (hI.next W3 W1' (d:=some d) (by grind) (eA (fun e z hz=>?_) (by rw [hI.size]; exact hdlt) ?_)) W3 (gF H)
     ·rw [a8] at hz;split at hz
      ·cases hz
       have htk:∀ (p:Nat) (r:List AV),(xs.take B++(xs.drop l).take m)[p]?=some r->if p<B then xs[p]?=some r else p<B+m/\xs[l+(p - B)]?=some r:=fun p r N=>by
        grind
       refine ⟨b,A,U,hx2,?_,?_,fun r hr=>?_,fun p r p' z1 h1 h2=>?_⟩
       ·rw [hn2]; exact ⟨by simp; omega,by rw [hsize2]; exact bC (bg _ ar) e2.2⟩
       ·grind [Nat.add_mul]
       ·grind
       ·have:=htk p r h1;rw [hc2,hm2];split at this
        ·rename_i X;have hrl:=(e4 r (aC this)).1;have hpl:p'<f:=by rw [<- hrl]; exact (am.1 h2).1
         have hmul:(p+1)*f<=B*f:=bg _ X;grind
        ·rename_i X;obtain ⟨hp2,this⟩:=this;have hrl:=(e4 r (aC this)).1;have hpl:p'<f:=by rw [<- hrl]; exact (am.1 h2).1
         have hmul:B*f<=p*f:=bg _ ar;have hmul2:(p+1)*f<=(B+m)*f:=bg _ hp2;rw [dk,ni,dk] at hmul2;rw [aV ar,aX ar];obtain ⟨u,u1,u2⟩:=e5 _ r p' z1 this h2;refine ⟨u,?_,u2⟩;rw [<- u1]
         congr 1
         grind [Nat.sub_mul,Nat.add_mul]
      ·rw [dG] at hz;obtain ⟨z',hz',rfl⟩:=aA.1 hz;exact (ht e z' hz').leX L2
     ·exact ⟨b,A,U,cap,hx2,rfl,by grind,by omega⟩
  ·exact h.elim
 ·exact h.elim
end
open Go
open Go.RowKit (Below)
section
variable {Γ:ce} (hΓ:Γ.OK) {T:eS} (hT:T.OK Γ.P) {s:St} {K:St->Prop} {o:Oper} {a:Act} {w:World}
 {next:Act->World->Prop} {Q:Exit->Act->World->Prop}
theorem WI.rename {c} {bx} (e:WI Γ c bx w) (k) (p):WI Γ { c with xn:=fun j=>if j=k then p else c.xn j } bx w/\c.leX k { c with xn:=fun j=>if j=k then p else c.xn j }:=by
 have L:c.leX k { c with xn:=fun j=>if j=k then p else c.xn j }:=⟨.refl _,rfl,rfl,rfl,fun j hj=>⟨rfl,aV hj⟩⟩;refine ⟨⟨e.ext,e.sub,e.le0,e.new,fun d cs h f=>?_,e.inj,fun j=>⟨(e.own j).blk,(e.own j).shape,(e.own j).box,(e.own j).apart⟩,fun j b o h=>⟨(e.xo j b o h).new,(e.xo j b o h).obj,(e.xo j b o h).kept,(e.xo j b o h).mem,(e.xo j b o h).map,(e.xo j b o h).box,(e.xo j b o h).own,(e.xo j b o h).inj⟩⟩,L⟩;obtain ⟨p1,p2,l,us,V,q,n,r⟩:=e.box d cs h f;exact ⟨p1,p2,l,us,V,q,n,fun i x v m z2=>(r i x v m z2).leX_cell L (l x (aC m))⟩
theorem dE.leX.trans {k} {a b c:dE} (h:a.leX k b) (g:b.leX k c):a.leX k c:=
 ⟨h.m.trans g.m,g.ρ.trans h.ρ,g.τ.trans h.τ,g.σ.trans h.σ,fun j hj=>⟨(g.x j hj).1.trans (h.x j hj).1,(g.x j hj).2.trans (h.x j hj).2⟩⟩
include hΓ hT in
theorem Xx {args} {ts} {x y} {k n} {zs} (hop:o.op = .call { callee := .builtin .append,args:=args,argTypes:=ts }) (ha:args.toList=[x,y]) (hI:d5 Γ s a w) (hd:∀ d,o.dst=some d->d<Γ.nt)
  (hx:ev s x = .me .sl k n zs) (h:VP T s o.dst ts.toList k n (ev s y) K) (hn:dO Γ a o.dst w K next):o.wpIn Γ.F Γ.n Γ.P a w next Q:=by
 obtain ⟨c,hW,ht⟩:=hI.ex;unfold VP at h;split at h
 ·rename_i d t t' J hts;have hdlt:=hd d J;split at h
  ·exact h.elim
  rename_i i hi;split at h
  ·exact h.elim
  rename_i j hj;split at h
  ·exact h.elim
  rename_i sz xs hc;split at h
  ·rename_i ow sz' D hys
   cases hb:(Nat.beq i.kind 3&&(Nat.beq t t'&&(nP j&&(Nat.blt 0 j.size&&Nat.beq j.size sz)))) with
   | false=>grind
   | true=>
    rw [hb] at h;simp only [al] at hb;obtain ⟨b1,b2,b3,b4,b5⟩:=hb;have htt:=aj b2;subst htt;have hjs:=aj b5;subst hjs;obtain ⟨⟨hn0,hroom,hmax,h⟩,hsy⟩:=mA h;have hpos:0<j.size:=ah b4;unfold nP at b3;split at b3
    ·rename_i zs' hz;have hzl:=aj b3;obtain ⟨b,cells,U,e1,⟨e2,e2'⟩,e3,e4,e5⟩:=rj ht hc;have hq:=hW.xo k b _ e1;have hrx:=cc ht x;rw [hx] at hrx;obtain ⟨b',cells',U',cap,f1,f2,⟨f3,f4⟩,f5⟩:=(show RX c .sl k n zs (a.eval x) from hrx);rw [e1] at f1;cases f1;rw [<- f4] at e2';have G:xs.length=n:=by omega
     have hry:=cc ht y;rw [hys] at hry;have hry1:=(ec (by intro cs hc; cases hc)).1 hry;have hu:=d6 hT hi (aj b1);obtain ⟨q,z,q1,q2,q3,q4,q5,_⟩:=jn (c:=c) w hT hj hz hzl;have hy':RD c.m (.sl .no sz' D) (a.eval y):=hry1.sl_no;obtain ⟨v,hv⟩:∃ v,v=a.eval y:=⟨_,rfl⟩;rw [<- hv] at hy';obtain ⟨base',n',M,rfl,_,_⟩:=hy'.elem;obtain ⟨k2,k1,k2',k3,k4,k5,k6,k7,k8⟩:=hy'.flat;subst k4
     have hy6:∀ r∈D,r.length=j.size:=by
      rcases hsy with h | h
      ·rw [h]; exact k6
      ·subst h; simp
     have H:k2.length=D.length*j.size:=by
      rcases hsy with h | h
      ·rw [h]; exact k1
      ·subst h; simpa using k1
     have hk2:∀ (i:Nat) (x:List AV) (p:Nat) (c':AV),D[i]?=some x->x[p]?=some c'->∃ v,k2[i*j.size+p]?=some v/\RD c.m c' v:=by
      rcases hsy with h | h
      ·rw [h]; exact k2'
      ·subst h; simp
     obtain ⟨args⟩:=args;obtain ⟨ts⟩:=ts;simp only at ha hts;subst ha;subst hts
     -- the rows,flat
     obtain ⟨l,hl⟩:∃ l,l=cells.toList.take (n*j.size):=⟨_,rfl⟩;have hll:l.length=xs.length*j.size:=by rw [hl,G]; simp; rw [G] at e3; omega
     have hlg:∀ p,p<n*j.size->l[p]?=cells[p]?:=fun p hp=>by grind
     have hl2:∀ (i:Nat) (x:List AV) (p:Nat) (c':AV),xs[i]?=some x->x[p]?=some c'->∃ v,l[i*j.size+p]?=some v/\RD c.m c' v:=fun i r p c' h1 h2=>by
      obtain ⟨u,u1,u2⟩:=e5 i r p c' h1 h2;refine ⟨u,?_,u2⟩;rw [hlg]
      ·exact u1
      ·have hrl:=(e4 r (aC h1)).1;have hpl:p<j.size:=by rw [<- hrl]; exact (am.1 h2).1
       have hmul:(i+1)*j.size<=n*j.size:=bg _ (by grind);grind
     have hall:∀ r∈xs++D,r.length=j.size/\∀ y∈r,y.isCell=true:=fun r hr=>by
      grind
     have N:(xs++D).length=n+D.length:=by rw [bY,G]
     -- what is to be shown of the new row
     have fin:∀ (c2:dE) (b2:Nat) (f:Array Value) (U2:TypeId) (E:Nat) (w2:World),(Builtin.append_ #[t,t] o.type #[.slice (some ⟨b,0,none⟩) n cap,.slice base' D.length M]).run Γ.P w = .ok (.slice (some ⟨b2,0,none⟩) (n+D.length) E) w2 ->
       WI Γ c2 s.b w2->c.leX k c2->NC w w2->c2.x k=some (b2,.cells f U2 (0,0))->c2.xn k=(n+D.length,E)->n+D.length<=E->E*j.size<=f.size ->
       (∀ (p:Nat) (v:Value),(l++k2)[p]?=some v->f[p]?=some v)->o.wpIn Γ.F Γ.n Γ.P a w next Q:=by
      intro c2 b2 f U2 E w2 B W1 L2 W3 hx2 hn2 hcap hsz2 hcells;refine cT hΓ (by grind) (v := .slice (some ⟨b2,0,none⟩) (n+D.length) E) (w':=w2) ?_ ?_
      ·simp only [execOp,hop,aD,d3,aw,invoke,builtin,ez,cp,eU,f2,<- hv,B,aL]
      ·rw [J];refine hn _ _ _ h (hI.next W3 W1 (d:=some d) (by grind) (eA (fun e z hz=>?_) (by rw [hI.size]; exact hdlt) ?_)) W3 (gF J)
       ·rw [a8] at hz;split at hz
        ·cases hz;refine ⟨b2,f,U2,hx2,⟨by rw [hn2]; exact N,by rw [hn2]; exact hsz2⟩,?_,hall,fun p r p' z1 h1 h2=>?_⟩
         ·rw [N]; exact bC (bg _ hcap) hsz2
         ·obtain ⟨v,h3,h4⟩:=qY (m:=c.m) hll hl2 hk2 p r p' z1 h1 h2;exact ⟨v,hcells _ _ h3,h4.mono L2.m⟩
        ·rw [dG] at hz;obtain ⟨z',hz',rfl⟩:=aA.1 hz;exact (ht e z' hz').leX L2
       ·exact ⟨b2,f,U2,E,hx2,rfl,by grind,hcap⟩
     obtain ⟨bb,Z,rfl,hkm⟩:=k8 hn0;have L:∀ p v,k2[p]?=some v->w.cell? ((⟨bb,Z,none⟩:Addr).add p)=some v:=fun p v h=>by rw [fm]; exact hW.sub.cell _ _ _ (hkm p v h)
     have hr47:(xs.length+D.length)*j.bytes<=140737488355328:=by unfold gK at hroom; omega
     by_cases X:n+D.length<=cap
     ·-- in its place
      have hmul:=bg j.size X;rw [dk] at hmul;have B:=la hu q1 (w:=w) (T:=U) (cur:=cells) (g:=b) (sLen:=n) (sd:=cap) hq.obj ⟨bb,Z,none⟩ D.length M k2 (by rw [H,q2]) L k3 X (by rw [H,q2]; omega) o.type;rw [q2,H] at B;obtain ⟨f,A⟩:∃ f,f=(cells.toList.take (n*j.size)++k2++cells.toList.drop (n*j.size+D.length*j.size)).toArray:=⟨_,rfl⟩;rw [<- A] at B;have hsize2:f.size=cells.size:=by rw [A]; simp [H]; omega
      obtain ⟨W1,L1,W3⟩:=hW.storeX e1 f (hq.ag (n8 hc));obtain ⟨W1',L2⟩:=W1.rename k (n+D.length,cap);refine fin _ b f U cap _ B W1' (L1.trans L2) W3 (aX rfl) (aX rfl) X (by rw [hsize2]; exact e2') (fun p v hp=>?_);grind
     ·-- elsewhere
      have hfits:=vL (need:=n+D.length) (old:=cap) (bytes:=q.bytes) ar (by grind);have hge:=Ls w (n+D.length) cap i.elem;obtain ⟨f,A⟩:∃ f,f=l.toArray++k2.toArray++Builtin.zeroCells z.cells (grownCap w (n+D.length) cap i.elem - (n+D.length)):=⟨_,rfl⟩
      have holds:∀ p v,l[p]?=some v->w.cell? ((⟨b,0,none⟩:Addr).add p)=some v:=fun p v hp=>by
       have hpl:=(am.1 hp).1;rw [hll,G] at hpl;rw [hlg p hpl] at hp;rw [fm,bI];simp only [World.cell?,hq.obj];exact hp
      have B:=su (P:=Γ.P) w t o.type i.elem q z hu q1 q4 ⟨b,0,none⟩ n cap l (by rw [hll,q2,G]) holds ⟨bb,Z,none⟩ D.length M k2 (by rw [H,q2]) L ar ar hfits;rw [<- A] at B
      have hsz:f.size=grownCap w (n+D.length) cap i.elem*j.size:=by
       rw [A];simp only [n7,iO,vI,q5,hll,H,G];rw [<- dk,<- dk]
       congr 1
       omega
      obtain ⟨W1,L1,W3⟩:=hW.drew.newX k (n+D.length,grownCap w (n+D.length) cap i.elem) (.cells f i.elem (0,0)) rfl (ed _ _);have hN:NC w (w.drew.alloc (.cells f i.elem (0,0))):=NC.trans (show NC w w.drew from ⟨ba _,fun _ _ h _=>h,.drew _,fun _ h=>h⟩) W3;refine fin _ w.heap.size f i.elem _ _ B W1 L1 hN (by rw [nm]; exact aX rfl) (aX rfl) hge ar (fun p v hp=>?_);grind
    ·cases b3
  ·exact h.elim
 ·exact h.elim
end
open Go
open Go.RowKit (Below)
section
variable {Γ:ce} (hΓ:Γ.OK) {T:eS} (hT:T.OK Γ.P) {s:St} {K:St->Prop} {o:Oper} {a:Act} {w:World}
 {next:Act->World->Prop} {Q:Exit->Act->World->Prop}
theorem Dh {guards} {o} (h:yx guards o=true):o.op = .assign (.const (.slice none 0 0)):=by
 grind [yx]
include hΓ in
theorem Zu (b:o.op = .assign (.const (.slice none 0 0))) (e:d5 Γ s a w) (f:∀ d,o.dst=some d->d<Γ.nt) (h:fx s o.dst (.sl .full 0 []) K) (m:dO Γ a o.dst w K next):o.wpIn Γ.F Γ.n Γ.P a w next Q:=by
 obtain ⟨c,j,l⟩:=e.ex;refine od hΓ e f j l (by grind) (x := .sl .full 0 []) (v := .slice none 0 0) ?_ (by simp only [execOp,b]; rfl) h m;exact RC.of_RD (.sl _ _ _ _ _ _ (by intro k i; cases i) (fun _=>rfl) rfl (ba _) cU cU 0 0 ar (fun _ _=>Go.undef) cU cU)
include hΓ hT in
theorem ld {op} (c:o.op=op) (f:d5 Γ s a w) (q:∀ d,o.dst=some d->d<Γ.nt) (h:Wo T (aq Γ.P) s o.dst o.type op K) (j:dO Γ a o.dst w K next):o.wpIn Γ.F Γ.n Γ.P a w next Q:=by
 unfold Wo at h;split at h
 ·grind [wV,tH,eH]
 ·grind [wW,eH]
 ·grind [Sc,SH,zf,AV.go_eq,eH]
 ·grind [Sb,yL,AV.go_eq,SZ,zp]
 ·split at h
  ·grind [VN]
  ·obtain ⟨s',h1,h2⟩:=gZ _ _ h f;split at h1
   ·rename_i hx;exact Om hΓ hT c h2 hx h1 (fun k v e g d n xs t=>jP t e.1) (fun k v e s2 a2 D y u z B=>j s2 a2 D (by rw [y]; exact e.2) u z B)
   ·exact h1.elim
  grind [gZ,eH]
 ·exact eH hΓ hT c f q h j
 ·exact eH hΓ hT c f q h j
 ·grind [Pi]
 ·split at h
  ·rename_i b hx;exact np hΓ hT (.inl c) f hx h (fun k v e _ s' l w' h1 h2 p m=>j s' l w' (by rw [h1]; exact e.2) h2 p m) (fun k v e d n xs=>jP rfl e.1)
  ·exact h.elim
 ·split at h
  ·rename_i b hx;exact np hΓ hT (.inr c) f hx h (fun k v e _ s' l w' h1 h2 p m=>j s' l w' (by rw [h1]; exact e.2) h2 p m) (fun k v e d n xs=>jP rfl e.1)
  ·exact h.elim
 ·split at h
  ·rename_i A x;split at h
   ·rename_i hx;split at h
    ·rename_i i hi
     cases r:Nat.beq i.kind 3 with
     | false=>grind
     | true=>grind [Xv,Nat.eq_of_beq_eq_true]
    ·exact h.elim
   ·rename_i hx;split at h
    ·rename_i i hi
     cases r:Nat.beq i.kind 3 with
     | false=>grind
     | true=>grind [Sd,Nat.eq_of_beq_eq_true]
    ·exact h.elim
   grind [eH]
  grind [eH]
 ·split at h
  ·rename_i A;obtain ⟨s',h1,h2⟩:=gZ _ _ h f;split at h1
   ·grind [eH,NK]
   ·rename_i g _ _ _ hx;split at h1
    ·rename_i off
     cases r:Nat.beq off 0 with
     | true=>grind [Nat.eq_of_beq_eq_true,Xw]
     | false=>grind [eH]
    ·grind [Xx]
    grind [eH]
   grind [eH]
  grind [eH]
 ·grind [gZ,eH,NJ]
 grind [gZ,eH]
end
open Go
open Go.RowKit (Below)
def eR (c:dE) (N I:List Nat) (b:Nat):Prop:=(∃ k∈N,∃ o,c.x k=some (b,o))\/∃ j∈I,dc c j=some b
open Classical in
noncomputable def lF (w:World) (B:Nat->Prop):World:={ w with heap:=w.heap.mapIdx fun i o=>if B i then .deferred none else o }
theorem mR (w) (B):(lF w B).heap.size=w.heap.size:=by simp [lF]
theorem lf {w} {B} {k} (h:¬ B k):(lF w B).heap[k]?=w.heap[k]?:=by
 simp only [lF,BG,h,cu];cases w.heap[k]? <;> rfl
theorem qP {w} {B} {k} (h:B k) (b:k<w.heap.size):(lF w B).heap[k]?=some (.deferred none):=by
 simp only [lF,BG,h,c5,aE b,bH]
theorem jS {w} {B} {k} (h:free (lF w B) k):w.heap.size<=k\/B k\/w.heap[k]?=some (.deferred none):=by
 rcases h with h | h
 ·exact .inl (by rwa [mR] at h)
 grind [lf]
def dE.only (c:dE) (N I:List Nat):dE:={ c with x:=fun k=>if k∈N then c.x k else none,τ:=fun j=>if j∈I then c.τ j else .slice none 0 0 }
theorem qH {c} {N I} {j} (h:j∈I):dc (c.only N I) j=dc c j:=by simp only [dc,dE.only,aX h]
theorem yc {c:dE} {N I} {j} (h:j ∉ I):dc (c.only N I) j=none:=by simp only [dc,dE.only,aV h,kW]
theorem lD {c} {N I} {j b} (h:dc (c.only N I) j=some b):j∈I/\dc c j=some b:=by
 grind [qH,yc]
theorem L8 {c:dE} {N I} {k b} {o} (h:(c.only N I).x k=some (b,o)):k∈N/\c.x k=some (b,o):=by
 grind [dE.only]
theorem ta {c} {N I} {b}:eR (c.only N I) N I b↔eR c N I b:=by
 constructor
 ·rintro (⟨k,d,o,h⟩ | ⟨j,hj,h⟩)
  ·exact .inl ⟨k,d,o,(L8 h).2⟩
  ·exact .inr ⟨j,hj,(lD h).2⟩
 ·rintro (⟨k,d,o,h⟩ | ⟨j,hj,h⟩)
  ·exact .inl ⟨k,d,o,by simp only [dE.only,aX d]; exact h⟩
  ·exact .inr ⟨j,hj,by rw [qH hj]; exact h⟩
section
variable {Γ Γ':ce} {c:dE} {bx:List (Nat×List AV)} {w:World} {N I:List Nat}
theorem WI.lent_free (d:WI Γ c bx w) {b} (h:eR c N I b):free Γ.w0 b/\b<w.heap.size:=by
 rcases h with ⟨k,_,o,h⟩ | ⟨j,_,h⟩
 ·exact ⟨(d.xo k b o h).new,d.lt_x h⟩
 ·obtain ⟨_,_,_,_,_,_,_,_,e⟩:=(d.own j).blk b h;exact ⟨e.free,d.lt_own h⟩
theorem WI.lent_box (i:WI Γ c bx w) {b d} {cs} (h:eR c N I b) (f:get bx d=some cs) (e:cs≠[]):c.ρ d≠b:=by
 rcases h with ⟨k,_,o,h⟩ | ⟨j,_,h⟩
 ·exact (i.xo k b o h).box d cs f e
 ·exact (i.own j).box b d cs h f e
theorem WI.lent_own (d:WI Γ c bx w) {b j} (h:eR c N I b) (hj:dc c j=some b):j∈I:=by
 rcases h with ⟨k,_,o,h⟩ | ⟨i,hi,h⟩
 ·exact absurd hj ((d.xo k b o h).own j)
 ·rw [(d.own i).apart b j h hj]; exact hi
theorem WI.lent_x (d:WI Γ c bx w) {b k} {o} (h:eR c N I b) (e:c.x k=some (b,o)):k∈N:=by
 rcases h with ⟨i,hi,o',h⟩ | ⟨j,_,h⟩
 ·rw [(d.xo i b o' h).inj k o e]; exact hi
 ·exact absurd h ((d.xo k b o e).own j)
theorem WI.lend (f:WI Γ c bx w) (t:∀ j∈I,5000000<=j) (n:Γ'.w0=lF w (eR (c.only N I) N I)) (hm:Γ'.m0=c.m):WI Γ' (c.only N I) [] w where
 ext:=by
  rw [n];refine ⟨rfl,rfl,rfl,by rw [mR]; exact ba _,fun k e=>?_⟩;refine (lf fun u=>e (.inr (qP u ?_))).symm;exact (f.lent_free (ta.1 u)).2
 sub:=f.sub
 le0:=by rw [hm]; exact .refl _
 new:=by rw [hm]; exact ⟨fun _ _ _ h => .inl h,fun _ _ h => .inl h⟩
 box:=fun d cs h=>by simp [get] at h
 inj:=fun d z cs x h=>by simp [get] at h
 own:=fun k=>by
  refine ⟨fun g q=>?_,?_,fun g d cs _ h=>by simp [get] at h,fun g j h1 h2=>(f.own k).apart g j (lD h1).2 (lD h2).2⟩
  ·obtain ⟨e,l⟩:=lD q;obtain ⟨len,cap,T,cells,h1,h2,p,v,_⟩:=(f.own k).blk g l;refine ⟨len,cap,T,cells,by simp only [dE.only,aX e]; exact h1,h2,p,v,.inr ⟨t k e,?_⟩⟩;rw [n];exact qP (.inr ⟨k,e,q⟩) (aO.1 h2).1
  ·by_cases e:k∈I
   ·simp only [dE.only,aX e];refine (f.own k).shape.imp id ?_;rintro ⟨base,len,cap,h1,h2,p⟩;exact ⟨base,len,cap,h1,h2,fun a y hl=>⟨(p a y hl).1,.inr (t k e)⟩⟩
   ·simp only [dE.only,aV e]; exact .inl rfl
 xo:=fun k b o h=>by
  obtain ⟨e,r⟩:=L8 h;have i:=f.xo k b o r;refine ⟨.inr ?_,i.obj,i.kept,i.mem,i.map,fun d cs h=>by simp [get] at h,fun j hj=>i.own j (lD hj).2,fun j o' hj=>i.inj j o' (L8 hj).2⟩;rw [n];exact qP (.inl ⟨k,e,o,h⟩) (f.lt_x r)
end
structure Vv (P:Program) (c:dE) (N I:List Nat) (L:List (Nat×AV)) (w:World):Prop where
 wi:WI ⟨P,Fence.wide,0,lF w (eR c N I),c.m,0⟩ c [] w
 ent:∀ p∈L,∀ u,fp c p.2 u
 shape:∀ p∈L,p.1∈N/\∃ g n xs,p.2 = .me g p.1 n xs/\iD g=true
 ids:∀ j∈sg L,j∈I
 xN:∀ k,k ∉ N->c.x k=none
 tI:∀ j,j ∉ I->c.τ j = .slice none 0 0
 big:∀ j∈I,5000000<=j
structure NE (B:Nat->Prop) (w w':World):Prop where
 os:w'.os=w.os
 tape:w'.tape=w.tape
 output:w'.output=w.output
 size:w.heap.size<=w'.heap.size
 block:∀ k,k<w.heap.size->¬ B k->w'.heap[k]?=w.heap[k]?
def RR (c:dE) (N:List Nat) (r:AV) (v:Value):Prop:=match r with
 | .me .sl k n xs=>k∈N/\RX c .sl k n xs v
 | r=>RD c.m r v
def AJ (x h:Nat->Option (Nat×Obj)) (n e:Nat->Nat×Nat) (k:Nat):Prop:=e k=n k/\∀ b cells T,x k=some (b,.cells cells T (0,0))->∃ d f,h k=some (b,.cells d f (0,0))
structure lP (P:Program) (f:FuncId) (N I:List Nat) (args:List AV) (L:List (Nat×AV)) (Q:AV->List (Nat×AV)->Prop):Prop where
 enters:∀ (args:Array Value) (w:World),(callFunc f args).run P w = .ok (.enter f args) w
 runs:∀ (c:dE) (w:World) (vs:List Value),Vv P c N I L w->(gf P).le c.m->(gf P).sub (lF w (eR c N I))->args.length=vs.length->(∀ (i:Nat) (x:AV) (v:Value),args[i]?=some x->vs[i]?=some v->RC c x v) ->
  Calls P f vs.toArray w fun e w'=>∃ r L' v c',Q r L'/\e = .returned v/\RR c' N r v/\Vv P c' N I L' w'/\c.m.le c'.m/\NE (eR c N I) w w' /\
   (∀ b,eR c' N I b->eR c N I b\/w.heap.size<=b)/\c.m.News (fun b=>eR c N I b\/w.heap.size<=b) c'.m w'/\NC w w'/\∀ k∈N,7000000<=k->AJ c.x c'.x c.xn c'.xn k
def bX (P:Program):vC:=fun f N I args L r L'=>lP P f N I args L (fun a b=>a=r/\b=L')
def dE.back (c c':dE) (N I:List Nat):dE:={ c with m:=c'.m,x:=fun k=>if k∈N then c'.x k else c.x k,xn:=fun k=>if k∈N then c'.xn k else c.xn k,τ:=fun j=>if j∈I then c'.τ j else c.τ j,σ:=fun j=>if j∈I then c'.σ j else c.σ j }
theorem i6 {c c':dE} {N I} {j} (h:j∈I):dc (c.back c' N I) j=dc c' j:=by simp only [dc,dE.back,aX h]
theorem ia {c c'} {N I} {j} (h:j ∉ I):dc (c.back c' N I) j=dc c j:=by simp only [dc,dE.back,aV h]
def AV.demMany (x:AV):List Nat->AV
 | []=>x
 | k::r=>(x.dem k).demMany r
def AV.demMany1 (x:AV):List Nat->AV
 | []=>x
 | k::r=>(x.dem1 k).demMany1 r
theorem lv:∀ (I:List Nat) (s:St) (d:Nat),get (s.demMany I).t d=(get s.t d).map fun x=>x.demMany I
 | [],s,d=>by simp [St.demMany,AV.demMany]
 | k::r,s,d=>by
  rw [St.demMany,lv r,mB,Option.map_map]; rfl
theorem nS:∀ (I:List Nat) (s:St) (d:Nat),get (s.demMany I).b d=(get s.b d).map fun cs=>cs.map fun x=>x.demMany1 I
 | [],s,d=>by simp [St.demMany,AV.demMany1]
 | k::r,s,d=>by
  rw [St.demMany,nS r,rP,Option.map_map]
  congr 1
  funext cs;simp [AV.demMany1,List.map_map,Function.comp_def]
theorem lk:∀ (I:List Nat) {x:AV},x.isCell=true->(x.demMany1 I).isCell=true
 | [],_,h=>h
 | k::r,_,h=>lk r (pX k h)
def dE.owns (c:dE) (u:Nat->Value) (z:Nat->Nat):List Nat->dE
 | []=>c
 | k::r=>(c.own k (u k) (z k)).owns u z r
theorem nN (u:Nat->Value) (z:Nat->Nat):∀ (I:List Nat) (c:dE),c.owns u z I={ c with τ:=fun j=>if j∈I then u j else c.τ j,σ:=fun j=>if j∈I then z j else c.σ j }
 | [],c=>by simp [dE.owns]
 | k::r,c=>by
  rw [dE.owns,nN u z r];simp only [dE.own];grind
theorem RC.owns (u:Nat->Value) (z:Nat->Nat):∀ (I:List Nat) {c:dE} {x:AV} {v:Value},RC c x v->RC (c.owns u z I) (x.demMany I) v
 | [],_,_,_,h=>h
 | k::r,_,_,_,h=>RC.owns u z r (h.own (k:=k) (u:=u k) (sz:=z k))
theorem fp.owns (u:Nat->Value) (z:Nat->Nat):∀ (I:List Nat) {c:dE} {x:AV} {v:Value},fp c x v->fp (c.owns u z I) (x.demMany1 I) v
 | [],_,_,_,h=>h
 | k::r,_,_,_,h=>fp.owns u z r (h.own (k:=k) (u:=u k) (sz:=z k))
theorem fp.xs_cell {c} {x} {v} (f) (g) (h:fp c x v) (hx:x.isCell=true):fp { c with x:=f,xn:=g } x v:=by
 cases x with
 | me _ j n xs=>simp [AV.isCell] at hx
 | loc d off=>simp [AV.isCell] at hx
 | sl o sz xs=>cases o <;> exact h
 | _=>exact h
def setXs (c:dE) (f:Nat->Option (Nat×Obj)) (g:Nat->Nat×Nat):List Nat->dE
 | []=>c
 | k::r=>setXs { c with x:=fun j=>if j=k then f k else c.x j,xn:=fun j=>if j=k then g k else c.xn j } f g r
theorem HJ (f:Nat->Option (Nat×Obj)) (g:Nat->Nat×Nat):∀ (N:List Nat) (c:dE),setXs c f g N={ c with x:=fun j=>if j∈N then f j else c.x j,xn:=fun j=>if j∈N then g j else c.xn j }
 | [],c=>by simp [setXs]
 | k::r,c=>by
  rw [setXs,HJ f g r];grind
theorem RC.setXs (f:Nat->Option (Nat×Obj)) (g:Nat->Nat×Nat):∀ (N:List Nat) {c:dE} {x:AV} {v:Value},(∀ k∈N,7000000<=k->AJ c.x f c.xn g k)->RC c x v->RC (Go.AI.setXs c f g N) (x.unmeMany N) v
 | [],_,_,_,_,h=>h
 | k::r,c,x,v,q,h=>by
  have hk':∀ j∈r,7000000<=j->AJ (fun j=>if j=k then f k else c.x j) f (fun j=>if j=k then g k else c.xn j) g j:=fun j hj A=>by
   by_cases e:j=k
   ·subst e;refine ⟨by simp only [aX],fun b cells T h=>⟨cells,T,by grind⟩⟩
   ·obtain ⟨h1,h2⟩:=q j (a6 _ hj) A;refine ⟨by grind,fun b cells T h=>h2 b cells T (by grind)⟩
  have hu:=RC.leX (k:=k) (c:=c) (c':={ c with x:=fun j=>if j=k then f k else c.x j,xn:=fun j=>if j=k then g k else c.xn j }) ⟨.refl _,rfl,rfl,rfl,fun j hj=>⟨aV hj,aV hj⟩⟩ h;refine RC.setXs f g r hk' ?_
  cases l:(Nat.ble 7000000 k&&x.isRefX) with
  | false=>grind
  | true=>
   rw [aR];simp only [al] at l
   cases x with
   | me t j n xs=>
    by_cases e:k=j
    ·subst e;obtain ⟨F,y⟩:=q k a7 (ah l.1)
     cases t with
     | sl=>
      obtain ⟨b,cells,T,cap,r1,m,E,z⟩:=(show RX c .sl k n xs v from h);obtain ⟨d,p,u⟩:=y b cells T r1;exact ⟨b,d,p,cap,by grind,m,by grind,z⟩
     | ptr sz i=>
      obtain ⟨b,cells,T,r1,m⟩:=(show RX c (.ptr sz i) k n xs v from h);obtain ⟨d,p,u⟩:=y b cells T r1;exact ⟨b,d,p,by simp only [aX]; exact u,m⟩
     | _=>cases l.2
    ·have B:Nat.beq k j=false:=by rw [<- yp]; exact fun D=>e (aj D)
     simpa only [AV.unme,B,br] using hu
   | _=>cases l.2
theorem Xc (c c':dE) (N I):c.back c' N I=setXs ((c.mem c'.m).owns c'.τ c'.σ I) c'.x c'.xn N:=by
 rw [HJ,nN]; rfl
theorem RC.back {c c'} (hle:c.m.le c'.m) (N I) {x} {v} (b:∀ k∈N,7000000<=k->AJ c.x c'.x c.xn c'.xn k) (h:RC c x v):RC (c.back c' N I) ((x.demMany I).unmeMany N) v:=by
 rw [Xc];refine RC.setXs _ _ N (fun k h1 h2=>?_) ((h.mono (c':=c.mem c'.m) ⟨hle,rfl,rfl,rfl,rfl,rfl⟩).owns _ _ I);rw [nN];exact b k h1 h2
theorem fp.back_cell {c c'} (hle:c.m.le c'.m) (N I) {x} {v} (h:fp c x v) (hx:x.isCell=true):fp (c.back c' N I) (x.demMany1 I) v:=by
 have h1:=(h.mono (c':=c.mem c'.m) ⟨hle,rfl,rfl,rfl,rfl,rfl⟩).owns c'.τ c'.σ I;rw [nN] at h1;exact h1.xs_cell (fun k=>if k∈N then c'.x k else c.x k) (fun k=>if k∈N then c'.xn k else c.xn k) (lk I hx)
theorem RR.back {c c':dE} (N I) {r} {v} (h:RR c' N r v):RC (c.back c' N I) r v:=by
 cases r with
 | me g k n xs=>
  cases g with
  | sl=>
   obtain ⟨d,b,cells,T,cap,h1,h2,e,f⟩:=h;refine ⟨b,cells,T,cap,?_,h2,?_,f⟩
   ·show (if k∈N then c'.x k else c.x k)=_; rw [aX d]; exact h1
   ·show n=(if k∈N then c'.xn k else c.xn k).1/\cap=(if k∈N then c'.xn k else c.xn k).2; rw [aX d]; exact e
  | _=>exact nomatch (show RD c'.m _ v from h)
 | _=>exact RC.of_RD (c:=c.back c' N I) h
theorem RO.ids {c c'} (hm:c'.m=c.m) {y} {v} (h:RO c y v) (hi:∀ j∈yg [y],c'.τ j=c.τ j/\c'.σ j=c.σ j):RO c' y v:=by
 cases y with
 | sl o sz xs=>
  cases o with
  | id k=>
   grind [yg,RO,id]
  | no=>show RD c'.m _ _; rw [hm]; exact h
  | full=>show RD c'.m _ _; rw [hm]; exact h
 | _=>show RD c'.m _ _; rw [hm]; exact h
theorem Te {y} {l} (h:y∈l) {j} (hj:j∈yg [y]):j∈yg l:=by
 induction l with
 | nil=>cases h
 | cons z r b=>
  have key:∀ {a:AV} {r:List AV} {j:Nat},j∈yg (a::r)↔j∈yg [a]\/j∈yg r:=by
   intro a r j
   cases a with
   | sl o sz xs=>cases o <;> simp [yg]
   | _=>simp [yg]
  grind
theorem RX.ids {c c'} (hm:c'.m=c.m) {g} {k n} {xs} {v} (A:iD g=true) (h:RX c g k n xs v) (hx:c'.x k=c.x k) (l:c'.xn k=c.xn k)
  (hi:∀ j∈sg [(k,.me g k n xs)],c'.τ j=c.τ j/\c'.σ j=c.σ j):RX c' g k n xs v:=by
 cases g with
 | box=>
  obtain ⟨cells,T,own,r1,rfl,d,f,z⟩:=h;refine ⟨cells,T,own,by rw [hx]; exact r1,rfl,d,f,fun i y u h1 h2=>(z i y u h1 h2).ids hm fun j hj=>hi j ?_⟩;simp only [sg,WB,bR];exact Te (aC h1) hj
 | arr=>
  obtain ⟨b,cells,T,r1,r0,p,d,f⟩:=h;exact ⟨b,cells,T,by rw [hx]; exact r1,by rw [l]; exact r0,p,d,fun i r j y h1 h2=>let ⟨u,q,t⟩:=f i r j y h1 h2; ⟨u,q,by rw [hm]; exact t⟩⟩
 | row b cap=>
  obtain ⟨cells,T,r1,r0,p,d,f⟩:=h;exact ⟨cells,T,by rw [hx]; exact r1,by rw [l]; exact r0,p,d,fun i r j y h1 h2=>let ⟨u,q,t⟩:=f i r j y h1 h2; ⟨u,q,by rw [hm]; exact t⟩⟩
 | ents=>
  obtain ⟨es,clock,r1,p,d,f,z,D⟩:=h;exact ⟨es,clock,by rw [hx]; exact r1,p,d,f,fun i x e y h1 h2 B=>by grind,fun i x e y h1 h2 B=>by grind⟩
 | _=>cases A
theorem uw {p} {L} (h:p∈L) {j} (hj:j∈sg [p]):j∈sg L:=by
 have key:∀ {a:Nat×AV} {r:List (Nat×AV)} {j:Nat},j∈sg (a::r)↔j∈sg [a]\/j∈sg r:=by
  intro a r j;simp [sg]
 induction L with
 | nil=>cases h
 | cons q r b=>
  grind
section
variable {Γ:ce} {c c':dE} {bx bx':List (Nat×List AV)} {w w':World} {N I:List Nat} {P:Program} {L L':List (Nat×AV)}
theorem WI.back (n:WI Γ c bx w) (J:Vv P c' N I L' w') (hle:c.m.le c'.m) (F:NE (eR c N I) w w') (t:∀ b,eR c' N I b->eR c N I b\/w.heap.size<=b)
  (Z:c.m.News (fun b=>eR c N I b\/w.heap.size<=b) c'.m w') (hC:NC w w') (B:∀ d cs,get bx' d=some cs->∃ ds,get bx d=some ds/\cs=ds.map fun x=>x.demMany1 I):WI Γ (c.back c' N I) bx' w':=by
 have hB:=n.ext.size
 have G:∀ b o,b<w.heap.size->¬ eR c N I b->c.m b o=none->c'.m b o=none:=fun b o hb f h=>by
  cases hm:c'.m b o with
  | none=>rfl
  | some v=>
   rcases Z.cell b o v hm with E | ⟨E | E,_⟩
   ·rw [h] at E; cases E
   ·exact absurd E f
   ·omega
 have hmm:∀ b,b<w.heap.size->¬ eR c N I b->c.m.maps b=none->c'.m.maps b=none:=fun b hb f h=>by
  cases hm:c'.m.maps b with
  | none=>rfl
  | some v=>
   rcases Z.map b v hm with E | E | E
   ·rw [h] at E; cases E
   ·exact absurd E f
   ·omega
 have X:∀ b,eR c N I b\/w.heap.size<=b->free Γ.w0 b:=fun b h=>by
  rcases h with h | h
  ·exact (n.lent_free h).1
  ·exact iJ (bC hB h)
 refine ⟨n.ext.trans ⟨F.os,F.tape,F.output,F.size,fun k p=>F.block k (dm (not_free p) hB) fun h=>p (n.lent_free h).1⟩,J.wi.sub,n.le0.trans hle,⟨fun b o v h=>?_,fun b x h=>?_⟩,fun d cs h u=>?_,fun d1 d2 c1 c2 g1 g2 n1 n2 hρ=>?_,fun k=>?_,fun k b o h=>?_⟩
 ·rcases Z.cell b o v h with h | h
  ·exact (n.new.cell b o v h).imp id fun ⟨h1,h2⟩=>⟨h1,hC.soft b h2⟩
  grind
 ·rcases Z.map b x h with h | h
  ·exact n.new.map b x h
  ·exact .inr (X b h)
 ·obtain ⟨ds,D,rfl⟩:=B d cs h;have hne':ds≠[]:=fun e=>u (by rw [e]; rfl);obtain ⟨q1,q2,q3,vs,T,q4,q5,q6⟩:=n.box d ds D hne';have z:=n.lt_box D hne';have f:¬ eR c N I (c.ρ d):=fun h=>n.lent_box h D hne' rfl;refine ⟨q1,fun o=>G _ o z f (q2 o),fun x hx=>?_,vs,T,(F.block _ z f).trans q4,by simpa using q5,fun i x v g1 g2=>?_⟩
  ·obtain ⟨y,hy,rfl⟩:=bp.1 hx;exact lk I (q3 y hy)
  ·rw [aQ] at g1;obtain ⟨y,hy,rfl⟩:=aA.1 g1;exact (q6 i y v hy g2).back_cell hle N I (q3 y (aC hy))
 ·obtain ⟨e1,q1,rfl⟩:=B d1 c1 g1;obtain ⟨e2,q2,rfl⟩:=B d2 c2 g2;exact n.inj d1 d2 e1 e2 q1 q2 (fun e=>n1 (by rw [e]; rfl)) (fun e=>n2 (by rw [e]; rfl)) hρ
 ·by_cases p:k∈I
  ·have q:=J.wi.own k;have U:(c.back c' N I).τ k=c'.τ k:=aX p;have M:(c.back c' N I).σ k=c'.σ k:=aX p;refine ⟨fun g r=>?_,?_,fun g d cs r h u=>?_,fun g j r hj=>?_⟩
   ·rw [i6 p] at r;obtain ⟨len,cap,T,cells,h1,h2,H,h4,_⟩:=q.blk g r;refine ⟨len,cap,T,cells,by rw [U]; exact h1,h2,by rw [M]; exact H,fun o ho=>h4 o (by rw [<- M]; exact ho),?_⟩;rcases t g (.inr ⟨k,p,r⟩) with h | h
    ·exact (n.lent_free h).1.imp id fun m=>⟨J.big k p,m⟩
    ·exact .inl (bC hB h)
   ·rw [U];refine q.shape.imp id ?_;rintro ⟨base,len,cap,h1,h2,H⟩;exact ⟨base,len,cap,h1,h2,fun a ha hl=>⟨(H a ha hl).1,.inr (J.big k p)⟩⟩
   ·rw [i6 p] at r;obtain ⟨ds,D,rfl⟩:=B d cs h;have hne':ds≠[]:=fun e=>u (by rw [e]; rfl);rcases t g (.inr ⟨k,p,r⟩) with h | h
    ·exact n.lent_box h D hne'
    ·have:=n.lt_box D hne';show c.ρ d≠g;omega
   ·rw [i6 p] at r;by_cases l:j∈I
    ·rw [i6 l] at hj;exact q.apart g j r hj
    ·rw [ia l] at hj;rcases t g (.inr ⟨k,p,r⟩) with h | h
     ·exact absurd (n.lent_own h hj) l
     ·have:=n.lt_own hj; omega
  ·have q:=n.own k;have U:(c.back c' N I).τ k=c.τ k:=aV p;have M:(c.back c' N I).σ k=c.σ k:=aV p;refine ⟨fun g r=>?_,?_,fun g d cs r h u=>?_,fun g j r hj=>?_⟩
   ·rw [ia p] at r;have z:=n.lt_own r;have f:¬ eR c N I g:=fun h=>p (n.lent_own h r);obtain ⟨len,cap,T,cells,h1,h2,H,h4,h5⟩:=q.blk g r;exact ⟨len,cap,T,cells,by rw [U]; exact h1,(F.block g z f).trans h2,by rw [M]; exact H,fun o ho=>G g o z f (h4 o (by rw [<- M]; exact ho)),h5⟩
   ·rw [U]; exact q.shape
   ·rw [ia p] at r;obtain ⟨ds,D,rfl⟩:=B d cs h;exact q.box g d ds r D fun e=>u (by rw [e]; rfl)
   ·rw [ia p] at r;by_cases l:j∈I
    ·rw [i6 l] at hj;rcases t g (.inr ⟨j,l,hj⟩) with h | h
     ·exact absurd (n.lent_own h r) p
     ·have:=n.lt_own r; omega
    ·rw [ia l] at hj;exact q.apart g j r hj
 ·by_cases p:k∈N
  ·have hx:c'.x k=some (b,o):=by rw [<- h]; exact (aX p).symm
   have q:=J.wi.xo k b o hx;have f:=t b (.inl ⟨k,p,o,hx⟩);refine ⟨X b f,q.obj,q.kept,q.mem,q.map,fun d cs h u=>?_,fun j hj=>?_,fun j o' hj=>?_⟩
   ·obtain ⟨ds,D,rfl⟩:=B d cs h;have hne':ds≠[]:=fun e=>u (by rw [e]; rfl);rcases f with h | h
    ·exact n.lent_box h D hne'
    ·have:=n.lt_box D hne';show c.ρ d≠b;omega
   ·by_cases l:j∈I
    ·rw [i6 l] at hj; exact q.own j hj
    ·rw [ia l] at hj;rcases f with h | h
     ·exact l (n.lent_own h hj)
     ·have:=n.lt_own hj; omega
   ·by_cases A:j∈N
    ·exact q.inj j o' (by rw [<- hj]; exact (aX A).symm)
    ·have hj':c.x j=some (b,o'):=by rw [<- hj]; exact (aV A).symm
     rcases f with h | h
     ·exact absurd (n.lent_x h hj') A
     ·have:=n.lt_x hj'; omega
  ·have hx:c.x k=some (b,o):=by rw [<- h]; exact (aV p).symm
   have q:=n.xo k b o hx;have z:=n.lt_x hx;have f:¬ eR c N I b:=fun h=>p (n.lent_x h hx);refine ⟨q.new,(F.block b z f).trans q.obj,q.kept,fun i hi=>G b i z f (q.mem i hi),hmm b z f q.map,fun d cs h u=>?_,fun j hj=>?_,fun j o' hj=>?_⟩
   ·obtain ⟨ds,D,rfl⟩:=B d cs h;exact q.box d ds D fun e=>u (by rw [e]; rfl)
   ·by_cases l:j∈I
    ·rw [i6 l] at hj;rcases t b (.inr ⟨j,l,hj⟩) with h | h
     ·exact f h
     ·omega
    ·rw [ia l] at hj; exact q.own j hj
   ·by_cases A:j∈N
    ·have hj':c'.x j=some (b,o'):=by rw [<- hj]; exact (aX A).symm
     rcases t b (.inl ⟨j,A,o',hj'⟩) with h | h
     ·exact absurd h f
     ·omega
    ·exact q.inj j o' (by rw [<- hj]; exact (aV A).symm)
end
theorem kB {s:St}:∀ {e:List Nat} {L:List (Nat×AV)},gI s e=some L->∀ p∈L,p.1∈e/\get s.t (xk p.1)=some p.2/\∃ g n xs,p.2 = .me g p.1 n xs/\iD g=true
 | [],L,h,p,b=>by grind [gI,Option.some.injEq]
 | k::r,L,h,p,b=>by
  simp only [gI] at h;split at h
  ·rename_i g j n xs l h1 h2
   cases d:(Nat.beq j k&&iD g) with
   | false=>rw [d] at h; cases h
   | true=>
    rw [d] at h;simp only [aR,aB] at h;subst h;simp only [al] at d;have:=aj d.1;subst this;rcases bF.1 b with rfl | b
    ·grind
    ·obtain ⟨f,i⟩:=kB h2 p b;exact ⟨a6 _ f,i⟩
  ·cases h
theorem eD {α:Type}:∀ (l r:List (Nat×α)) (x:Nat),get (l++r) x=(get l x).or (get r x)
 | [],r,x=>rfl
 |(y,v)::l,r,x=>by
  rw [gT,a8,a8,eD l r x];split <;> rfl
theorem Dx {v:AV} {d:Nat}:∀ {L:List (Nat×AV)},get (BK L) d=some v->∃ p∈L,d=xk p.1/\v=p.2
 | [],h=>by simp [BK,get] at h
 |(k,u)::r,h=>by
  simp only [BK] at h;rw [a8] at h;split at h
  ·rename_i he; simp only [aB] at h; exact ⟨(k,u),a7,he,h.symm⟩
  ·obtain ⟨p,b,h⟩:=Dx h;exact ⟨p,a6 _ b,h⟩
theorem RX.any {c} {g} {k n} {xs} {u v} (b:iD g=true) (h:RX c g k n xs u):RX c g k n xs v:=by
 cases g with
 | box=>exact h
 | arr=>exact h
 | row _ _=>exact h
 | ents=>exact h
 | _=>cases b
section
variable {Γ:ce} (hΓ:Γ.OK) {s:St} {a:Act} {w:World} {o:Oper} {next:Act->World->Prop} {Q:Exit->Act->World->Prop}
theorem RX.only {c:dE} {N I:List Nat} {g:Qw} {k n:Nat} {xs:List (List AV)} {v:Value} (d:k∈N) (hi:∀ j∈sg [(k,.me g k n xs)],j∈I) (h:RX c g k n xs v):RX (c.only N I) g k n xs v:=by
 have hx:(c.only N I).x k=c.x k:=aX d;have b:(c.only N I).xn k=c.xn k:=rfl
 cases g with
 | box=>exact RX.ids (c:=c) (c':=c.only N I) rfl rfl h hx b fun j hj=>⟨aX (hi j hj),rfl⟩
 | arr=>exact RX.ids (c:=c) (c':=c.only N I) rfl rfl h hx b fun j hj=>⟨aX (hi j hj),rfl⟩
 | row _ _=>exact RX.ids (c:=c) (c':=c.only N I) rfl rfl h hx b fun j hj=>⟨aX (hi j hj),rfl⟩
 | ents=>exact RX.ids (c:=c) (c':=c.only N I) rfl rfl h hx b fun j hj=>⟨aX (hi j hj),rfl⟩
 | sl=>grind [RX]
 | ptr sz q=>simp only [RX,hx] at h ⊢; exact h
 | mp=>simp only [RX,hx] at h ⊢; exact h
 | sub sz l=>simp only [RX,hx,b] at h ⊢; exact h
theorem s8 {p:Nat×AV} {L:List (Nat×AV)} (b:p∈L):p.1∈ku L:=by
 induction L with
 | nil=>cases b
 | cons q r d=>
  obtain ⟨k,v⟩:=q;rcases bF.1 b with rfl | b
  ·exact a7
  ·exact a6 _ (d b)
theorem gi {l:List Nat} {k:Nat} (h:dj l k=true):k∈l:=by
 induction l with
 | nil=>cases h
 | cons d r e=>
  simp only [dj] at h
  cases b:Nat.beq d k with
  | true=>rw [aj b]; exact a7
  | false=>grind
theorem RC.pubE {c:dE} {N I:List Nat} {x:AV} {v:Value} (hx:XL N x=true) (h:RC c x v):RC (c.only N I) x.pubE v:=by
 cases x with
 | me g k n xs=>
  have b:k∈N:=by
   cases g <;> first | cases hx | exact gi hx
  show RX (c.only N I) g k n xs v;refine RX.only b (fun j hj=>?_) (show RX c g k n xs v from h);cases g <;> first | cases hx | (simp [sg,WB] at hj)
 | _=>exact RC.of_RD (c:=c.only N I) (show RD (c.only N I).m _ _ from h.pub)
def Sr (s:St) (N I:List Nat) (d:Nat) (r:AV) (L':List (Nat×AV)):St:=⟨(d,r)::(BK L'++((s.demMany I).unmeMany N).t),(s.demMany I).b⟩
include hΓ in
theorem Tn {b:Nat} (d:free Γ.w0 b) (i:Nat):gf Γ.P b i=none:=by
 cases h:gf Γ.P b i with
 | none=>rfl
 | some v=>
  have:=hΓ.gw.cell b i v h;rcases d with d | d
  ·simp [World.cell?,jZ d] at this
  ·simp [World.cell?,d] at this
include hΓ in
theorem WK {c:dE} {bx:List (Nat×List AV)} {w:World} (d:WI Γ c bx w) {N I:List Nat}:(gf Γ.P).sub (lF w (eR c N I)):=⟨fun b i v h=>by
 have h1:=d.sub.cell b i v ((hΓ.gm.trans d.le0).cell b i v h);have e:¬ eR c N I b:=fun e=>by rw [Tn hΓ (d.lent_free e).1] at h; cases h
 grind [World.cell?,lf],fun b x h=>nomatch h⟩
include hΓ in
theorem zM {K:St->Prop} {g:FuncId} {call:Call} {U:Operand} {cap:List AV} {N I:List Nat} {L:List (Nat×AV)} {R:AV->List (Nat×AV)->Prop} (hI:d5 Γ s a w) (hop:o.op = .call call) (hcal:call.callee = .value U)
  (hf:ev s U = .clo g cap\/ev s U = .fn g/\cap=[]) (hC:lP Γ.P g N I ((call.args.toList.map fun x=>(ev s x).pubE)++cap) L R) (he:gI s (ku L)=some L) (J:Qn N I L (call.args.toList.map (ev s))=true)
  {d:Nat} (G:o.dst=some d) (hd:d<Γ.nt) (hK:∀ r L',R r L'->K (Sr s N I d r L')) (hn:dO Γ a o.dst w K next):o.wpIn Γ.F Γ.n Γ.P a w next Q:=by
 obtain ⟨c,hW,ht⟩:=hI.ex;simp only [Qn,al,aN] at J;obtain ⟨k1,k2,k3,k4⟩:=J;have H:∀ j∈I,5000000<=j:=fun j hj=>ah (aN.1 k3 j hj);have D:eR (c.only N I) N I=eR c N I:=funext fun b=>propext ta;have E:∀ j∈sg L,j∈I:=fun j hj=>gi (k2 j hj);have B:∀ p∈L,p.1∈N:=fun p l=>gi (k1 p.1 (s8 l))
 have M:Vv Γ.P (c.only N I) N I L w:=by
  refine ⟨hW.lend H rfl rfl,fun p l u=>?_,fun p l=>?_,E,fun k hk=>aV hk,fun j hj=>aV hj,H⟩
  ·obtain ⟨_,e2,gg,n,xs,X,e4⟩:=kB he p l;have A:=ht _ _ e2;obtain ⟨pk,pv⟩:=p;simp only at X;subst X;refine RX.any e4 (RX.only (B _ l) (fun j hj=>E j (uw l hj)) (show RX c gg pk n xs _ from A))
  ·obtain ⟨_,_,X⟩:=kB he p l;grind
 obtain ⟨vs,hfv,hcl,hcr⟩:∃ vs:Array Value,a.eval U = .func (.func g) #[] vs/\cap.length=vs.size/\∀ (i:Nat) (x:AV) (v:Value),cap[i]?=some x->vs[i]?=some v->RD c.m x v:=by
  have A:=cc ht U;rcases hf with hf | ⟨hf,rfl⟩
  ·rw [hf] at A;have A:RD c.m (.clo g cap) (a.eval U):=A;generalize a.eval U=u at A;cases A with | clo _ _ vs hl h=>grind
  ·rw [hf] at A;exact ⟨#[],A.fn,rfl,by simp⟩
 have hrun:=hC.runs (c.only N I) w (call.args.toList.map a.eval++vs.toList) M (hΓ.gm.trans hW.le0) (by rw [D]; exact WK hΓ hW) (by simp [hcl]) (fun i x v h1 h2=>by
  by_cases hi:i<call.args.toList.length
  ·rw [dp (by simpa using hi),aQ] at h1 h2;obtain ⟨q,hq,rfl⟩:=aA.1 h1;grind [Option.some.injEq,RC.pubE,List.mem_map_of_mem,List.mem_of_getElem?,cc]
  ·rw [cF (by simpa using hi)] at h1 h2;simp only [az] at h1 h2;exact RC.of_RD (c:=c.only N I) (hcr _ x v h1 (by simpa using h2)))
 have Z:(execOp a.eval o).run Γ.P w = .ok (.enter g (call.args.toList.map a.eval++vs.toList).toArray) w:=by
  have hres:(resolve a.eval call o.type).run Γ.P w = .ok { target := .fn (.func g) vs,args:=#[]++call.args.map a.eval } w:=by
   simp only [resolve,hcal,hfv,Deferred.ofValue,aL]
  simp only [execOp,hop,aD,hres,aw,invoke,hC.enters _ w]
  congr 2
  apply pW;simp
 refine ⟨fun f _=>hΓ.fn f,?_⟩;rw [ju _ _ _ (by grind),Z,oM];refine ⟨fun h=>(by rw [hΓ.depth] at h; cases h),(gM hΓ hrun _).mono ?_⟩;rintro e w' ⟨r,L',v,c',q1,rfl,q2,q3,q4,q5,q6,q7,q8,q9⟩;rw [D] at q5 q6 q7
 have W:=hW.back q3 q4 q5 q6 q7 q8 (bx':=(s.demMany I).b) (fun e cs hcs=>by
  rw [nS] at hcs;obtain ⟨ds,h1,h2⟩:=aA.1 hcs;grind)
 rw [G]
 have hts:∀ e z,get (BK L'++((s.demMany I).unmeMany N).t) e=some z->RC (c.back c' N I) z (a.tmps.getD e Go.undef):=fun e z hz=>by
  rw [eD] at hz
  cases hx:get (BK L') e with
  | some y=>
   rw [hx] at hz;cases hz;obtain ⟨p,l,rfl,rfl⟩:=Dx hx;obtain ⟨hpN,gg,n,xs,X,e4⟩:=q3.shape p l;have A:=q3.ent p l (a.tmps.getD (xk p.1) Go.undef);obtain ⟨pk,pv⟩:=p;simp only at X;subst X;exact RX.ids (c:=c') (c':=c.back c' N I) rfl e4 (show RX c' gg pk n xs _ from A) (aX hpN) (aX hpN) fun j hj=>⟨aX (q3.ids j (uw l hj)),aX (q3.ids j (uw l hj))⟩
  | none=>
   rw [hx] at hz;have hz:get ((s.demMany I).unmeMany N).t e=some z:=hz;simp only [St.unmeMany] at hz;rw [dG,lv] at hz;obtain ⟨y,hy,rfl⟩:=aA.1 hz;obtain ⟨y',hy',rfl⟩:=aA.1 hy;exact RC.back (c:=c) q4 N I (fun k h1 h2=>by have:=q9 k h1 h2; simpa only [AJ,dE.only,aX h1] using this) (ht e y' hy')
 exact hn _ _ _ (hK r L' q1) (hI.next q8 W (d:=some d) (v:=v) (by grind) (eA hts (by rw [hI.size]; exact hd) (RR.back N I q2))) q8 (by rw [G]; exact ⟨v,rfl⟩)
include hΓ in
theorem OS {K:List Nat->List Nat->List (Nat×AV)->AV->List (Nat×AV)->Prop} (t:d5 Γ s a w) {d:Nat} (e:o.dst=some d) (q:d<Γ.nt) (h:Cu (bX Γ.P) s o K)
  (u:dO Γ a o.dst w (fun s'=>∃ N I L r L',K N I L r L'/\s'=Sr s N I d r L') next):o.wpIn Γ.F Γ.n Γ.P a w next Q:=by
 unfold Cu at h;split at h
 ·rename_i call f;split at h
  ·rename_i y b;split at h
   ·rename_i g j;obtain ⟨N,I,L,r,L',⟨h1,h2,i⟩,m⟩:=h;exact zM hΓ t f b (cap:=[]) (.inr ⟨j,rfl⟩) i h1 h2 e q (fun v x ⟨l,p⟩=>⟨N,I,L,r,L',m,by rw [l,p]⟩) u
   ·rename_i g cap j;obtain ⟨N,I,L,r,L',⟨h1,h2,i⟩,m⟩:=h;exact zM hΓ t f b (cap:=cap) (.inl j) i h1 h2 e q (fun v x ⟨l,p⟩=>⟨N,I,L,r,L',m,by rw [l,p]⟩) u
   ·exact h.elim
  ·exact h.elim
 ·exact h.elim
end
open Go
open Go.RowKit (Below)
section
variable {Γ:ce} (hΓ:Γ.OK) {T:eS} (hT:T.OK Γ.P) {s:St} {K:St->Prop} {a:Act} {w:World} {Q:Exit->Act->World->Prop}
structure St.le (s s':St):Prop where
 t:∀ d x,get s'.t d=some x->get s.t d=some x
 b:∀ d cs,get s'.b d=some cs->cs≠[]->get s.b d=some cs
theorem St.le.refl (s:St):s.le s:=⟨fun _ _ h=>h,fun _ _ h _=>h⟩
theorem WI.less {c} {bx bx'} (e:WI Γ c bx w) (h:∀ d cs,get bx' d=some cs->cs≠[]->get bx d=some cs):WI Γ c bx' w:=
  ⟨e.ext,e.sub,e.le0,e.new,fun d cs i f=>e.box d cs (h d cs i f) f,fun d l cs j g1 g2 n1 n2 n=>e.inj d l cs j (h d cs g1 n1) (h l j g2 n2) n1 n2 n,
   fun k=>⟨(e.own k).blk,(e.own k).shape,fun g d cs m i f=>(e.own k).box g d cs m (h d cs i f) f,(e.own k).apart⟩,
   fun k b o hx=>⟨(e.xo k b o hx).new,(e.xo k b o hx).obj,(e.xo k b o hx).kept,(e.xo k b o hx).mem,(e.xo k b o hx).map,fun d cs i f=>(e.xo k b o hx).box d cs (h d cs i f) f,(e.xo k b o hx).own,(e.xo k b o hx).inj⟩⟩
theorem d5.less (f:d5 Γ s a w) {s'} (h:s.le s'):d5 Γ s' a w:=by
 obtain ⟨⟨c,e,j⟩,h2,l,i⟩:=f;exact ⟨⟨c,e.less h.b,fun d x hx=>j d x (h.t d x hx)⟩,h2,l,i⟩
theorem iZ {guards} {dst} (h:gL guards dst s K):∃ s',K s'/\s.le s':=by
 unfold gL at h;split at h
 ·rename_i d
  cases hm:dj guards d with
  | false=>rw [hm,br,WG] at h; exact ⟨s,h,.refl s⟩
  | true=>
   rw [hm] at h;simp only [aR] at h;obtain ⟨t,b⟩:=s;simp only at h;split at h
   ·rename_i v hv;refine ⟨⟨(d,.bool v)::t,b⟩,?_,fun k x hx=>?_,fun _ _ h _=>h⟩
    ·cases v with
     | true=>exact h.1 rfl
     | false=>exact h.2 rfl
    grind [a8]
   ·exact ⟨_,h,.refl _⟩
 ·rw [Yy] at h; exact ⟨s,h,.refl s⟩
theorem eF (ops) (j):jt ops j=(ops[j]?).bind (·.dst):=by
 unfold jt;rw [fj];cases ops[j]? <;> rfl
def Y1:Value->Option Bool
 | .bool b=>some b
 | _=>none
theorem dx {ops} {o} (p:∀ j d,jt ops j=some d->d<Γ.nt) (q:d5 Γ s a w) (n) (h:j3 ops s o=n) (v:n<2):Region.wanted o (yielded ops.toArray a.tmps)=(n==0):=by
 unfold j3 at h;unfold Region.wanted;split at h
 ·grind
 ·rename_i j want t;rw [t];simp only;split at h
  ·omega
  ·rename_i d i;obtain ⟨c,x,r⟩:=q.ex;have e:=p j d i
   have hy:yielded ops.toArray a.tmps j=Y1 (a.tmps.getD d Go.undef):=by
    unfold yielded;rw [eF] at i
    have f:a.tmps[d]?=some (a.tmps.getD d Go.undef):=by
     rw [aG,aE (by rw [q.size]; exact e)]; rfl
    simp only [eN,i,Option.bind_some,f];generalize a.tmps.getD d Go.undef=u;cases u <;> rfl
   rw [hy];split at h
   ·rename_i b l;rw [(r d _ l).bool];cases b <;> cases want <;> simp at h <;> subst h <;> rfl
   ·rename_i l;have hu:RD c.m .undef (a.tmps.getD d Go.undef):=r d _ l
    have:a.tmps.getD d Go.undef=Go.undef:=by
     generalize a.tmps.getD d Go.undef=u at hu;cases hu; rfl
    rw [this];subst h;rfl
   ·omega
theorem fT (i:d5 Γ s a w) {o:Oper} (m:∀ d,o.dst=some d->d<Γ.nt) (h:fx s o.dst .undef K):∃ s',K s'/\d5 Γ s' (a.put o.dst Go.undef) w:=by
 obtain ⟨c,j,l⟩:=i.ex;obtain ⟨t,b⟩:=s
 cases e:o.dst with
 | none=>
  rw [e] at h;exact ⟨_,h,i.next (.refl w) j (d:=none) (v:=Go.undef) (by intro k n; cases n) l⟩
 | some d=>
  rw [e] at h;have f:=m d e;exact ⟨_,h,i.next (.refl w) j (d:=some d) (v:=Go.undef) (by grind) (eA l (by rw [i.size]; exact f) RD.undef)⟩
theorem d5.drew (f:d5 Γ s a w):d5 Γ s a w.drew:=by
 obtain ⟨⟨c,b,d⟩,h2,e,h⟩:=f;exact ⟨⟨c,b.drew,d⟩,h2,e,h⟩
theorem zN {guards} {o} (h:zO guards o=true):∃ d,o.dst=some d:=by
 grind [zO]
theorem PS {d} (h:Yq s d K) (H:d5 Γ s a w):∃ s',K s'/\d5 Γ s' a w:=by
 unfold Yq at h;split at h
 ·rename_i k n M A;split at h
  ·rename_i k' sz xs E
   cases l:(Nat.beq k' k&&Nat.beq (lo k) 0) with
   | false=>rw [l] at h; exact h.elim
   | true=>
    rw [l,aR] at h;simp only [al] at l;have q:=aj l.1;subst q;obtain ⟨⟨c,F,p⟩,h2,J,G⟩:=H;have f:=(show RX c .arr k' sz xs (a.tmps.getD (xk k') Go.undef) from p _ _ E);obtain ⟨b,cells,U,cap,o,e2,⟨N,x⟩,e5⟩:=(show RX c .sl k' n M (a.tmps.getD d Go.undef) from p _ _ A);have h:=h b cap;rw [St.go_eq] at h;obtain ⟨b1,i,U1,t,⟨L,Z⟩,X⟩:=f;rw [o] at t;cases t;refine ⟨_,h,⟨c,F,fun e z hz=>?_⟩,h2,J,G⟩;rw [a8] at hz;split at hz
    ·cases hz;exact AD (v:=a.tmps.getD e Go.undef) (⟨_,_,_,o,⟨L,Z⟩,X⟩) o x ar
    ·rw [dG] at hz;obtain ⟨y,hy,rfl⟩:=aA.1 hz;have r:=p e y hy
     cases y with
     | me g j B D=>
      simp only [Pe]
      cases hj:Nat.beq k' j with
      | false=>exact r
      | true=>
       have hj:=aj hj;subst hj
       cases g with
       | sl=>
        obtain ⟨b2,m,U2,u,g1,g2,⟨g3,g4⟩,g5⟩:=(show RX c .sl k' B D (a.tmps.getD e Go.undef) from r);rw [o] at g1;cases g1;rw [g2,g3,g4,<- N,<- x];exact RC.of_RD (.lit _ rfl rfl)
       | _=>exact RC.of_RD (RD.junk _)
     | _=>exact r
  ·exact h.elim
 ·exact h.elim
include hΓ hT in
theorem zj {guards} {o} {next} (q:d5 Γ s a w) (p:∀ d,o.dst=some d->d<Γ.nt) (h:Wp T (aq Γ.P) (bX Γ.P) guards s o K) (u:dO Γ a o.dst w K next):o.wpIn Γ.F Γ.n Γ.P a w next Q:=by
 unfold Wp at h
 cases l:yx guards o with
 | true=>
  rw [l,aR] at h;exact Zu hΓ (Dh l) q p h u
 | false=>
  rw [l,br] at h
  cases j:zO guards o with
  | true=>
   rw [j,aR] at h;obtain ⟨d,c⟩:=zN j;refine OS hΓ q c (p d c) h ?_;rintro s' x w' ⟨N,I,L,r,z,e,rfl⟩ i y v;have e:(⟨BK z++((s.demMany I).unmeMany N).t,(s.demMany I).b⟩:St).go fun s=>r.go fun r=>fx s o.dst r fun s=>gL guards o.dst s K:=e;rw [St.go_eq,AV.go_eq,c] at e;have e:gL guards (some d) (Sr s N I d r z) K:=e;obtain ⟨s2,f,hle⟩:=iZ e;exact u s2 x w' f (i.less hle) y v
  | false=>
   rw [j,br] at h
   have fin:dO Γ a o.dst w (fun s=>Dv o.op s fun s=>gL guards o.dst s K) next:=by
    intro s' x w' e i y v;rw [uy] at e;obtain ⟨s2,f,hle⟩:=iZ e;exact u s2 x w' f (i.less hle) y v
   cases m:XN guards o with
   | true=>rw [m,aR] at h; exact X9 hΓ hT q p h fin
   | false=>rw [m,br] at h; exact ld hΓ hT rfl q p h fin
include hΓ hT in
theorem eu {guards} {o} {next} (i:d5 Γ s a w) (f:∀ d,o.dst=some d->d<Γ.nt) (h:Hl T (aq Γ.P) (bX Γ.P) guards s o K) (j:dO Γ a o.dst w K next):o.wpIn Γ.F Γ.n Γ.P a w next Q:=by
 unfold Hl at h;split at h
 ·refine zj hΓ hT i f h ?_;intro s' m w' p e q l;obtain ⟨s2,c,b⟩:=PS p e;exact j s2 m w' c b q l
 ·exact zj hΓ hT i f h j
include hΓ hT in
theorem jE {all:List Oper} {guards:List Nat} (n:Nat) (b:∀ j d,jt all j=some d->d<Γ.nt):∀ (l:List Oper) (k:Nat) (s:St) (a:Act) (w:World) (K:St->Prop),(∀ j o,l[j]?=some o->all[k+j]?=some o)->lg T (aq Γ.P) (bX Γ.P) all guards l s K->d5 Γ s a w ->
  (∀ s' q w',K s'->d5 Γ s' q w'->NC w w'->FT (eE l) a q->wpOpsIn Γ.F Γ.n Γ.P all.toArray Q (List.range' (k+l.length) n) q w')->wpOpsIn Γ.F Γ.n Γ.P all.toArray Q (List.range' k (l.length+n)) a w
 | [],k,s,a,w,K,_,h,m,r=>by simpa using r s a w h m (.refl w) (.refl _ a)
 | o::rest,k,s,a,w,K,E,h,m,r=>by
  have D:all.toArray[k]?=some o:=by simpa using E 0 o rfl
  have hk':∀ j p,rest[j]?=some p->all[k+1+j]?=some p:=fun j p J=>by have:=E (j+1) p (by simpa using J); simpa [dV,n3 1 j] using this
  have e:∀ d,o.dst=some d->d<Γ.nt:=fun d c=>b k d (by rw [eF]; rw [show all[k]?=some o from by simpa using D]; exact c);have hlen:(o::rest).length+n=(rest.length+n)+1:=by simp only [bt]; omega
  have i:k+(o::rest).length=k+1+rest.length:=by simp only [bt]; omega
  rw [i] at r;rw [hlen];simp only [ff,wpOpsIn,D];simp only [lg] at h;split at h
  ·rename_i v;rw [dx b m 0 v ar];simp only [ea,c5];refine eu hΓ hT m e h ?_;intro s' q w' H y L G;exact jE n b rest (k+1) s' q w' K hk' H y (fun z a3 A h1 h2 x u=>r z a3 A h1 h2 (L.trans x) (((FT.put G).mono fun d c=>bc _ c).trans (u.mono fun d c=>bj _ c)))
  ·rename_i v;rw [dx b m 1 v ar];simp only [Nat.reduceBEq,bv,cu];obtain ⟨s2,B,t⟩:=fT m e h;exact ⟨fun f _=>hΓ.fn f,jE n b rest (k+1) s2 _ w K hk' B t fun z a3 A h1 h2 x u=>r z a3 A h1 h2 x (((FT.put ⟨_,rfl⟩).mono fun d c=>bc _ c).trans (u.mono fun d c=>bj _ c))⟩
  ·exact h.elim
include hΓ hT in
theorem kE {all} {guards} (b:∀ j d,jt all j=some d->d<Γ.nt) (l) (k) (s) (a) (w) (K) (m:∀ j,l[j]?=all[k+j]?) (h:lg T (aq Γ.P) (bX Γ.P) all guards l s K) (e:d5 Γ s a w)
  (i:∀ s' c w',K s'->d5 Γ s' c w'->NC w w'->FT (eE l) a c->Q .normal c w'):wpOpsIn Γ.F Γ.n Γ.P all.toArray Q (List.range' k l.length) a w:=by
 have:=jE (Q:=Q) hΓ hT 0 b l k s a w K (fun j o hj=>by rw [<- m j]; exact hj) h e (fun s' c w' h1 h2 f p=>i s' c w' h1 h2 f p);simpa using this
end
open Go
theorem dv {l} {k}:dj l k=true↔k∈l:=by
 induction l with
 | nil=>simp [dj]
 | cons d r b=>
  simp only [dj,bF]
  cases a:Nat.beq d k with
  | true=>rw [aR]; exact ⟨fun _ => .inl (aj a).symm,fun _=>rfl⟩
  | false=>rw [br,b]; exact ⟨.inr,fun h=>h.resolve_left fun e=>de a e.symm⟩
def aT {α:Type} (f:(α->Prop)->Prop):Prop:=∀ K,f K->∃ v,K v/\∀ K',K' v->f K'
theorem aT.k {α} (v:α):aT (fun K=>K v):=fun _ h=>⟨v,h,fun _ h=>h⟩
theorem aT.no {α}:aT (fun _:α->Prop=>False):=fun _ h=>h.elim
theorem aT.and {α} {A} {f:(α->Prop)->Prop} (h:aT f):aT (fun K=>A/\f K):=fun K ⟨a,g⟩=>let ⟨v,h1,h2⟩:=h K g; ⟨v,h1,fun K' k=>⟨a,h2 K' k⟩⟩
theorem aT.ex {α β:Type} {A:β->Prop} {f:β->(α->Prop)->Prop} (h:∀ b,aT (f b)):aT (fun K=>∃ b,A b/\f b K):=fun K ⟨b,a,g⟩=>let ⟨v,h1,h2⟩:=h b K g; ⟨v,h1,fun K' k=>⟨b,a,h2 K' k⟩⟩
theorem cg {α} {b} {f g:(α->Prop)->Prop} (hf:aT f) (a:aT g):aT (fun K=>bif b then f K else g K):=by cases b <;> assumption
theorem K7 {α} {k k'} {f:(α->Prop)->Prop} (hf:aT f):aT (fun K=>ikW k k' (f K)):=cg hf aT.no
theorem Ay {α} {b} {f:(α->Prop)->Prop} (hf:aT f):aT (fun K=>bandW b (f K)):=cg hf aT.no
theorem yT (T) (op) (t) (b):aT (Ma T op t b):=by
 unfold Ma;cases get T t <;> cases op <;> first | exact aT.no | exact Ay (aT.k _)
theorem Sp (T) (op) (t) (a b):aT (yj T op t a b):=by
 unfold yj;cases a <;> try exact aT.no
 ·cases b <;> try exact aT.no
  cases op <;> first | exact K7 (aT.k _) | exact K7 (aT.and (aT.k _)) | exact aT.and (aT.k _)
 ·cases b <;> try exact aT.no
  cases get T t <;> cases op <;> first | exact aT.no | exact Ay (aT.k _)
 ·rename_i u;cases b <;> try exact aT.no
  rename_i v;cases u <;> cases v <;> grind [aT.no,yT]
 ·cases b <;> try exact aT.no
  rename_i v;cases v <;> grind [aT.no,yT]
 ·cases b <;> try exact aT.no
  rename_i v;cases v <;> grind [aT.no,yT]
 ·rename_i xs;cases b <;> try exact aT.no
  rename_i c
  cases get T t with
  | none=>cases op <;> exact aT.no
  | some i=>cases op <;> first | exact aT.no | (simp only []; cases wF T 4 t xs c <;> first | exact aT.no | exact aT.k _)
theorem VS (op) (a):aT (Zf op a):=by
 unfold Zf;cases op <;> cases a <;> first | exact aT.no | exact aT.k _
theorem oU {α} (o) (d) {f:Nat->(α->Prop)->Prop} (h:∀ n,aT (f n)):aT (fun K=>jU o d fun n=>f n K):=by
 unfold jU
 cases o with
 | none=>exact h _
 | some v=>cases v <;> first | exact aT.no | exact aT.and (h _)
theorem aT.szOK {α} {a b} {xs} {f:(α->Prop)->Prop} (h:aT f):aT (fun K=>szOK a b xs (f K)):=by
 unfold Go.AI.szOK;refine cg h ?_;cases xs <;> first | exact h | exact aT.no
section
variable (T:eS) (C:FuncId->List AV->AV->Prop) (bx:List (Nat×List AV)) (e:Operand->AV)
theorem ob {i} {cs} {f:AV->(AV->Prop)->Prop} (h:∀ v,aT (f v)):aT (fun K=>match eO i cs with | some v=>f v K | none=>False):=by
 cases eO i cs with
 | none=>exact aT.no
 | some v=>exact h v
theorem H9 (ty) (op):aT (gG T C bx e ty op):=by
 cases op with
 | move x=>exact aT.k _
 | assign x=>exact aT.k _
 | pick c a b=>
  unfold gG;simp only;cases e c <;> first | exact aT.no | exact cg (aT.k _) (aT.k _)
 | binOp op t x y p=>exact Sp T op t _ _
 | unOp op t x=>exact VS op _
 | load t x=>
  unfold gG;simp only
  cases get T t with
  | none=>exact aT.no
  | some i=>
   cases e x with
   | loc d off=>
    simp only
    cases get bx d with
    | none=>exact aT.no
    | some cs=>exact ob fun _=>aT.k _
   | ref cs=>exact ob fun _=>aT.k _
   | pin _ _ _ cs=>exact ob fun _=>aT.k _
   | _=>exact aT.no
 | nilCheck x=>unfold gG; simp only; cases e x <;> first | exact aT.no | exact aT.k _
 | fieldAddr t x f=>
  unfold gG;simp only
  cases get T t with
  | none=>exact aT.no
  | some i=>
   refine cg ?_ aT.no
   cases qj i.flds f with
   | none=>exact aT.no
   | some p=>
    obtain ⟨off,ft⟩:=p;simp only
    cases get T ft with
    | none=>exact aT.no
    | some j=>refine cg aT.no ?_; cases e x <;> first | exact aT.no | exact aT.k _
 | field t x f=>
  unfold gG;simp only
  cases get T t with
  | none=>exact aT.no
  | some i=>
   refine cg ?_ aT.no
   cases qj i.flds f with
   | none=>exact aT.no
   | some p=>
    obtain ⟨off,ft⟩:=p;simp only
    cases get T ft with
    | none=>exact aT.no
    | some j=>cases e x <;> first | exact aT.no | exact cg (ob fun _=>aT.k _) aT.no
 | indexAddr t x n=>
  unfold gG;simp only
  cases get T t with
  | none=>exact aT.no
  | some i=>
   simp only
   cases get T i.elem with
   | none=>exact aT.no
   | some j=>
    cases e n <;> first | exact aT.no | skip
    cases e x <;> first | exact aT.no | exact cg (aT.szOK (aT.and (aT.ex fun _=>aT.k _))) aT.no | exact cg (aT.and (aT.and (aT.k _))) aT.no
 | index t x n=>
  unfold gG;simp only
  cases get T t with
  | none=>exact aT.no
  | some i=>
   simp only
   cases get T i.elem with
   | none=>exact aT.no
   | some j=>cases e n <;> cases e x <;> first | exact aT.no | exact cg (aT.and (aT.and (aT.and (ob fun _=>aT.k _)))) aT.no
 | slice t x lo hi o=>
  unfold gG;simp only
  cases get T t with
  | none=>exact aT.no
  | some i=>
   simp only
   cases get T i.elem with
   | none=>exact aT.no
   | some j=>
    cases e x <;> first | exact aT.no | skip
    refine cg (aT.szOK (oU _ _ fun l=>oU _ _ fun h=>?_)) aT.no
    cases o.map e with
    | none=>exact aT.and (aT.and (aT.k _))
    | some v=>cases v <;> first | exact aT.no | exact cg (aT.and (aT.and (aT.and (aT.k _)))) aT.no
 | sliceToArrayPointer t x=>
  unfold gG;simp only
  cases get T t with
  | none=>exact aT.no
  | some i=>cases e x <;> first | exact aT.no | exact cg (aT.and (aT.k _)) aT.no
 | extract x n=>
  unfold gG;simp only;cases e x <;> first | exact aT.no | skip
  rename_i vs;simp only;cases qj vs n <;> first | exact aT.no | exact aT.k _
 | build t parts=>
  unfold gG;simp only [uA]
  cases get T t with
  | none=>exact aT.no
  | some i=>
   obtain ⟨A,B,q,z,D,u,ik,w,E⟩:=i;simp only;cases q <;> first | exact aT.no | skip
   refine cg ?_ (cg ?_ aT.no)
   ·split <;> first | exact aT.no | exact cg (aT.k _) aT.no
   ·cases get T u with
    | none=>exact aT.no
    | some k=>simp only; split <;> first | exact aT.no | exact cg (aT.k _) aT.no
 | buildSlice t n parts=>
  unfold gG;simp only
  cases get T t with
  | none=>exact aT.no
  | some i=>
   simp only
   cases get T i.elem with
   | none=>exact aT.no
   | some j=>refine cg ?_ aT.no; cases kF e parts.toList 0 j.size <;> cases j.zero.cells? <;> first | exact aT.no | (simp only [Du]; exact aT.k _)
 | convert a b x=>
  unfold gG;simp only;cases get T a <;> cases get T b <;> first | exact aT.no | (cases e x <;> first | exact aT.no | exact cg (aT.k _) aT.no)
 | call c=>
  unfold gG;simp only
  cases c.callee with
  | value f=>
   simp only;cases e f <;> first | exact aT.no | exact aT.ex fun _=>aT.k _
  | invoke r m=>exact aT.no
  | builtin b=>
   cases b <;> first | exact aT.no | skip
   ·simp only;split <;> first | exact aT.no | skip
    rename_i x t _ _
    cases get T t with
    | none=>exact aT.no
    | some i=>simp only; cases e x <;> exact cg (aT.k _) aT.no
   ·simp only;split <;> first | exact aT.no | skip
    rename_i k x r _;cases mn true k x r <;> first | exact aT.no | exact aT.k _
   ·simp only;split <;> first | exact aT.no | skip
    rename_i k x r _;cases mn false k x r <;> first | exact aT.no | exact aT.k _
 | _=>exact aT.no
end
open Go
def Ln (e e':Operand->AV) (bx bx':List (Nat×List AV)) (xs:List Operand):Prop:=∀ x∈xs,e' x=e x/\∀ d off,e x = .loc d off->get bx' d=get bx d
def NG (s s':St) (xs:List Operand):Prop:=∀ x∈xs,(∀ g k n a,ev s x = .me g k n a->get s'.t (xk k)=get s.t (xk k)) /\
 (∀ b,ev s x = .lit (.map (some b))->∀ k n a,get s.t (xk k)=some (.me .ents k n a)->get s'.t (xk k)=get s.t (xk k)) /\
 ∀ v n cap,ev s x = .lit (.slice v n cap)->∀ k b c sz a,get s.t (xk k)=some (.me (.row b c) k sz a)->get s'.t (xk k)=get s.t (xk k)
def uj:Op->List Operand
 | .move _=>[]
 | .assign _=>[]
 | op=>op.operands.toList
def CA:Op->List Operand
 | .load _ x=>[x]
 | .store _ a _=>[a]
 | _=>[]
def NH (s s':St) (xs:List Operand):Prop:=∀ x∈xs,∀ k b off cs,ev s x = .pin k b off cs->get s'.t (xk k)=get s.t (xk k)
section
variable (T:eS) (C:FuncId->List AV->AV->Prop) {bx bx':List (Nat×List AV)} {e e':Operand->AV}
theorem rm:∀ (l:List (Nat×Operand)) (n sz:Nat),(∀ p∈l,e' p.2=e p.2)->kF e' l n sz=kF e l n sz
 | [],_,_,_=>rfl
 |(i,x)::r,n,sz,h=>by
  simp only [kF,h (i,x) a7,rm r (n+1) sz fun p a=>h p (a6 _ a)]
theorem Dk {l:List Operand} (h:∀ x∈l,e' x=e x):l.map e'=l.map e:=eG h
theorem PD {ty} {op} {K} (d:Ln e e' bx bx' op.operands.toList) (h:gG T C bx e ty op K):gG T C bx' e' ty op K:=by
 cases op with
 | move x=>have h1:=(d x (by simp [Op.operands])).1; unfold gG at h ⊢; simp only [h1] at h ⊢; exact h
 | assign x=>have h1:=(d x (by simp [Op.operands])).1; unfold gG at h ⊢; simp only [h1] at h ⊢; exact h
 | pick c a b=>
  have h1:=(d c (by simp [Op.operands])).1;have h2:=(d a (by simp [Op.operands])).1;have q:=(d b (by simp [Op.operands])).1;grind [gG]
 | binOp op t x y p=>
  have h1:=(d x (by simp [Op.operands])).1;have h2:=(d y (by simp [Op.operands])).1;grind [gG]
 | unOp op t x=>have h1:=(d x (by simp [Op.operands])).1; unfold gG at h ⊢; simp only [h1] at h ⊢; exact h
 | load t x=>
  obtain ⟨h1,h2⟩:=d x (by simp [Op.operands]);unfold gG at h ⊢;grind
 | nilCheck x=>have h1:=(d x (by simp [Op.operands])).1; unfold gG at h ⊢; simp only [h1] at h ⊢; exact h
 | fieldAddr t x f=>have h1:=(d x (by simp [Op.operands])).1; unfold gG at h ⊢; simp only [h1] at h ⊢; exact h
 | field t x f=>have h1:=(d x (by simp [Op.operands])).1; unfold gG at h ⊢; simp only [h1] at h ⊢; exact h
 | indexAddr t x n=>
  have h1:=(d x (by simp [Op.operands])).1;have h2:=(d n (by simp [Op.operands])).1;grind [gG]
 | index t x n=>
  have h1:=(d x (by simp [Op.operands])).1;have h2:=(d n (by simp [Op.operands])).1;grind [gG]
 | slice t x lo hi j=>
  have h1:=(d x (by simp [Op.operands])).1;have hl:lo.map e'=lo.map e:=by cases lo with | none=>rfl | some y=>simp [(d y (by simp [Op.operands])).1]
  have o:hi.map e'=hi.map e:=by cases hi with | none=>rfl | some y=>simp [(d y (by simp [Op.operands])).1]
  have hm:j.map e'=j.map e:=by cases j with | none=>rfl | some y=>simp [(d y (by simp [Op.operands])).1]
  unfold gG at h ⊢; simp only [h1,hl,o,hm] at h ⊢; exact h
 | sliceToArrayPointer t x=>have h1:=(d x (by simp [Op.operands])).1; unfold gG at h ⊢; simp only [h1] at h ⊢; exact h
 | extract x n=>have h1:=(d x (by simp [Op.operands])).1; unfold gG at h ⊢; simp only [h1] at h ⊢; exact h
 | build t parts=>
  have h1:(parts.toList.map fun (p:Nat×Operand)=>(p.1,e' p.2))=parts.toList.map fun (p:Nat×Operand)=>(p.1,e p.2):=eG fun p i=>by
   rw [(d p.2 (by simp only [Op.operands,bp]; exact ⟨p,i,rfl⟩)).1]
  grind [gG]
 | buildSlice t n parts=>
  have h1:=fun (m sz:Nat)=>rm (e:=e) (e':=e') parts.toList m sz fun p i=>(d p.2 (by simp only [Op.operands,bp]; exact ⟨p,i,rfl⟩)).1;grind [gG]
 | convert a b x=>have h1:=(d x (by simp [Op.operands])).1; unfold gG at h ⊢; simp only [h1] at h ⊢; exact h
 | call c=>
  obtain ⟨l,args,u⟩:=c;have h1:∀ x∈args.toList,e' x=e x:=fun x hx=>(d x (by grind [Op.operands,Call.operands])).1;have i:(args.toList.map fun x=>(e' x).pub)=args.toList.map fun x=>(e x).pub:=eG fun x hx=>by rw [h1 x hx]
  have hm:=Dk h1
  cases l with
  | value f=>
   have h2:=(d f (by simp [Op.operands,Call.operands])).1;grind [gG]
  | invoke r m=>unfold gG at h; exact h.elim
  | builtin b=>
   cases b with
   | len=>
    grind [gG,List.mem_cons_self]
   | max=>grind [gG]
   | min=>grind [gG]
   | _=>unfold gG at h; exact h.elim
 | _=>unfold gG at h; exact h.elim
end
open Go
inductive lK where
 | val (v:AV)
 | alloc (cs:List AV)
 | store (d:Nat) (cs:List AV)
 | app (k:Nat) (v:AV)
 | xst (k:Nat) (v:AV)
 | cut (k n:Nat) (v:AV)
 | lent (N I:List Nat) (v:AV) (es:List (Nat×AV)) (rd:List Nat)
section
variable (T:eS) (C:FuncId->List AV->AV->Prop)
def yd (s:St) (dst:Option Nat) (ty:TypeId) (op:Op) (K:lK->Prop):Prop:=
 match op with
 | .alloc t=>match dst,get T t with
  | some d,some i=>match i.zero.cells? with
   | some cs=>bif Nat.beq cs.length i.size&&cs.all (fun c=>c.isCell) then K (.alloc cs) else False
   | none=>False
  | _,_=>False
 | .store t a x=>match dst,get T t,ev s a,(ev s x).cells? with
  | none,some i,.loc d off,some cs=>bif Nat.beq cs.length i.size&&cs.all (fun c=>c.isCell) then
    match get s.b d with
    | some c0=>bif Nat.ble (off+cs.length) c0.length&&Nat.blt 0 cs.length then K (.store d (tZ c0 off cs)) else False
    | none=>False
   else False
  | _,_,_,_=>False
 | .call { callee := .builtin .append,args:=args,argTypes:=n }=>match args.toList,n.toList,dst with
  | [x,y],[t,m],some d=>match get T t with
   | some i=>match get T i.elem with
    | some j=>match ev s x,ev s y with
     | .sl o sz xs,.sl _ f e=>bif Nat.beq i.kind 3&&Nat.beq t m&&nP j&&Nat.blt 0 j.size&&H5 o j.size sz then szOK j.size sz xs (szOK j.size f e (gK (xs.length+e.length) j.bytes/\xs.length+e.length<=4611686018427387904 /\
       match o with
       | .full=>bif MO xs e then K (.app d (.sl (.id d) j.size (xs++e))) else bif s7 e then False else K (.val (.sl .full sz xs))
       | .id k=>K (.app k (.sl (.id k) j.size (xs++e)))
       | .no=>False)) else False
     | _,_=>False
    | none=>False
   | none=>False
  | _,_,_=>False
 | .makeSlice t l c=>match dst,get T t with
  | some d,some i=>match get T i.elem with
   | some j=>match ev s l,ev s c with
    | .int _ l,.int _ c=>match j.zero.cells? with
     | some h=>bif Nat.beq i.kind 3&&Nat.beq h.length j.size&&h.all (fun c=>c.isCell)&&Nat.blt 0 j.size then
       0<=l/\l<=c/\gK c.toNat j.bytes/\c<=4611686018427387904/\K (.app d (.sl (.id d) j.size (List.replicate l.toNat h))) else False
     | none=>False
    | _,_=>False
   | none=>False
  | _,_=>False
 | op=>gG T C s.b (ev s) ty op fun v=>v.go fun v=>K (.val v)
end
section
variable (T:eS) (C:FuncId->List AV->AV->Prop)
def iV (s:St) (t:TypeId) (k len:Nat) (i:Int) (K:lK->Prop):Prop:=match get T t with
 | none=>False
 | some a=>match get T a.elem with
  | none=>False
  | some j=>match iH s k with
   | none=>False
   | some (sz,_)=>bif Nat.beq a.kind 3&&Nat.beq j.size sz then 0<=i/\i<len/\K (.val (.me (.ptr sz 0) k i.toNat [])) else False
def C7 (s:St) (dst:Option Nat) (t:TypeId) (sz j k i:Nat) (v:AV) (K:lK->Prop):Prop:=match dst,get T t,v.cells? with
 | none,some b,some cs=>match iH s k with
  | none=>False
  | some (a,xs)=>bif Nat.beq a sz&&(Nat.beq cs.length b.size&&(cs.all (fun c=>c.isCell)&&(Nat.ble (j+cs.length) sz&&Nat.blt 0 cs.length))) then
    ∃ r,xs[i]?=some r/\rowK s k sz (dD xs i (tZ r j (cs.map AV.pub1))) (fun v=>K (.xst k v)) else False
 | _,_,_=>False
def Ps (t:TypeId) (n:Nat) (K:lK->Prop):Prop:=match get T t with
 | none=>False
 | some i=>bif Nat.beq i.kind 3 then K (.val (.int .i64 n)) else False
def C8 (s:St) (t:TypeId) (k n:Nat) (lo hi a:Option AV) (K:lK->Prop):Prop:=match get T t with
 | none=>False
 | some i=>match get T i.elem with
  | none=>False
  | some j=>match iH s k with
   | none=>False
   | some (sz,_)=>bif Nat.beq i.kind 3&&(Nat.beq j.size sz&&a.isNone) then jU lo 0 fun l=>jU hi n fun h=>l<=h/\h<=n/\K (.val (.me (.sub sz l) k (h - l) [])) else False
def Wh (s:St) (dst:Option Nat) (d:List TypeId) (sz k h:Nat) (y:AV) (K:lK->Prop):Prop:=match dst,d with
 | some _,[t,c]=>match get T t with
  | none=>False
  | some i=>match get T i.elem with
   | none=>False
   | some j=>match y with
    | .me (.sub b l) k' m _=>match iH s k with
     | none=>False
     | some (a,xs)=>bif Nat.beq i.kind 3&&(Nat.beq t c&&(Nat.beq sz a&&(Nat.beq b a&&(Nat.beq k k'&&(Nat.beq j.size a&&Nat.blt 0 a))))) then
       h+m<=xs.length/\K (.cut k (h+m) (.me .arr k a (xs.take h++(xs.drop l).take m))) else False
    | _=>False
 | _,_=>False
theorem HE {size sz} {xs} {K K'} (a:K->K') (h:szOK size sz xs K):szOK size sz xs K':=by
 unfold szOK at h ⊢;grind
def Wi (s:St) (dst:Option Nat) (d:List TypeId) (k n:Nat) (y:AV) (K:lK->Prop):Prop:=match dst,d with
 | some _,[t,c]=>match get T t with
  | none=>False
  | some i=>match get T i.elem with
   | none=>False
   | some j=>match iH s k with
    | none=>False
    | some (sz,xs)=>match y with
     | .sl _ b a=>bif Nat.beq i.kind 3&&(Nat.beq t c&&(nP j&&(Nat.blt 0 j.size&&Nat.beq j.size sz))) then szOK j.size b a (0<a.length/\gK (xs.length+a.length) j.bytes/\xs.length+a.length<=4611686018427387904 /\
       K (.cut k (n+a.length) (.me .arr k sz (xs++a)))) else False
     | _=>False
 | _,_=>False
def LW (dst:Option Nat) (e:List TypeId) (y:AV) (K:lK->Prop):Prop:=match dst,e with
 | some d,[t,f]=>match get T t with
  | none=>False
  | some c=>match get T c.elem with
   | none=>False
   | some j=>match y with
    | .sl _ b a=>bif Nat.beq c.kind 3&&(Nat.beq t f&&(nP j&&Nat.blt 0 j.size)) then szOK j.size b a (0<a.length/\gK a.length j.bytes/\a.length<=4611686018427387904 /\
      K (.cut d a.length (.me .arr d j.size a))) else False
    | _=>False
 | _,_=>False
def ME (s:St):List Operand->Option (List AV)
 | []=>some []
 | x::r=>match ev s x with
  | .loc _ _=>none
  | v=>bif v.isCell then (match ME s r with | some l=>some (v.pub1::l) | none=>none) else none
def HY (s:St) (dst:Option Nat) (f:FuncId) (first captured:List Operand) (K:lK->Prop):Prop:=bif first.isEmpty then (match ME s captured,dst with
 | some l,some _=>K (.val (.clo f l))
 | _,_=>False) else False
theorem zZ {s s':St}:∀ (l:List Operand),(∀ x∈l,ev s' x=ev s x)->ME s' l=ME s l
 | [],_=>rfl
 | x::r,h=>by
  have h1:=h x a7;have h2:=zZ r fun y hy=>h y (a6 _ hy);simp only [ME,h1,h2]
theorem T6 {s:St}:∀ (l:List Operand) (r:List AV) (G:St->List AV->Prop),ME s l=some r->G s r->Bd l s G
 | [],r,G,h,hG=>by cases h; exact hG
 | x::l,r,G,h,hG=>by
  unfold ME at h;unfold Bd;split at h
  ·cases h
  ·rename_i v hv
   cases a:(ev s x).isCell with
   | false=>rw [a] at h; cases h
   | true=>
    rw [a,aR] at h;split at h
    ·rename_i b hl;cases h;have _:=hG;split
     ·grind
     ·rw [a,aR]; exact T6 l b _ hl hG
    ·cases h
def Of (s:St) (t:TypeId) (sz j k i:Nat) (K:lK->Prop):Prop:=match get T t with
 | none=>False
 | some b=>match iH s k with
  | none=>False
  | some (a,xs)=>bif Nat.beq a sz then ∃ r,xs[i]?=some r/\match eO b (r.drop j) with | some v=>v.go fun v=>K (.val v) | none=>False else False
def sW (t:TypeId) (f sz j k i:Nat) (K:lK->Prop):Prop:=match get T t with
 | none=>False
 | some a=>bif Nat.beq a.kind 1 then match qj a.flds f with
   | none=>False
   | some (off,ft)=>match get T ft with
    | none=>False
    | some u=>bif Nat.beq u.size 0 then False else K (.val (.me (.ptr sz (j+off)) k i []))
  else False
def o4 (s:St) (dst:Option Nat) (ty:TypeId) (op:Op) (K:lK->Prop):Prop:=match op with
 | .indexAddr t x n=>match ev s x,ev s n with
  | .me .sl k len _,.int _ i=>iV T s t k len i K
  | .lit (.slice _ len cap),.int _ i=>∃ k b sz xs,(ev s x = .lit (.slice (some ⟨b,0,none⟩) len cap)/\get s.t (xk k)=some (.me (.row b cap) k sz xs)/\xs.length=len)/\iV T s t k len i K
  | _,_=>yd T C s dst ty op K
 | .store t a x=>match ev s a with
  | .me (.ptr sz j) k i _=>C7 T s dst t sz j k i (ev s x) K
  | .pin k b off _=>sY T s dst t k b off (ev s x) fun k v=>K (.xst k v)
  | _=>yd T C s dst ty op K
 | .call { callee := .builtin .len,args:=args,argTypes:=c }=>match args.toList,c.toList with
  | [x],[t]=>match ev s x with
   | .me .sl _ n _=>Ps T t n K
   | .lit (.slice _ n _)=>Ps T t n K
   | _=>yd T C s dst ty op K
  | _,_=>yd T C s dst ty op K
 | .mapUpdate t m k x=>match ev s m with
  | .lit (.map (some b))=>yK T s dst t b (ev s k) (ev s x) fun k v=>K (.xst k v)
  | _=>False
 | .insert t m k x=>match ev s m with
  | .lit (.map (some b))=>yK T s dst t b (ev s k) (ev s x) fun k v=>K (.xst k v)
  | _=>False
 | .lookup t m k ok=>match ev s m with
  | .lit (.map (some b))=>n9 T s t b (ev s k) ok fun v=>v.go fun v=>K (.val v)
  | .mapv xs=>sC T t xs (ev s k) ok fun v=>v.go fun v=>K (.val v)
  | _=>False
 | .call { callee := .builtin .append,args:=args,argTypes:=c }=>match args.toList with
  | [x,y]=>match ev s x with
   | .me (.sub sz off) k h _=>bif Nat.beq off 0 then Wh T s dst c.toList sz k h (ev s y) K else yd T C s dst ty op K
   | .me .sl k n _=>Wi T s dst c.toList k n (ev s y) K
   | .sl .full _ []=>yd T C s dst ty op K\/LW T dst c.toList (ev s y) K
   | _=>yd T C s dst ty op K
  | _=>yd T C s dst ty op K
 | .makeFunc (.func f) first captured=>HY s dst f first.toList captured.toList K
 | .slice t x lo hi d=>match ev s x with
  | .me .sl k n _=>C8 T s t k n (lo.map (ev s)) (hi.map (ev s)) (d.map (ev s)) K
  | _=>yd T C s dst ty op K
 | .load t x=>match ev s x with
  | .me (.ptr sz j) k i _=>Of T s t sz j k i K
  | .pin k b off cs=>qG T s t k b off cs fun v=>v.go fun v=>K (.val v)
  | _=>yd T C s dst ty op K
 | .fieldAddr t x f=>match ev s x with
  | .me (.ptr sz j) k i _=>sW T t f sz j k i K
  | _=>yd T C s dst ty op K
 | op=>yd T C s dst ty op K
end
def Db (T:eS) (C:FuncId->List AV->AV->Prop) (E:vC) (guards:List Nat) (s:St) (o:Oper) (K:lK->Prop):Prop:=
 bif zO guards o then Cu E s o fun N I L r a=>r.go fun r=>XR (BK a) fun es=>K (.lent N I r es ((ku L).map xk))
 else o4 T C s o.dst o.type o.op K
def stepR (s:St) (dst:Option Nat):lK->St
 | .val v=>match dst with | some d=>⟨(d,v)::s.t,s.b⟩ | none=>s
 | .alloc cs=>match dst with | some d=>⟨(d,.loc d 0)::unloc d s.t,(d,cs)::s.b⟩ | none=>s
 | .store d cs=>⟨s.t,(d,cs)::s.b⟩
 | .app k v=>match dst with | some d=>⟨(d,v)::(s.dem k).t,(s.dem k).b⟩ | none=>s
 | .xst k v=>⟨(xk k,v)::s.t,s.b⟩
 | .cut k n v=>match dst with | some d=>⟨(d,.me .sl k n [])::(xk k,v)::iX (AV.unme k) s.t,s.b⟩ | none=>s
 | .lent N I v es _=>match dst with | some d=>⟨(d,v)::(es++((s.demMany I).unmeMany N).t),(s.demMany I).b⟩ | none=>s
theorem aT.mono {α} {f:(α->Prop)->Prop} (h:aT f) {K K':α->Prop} (hf:f K) (a:∀ v,K v->K' v):f K':=
 let ⟨v,h1,h2⟩:=h K hf; h2 K' (a v h1)
theorem aT.or {α} {f g:(α->Prop)->Prop} (hf:aT f) (a:aT g):aT (fun K=>f K\/g K):=fun K h=>h.elim (fun h=>let ⟨v,h1,h2⟩:=hf K h; ⟨v,h1,fun K' k => .inl (h2 K' k)⟩) (fun h=>let ⟨v,h1,h2⟩:=a K h; ⟨v,h1,fun K' k => .inr (h2 K' k)⟩)
theorem iw (T) (C) (s) (dst) (ty) (op):aT (yd T C s dst ty op):=by
 unfold yd;split
 ·cases dst with
  | none=>exact aT.no
  | some d=>
   rename_i t
   cases get T t with
   | none=>exact aT.no
   | some i=>
    simp only
    cases i.zero.cells? with
    | none=>exact aT.no
    | some cs=>exact cg (aT.k _) aT.no
 ·rename_i t x y
  cases dst with
  | some d=>exact aT.no
  | none=>
   cases get T t with
   | none=>exact aT.no
   | some i=>
    cases ev s x <;> first | exact aT.no | skip
    rename_i d off
    cases (ev s y).cells? with
    | none=>exact aT.no
    | some cs=>
     refine cg ?_ aT.no
     cases get s.b d with
     | none=>exact aT.no
     | some c0=>exact cg (aT.k _) aT.no
 ·rename_i args f;generalize args.toList=l;generalize f.toList=a;rcases l with _ | ⟨x,_ | ⟨y,_ | ⟨z,l⟩⟩⟩ <;> rcases a with _ | ⟨t,_ | ⟨m,_ | ⟨e,a⟩⟩⟩ <;> cases dst <;> first | exact aT.no | skip
  simp only
  cases get T t with
  | none=>exact aT.no
  | some i=>
   simp only
   cases get T i.elem with
   | none=>exact aT.no
   | some j=>
    simp only;cases ev s x <;> cases ev s y <;> first | exact aT.no | skip
    rename_i o _ _ _ _ _;refine cg (aT.szOK (aT.szOK (aT.and (aT.and ?_)))) aT.no;cases o <;> first | exact aT.no | exact aT.k _ | exact cg (aT.k _) (cg aT.no (aT.k _))
 ·rename_i t l c
  cases dst with
  | none=>exact aT.no
  | some d=>
   cases get T t with
   | none=>exact aT.no
   | some i=>
    simp only
    cases get T i.elem with
    | none=>exact aT.no
    | some j=>
     simp only;cases ev s l <;> cases ev s c <;> first | exact aT.no | skip
     simp only
     cases j.zero.cells? with
     | none=>exact aT.no
     | some n=>exact cg (aT.and (aT.and (aT.and (aT.and (aT.k _))))) aT.no
 ·intro K h;have h':=(H9 T C s.b (ev s) ty op) _ h;grind [AV.go_eq]
theorem dU {α β:Type} {f:β->(α->Prop)->Prop} (h:∀ b,aT (f b)):aT (fun K=>∃ b,f b K):=fun K ⟨b,g⟩=>let ⟨v,h1,h2⟩:=h b K g; ⟨v,h1,fun K' k=>⟨b,h2 K' k⟩⟩
theorem BL (T) (s) (dst) (mt) (b) (kv xv):aT (fun K:lK->Prop=>yK T s dst mt b kv xv fun k v=>K (.xst k v)):=by
 unfold yK;split
 ·split
  ·split
   ·refine cg ?_ aT.no;split
    ·simp only [oH]; exact dU fun k=>dU fun l=>dU fun key=>aT.and (aT.k _)
    ·exact aT.no
   ·exact aT.no
  ·exact aT.no
 ·exact aT.no
theorem LB (T) (s) (t) (b) (kv) (ok):aT (fun K:lK->Prop=>n9 T s t b kv ok fun v=>v.go fun v=>K (.val v)):=by
 unfold n9;split
 ·split
  ·split
   ·refine cg ?_ aT.no;split
    ·refine dU fun k=>dU fun l=>dU fun key=>dU fun g=>aT.and ?_;simp only [AV.go_eq]; exact aT.k _
    ·exact aT.no
   ·exact aT.no
  ·exact aT.no
 ·exact aT.no
theorem Mi (T) (t) (xs) (kv) (ok):aT (fun K:lK->Prop=>sC T t xs kv ok fun v=>v.go fun v=>K (.val v)):=by
 unfold sC;split
 ·split
  ·split
   ·refine cg ?_ aT.no;split
    ·refine dU fun l=>dU fun key=>dU fun g=>aT.and ?_;simp only [AV.go_eq]; exact aT.k _
    ·exact aT.no
   ·exact aT.no
  ·exact aT.no
 ·exact aT.no
theorem LY (T) (s) (t) (k b off) (cs):aT (fun K:lK->Prop=>qG T s t k b off cs fun v=>v.go fun v=>K (.val v)):=by
 unfold qG;split
 ·exact aT.no
 ·split
  ·simp only [AV.go_eq]; exact aT.k _
  ·split
   ·refine cg ?_ aT.no;split
    ·simp only [AV.go_eq]; exact aT.and (aT.k _)
    ·exact aT.no
   ·exact aT.no
theorem H4 (T) (s) (dst) (t) (k b off) (v):aT (fun K:lK->Prop=>sY T s dst t k b off v fun k v=>K (.xst k v)):=by
 unfold sY;split
 ·split
  ·exact aT.no
  ·simp only [lU]; exact cg (aT.and (aT.k _)) aT.no
 ·exact aT.no
theorem Pp (s) (k sz) (xs):aT (fun K:lK->Prop=>rowK s k sz xs fun v=>K (.xst k v)):=by
 unfold rowK;split <;> exact aT.k _
theorem p0 (T) (s) (t) (k len) (i):aT (iV T s t k len i):=by
 unfold iV;split
 ·exact aT.no
 split
 ·exact aT.no
 split
 ·exact aT.no
 exact cg (aT.and (aT.and (aT.k _))) aT.no
theorem BY (T) (t) (n):aT (Ps T t n):=by
 unfold Ps;split
 ·exact aT.no
 exact cg (aT.k _) aT.no
theorem PF (T) (C) (s) (dst) (ty) (op):aT (o4 T C s dst ty op):=by
 unfold o4;split
 ·split
  ·exact p0 T s _ _ _ _
  ·exact dU fun k=>dU fun b=>dU fun sz=>dU fun xs=>aT.and (p0 T s _ _ _ _)
  ·exact iw T C s dst ty _
 ·split
  ·unfold C7;split
   ·split
    ·exact aT.no
    exact cg (aT.ex fun r=>Pp _ _ _ _) aT.no
   ·exact aT.no
  ·exact H4 T s dst _ _ _ _ _
  ·exact iw T C s dst ty _
 ·split
  ·split
   ·exact BY T _ _
   ·exact BY T _ _
   ·exact iw T C s dst ty _
  ·exact iw T C s dst ty _
 ·split
  ·exact BL T s dst _ _ _ _
  ·exact aT.no
 ·split
  ·exact BL T s dst _ _ _ _
  ·exact aT.no
 ·split
  ·exact LB T s _ _ _ _
  ·exact Mi T _ _ _ _
  ·exact aT.no
 ·split
  ·split
   ·refine cg ?_ (iw T C s dst ty _)
    ·unfold Wh;split
     ·split
      ·exact aT.no
      split
      ·exact aT.no
      split
      ·split
       ·exact aT.no
       ·exact cg (aT.and (aT.k _)) aT.no
      ·exact aT.no
     ·exact aT.no
   ·unfold Wi;split
    ·split
     ·exact aT.no
     split
     ·exact aT.no
     split
     ·exact aT.no
     split
     ·exact cg (aT.szOK (aT.and (aT.and (aT.and (aT.k _))))) aT.no
     ·exact aT.no
    ·exact aT.no
   ·refine aT.or (iw T C s dst ty _) ?_;unfold LW;split
    ·split
     ·exact aT.no
     split
     ·exact aT.no
     split
     ·exact cg (aT.szOK (aT.and (aT.and (aT.and (aT.k _))))) aT.no
     ·exact aT.no
    ·exact aT.no
   ·exact iw T C s dst ty _
  ·exact iw T C s dst ty _
 ·unfold HY;refine cg ?_ aT.no;split
  ·exact aT.k _
  ·exact aT.no
 ·split
  ·unfold C8;split
   ·exact aT.no
   split
   ·exact aT.no
   split
   ·exact aT.no
   exact cg (oU _ _ fun l=>oU _ _ fun h=>aT.and (aT.and (aT.k _))) aT.no
  ·exact iw T C s dst ty _
 ·split
  ·unfold Of;split
   ·exact aT.no
   split
   ·exact aT.no
   refine cg (aT.ex fun r=>?_) aT.no;split
   ·simp only [AV.go_eq]; exact aT.k _
   ·exact aT.no
  ·exact LY T s _ _ _ _ _
  ·exact iw T C s dst ty _
 ·split
  ·unfold sW;split
   ·exact aT.no
   refine cg ?_ aT.no;split
   ·exact aT.no
   split
   ·exact aT.no
   exact cg aT.no (aT.k _)
  ·exact iw T C s dst ty _
 ·exact iw T C s dst ty _
theorem PG (T) (C) (E) (guards) (s) (o):aT (Db T C E guards s o):=by
 unfold Db;refine cg ?_ (PF T C s o.dst o.type o.op);unfold Cu;simp only [AV.go_eq,qT];split
 ·split
  ·split
   ·exact dU fun N=>dU fun I=>dU fun L=>dU fun r=>dU fun a=>aT.and (aT.k _)
   ·exact dU fun N=>dU fun I=>dU fun L=>dU fun r=>dU fun a=>aT.and (aT.k _)
   ·exact aT.no
  ·exact aT.no
 ·exact aT.no
theorem j7 {T} {C} {s s'} {dst} {ty} {op} {K} (a:Ln (ev s) (ev s') s.b s'.b op.operands.toList) (h:yd T C s dst ty op K):yd T C s' dst ty op K:=by
 unfold yd at h;split at h
 ·unfold yd; exact h
 ·rename_i t x y;have h1:=a x (by simp [Op.operands]);have h2:=(a y (by simp [Op.operands])).1;unfold yd;grind
 ·rename_i args d;have h1:∀ x∈args.toList,ev s' x=ev s x:=fun x hx=>(a x (by grind [Op.operands,Call.operands])).1;unfold yd;grind
 ·rename_i t l c;have h1:=(a l (by simp [Op.operands])).1;have h2:=(a c (by simp [Op.operands])).1;unfold yd;grind
 ·rename_i h1 h2 f e;unfold yd;split
  ·exact absurd rfl (h1 _)
  ·grind
  ·grind
  ·grind
  ·exact PD T C a h
theorem xh {s s'} {k} (h:get s'.t (xk k)=get s.t (xk k)):zd s' k=zd s k:=by unfold zd; rw [h]
theorem yJ {T} {s s'} {dst} {t} {b} {kv xv} {K} (c:∀ k n a,get s.t (xk k)=some (.me .ents k n a)->get s'.t (xk k)=get s.t (xk k)) (h:yK T s dst t b kv xv K):yK T s' dst t b kv xv K:=by
 unfold yK at h ⊢;split at h
 ·split at h
  ·split at h
   ·grind
   ·exact h.elim
  ·exact h.elim
 ·exact h.elim
theorem Ht {T} {s s'} {t} {b} {kv} {ok} {K} (c:∀ k n a,get s.t (xk k)=some (.me .ents k n a)->get s'.t (xk k)=get s.t (xk k)) (h:n9 T s t b kv ok K):n9 T s' t b kv ok K:=by
 unfold n9 at h ⊢;split at h
 ·split at h
  ·split at h
   ·grind
   ·exact h.elim
  ·exact h.elim
 ·exact h.elim
theorem sG {s s':St}:∀ {N:List Nat},(∀ k∈N,get s'.t (xk k)=get s.t (xk k))->gI s' N=gI s N
 | [],_=>rfl
 | k::r,h=>by simp only [gI]; rw [h k a7,sG fun j hj=>h j (a6 _ hj)]
theorem iQ {s s'} {k} (h:get s'.t (xk k)=get s.t (xk k)):iH s' k=iH s k:=by unfold iH; rw [h]
theorem HW {s s'} {k} (h:get s'.t (xk k)=get s.t (xk k)):y6 s' k=y6 s k:=by unfold y6; rw [h]
theorem L4 {T} {C} {s s'} {dst} {ty} {op} {K} (a:Ln (ev s) (ev s') s.b s'.b op.operands.toList) (c:NG s s' (uj op)) (z:NH s s' (CA op))
  (h:o4 T C s dst ty op K):o4 T C s' dst ty op K:=by
 unfold o4 at h;split at h
 ·rename_i t x n;have h1:=(a x (by simp [Op.operands])).1;have h2:=(a n (by simp [Op.operands])).1;unfold o4;simp only [h1,h2];split at h
  ·rename_i k len d q i hx B;unfold iV at h ⊢;rw [iQ ((c x (by simp [uj,Op.operands])).1 _ _ _ _ hx)];exact h
  ·rename_i v len cap q i hx B;obtain ⟨k,b,sz,xs,⟨g1,g2,g3⟩,h⟩:=h;have he:=(c x (by simp [uj,Op.operands])).2.2 _ _ _ g1 _ _ _ _ _ g2;grind [iV,iQ]
  ·exact j7 a h
 ·rename_i t y x;have h1:=(a y (by simp [Op.operands])).1;have h2:=(a x (by simp [Op.operands])).1;unfold o4;simp only [h1,h2];split at h
  ·rename_i sz j k i d hy;unfold C7 rowK at h ⊢;rw [iQ ((c y (by simp [uj,Op.operands])).1 _ _ _ _ hy),HW ((c y (by simp [uj,Op.operands])).1 _ _ _ _ hy)];exact h
  ·rename_i k b off cs hy;unfold sY at h ⊢;rw [xh (z y (by simp [CA]) _ _ _ _ hy)];exact h
  ·exact j7 a h
 ·rename_i args E;have e:=@j7 T C s s' dst ty _ K a;have h1:∀ x∈args.toList,ev s' x=ev s x:=fun x hx=>(a x (by grind [Op.operands,Call.operands])).1;grind [o4,List.mem_cons_self]
 ·rename_i t m k x;have h1:=(a m (by simp [Op.operands])).1;have h2:=(a k (by simp [Op.operands])).1;have o:=(a x (by simp [Op.operands])).1;unfold o4;simp only [h1,h2,o];split at h
  ·rename_i b hm;exact yJ ((c m (by simp [uj,Op.operands])).2.1 b hm) h
  ·exact h.elim
 ·rename_i t m k x;have h1:=(a m (by simp [Op.operands])).1;have h2:=(a k (by simp [Op.operands])).1;have o:=(a x (by simp [Op.operands])).1;unfold o4;simp only [h1,h2,o];split at h
  ·rename_i b hm;exact yJ ((c m (by simp [uj,Op.operands])).2.1 b hm) h
  ·exact h.elim
 ·rename_i t m k ok;have h1:=(a m (by simp [Op.operands])).1;have h2:=(a k (by simp [Op.operands])).1;unfold o4;simp only [h1,h2];split at h
  ·rename_i b hm;exact Ht ((c m (by simp [uj,Op.operands])).2.1 b hm) h
  ·exact h
  ·exact h.elim
 ·rename_i args E;have e:=@j7 T C s s' dst ty _ K a;have h1:∀ x∈args.toList,ev s' x=ev s x:=fun x hx=>(a x (by grind [Op.operands,Call.operands])).1;have h2:∀ x∈args.toList,∀ g k n D,ev s x = .me g k n D->get s'.t (xk k)=get s.t (xk k):=fun x hx=>(c x (by grind [uj,Op.operands,Call.operands])).1;unfold o4;simp only;split at h
  ·rename_i x y F;have hx:=h1 x (by grind);have hy:=h1 y (by rw [F]; simp);simp only [hx,hy];split at h
   ·rename_i sz off k n d he
    cases l:Nat.beq off 0 with
    | false=>grind
    | true=>
    rw [l,aR] at h;rw [aR];unfold Wh at h ⊢;rw [iQ (h2 x (by grind) _ _ _ _ he)];exact h
   ·rename_i k n d he;unfold Wi at h ⊢;rw [iQ (h2 x (by grind) _ _ _ _ he)];exact h
   ·exact h.imp e id
   ·exact e h
  ·exact e h
 ·rename_i f first captured
  have h1:∀ x∈captured.toList,ev s' x=ev s x:=fun x hx=>(a x (by grind [Op.operands])).1;show HY s' dst f first.toList captured.toList K
  unfold HY at h ⊢;rw [zZ _ h1];exact h
 ·rename_i t x lo hi r;have h1:=(a x (by simp [Op.operands])).1;have w:lo.map (ev s')=lo.map (ev s):=by cases lo with | none=>rfl | some y=>exact ax some (a y (by simp [Op.operands])).1
  have u:hi.map (ev s')=hi.map (ev s):=by cases hi with | none=>rfl | some y=>exact ax some (a y (by simp [Op.operands])).1
  have p:r.map (ev s')=r.map (ev s):=by cases r with | none=>rfl | some y=>exact ax some (a y (by simp [Op.operands])).1
  unfold o4;simp only [h1,w,u,p];split at h
  ·rename_i k n d hx;unfold C8 at h ⊢;rw [iQ ((c x (by simp [uj,Op.operands])).1 _ _ _ _ hx)];exact h
  ·exact j7 a h
 ·rename_i t x;have h1:=(a x (by simp [Op.operands])).1;unfold o4;simp only [h1];split at h
  ·rename_i sz j k i d hx;unfold Of at h ⊢;rw [iQ ((c x (by simp [uj,Op.operands])).1 _ _ _ _ hx)];exact h
  ·rename_i k b off cs hx;unfold qG at h ⊢;rw [xh (z x (by simp [CA]) _ _ _ _ hx)];exact h
  ·exact j7 a h
 ·rename_i t x f;have h1:=(a x (by simp [Op.operands])).1;grind [o4,j7]
 ·rename_i h1 h2 o G P A J L N H M;have e:=j7 a h;unfold o4;grind
open Go
open Go.RowKit (Below)
section
variable {Γ:ce} (hΓ:Γ.OK) {T:eS} (hT:T.OK Γ.P) {s:St} {o:Oper} {a:Act} {w:World} {next:Act->World->Prop} {Q:Exit->Act->World->Prop}
theorem fU {v} {K} (h:K (stepR s o.dst (.val v))):fx s o.dst v K:=by
 obtain ⟨t,b⟩:=s;unfold fx;unfold stepR at h;grind
include hΓ hT in
theorem PE {K} (p:d5 Γ s a w) (A:∀ d,o.dst=some d->d<Γ.nt) (h:yd T (aq Γ.P) s o.dst o.type o.op K)
  (q:dO Γ a o.dst w (fun s'=>∃ r,K r/\s'=stepR s o.dst r) next):o.wpIn Γ.F Γ.n Γ.P a w next Q:=by
 generalize f:o.op=op at h;unfold yd at h;split at h
 ·rename_i t;split at h
  ·rename_i d i e hi;split at h
   ·rename_i cs D
    cases m:(Nat.beq cs.length i.size&&cs.all (fun c=>c.isCell)) with
    | false=>grind
    | true=>
     rw [m,aR] at h;simp only [al,aN] at m;exact HP hΓ hT f p A e hi D m.2 (fun s'=>∃ r,K r/\s'=stepR s (some d) r) ⟨_,h,rfl⟩ (e ▸ q)
   ·exact h.elim
  ·exact h.elim
 ·rename_i t x y;refine NY hΓ hT f p ?_ q;unfold ng;simp only;split at h
  ·rename_i i d off cs e hi hx hy;rw [e];simp only [hi,hx,hy]
   cases u:(Nat.beq cs.length i.size&&cs.all (fun c=>c.isCell)) with
   | false=>grind
   | true=>
    rw [u] at h;simp only [aR] at h ⊢;split at h
    ·rename_i c0 X;unfold CY;simp only [X]
     cases B:(Nat.ble (off+cs.length) c0.length&&Nat.blt 0 cs.length) with
     | false=>grind
     | true=>rw [B] at h; exact ⟨_,h,rfl⟩
    ·exact h.elim
  ·exact h.elim
 ·rename_i args ts;refine HO hΓ hT f p A ?_ q;unfold ng;simp only;generalize args.toList=l at h ⊢;generalize ts.toList=H at h ⊢;generalize o.dst=dst at h ⊢;rcases l with _ | ⟨x,_ | ⟨y,_ | ⟨z,l⟩⟩⟩ <;> rcases H with _ | ⟨t,_ | ⟨U,_ | ⟨Z,H⟩⟩⟩ <;> cases dst <;> first | exact h.elim | skip
  simp only at h ⊢;split at h
  ·rename_i i hi;simp only [hi];split at h
   ·rename_i j hj;simp only [hj];split at h
    ·rename_i L sz xs ow' sz' M hx hy;simp only [hx,hy]
     cases u:(Nat.beq i.kind 3&&Nat.beq t U&&nP j&&Nat.blt 0 j.size&&H5 L j.size sz) with
     | false=>grind
     | true=>
      rw [u] at h;simp only [aR] at h ⊢;refine aT.mono (aT.szOK (aT.k (α:=Unit) ())) (K:=fun _=>_) (K':=fun _=>_) h fun _ h=>?_;refine aT.mono (aT.szOK (aT.k (α:=Unit) ())) (K:=fun _=>_) (K':=fun _=>_) h fun _ h=>?_;refine ⟨h.1,h.2.1,?_⟩
      replace h:=h.2.2
      cases L with
      | no=>exact h.elim
      | full=>
       cases N:MO xs M with
       | true=>rw [N] at h; exact ⟨_,h,rfl⟩
       | false=>
        rw [N,br] at h
        cases G:s7 M with
        | true=>grind
        | false=>rw [G] at h; exact ⟨_,h,rfl⟩
      | id k=>exact ⟨_,h,rfl⟩
    ·exact h.elim
   ·exact h.elim
  ·exact h.elim
 ·rename_i t l c;refine xe hΓ hT f p A ?_ q;unfold ng;simp only;split at h
  ·rename_i d i e hi;rw [e];simp only [hi];split at h
   ·rename_i j hj;simp only [hj];split at h
    ·rename_i k1 l1 k2 c1 hl u;simp only [hl,u];split at h
     ·rename_i J E;simp only [E]
      cases m:Nat.beq i.kind 3&&Nat.beq J.length j.size&&J.all (fun c=>c.isCell)&&Nat.blt 0 j.size with
      | false=>grind
      | true=>
       rw [m] at h;simp only [aR] at h ⊢;exact ⟨h.1,h.2.1,h.2.2.1,h.2.2.2.1,_,h.2.2.2.2,rfl⟩
     ·exact h.elim
    ·exact h.elim
   ·exact h.elim
  ·exact h.elim
 ·subst f;obtain ⟨v,h1,h2⟩:=H9 T (aq Γ.P) s.b (ev s) o.type o.op _ h;rw [AV.go_eq] at h1;refine NX hΓ hT p A (K:=fun s'=>∃ r,K r/\s'=stepR s o.dst r) (h2 _ ?_) q;rw [AV.go_eq];exact fU ⟨_,h1,rfl⟩
theorem t7 {T} {s} {o:Oper} {t} {k len} {i} {K} (h:iV T s t k len i K):iR T s o.dst t k len i fun s'=>∃ r,K r/\s'=stepR s o.dst r:=by
 unfold iV at h;unfold iR;split at h
 ·exact h.elim
 rename_i c b;simp only [b];split at h
 ·exact h.elim
 rename_i j hj;simp only [hj];split at h
 ·exact h.elim
 rename_i sz xs e;simp only [e]
 cases d:(Nat.beq c.kind 3&&Nat.beq j.size sz) with
 | false=>grind
 | true=>rw [d] at h; exact ⟨h.1,h.2.1,fU (K:=fun s'=>∃ r,K r/\s'=stepR s o.dst r) ⟨_,h.2.2,rfl⟩⟩
include hΓ hT in
theorem L3 {K} (q:d5 Γ s a w) (A:∀ d,o.dst=some d->d<Γ.nt) (B:∀ d g k n xs,iD g=true->get s.t d=some (.me g k n xs)->d=xk k) (h:o4 T (aq Γ.P) s o.dst o.type o.op K)
  (x:dO Γ a o.dst w (fun s'=>∃ r,K r/\s'=stepR s o.dst r) next):o.wpIn Γ.F Γ.n Γ.P a w next Q:=by
 generalize e:o.op=op at h;have back:yd T (aq Γ.P) s o.dst o.type op K->o.wpIn Γ.F Γ.n Γ.P a w next Q:=fun h=>PE hΓ hT q A (by rw [e]; exact h) x;unfold o4 at h;split at h
 ·split at h
  ·rename_i hx hy;exact wV hΓ hT e q A hx hy (t7 h) x
  ·rename_i hx hy;obtain ⟨k,b,sz,xs,⟨h1,h2,M⟩,h⟩:=h;exact tH hΓ hT e q A h1 h2 M hy (t7 h) x
  ·exact back h
 ·split at h
  ·rename_i hy;refine Hs hΓ hT e q hy (fun g d n xs hg=>B d g _ n xs hg) ?_ x;unfold C7 at h;unfold yu;split at h
   ·rename_i Z cs p D hcs;simp only [p,D,hcs];split at h
    ·exact h.elim
    rename_i z xs H;simp only [H];generalize (Nat.beq z _&&(Nat.beq cs.length Z.size&&(cs.all (fun c=>c.isCell)&&(Nat.ble _ _&&Nat.blt 0 cs.length))))=J at h ⊢
    cases J with
    | false=>exact h.elim
    | true=>
     obtain ⟨r,h1,h2⟩:=h;refine ⟨r,h1,?_⟩;unfold rowK at h2 ⊢;split at h2 <;> exact ⟨_,h2,rfl⟩
   ·exact h.elim
  ·rename_i hy;exact Om hΓ hT e q hy h (fun k v _ g d n xs hg hgt=>B d g _ n xs hg hgt) (fun k v N s2 a2 w2 e1 e2 e3 e4=>x s2 a2 w2 ⟨_,N,e1⟩ e2 e3 e4)
  ·exact back h
 ·split at h
  ·rename_i U y;split at h
   ·rename_i hx;unfold Ps at h;split at h
    ·exact h.elim
    rename_i i hi
    cases E:Nat.beq i.kind 3 with
    | false=>grind
    | true=>rw [E] at h; exact Xv hΓ hT e U y q A hx hi (aj E) (fU ⟨_,h,rfl⟩) x
   ·rename_i hx;unfold Ps at h;split at h
    ·exact h.elim
    rename_i i hi
    cases E:Nat.beq i.kind 3 with
    | false=>grind
    | true=>rw [E] at h; exact Sd hΓ hT e U y q A hx hi (aj E) (fU ⟨_,h,rfl⟩) x
   ·exact back h
  ·exact back h
 ·split at h
  ·rename_i b hx;exact np hΓ hT (.inl e) q hx h (fun k v N _ s' a' w' h1 h2 M h4=>x s' a' w' ⟨_,N,h1⟩ h2 M h4) (fun k v N d n xs=>B d _ _ n xs rfl)
  ·exact h.elim
 ·split at h
  ·rename_i b hx;exact np hΓ hT (.inr e) q hx h (fun k v N _ s' a' w' h1 h2 M h4=>x s' a' w' ⟨_,N,h1⟩ h2 M h4) (fun k v N d n xs=>B d _ _ n xs rfl)
  ·exact h.elim
 ·split at h
  ·rename_i b hx;exact Sb hΓ hT e q A hx (yL h fun v hv=>by rw [AV.go_eq] at hv; exact fU ⟨_,hv,rfl⟩) x
  ·rename_i hx;exact SZ hΓ hT e q A hx (zp h fun v hv=>by rw [AV.go_eq] at hv; exact fU ⟨_,hv,rfl⟩) x
  ·exact h.elim
 ·split at h
  ·rename_i U;split at h
   ·rename_i sz off k n zs hx
    cases L:Nat.beq off 0 with
    | false=>grind
    | true=>
    rw [L,aR] at h;rw [aj L] at hx;refine Xw hΓ hT e U q A hx ?_ x;unfold Wh at h;unfold VO;split at h
    ·rename_i d t X p y;simp only [p,y];split at h
     ·exact h.elim
     rename_i i hi;simp only [hi];split at h
     ·exact h.elim
     rename_i j hj;simp only [hj];split at h
     ·rename_i z l k' m ys hy;simp only [hy];split at h
      ·exact h.elim
      rename_i G xs H;simp only [H];generalize (Nat.beq i.kind 3&&(Nat.beq t X&&(Nat.beq sz G&&(Nat.beq z G&&(Nat.beq k k'&&(Nat.beq j.size G&&Nat.blt 0 G))))))=J at h ⊢
      cases J with
      | false=>exact h.elim
      | true=>exact ⟨h.1,_,h.2,rfl⟩
     ·exact h.elim
    ·exact h.elim
   ·rename_i k n zs hx;refine Xx hΓ hT e U q A hx ?_ x;unfold Wi at h;unfold VP;split at h
    ·rename_i d t X p y;simp only [p,y];split at h
     ·exact h.elim
     rename_i i hi;simp only [hi];split at h
     ·exact h.elim
     rename_i j hj;simp only [hj];split at h
     ·exact h.elim
     rename_i sz xs H;simp only [H];split at h
     ·rename_i ow z ys hy;simp only [hy];generalize (Nat.beq i.kind 3&&(Nat.beq t X&&(nP j&&(Nat.blt 0 j.size&&Nat.beq j.size sz))))=J at h ⊢
      cases J with
      | false=>exact h.elim
      | true=>exact HE (fun ⟨q1,q2,q3,q4⟩=>⟨q1,q2,q3,_,q4,rfl⟩) h
     ·exact h.elim
    ·exact h.elim
   ·rename_i hx;rcases h with h | h
    ·exact back h
    refine NK hΓ hT e U q A hx ?_ x;unfold LW at h;unfold CQ;split at h
    ·rename_i d t X p y;simp only [p,y];split at h
     ·exact h.elim
     rename_i i hi;simp only [hi];split at h
     ·exact h.elim
     rename_i j hj;simp only [hj];split at h
     ·rename_i ow z ys hy;simp only [hy];generalize (Nat.beq i.kind 3&&(Nat.beq t X&&(nP j&&Nat.blt 0 j.size)))=J at h ⊢
      cases J with
      | false=>exact h.elim
      | true=>exact HE (fun ⟨q1,q2,q3,q4⟩=>⟨q1,q2,q3,_,q4,rfl⟩) h
     ·exact h.elim
    ·exact h.elim
   ·exact back h
  ·exact back h
 ·rename_i f first captured
  unfold HY at h
  cases hf:first.toList.isEmpty with
  | false=>grind
  | true=>
   rw [hf,aR] at h;split at h
   ·rename_i l d hl p;refine yZ (T:=T) (K:=fun s'=>∃ r,K r/\s'=stepR s o.dst r) hΓ e q A ?_ x;simp only [ng,hf,aR];refine T6 _ l _ hl ?_;rw [p];exact ⟨_,h,rfl⟩
   ·exact h.elim
 ·split at h
  ·rename_i k n zs hx;refine NJ hΓ hT e q A hx ?_ x;unfold C8 at h;unfold CP;split at h
   ·exact h.elim
   rename_i i hi;simp only [hi];split at h
   ·exact h.elim
   rename_i j hj;simp only [hj];split at h
   ·exact h.elim
   rename_i sz xs H;simp only [H];generalize (Nat.beq i.kind 3&&(Nat.beq j.size sz&&_))=J at h ⊢
   cases J with
   | false=>exact h.elim
   | true=>
    simp only [aR] at h ⊢
    have bm:∀ (o:Option AV) (d:Nat) (P Q:Nat->Prop),(∀ n,P n->Q n)->jU o d P->jU o d Q:=by
     intro o d P Q hpq h;unfold jU at h ⊢;split at h
     ·exact hpq _ h
     ·grind
     ·exact h.elim
    refine bm _ _ _ _ (fun l=>?_) h;refine bm _ _ _ _ (fun r=>?_);rintro ⟨g1,g2,g3⟩;exact ⟨g1,g2,fU ⟨_,g3,rfl⟩⟩
  ·exact back h
 ·split at h
  ·rename_i sz j k i zs hx;refine Sc hΓ hT e q A hx ?_ x;unfold Of at h;unfold NL;split at h
   ·exact h.elim
   rename_i Z D;simp only [D];split at h
   ·exact h.elim
   rename_i z xs H;simp only [H]
   cases E:Nat.beq z sz with
   | false=>grind
   | true=>
    rw [E] at h;obtain ⟨r,h1,h2⟩:=h;refine ⟨r,h1,?_⟩
    cases hv:eO Z (r.drop j) with
    | none=>grind
    | some v=>
     rw [hv] at h2
     have M:K (.val v):=by
      have h2:v.go (fun v=>K (.val v)):=h2;rwa [AV.go_eq] at h2
     show v.go fun v=>fx s o.dst v fun s'=>∃ r,K r/\s'=stepR s o.dst r;rw [AV.go_eq];exact fU ⟨_,M,rfl⟩
  ·rename_i hx;exact SH hΓ hT e q A hx (zf h fun v hv=>by rw [AV.go_eq] at hv; exact fU ⟨_,hv,rfl⟩) x
  ·exact back h
 ·split at h
  ·rename_i sz j k i zs hx;refine wW hΓ hT e q A hx ?_ x;unfold sW at h;unfold oQ;split at h
   ·exact h.elim
   rename_i Z D;simp only [D]
   cases E:Nat.beq Z.kind 1 with
   | false=>grind
   | true=>
    rw [E] at h;simp only [aR] at h ⊢;split at h
    ·exact h.elim
    rename_i off ft hf;simp only [hf];split at h
    ·exact h.elim
    rename_i u hu;simp only [hu]
    cases hb2:Nat.beq u.size 0 with
    | true=>grind
    | false=>
     rw [hb2] at h;show fx s o.dst _ fun s'=>∃ r,K r/\s'=stepR s o.dst r;exact fU ⟨_,h,rfl⟩
  ·exact back h
 ·exact back h
include hΓ hT in
theorem L5 {guards} {K} (j:d5 Γ s a w) (i:∀ d,o.dst=some d->d<Γ.nt) (e:∀ d g k n xs,iD g=true->get s.t d=some (.me g k n xs)->d=xk k) (h:Db T (aq Γ.P) (bX Γ.P) guards s o K)
  (l:dO Γ a o.dst w (fun s'=>∃ r,K r/\s'=stepR s o.dst r) next):o.wpIn Γ.F Γ.n Γ.P a w next Q:=by
 unfold Db at h
 cases c:zO guards o with
 | false=>rw [c,br] at h; exact L3 hΓ hT j i e h l
 | true=>
  rw [c,aR] at h;simp only [AV.go_eq,qT] at h;obtain ⟨d,b⟩:=zN c;refine OS hΓ j b (i d b) h ?_;rintro s' p w' ⟨N,I,L,r,v,q,rfl⟩ f u m;exact l _ p w' ⟨_,q,by rw [b]; rfl⟩ f u m
end
open Go
structure Eff where
 w:List (Nat×AV)
 b:List (Nat×List AV)
def Ms (k:Nat):AV->Bool
 | .sl (.id j) _ _=>Nat.beq j k
 | _=>false
def lT (k:Nat):AV->Bool
 | .sl (.id j) _ _=>Nat.beq j k
 | .me .box _ _ xs=>xs.any fun r=>r.any (Ms k)
 | _=>false
theorem Mr {k} {x} (h:Ms k x=false):x.demO k=x:=by
 cases x with
 | sl o sz xs=>cases o <;> first | rfl | (simp only [Ms] at h; simp only [AV.demO,h,br])
 | _=>rfl
def sE (k:Nat):AV->Bool
 | .agg cs=>cs.any (lT k)
 | x=>lT k x
def Is (d:Nat):AV->Bool
 | .loc a _=>Nat.beq d a
 | _=>false
theorem o9 {k} {x} (h:lT k x=false):x.dem1 k=x:=by
 cases x with
 | sl o sz xs=>cases o <;> first | rfl | (simp only [lT] at h; simp only [AV.dem1,h,br])
 | me g j n xs=>
  cases g with
  | box=>
   simp only [lT,eJ] at h;simp only [AV.dem1]
   congr 1
   conv=>rhs; rw [<- Hf xs]
   refine eG fun r a=>?_
   conv=>rhs; rw [id,<- Hf r]
   exact eG fun y hy=>Mr (by grind)
  | _=>rfl
 | _=>rfl
theorem Co {k} {x} (h:sE k x=false):x.dem k=x:=by
 cases x with
 | agg cs=>
  simp only [sE,eJ] at h;simp only [AV.dem]
  congr 1
  conv=>rhs; rw [<- Hf cs]
  grind [List.map_congr_left,o9]
 | _=>exact o9 (k:=k) (by unfold sE at h; exact h)
theorem Ir {d} {x} (h:Is d x=false):x.unloc d=x:=by
 cases x with
 | loc a off=>simp only [Is] at h; simp only [AV.unloc,h,br]
 | _=>rfl
def DU (k:Nat):List Nat->List (Nat×AV)->List (Nat×AV)
 | _,[]=>[]
 | seen,(x,v)::r=>bif dj seen x then DU k seen r else bif sE k v then (x,v.dem k)::DU k (x::seen) r else DU k (x::seen) r
theorem zF (k:Nat):∀ (t:List (Nat×AV)) (seen:List Nat) (x:Nat) (v:AV),get (DU k seen t) x=some v->x ∉ seen/\∃ u,get t x=some u/\v=u.dem k
 | [],seen,x,v,h=>by simp [DU,get] at h
 |(y,u)::r,seen,x,v,h=>by
  simp only [DU] at h
  cases hm:dj seen y with
  | true=>
   rw [hm,aR] at h;obtain ⟨h1,a,h2,d⟩:=zF k r seen x v h;refine ⟨h1,a,?_,d⟩;rw [a8,aV]
   ·exact h2
   ·rintro rfl; exact h1 (dv.1 hm)
  | false=>
   rw [hm,br] at h;have c:y ∉ seen:=fun f=>by rw [dv.2 f] at hm; cases hm
   have key:∀ g:get (DU k (y::seen) r) x=some v,x ∉ seen/\∃ a,get ((y,u)::r) x=some a/\v=a.dem k:=fun g=>by
    obtain ⟨h1,a,h2,d⟩:=zF k r _ x v g;simp only [bF,not_or] at h1;refine ⟨h1.2,a,?_,d⟩;rw [a8,aV h1.1]; exact h2
   cases e:sE k u with
   | true=>
    rw [e,aR,a8] at h;split at h
    ·rename_i hx;subst hx;simp only [aB] at h;exact ⟨c,u,by rw [a8,aX rfl],h.symm⟩
    ·exact key h
   | false=>
    grind
def wu (k:Nat):AV->Bool
 | .me _ k' _ _=>Nat.beq k k'
 | _=>false
theorem Cm {k} {x} (h:wu k x=false):x.unme k=x:=by
 cases x with
 | me g k' n xs=>simp only [wu] at h; simp only [AV.unme,h,br]
 | _=>rfl
theorem PU {k} {x} (h:wu k x=true):x.unme k = .junk:=by
 cases x with
 | me g k' n xs=>simp only [wu] at h; simp only [AV.unme,h,aR]
 | _=>cases h
def DT (k:Nat):List Nat->List (Nat×AV)->List (Nat×AV)
 | _,[]=>[]
 | seen,(x,v)::r=>bif dj seen x then DT k seen r else bif wu k v then (x,.junk)::DT k (x::seen) r else DT k (x::seen) r
theorem zD (k:Nat):∀ (t:List (Nat×AV)) (seen:List Nat) (x:Nat) (v:AV),get (DT k seen t) x=some v->x ∉ seen/\∃ u,get t x=some u/\wu k u=true/\v = .junk
 | [],seen,x,v,h=>by simp [DT,get] at h
 |(y,u)::r,seen,x,v,h=>by
  simp only [DT] at h
  cases hm:dj seen y with
  | true=>
   rw [hm,aR] at h;obtain ⟨h1,a,h2,d⟩:=zD k r seen x v h;refine ⟨h1,a,?_,d⟩;rw [a8,aV]
   ·exact h2
   ·rintro rfl; exact h1 (dv.1 hm)
  | false=>
   rw [hm,br] at h;have c:y ∉ seen:=fun f=>by rw [dv.2 f] at hm; cases hm
   have key:∀ g:get (DT k (y::seen) r) x=some v,x ∉ seen/\∃ a,get ((y,u)::r) x=some a/\wu k a=true/\v = .junk:=fun g=>by
    obtain ⟨h1,a,h2,d⟩:=zD k r _ x v g;simp only [bF,not_or] at h1;refine ⟨h1.2,a,?_,d⟩;rw [a8,aV h1.1]; exact h2
   cases e:wu k u with
   | true=>
    rw [e,aR,a8] at h;split at h
    ·rename_i hx;subst hx;simp only [aB] at h;exact ⟨c,u,by rw [a8,aX rfl],e,h.symm⟩
    ·exact key h
   | false=>
    grind
def tO (N I:List Nat) (x:AV):Bool:=I.any (fun k=>sE k x)||N.any (fun k=>wu k x)
theorem zU {x:AV}:∀ {I:List Nat},(∀ k∈I,sE k x=false)->x.demMany I=x
 | [],_=>rfl
 | k::r,h=>by rw [AV.demMany,Co (h k a7)]; exact zU fun j hj=>h j (a6 _ hj)
theorem xz {x:AV}:∀ {I:List Nat},(∀ k∈I,lT k x=false)->x.demMany1 I=x
 | [],_=>rfl
 | k::r,h=>by rw [AV.demMany1,o9 (h k a7)]; exact xz fun j hj=>h j (a6 _ hj)
theorem wX {x:AV}:∀ {N:List Nat},(∀ k∈N,wu k x=false)->x.unmeMany N=x
 | [],_=>rfl
 | k::r,h=>by
  rw [AV.unmeMany,Cm (h k a7)];have e:(bif Nat.ble 7000000 k&&x.isRefX then x else x)=x:=by grind
  rw [e];exact wX fun j hj=>h j (a6 _ hj)
theorem So {N I} {x} (h:tO N I x=false):(x.demMany I).unmeMany N=x:=by
 grind [tO,Bool.or_eq_false_iff,List.any_eq_false,zU,wX]
def Bc (N I:List Nat):List Nat->List (Nat×AV)->List (Nat×AV)
 | _,[]=>[]
 | seen,(x,v)::r=>bif dj seen x then Bc N I seen r else bif tO N I v then (x,(v.demMany I).unmeMany N)::Bc N I (x::seen) r else Bc N I (x::seen) r
theorem zG (N I:List Nat):∀ (t:List (Nat×AV)) (seen:List Nat) (x:Nat) (v:AV),get (Bc N I seen t) x=some v->x ∉ seen/\∃ u,get t x=some u/\tO N I u=true/\v=(u.demMany I).unmeMany N
 | [],seen,x,v,h=>by simp [Bc,get] at h
 |(y,u)::r,seen,x,v,h=>by
  simp only [Bc] at h
  cases hm:dj seen y with
  | true=>
   rw [hm,aR] at h;obtain ⟨h1,a,h2,d⟩:=zG N I r seen x v h;refine ⟨h1,a,?_,d⟩;rw [a8,aV]
   ·exact h2
   ·rintro rfl; exact h1 (dv.1 hm)
  | false=>
   rw [hm,br] at h;have c:y ∉ seen:=fun f=>by rw [dv.2 f] at hm; cases hm
   have key:∀ g:get (Bc N I (y::seen) r) x=some v,x ∉ seen/\∃ a,get ((y,u)::r) x=some a/\tO N I a=true/\v=(a.demMany I).unmeMany N:=fun g=>by
    obtain ⟨h1,a,h2,d⟩:=zG N I r _ x v g;simp only [bF,not_or] at h1;refine ⟨h1.2,a,?_,d⟩;rw [a8,aV h1.1]; exact h2
   cases e:tO N I u with
   | true=>
    rw [e,aR,a8] at h;split at h
    ·rename_i hx;subst hx;simp only [aB] at h;exact ⟨c,u,by rw [a8,aX rfl],e,h.symm⟩
    ·exact key h
   | false=>
    grind
def OB {α:Type}:List (Nat×α)->List Nat
 | []=>[]
 |(d,_)::r=>d::OB r
def fa (t:List (Nat×AV)) (dst:Option Nat):lK->Eff
 | .val v=>match dst with | some d=>⟨[(d,v)],[]⟩ | none=>⟨[],[]⟩
 | .alloc cs=>match dst with | some d=>⟨[(d,.loc d 0)],[(d,cs)]⟩ | none=>⟨[],[]⟩
 | .store d cs=>⟨[],[(d,cs)]⟩
 | .app k v=>match dst with | some d=>⟨(d,v)::DU k [d] t,[]⟩ | none=>⟨[],[]⟩
 | .xst k v=>⟨[(xk k,v)],[]⟩
 | .cut k n v=>match dst with | some d=>⟨(d,.me .sl k n [])::(xk k,v)::DT k [d,xk k] t,[]⟩ | none=>⟨[],[]⟩
 | .lent N I v es _=>match dst with | some d=>⟨(d,v)::(es++Bc N I (d::OB es) t),[]⟩ | none=>⟨[],[]⟩
def tF {α:Type} (E:Nat->List (Nat×α)) (b:List (Nat×α)) (M:Nat->Bool):Nat->List (Nat×α)
 | 0=>b
 | j+1=>bif M j then E j++tF E b M j else tF E b M j
section
variable {α:Type} {E:Nat->List (Nat×α)} {b:List (Nat×α)}
theorem rI (M) (j) (x):get (tF E b M (j+1)) x=if M j=true then (get (E j) x).or (get (tF E b M j) x) else get (tF E b M j) x:=by
 simp only [tF]
 cases M j with
 | true=>simp [eD]
 | false=>simp
theorem hZ {M M':Nat->Bool} {x:Nat}:∀ (n:Nat),(∀ j,j<n->get (E j) x≠none->M j=M' j)->get (tF E b M n) x=get (tF E b M' n) x
 | 0,_=>rfl
 | n+1,h=>by
  rw [rI,rI,hZ n fun j hj=>h j ar];grind
theorem XB {n i} (hi:i<=n) (x):get (tF E b (fun _=>true) i) x=get (tF E b (fun j=>decide (j<i)) n) x:=by
 induction n with
 | zero=>rw [show i=0 by omega]; rfl
 | succ n a=>
  by_cases h:i=n+1
  ·grind [hZ]
  ·rw [a ar,rI,aV (by simp; omega)]
theorem te {M M':Nat->Bool} {x i:Nat} (d:M i=false) (a:∀ j,M' j=(M j||decide (j=i))):∀ (n:Nat),i<n->(∀ j,j<n->i<j->M j=true->get (E i) x≠none->get (E j) x=none) ->
  get (tF E b M' n) x=(get (E i) x).or (get (tF E b M n) x)
 | 0,hi,_=>absurd hi (mE _)
 | n+1,hi,h=>by
  rw [rI,rI];by_cases f:n=i
  ·subst f;rw [aX (show M' n=true by rw [a n]; simp),aV (show ¬ M n=true by simp [d])];rw [hZ n fun j hj _=>show M' j=M j by rw [a j,eq (show ¬ j=n by omega),fu]]
  ·rw [show M' n=M n by grind];rw [te d a n ar fun j hj=>h j ar];split
   ·rename_i c
    cases e:get (E i) x with
    | none=>simp
    | some v=>rw [h n ar ar c (by rw [e]; simp)]; rfl
   ·rfl
theorem mV {M:Nat->Bool} {x:Nat} {v:α}:∀ (n:Nat),get (tF E b M n) x=some v->get b x=some v\/∃ j,j<n/\M j=true/\get (E j) x=some v
 | 0,h => .inl h
 | n+1,h=>by
  rw [rI] at h;split at h
  ·rename_i c
   cases a:get (E n) x with
   | some u=>grind
   | none=>
    rw [a] at h;rcases mV n h with h | ⟨j,h1,h2⟩
    ·exact .inl h
    ·exact .inr ⟨j,by omega,h2⟩
  ·rcases mV n h with h | ⟨j,h1,h2⟩
   ·exact .inl h
   ·exact .inr ⟨j,by omega,h2⟩
theorem qx:∀ i:Nat,tF E b (fun _=>true) (i+1)=tF (fun j=>E (j+1)) (E 0++b) (fun _=>true) i
 | 0=>rfl
 | i+1=>by
  rw [tF,qx i]; rfl
end
def kR (M:Nat->Bool):Nat->Nat
 | 0=>0
 | n+1=>(bif M n then 1 else 0)+kR M n
theorem zX (M:Nat->Bool):∀ n,kR M n<=n
 | 0=>ba _
 | n+1=>by
  have:=zX M n;simp only [kR];cases M n <;> simp <;> omega
theorem yD {M:Nat->Bool}:∀ n,kR M n=n->∀ i,i<n->M i=true
 | 0,_,i,hi=>absurd hi (mE _)
 | n+1,h,i,hi=>by
  have hle:=zX M n;simp only [kR] at h
  cases a:M n with
  | false=>grind
  | true=>
   rw [a] at h;simp at h;by_cases c:i=n
   ·rw [c]; exact a
   ·exact yD n ar i ar
theorem Cw {M M':Nat->Bool}:∀ n,(∀ j,j<n->M j=M' j)->kR M n=kR M' n
 | 0,_=>rfl
 | n+1,h=>by simp only [kR,h n ar,Cw n fun j hj=>h j ar]
theorem yC {M M':Nat->Bool} {i:Nat} (c:M i=false) (a:∀ j,M' j=(M j||decide (j=i))):∀ n,i<n->kR M' n=kR M n+1
 | 0,h=>absurd h (mE _)
 | n+1,h=>by
  simp only [kR];by_cases d:n=i
  ·subst d;rw [a n,c,Cw n fun j hj=>show M' j=M j by rw [a j,eq (show ¬ j=n by omega),fu]];simp; omega
  ·rw [yC c a n ar,show M' n=M n by grind];omega
open Go
def aam (s:St) (e:Eff):St:=⟨e.w++s.t,e.b++s.b⟩
def Xf {α:Type} (w t:List (Nat×α)) (K:List (Nat×α)->Prop):Prop:=match w with
 | []=>K t
 | p::r=>Xf r t fun t=>K (p::t)
theorem O9 {α:Type}:∀ (w t:List (Nat×α)) (K:List (Nat×α)->Prop),Xf w t K=K (w++t)
 | [],_,_=>rfl
 | _::r,t,K=>by rw [Xf,O9 r t]; rfl
def Pa (w t:List (Nat×List AV)) (K:List (Nat×List AV)->Prop):Prop:=match w with
 | []=>K t
 |(d,cs)::r=>Pa r t fun t=>Mt cs fun cs=>K ((d,cs)::t)
theorem I9:∀ (w t:List (Nat×List AV)) (K:List (Nat×List AV)->Prop),Pa w t K=K (w++t)
 | [],_,_=>rfl
 |(d,cs)::r,t,K=>by rw [Pa,I9 r t,lU]; rfl
def Wj (s:St) (e:Eff) (K:St->Prop):Prop:=match s,e with
 | ⟨t,b⟩,⟨w,a⟩=>Xf w t fun t=>Pa a b fun b=>K ⟨t,b⟩
theorem Og (s) (e) (K):Wj s e K=K (aam s e):=by
 unfold Wj;simp only [O9,I9];rfl
def Mu (guards:List Nat) (dst:Option Nat) (r:lK) (K:lK->Prop):Prop:=
 match r,dst with
 | .val (.bool v),some d=>bif dj guards d then (v=true->K (.val (.bool true)))/\(v=false->K (.val (.bool false))) else K (.val (.bool v))
 | r,_=>K r
theorem Iy {guards} {dst} {r} {K} (h:Mu guards dst r K):K r:=by
 unfold Mu at h;split at h
 ·rename_i v d
  cases hm:dj guards d with
  | false=>rw [hm] at h; exact h
  | true=>
   rw [hm] at h
   cases v with
   | true=>exact h.1 rfl
   | false=>exact h.2 rfl
 ·exact h
structure jg where
 o:Oper
 s:St
 r:lK
def jg.eff (st:jg):Eff:=fa st.s.t st.o.dst st.r
section
variable (T:eS) (C:FuncId->List AV->AV->Prop) (E:vC)
def LN (all:List Oper) (guards:List Nat):List Oper->List jg->St->(List jg->St->Prop)->Prop
 | [],a,s,K=>K a s
 | o::rest,a,s,K=>match j3 all s o with
  | 0=>Db T C E guards s o fun r=>Mu guards o.dst r fun r=>Wj s (fa s.t o.dst r) fun s'=>LN all guards rest (⟨o,s,r⟩::a) s' K
  | 1=>Wj s (fa s.t o.dst (.val .undef)) fun s'=>LN all guards rest (⟨o,s,.val .undef⟩::a) s' K
  | _=>False
def okS (all:List Oper) (guards:List Nat) (s:St) (o:Oper) (r:lK):Prop:=(j3 all s o=0/\Db T C E guards s o fun a=>a=r)\/(j3 all s o=1/\r = .val .undef)
def xZ (all:List Oper) (guards:List Nat):St->List Oper->List jg->St->Prop
 | s,[],[],s'=>s'=s
 | s,o::l,st::l2,s'=>st.o=o/\st.s=s/\okS T C E all guards s o st.r/\xZ all guards (aam s st.eff) l l2 s'
 | _,_,_,_=>False
theorem oe {all:List Oper} {guards:List Nat} {K:List jg->St->Prop}:∀ (l:List Oper) (a:List jg) (s:St),LN T C E all guards l a s K->∃ l2 s',xZ T C E all guards s l l2 s'/\K (l2.reverse++a) s'
 | [],a,s,h=>⟨[],s,rfl,h⟩
 | o::l,a,s,h=>by
  simp only [LN] at h;split at h
  ·rename_i b;obtain ⟨r,h1,h2⟩:=PG T C E guards s o _ h;have h1:=Iy h1;rw [Og] at h1;obtain ⟨l2,s',g1,g2⟩:=oe l _ _ h1;exact ⟨⟨o,s,r⟩::l2,s',⟨rfl,rfl,.inl ⟨b,h2 _ rfl⟩,g1⟩,by simpa using g2⟩
  ·rename_i b;rw [Og] at h;obtain ⟨l2,s',g1,g2⟩:=oe l _ _ h;exact ⟨⟨o,s,.val .undef⟩::l2,s',⟨rfl,rfl,.inr ⟨b,rfl⟩,g1⟩,by simpa using g2⟩
  ·exact h.elim
def Wf (a:List jg) (i:Nat):List (Nat×AV):=match a[i]? with | some st=>st.eff.w | none=>[]
def Bf (a:List jg) (i:Nat):List (Nat×List AV):=match a[i]? with | some st=>st.eff.b | none=>[]
theorem xZ.all {all:List Oper} {guards:List Nat}:∀ {l:List Oper} {a:List jg} {s s':St},xZ T C E all guards s l a s' ->
  a.length=l.length/\(∀ (i:Nat) (st:jg),a[i]?=some st->l[i]?=some st.o/\okS T C E all guards st.s st.o st.r/\st.s=⟨tF (Wf a) s.t (fun _=>true) i,tF (Bf a) s.b (fun _=>true) i⟩) /\
  s'=⟨tF (Wf a) s.t (fun _=>true) l.length,tF (Bf a) s.b (fun _=>true) l.length⟩
 | [],[],s,s',h=>by
  have h:s'=s:=h;subst h;exact ⟨rfl,fun i st h=>by simp at h,rfl⟩
 | o::l,st::a,s,s',h=>by
  obtain ⟨h1,h2,e,f⟩:=h;obtain ⟨g1,g2,g3⟩:=xZ.all f;subst h1;have m:∀ j,Wf (st::a) (j+1)=Wf a j:=fun j=>rfl;have n:∀ j,Bf (st::a) (j+1)=Bf a j:=fun j=>rfl;refine ⟨by simp [g1],fun i d c=>?_,?_⟩
  ·cases i with
   | zero=>
    simp at c;subst c;exact ⟨rfl,by rw [h2]; exact e,h2⟩
   | succ i=>
    simp at c;obtain ⟨k1,k2,k3⟩:=g2 i d c;refine ⟨by simpa using k1,k2,?_⟩;rw [qx,qx];exact k3
  ·rw [bt,qx,qx];exact g3
 | [],_::_,_,_,h=>h.elim
 | _::_,[],_,_,h=>h.elim
end
def CW:List Operand->List Nat
 | []=>[]
 | .tmp t::r=>t::CW r
 | _::r=>CW r
def zr (s:St):List Operand->List Nat
 | []=>[]
 | x::r=>match ev s x with
  | .loc d _=>d::zr s r
  | _=>zr s r
def IM:List (Nat×AV)->List Nat
 | []=>[]
 |(d,.me .ents _ _ _)::r=>d::IM r
 | _::r=>IM r
def HV:List (Nat×AV)->List Nat
 | []=>[]
 |(d,.me (.row _ _) _ _ _)::r=>d::HV r
 | _::r=>HV r
def qM (s:St):List Operand->List Nat
 | []=>[]
 | x::r=>match ev s x with
  | .me _ k _ _=>xk k::qM s r
  | .lit (.map (some _))=>IM s.t++qM s r
  | .lit (.slice _ _ _)=>HV s.t++qM s r
  | _=>qM s r
def zb (s:St):List Operand->List Nat
 | []=>[]
 | x::r=>match ev s x with
  | .pin k _ _ _=>xk k::zb s r
  | _=>zb s r
def Ch (p:Nat×AV):Bool:=match p.2 with
 | .me g k _ _ => !iD g||Nat.beq p.1 (xk k)
 | _=>true
def XQ (all:List Oper) (o:Oper):List Nat:=match o.guard with
 | some (j,_)=>match jt all j with | some d=>[d] | none=>[]
 | none=>[]
structure Sk where
 es:List Nat
 ra:List Nat
 wa:List Nat
 rb:List Nat
 wb:List Nat
def cR (o:Oper):List Nat:=(o.after.toList.filter (Region.binds .any)).map (·.on)
def fV {α:Type}:List (Nat×α)->List Nat
 | []=>[]
 |(d,_)::r=>d::fV r
def jg.sk (all:List Oper) (st:jg):Sk:=
  { es:=cR st.o,ra:=(CW st.o.op.operands.toList++(qM st.s (uj st.o.op)++zb st.s (CA st.o.op)))++XQ all st.o++(match st.r with | .app _ _=>(fV st.eff.w).filter (fun x=>match st.o.dst with | some d => !Nat.beq x d | none=>true) | .cut _ _ _=>(fV st.eff.w).filter (fun x=>match st.o.dst with | some d => !Nat.beq x d | none=>true) | .lent _ _ _ es rd=>(fV st.eff.w).filter (fun x=>match st.o.dst with | some d => !Nat.beq x d | none=>true)++rd | _=>[]),
    wa:=fV st.eff.w,rb:=zr st.s st.o.op.operands.toList,wb:=fV st.eff.b }
def mW (a b:List Nat):Bool:=a.all fun x => !dj b x
def qU (l:List (List Nat)) (i:Nat):List Nat:=match qj l i with | some x=>x | none=>[]
def Zw (a b:List Nat):List Nat:=a.foldr (fun x l=>bif dj l x then l else x::l) b
def Xg:List (List Nat)->List (List Nat)->List (List Nat)
 | [],acc=>acc
 | es::r,acc=>Xg r (acc++[es.foldr (fun e l=>Zw (e::qU acc e) l) []])
def uI (a:List (List Nat)) (i:Nat) (es:List Nat):Bool:=es.all (fun e=>Nat.blt e i)&&(qU a i).all fun j=>dj es j||es.any fun e=>dj (qU a e) j
def DY (c:List (List Nat)) (i m:Nat) (a b:Sk):Bool:=Nat.beq i m||dj (qU c i) m||dj (qU c m) i||(mW a.ra b.wa&&mW a.wa b.wa&&mW a.rb b.wb&&mW a.wb b.wb)
def pp (base:St) (c:List (List Nat)) (a:List jg) (i:Nat) (st:jg):Bool:=
 match st.r,st.o.dst with
 | .alloc _,some d=>base.t.all (fun p=>Nat.beq p.1 d || !Is d p.2) &&
   (List.range a.length).all fun m=>Nat.beq i m||dj (qU c m) i||match qj a m with | none=>true | some st'=>st'.eff.w.all fun p=>Nat.beq p.1 d || !Is d p.2
 | .app k _,some _=>base.t.all (fun p=>dj (fV st.eff.w) p.1 || !sE k p.2)&&base.b.all (fun p=>p.2.all fun x => !lT k x) &&
   (List.range a.length).all fun m=>Nat.beq i m||dj (qU c m) i||match qj a m with | none=>true | some st'=>(st'.eff.w.all fun p=>dj (fV st.eff.w) p.1 || !sE k p.2)&&st'.eff.b.all fun p=>p.2.all fun x => !lT k x
 | .cut k _ _,some _=>base.t.all (fun p=>dj (fV st.eff.w) p.1 || !wu k p.2) &&
   (List.range a.length).all fun m=>Nat.beq i m||dj (qU c m) i||match qj a m with | none=>true | some st'=>st'.eff.w.all fun p=>dj (fV st.eff.w) p.1 || !wu k p.2
 | .lent N I _ _ _,some _=>base.t.all (fun p=>dj (fV st.eff.w) p.1 || !tO N I p.2)&&base.b.all (fun p=>p.2.all fun x => !I.any fun k=>lT k x) &&
   (List.range a.length).all fun m=>Nat.beq i m||dj (qU c m) i||match qj a m with | none=>true | some st'=>(st'.eff.w.all fun p=>dj (fV st.eff.w) p.1 || !tO N I p.2)&&st'.eff.b.all fun p=>p.2.all fun x => !I.any fun k=>lT k x
 | _,_=>true
def XY (base:St) (d:List jg) (c:List Sk) (e:List (List Nat)):Bool:=
 (List.range d.length).all fun i=>match qj d i,qj c i with
  | some st,some a=>uI e i a.es&&pp base e d i st&&(List.range d.length).all fun m=>match qj c m with | some b=>DY e i m a b | none=>false
  | _,_=>false
def T3 (base:St) (all:List Oper) (a:List jg):Bool:=(base.t.all Ch&&a.all fun st=>st.eff.w.all Ch)&&XY base a (a.map (jg.sk all)) (Xg ((a.map (jg.sk all)).map (·.es)) [])
def kd:List Oper->List Nat
 | []=>[]
 | o::r=>match o.op,o.dst with
  | .alloc _,some d=>d::kd r
  | _,_=>kd r
def unlocMany:List Nat->List (Nat×AV)->List (Nat×AV)
 | [],t=>t
 | d::r,t=>unlocMany r (unloc d t)
def rU (T:eS) (C:FuncId->List AV->AV->Prop) (E:vC) (kV keep:List Nat) (ops:List Oper) (s:St) (K:St->Prop):Prop:=match s with
 | ⟨t,b⟩=>XR (unlocMany (kd ops) t) fun t=>LN T C E ops (kV++dw ops ops) ops [] ⟨t,b⟩ fun a s'=>T3 ⟨t,b⟩ ops a.reverse=true/\ga keep s' K
open Go
theorem pa {α} {l:List (Nat×α)} {x:Nat} {v:α} (h:get l x=some v):(x,v)∈l:=by
 induction l with
 | nil=>simp [get] at h
 | cons p r a=>
  grind [a8,List.mem_cons_self,List.mem_cons_of_mem]
theorem fk {α} {l:List (Nat×α)} {x}:x∈fV l↔get l x≠none:=by
 induction l with
 | nil=>simp [fV,get]
 | cons p r a=>
  grind [a8,fV]
theorem dN {a b} (h:mW a b=true) {x} (c:x∈a) (d:x∈b):False:=by
 have:=aN.1 h x c;rw [dv.2 d] at this;cases this
structure kX (base:St) (all:List Oper) (tr:List jg) (an:List (List Nat)):Prop where
 edge:∀ i st,tr[i]?=some st->∀ e∈cR st.o,e<i
 anc:∀ i st,tr[i]?=some st->∀ j∈qU an i,j∈cR st.o\/∃ e∈cR st.o,j∈qU an e
 apart:∀ i st m a,tr[i]?=some st->tr[m]?=some a->i≠m->m∈qU an i\/i∈qU an m \/
  ((∀ x∈(st.sk all).ra,x ∉ fV a.eff.w)/\(∀ x∈fV st.eff.w,x ∉ fV a.eff.w)/\(∀ x∈(st.sk all).rb,x ∉ fV a.eff.b)/\(∀ x∈fV st.eff.b,x ∉ fV a.eff.b))
 clean:∀ i st,tr[i]?=some st->pp base an tr i st=true
 arr:base.t.all Ch=true/\∀ (i:Nat) (st:jg),tr[i]?=some st->st.eff.w.all Ch=true
theorem wI {base} {all} {tr} (h:T3 base all tr=true):∃ an,kX base all tr an:=by
 refine ⟨Xg ((tr.map (jg.sk all)).map (·.es)) [],?_⟩;unfold T3 at h;rw [al] at h;obtain ⟨b,h⟩:=h;rw [al] at b;generalize Xg ((tr.map (jg.sk all)).map (·.es)) []=an at h ⊢;unfold XY at h
 have key:∀ i st,tr[i]?=some st->uI an i (st.sk all).es=true/\pp base an tr i st=true/\∀ m a,tr[m]?=some a->DY an i m (st.sk all) (a.sk all)=true:=by
  intro i st hi;have c:=(am.1 hi).1;have h1:=aN.1 h i (bB.2 c);simp only [fj,hi,aQ,bH,al] at h1;refine ⟨h1.1.1,h1.1.2,fun m a hm=>?_⟩;have h2:=aN.1 h1.2 m (bB.2 (am.1 hm).1);simp only [hm,bH] at h2;exact h2
 refine ⟨fun i st hi e he=>?_,fun i st hi j hj=>?_,fun i st m a hi hm d=>?_,fun i st hi=>(key i st hi).2.1,b.1,fun i st hi=>aN.1 b.2 st (aC hi)⟩
 ·have h1:=(key i st hi).1;unfold uI at h1;rw [al] at h1;have:=ah (aN.1 h1.1 e he);omega
 ·have h1:=(key i st hi).1;unfold uI at h1;rw [al] at h1;have:=aN.1 h1.2 j hj;rw [cq,dv,List.any_eq_true] at this;rcases this with h | ⟨e,he,h⟩
  ·exact .inl h
  ·exact .inr ⟨e,he,dv.1 h⟩
 ·have h1:=(key i st hi).2.2 m a hm;unfold DY at h1;simp only [cq,dv,al] at h1;rcases h1 with ((h | h) | h) | h
  ·exact absurd (aj h) d
  ·exact .inl h
  ·exact .inr (.inl h)
  ·exact .inr (.inr ⟨fun x hx hy=>dN h.1.1.1 hx hy,fun x hx hy=>dN h.1.1.2 hx hy,fun x hx hy=>dN h.1.2 hx hy,fun x hx hy=>dN h.2 hx hy⟩)
section
variable {base:St} {all:List Oper} {tr:List jg} {an:List (List Nat)} (hF:kX base all tr an) {M:Nat->Bool}
include hF
theorem kX.anc_lt:∀ (i:Nat),i<tr.length->∀ j∈qU an i,j<i:=by
 intro i
 induction i using Nat.strongRecOn with
 | _ i b=>
  intro hi j hj;have a:=ai hi;rcases hF.anc i _ a j hj with h | ⟨e,he,h⟩
  ·exact hF.edge i _ a j h
  ·have h1:=hF.edge i _ a e he;grind
theorem kX.anc_M (c:∀ m st,tr[m]?=some st->M m=true->∀ e∈cR st.o,M e=true):∀ (i:Nat) (st:jg),tr[i]?=some st->(∀ e∈cR st.o,M e=true)->∀ j∈qU an i,M j=true:=by
 intro i
 induction i using Nat.strongRecOn with
 | _ i d=>
  intro st a he j hj;rcases hF.anc i _ a j hj with h | ⟨e,h1,h2⟩
  ·exact he j h
  ·have b:=hF.edge i _ a e h1;grind
theorem kX.ord (d:∀ m st,tr[m]?=some st->M m=true->∀ e∈cR st.o,M e=true) {i} {st} (hi:tr[i]?=some st) (p:∀ e∈cR st.o,M e=true) (a:M i=false)
  {j} {st'} (hj:tr[j]?=some st')
  (q:¬ ((∀ x∈(st.sk all).ra,x ∉ fV st'.eff.w)/\(∀ x∈fV st.eff.w,x ∉ fV st'.eff.w)/\(∀ x∈(st.sk all).rb,x ∉ fV st'.eff.b)/\(∀ x∈fV st.eff.b,x ∉ fV st'.eff.b))):M j=decide (j<i):=by
 by_cases c:i=j
 ·grind
 ·have f:=(am.1 hi).1;have l:=(am.1 hj).1;rcases hF.apart i st j st' hi hj c with h | h | h
  ·rw [hF.anc_M d i st hi p j h];simp [hF.anc_lt i f j h]
  ·have h1:=hF.anc_lt j l i h;rw [eq ar]
   cases n:M j with
   | false=>rfl
   | true=>
    rw [hF.anc_M d j st' hj (d j st' hj n) i h] at a;cases a
  ·exact absurd h q
theorem rX {i} {st} (h:tr[i]?=some st):Wf tr i=st.eff.w:=by
 clear hF;unfold Wf;rw [h]
theorem vD {i} {st} (h:tr[i]?=some st):Bf tr i=st.eff.b:=by
 clear hF;unfold Bf;rw [h]
theorem kX.agree_t (l:∀ m st,tr[m]?=some st->M m=true->∀ e∈cR st.o,M e=true) {i} {st} (hi:tr[i]?=some st) (h:∀ e∈cR st.o,M e=true) (d:M i=false)
  (p:st.s=⟨tF (Wf tr) base.t (fun _=>true) i,tF (Bf tr) base.b (fun _=>true) i⟩) {x} (hx:x∈(st.sk all).ra):get (tF (Wf tr) base.t M tr.length) x=get st.s.t x:=by
 have f:=(am.1 hi).1;rw [p,XB (n:=tr.length) ar];refine hZ _ fun j hj a=>?_;have c:tr[j]?=some _:=ai hj;refine hF.ord l hi h d c fun q=>?_;rw [rX hF c] at a;exact q.1 x hx (fk.2 a)
theorem kX.agree_b (l:∀ m st,tr[m]?=some st->M m=true->∀ e∈cR st.o,M e=true) {i} {st} (hi:tr[i]?=some st) (h:∀ e∈cR st.o,M e=true) (d:M i=false)
  (p:st.s=⟨tF (Wf tr) base.t (fun _=>true) i,tF (Bf tr) base.b (fun _=>true) i⟩) {x} (hx:x∈(st.sk all).rb):get (tF (Bf tr) base.b M tr.length) x=get st.s.b x:=by
 have f:=(am.1 hi).1;rw [p,XB (n:=tr.length) ar];refine hZ _ fun j hj a=>?_;have c:tr[j]?=some _:=ai hj;refine hF.ord l hi h d c fun q=>?_;rw [vD hF c] at a;exact q.2.2.1 x hx (fk.2 a)
theorem Md {t} {l} (h:Operand.tmp t∈l):t∈CW l:=by
 clear hF
 induction l with
 | nil=>cases h
 | cons x r a=>
  rcases bF.1 h with rfl | h2
  ·exact a7
  ·clear h
   cases x with
   | tmp u=>exact a6 _ (a h2)
   | _=>exact a h2
theorem Mh {s} {x} {d off} {l} (h:x∈l) (he:ev s x = .loc d off):d∈zr s l:=by
 clear hF
 induction l with
 | nil=>cases h
 | cons y r a=>
  simp only [zr];grind
theorem PL {s} {x} {g} {k n} {ys} {l} (h:x∈l) (he:ev s x = .me g k n ys):xk k∈qM s l:=by
 clear hF
 induction l with
 | nil=>cases h
 | cons y r a=>
  simp only [qM];grind
theorem Me {s} {x} {k b off} {cs} {l} (h:x∈l) (he:ev s x = .pin k b off cs):xk k∈zb s l:=by
 clear hF
 induction l with
 | nil=>cases h
 | cons y r a=>
  simp only [zb];grind
theorem PM {t} {d k n} {ys} (h:get t d=some (.me .ents k n ys)):d∈IM t:=by
 clear hF
 induction t with
 | nil=>simp [get] at h
 | cons p r b=>
  obtain ⟨e,v⟩:=p;rw [a8] at h;split at h
  ·rename_i a;cases h;subst a;exact a7
  ·unfold IM;grind
theorem Mg {s} {x} {b d k n} {ys} {l} (h:x∈l) (he:ev s x = .lit (.map (some b))) (a:get s.t d=some (.me .ents k n ys)):d∈qM s l:=by
 have hm:=PM hF a;clear hF
 induction l with
 | nil=>cases h
 | cons y r c=>
  simp only [qM];grind
theorem PK {t} {d k b c n} {ys} (h:get t d=some (.me (.row b c) k n ys)):d∈HV t:=by
 clear hF
 induction t with
 | nil=>simp [get] at h
 | cons p r f=>
  obtain ⟨e,v⟩:=p;rw [a8] at h;split at h
  ·rename_i a;cases h;subst a;exact a7
  ·unfold HV;grind
theorem Mf {s} {x} {v} {m cap b c d k n} {ys} {l} (h:x∈l) (he:ev s x = .lit (.slice v m cap)) (a:get s.t d=some (.me (.row b c) k n ys)):d∈qM s l:=by
 have hm:=PK hF a;clear hF
 induction l with
 | nil=>cases h
 | cons y r e=>
  simp only [qM];grind
theorem kX.arrT (M):∀ d g k n xs,iD g=true->get (tF (Wf tr) base.t M tr.length) d=some (.me g k n xs)->d=xk k:=by
 intro d g k n xs e h
 have key:∀ l:List (Nat×AV),l.all Ch=true->get l d=some (.me g k n xs)->d=xk k:=fun l hl b=>by
  have:=aN.1 hl _ (pa b);simpa [Ch,e] using this
 rcases mV _ h with h | ⟨j,h1,h2,c⟩
 ·exact key _ hF.arr.1 h
 ·have a:tr[j]?=some _:=ai h1;rw [rX hF a] at c;exact key _ (hF.arr.2 j _ a) c
theorem kX.agreeX (f:∀ m st,tr[m]?=some st->M m=true->∀ e∈cR st.o,M e=true) {i} {st} (hi:tr[i]?=some st) (d:∀ e∈cR st.o,M e=true) (a:M i=false)
    (h:st.s=⟨tF (Wf tr) base.t (fun _=>true) i,tF (Bf tr) base.b (fun _=>true) i⟩) :
    NG st.s ⟨tF (Wf tr) base.t M tr.length,tF (Bf tr) base.b M tr.length⟩ (uj st.o.op):=fun x hx=>
  ⟨fun g k n l he=>hF.agree_t f hi d a h (bc _ (bc _ (bj _ (bc _ (PL hF hx he))))),
   fun b he k n l j=>hF.agree_t f hi d a h (bc _ (bc _ (bj _ (bc _ (Mg hF hx he j))))),
   fun v n cap he k b c sz l j=>hF.agree_t f hi d a h (bc _ (bc _ (bj _ (bc _ (Mf hF hx he j)))))⟩
theorem kX.agreeP (d:∀ m st,tr[m]?=some st->M m=true->∀ e∈cR st.o,M e=true) {i} {st} (hi:tr[i]?=some st) (c:∀ e∈cR st.o,M e=true) (a:M i=false)
  (f:st.s=⟨tF (Wf tr) base.t (fun _=>true) i,tF (Bf tr) base.b (fun _=>true) i⟩) :
  NH st.s ⟨tF (Wf tr) base.t M tr.length,tF (Bf tr) base.b M tr.length⟩ (CA st.o.op):=fun x hx k b off cs he=>
 hF.agree_t d hi c a f (bc _ (bc _ (bj _ (bj _ (Me hF hx he)))))
theorem kX.agree (c:∀ m st,tr[m]?=some st->M m=true->∀ e∈cR st.o,M e=true) {i} {st} (hi:tr[i]?=some st) (h:∀ e∈cR st.o,M e=true) (a:M i=false)
  (l:st.s=⟨tF (Wf tr) base.t (fun _=>true) i,tF (Bf tr) base.b (fun _=>true) i⟩) :
  Ln (ev st.s) (ev ⟨tF (Wf tr) base.t M tr.length,tF (Bf tr) base.b M tr.length⟩) st.s.b (tF (Bf tr) base.b M tr.length) st.o.op.operands.toList /\
  j3 all ⟨tF (Wf tr) base.t M tr.length,tF (Bf tr) base.b M tr.length⟩ st.o=j3 all st.s st.o:=by
 refine ⟨fun x hx=>⟨?_,fun d off he=>?_⟩,?_⟩
 ·cases x with
  | tmp t=>
   simp only [ev,St.tmp];rw [hF.agree_t c hi h a l (bc _ (bc _ (bc _ (Md hF hx))))]
  | const v=>rfl
  | global g=>rfl
  | func f=>rfl
 ·exact hF.agree_b c hi h a l (Mh hF hx he)
 ·unfold j3
  cases q:st.o.guard with
  | none=>rfl
  | some p=>
   obtain ⟨j,want⟩:=p;simp only
   cases n:jt all j with
   | none=>rfl
   | some d=>
    simp only;rw [hF.agree_t c hi h a l (bc _ (bj _ (by simp [XQ,q,n])))]
end
open Go
section
variable {base:St} {all:List Oper} {tr:List jg} {an:List (List Nat)} (hF:kX base all tr an) {M M':Nat->Bool}
include hF
theorem kX.ins_t (l:∀ m st,tr[m]?=some st->M m=true->∀ e∈cR st.o,M e=true) {i} {st} (hi:tr[i]?=some st) (h:∀ e∈cR st.o,M e=true) (b:M i=false)
  (d:∀ j,M' j=(M j||decide (j=i))) (x):get (tF (Wf tr) base.t M' tr.length) x=(get st.eff.w x).or (get (tF (Wf tr) base.t M tr.length) x):=by
 have f:=(am.1 hi).1;rw [te b d tr.length f,rX hF hi];intro j hj p q a;rw [rX hF hi] at a;have c:tr[j]?=some _:=ai hj;rw [rX hF c]
 cases n:get (tr[j]).eff.w x with
 | none=>rfl
 | some v=>
  have:=hF.ord l hi h b c fun r=>r.2.1 x (fk.2 a) (fk.2 (by rw [n]; simp));grind
theorem kX.ins_b (n:∀ m st,tr[m]?=some st->M m=true->∀ e∈cR st.o,M e=true) {i} {st} (hi:tr[i]?=some st) (l:∀ e∈cR st.o,M e=true) (c:M i=false)
  (f:∀ j,M' j=(M j||decide (j=i))) (x):get (tF (Bf tr) base.b M' tr.length) x=(get st.eff.b x).or (get (tF (Bf tr) base.b M tr.length) x):=by
 have h:=(am.1 hi).1;rw [te c f tr.length h,vD hF hi];intro j hj q r a;rw [vD hF hi] at a;have d:tr[j]?=some _:=ai hj;rw [vD hF d]
 cases p:get (tr[j]).eff.b x with
 | none=>rfl
 | some v=>
  have:=hF.ord n hi l c d fun t=>t.2.2.2 x (fk.2 a) (fk.2 (by rw [p]; simp));grind
theorem Ix (d) (t) (x):get (unloc d t) x=(get t x).map (AV.unloc d):=by unfold unloc; rw [o5]; exact lu (fun (_:Nat) (v:AV)=>v.unloc d) t x
theorem kX.val_t (d:∀ m st,tr[m]?=some st->M m=true->∀ e∈cR st.o,M e=true) {i} {st} (hi:tr[i]?=some st) (c:M i=false) {x} {v}
  (h:get (tF (Wf tr) base.t M tr.length) x=some v):(x,v)∈base.t\/∃ m b,tr[m]?=some b/\m≠i/\m<tr.length/\i ∉ qU an m/\(x,v)∈b.eff.w:=by
 rcases mV _ h with h | ⟨j,h1,h2,f⟩
 ·exact .inl (pa h)
 ·have a:tr[j]?=some _:=ai h1;rw [rX hF a] at f;refine .inr ⟨j,_,a,?_,h1,fun l=>?_,pa f⟩
  ·grind
  ·rw [hF.anc_M d j _ a (d j _ a h2) i l] at c; cases c
theorem kX.val_b (f:∀ m st,tr[m]?=some st->M m=true->∀ e∈cR st.o,M e=true) {i} {st} (hi:tr[i]?=some st) (d:M i=false) {x} {v}
  (h:get (tF (Bf tr) base.b M tr.length) x=some v):(x,v)∈base.b\/∃ m c,tr[m]?=some c/\m≠i/\m<tr.length/\i ∉ qU an m/\(x,v)∈c.eff.b:=by
 rcases mV _ h with h | ⟨j,h1,h2,l⟩
 ·exact .inl (pa h)
 ·have a:tr[j]?=some _:=ai h1;rw [vD hF a] at l;refine .inr ⟨j,_,a,?_,h1,fun n=>?_,pa l⟩
  ·grind
  ·rw [hF.anc_M f j _ a (f j _ a h2) i n] at d; cases d
theorem kX.step_le (hM:∀ m st,tr[m]?=some st->M m=true->∀ e∈cR st.o,M e=true) {i} {st} (hi:tr[i]?=some st) (hr:∀ e∈cR st.o,M e=true) (F:M i=false)
  (hs:st.s=⟨tF (Wf tr) base.t (fun _=>true) i,tF (Bf tr) base.b (fun _=>true) i⟩) (hM':∀ j,M' j=(M j||decide (j=i))) :
  St.le (stepR ⟨tF (Wf tr) base.t M tr.length,tF (Bf tr) base.b M tr.length⟩ st.o.dst st.r) ⟨tF (Wf tr) base.t M' tr.length,tF (Bf tr) base.b M' tr.length⟩:=by
 have a:=hF.clean i st hi;have Q:=hF.ins_t hM hi hr F hM';have hb:=hF.ins_b hM hi hr F hM';have hv:=fun (x:Nat) (v:AV)=>hF.val_t hM hi F (x:=x) (v:=v);have hvb:=fun (x:Nat) (v:List AV)=>hF.val_b hM hi F (x:=x) (v:=v);have hag:=fun (x:Nat) (hx:x∈(st.sk all).ra)=>hF.agree_t hM hi hr F hs hx;generalize tF (Wf tr) base.t M tr.length=t at *;generalize tF (Bf tr) base.b M tr.length=b at *;obtain ⟨⟨l,Z,P,B,G,X⟩,D,r⟩:=st;simp only [jg.eff] at Q hb
 cases r with
 | val v=>
  cases l with
  | none=>
   refine ⟨fun x u hx=>?_,fun x u hx _=>?_⟩
   ·grind [fa,stepR,get]
   grind [fa,stepR,get]
  | some d=>
   refine ⟨fun x u hx=>?_,fun x u hx _=>?_⟩
   ·simp only [Q,fa] at hx;rw [<- eD] at hx;exact hx
   grind [fa,stepR,get]
 | store d cs=>
  refine ⟨fun x u hx=>?_,fun x u hx _=>?_⟩
  ·grind [fa,stepR,get]
  ·simp only [hb,fa] at hx;rw [<- eD] at hx;exact hx
 | xst k v=>
  refine ⟨fun x u hx=>?_,fun x u hx _=>?_⟩
  ·simp only [Q,fa] at hx;rw [<- eD] at hx;exact hx
  grind [fa,stepR,get]
 | cut k n v=>
  cases l with
  | none=>
   refine ⟨fun x u hx=>?_,fun x u hx _=>?_⟩
   ·grind [fa,stepR,get]
   grind [fa,stepR,get]
  | some d=>
   simp only [pp,al,aN] at a;refine ⟨fun x u hx=>?_,fun x u hx _=>?_⟩
   ·simp only [Q,fa,a8] at hx;simp only [stepR,a8];by_cases c:x=d
    ·grind
    ·simp only [c,cu] at hx ⊢;by_cases hxk:x=xk k
     ·grind
     ·simp only [hxk,cu] at hx ⊢;rw [dG]
      cases q:get (DT k [d,xk k] D.t) x with
      | some y=>
       rw [q] at hx;obtain ⟨_,z,h2,p,A⟩:=zD k _ _ _ _ q
       have U:x∈(jg.sk all ⟨⟨some d,Z,P,B,G,X⟩,D,.cut k n v⟩).ra:=by
        refine bj _ (gx.2 ⟨fk.2 ?_,?_⟩)
        ·simp only [jg.eff,fa,a8,c,hxk,cu,q]; simp
        ·simp only
         cases E:Nat.beq x d with
         | true=>exact absurd (aj E) c
         | false=>rfl
       grind [get,PU]
      | none=>
       rw [q] at hx;have hx:get t x=some u:=by simpa using hx
       rw [hx,bH]
       have f:x ∉ fV (fa D.t (some d) (.cut k n v)).w:=by
        rw [fk];simp only [fa,a8,c,hxk,cu,q];simp
       have hl:wu k u=false:=by
        rcases hv x u hx with h | ⟨m,H,h1,h2,p,A,J⟩
        ·have:=a.1 _ h;rw [cq,dv] at this;rcases this with h | h
         ·exact absurd h f
         ·simpa using h
        ·have:=a.2 m (bB.2 p);simp only [cq,dv,fj,h1,aN] at this;rcases this with (h | h) | h
         ·exact absurd (aj h).symm h2
         ·exact absurd h A
         ·have:=h _ J;rcases this with h | h
          ·exact absurd h f
          ·simpa using h
       rw [Cm hl]
   grind [fa,stepR,get]
 | alloc cs=>
  cases l with
  | none=>
   refine ⟨fun x u hx=>?_,fun x u hx _=>?_⟩
   ·grind [fa,stepR,get]
   grind [fa,stepR,get]
  | some d=>
   simp only [pp,al,aN] at a;refine ⟨fun x u hx=>?_,fun x u hx _=>?_⟩
   ·simp only [Q,fa,a8] at hx;simp only [stepR,a8];by_cases c:x=d
    ·grind
    ·simp only [c,cu] at hx ⊢;have hx:get t x=some u:=by simpa [get] using hx
     rw [Ix hF,hx]
     have hl:Is d u=false:=by
      rcases hv x u hx with h | ⟨m,H,h1,h2,p,A,J⟩
      ·have:=a.1 _ h;rw [cq] at this;grind [absurd,Nat.eq_of_beq_eq_true]
      ·have:=a.2 m (bB.2 p);simp only [cq,dv,fj,h1,aN] at this;grind [absurd,Nat.eq_of_beq_eq_true]
     rw [bH,Ir hl]
   ·simp only [hb,fa] at hx;rw [<- eD] at hx;exact hx
 | lent N I v es rd=>
  cases l with
  | none=>
   refine ⟨fun x u hx=>?_,fun x u hx _=>?_⟩
   ·grind [fa,stepR,get]
   grind [fa,stepR,get]
  | some d=>
   simp only [pp,al,aN] at a;refine ⟨fun x u hx=>?_,fun x u hx _=>?_⟩
   ·simp only [Q,fa] at hx;simp only [stepR];rw [<- gT,eD] at hx;rw [<- gT,eD]
    cases q:get ((d,v)::es) x with
    | some y=>grind
    | none=>
     rw [q] at hx;have hx:(get (Bc N I (d::OB es) D.t) x).or (get t x)=some u:=by simpa using hx
     cases L:get (Bc N I (d::OB es) D.t) x with
     | some y=>
      rw [L] at hx;have hx:y=u:=by simpa using hx
      obtain ⟨hns,z,h2,p,A⟩:=zG N I _ _ _ _ L;have c:x≠d:=fun e=>hns (by grind)
      have U:x∈(jg.sk all ⟨⟨some d,Z,P,B,G,X⟩,D,.lent N I v es rd⟩).ra:=by
       refine bj _ (bc _ (gx.2 ⟨fk.2 ?_,?_⟩))
       ·grind [jg.eff,fa,eD]
       ·simp only
        cases E:Nat.beq x d with
        | true=>exact absurd (aj E) c
        | false=>rfl
      simp only [St.unmeMany];rw [dG,lv,show get t x=get D.t x from hag x U,h2,bH,bH,<- A,hx]; rfl
     | none=>
     rw [L] at hx;have hx:get t x=some u:=by simpa using hx
     have f:x ∉ fV (fa D.t (some d) (.lent N I v es rd)).w:=by
      rw [fk];simp only [fa];rw [<- gT,eD,q,L];simp
     have hl:tO N I u=false:=by
      rcases hv x u hx with h | ⟨m,H,h1,h2,p,A,J⟩
      ·have:=a.1.1 _ h;rw [cq,dv] at this;rcases this with h | h
       ·exact absurd h f
       ·simpa using h
      ·have:=a.2 m (bB.2 p);simp only [cq,dv,fj,h1,aN,al] at this;rcases this with (h | h) | h
       ·exact absurd (aj h).symm h2
       ·exact absurd h A
       ·have:=h.1 _ J;rcases this with h | h
        ·exact absurd h f
        ·simpa using h
     simp only [St.unmeMany];rw [dG,lv,hx,bH,bH,So hl]; rfl
   ·simp only [hb,fa] at hx;have hx:get b x=some u:=by simpa [get] using hx
    simp only [stepR];rw [nS,hx,bH]
    have hl:∀ y∈u,∀ k∈I,lT k y=false:=by
     rcases hvb x u hx with h | ⟨m,H,h1,h2,p,A,J⟩
     ·intro y hy k hk;have:=a.1.2 _ h y hy;grind
     ·have:=a.2 m (bB.2 p);simp only [cq,dv,fj,h1,aN,al] at this;rcases this with (h | h) | h
      ·exact absurd (aj h).symm h2
      ·exact absurd h A
      ·intro y hy k hk;have:=h.2 _ J y hy;grind
    congr 1
    conv=>rhs; rw [<- Hf u]
    grind [List.map_congr_left,xz]
 | app k v=>
  cases l with
  | none=>
   refine ⟨fun x u hx=>?_,fun x u hx _=>?_⟩
   ·grind [fa,stepR,get]
   grind [fa,stepR,get]
  | some d=>
   simp only [pp,al,aN] at a;refine ⟨fun x u hx=>?_,fun x u hx _=>?_⟩
   ·simp only [Q,fa,a8] at hx;simp only [stepR,a8];by_cases c:x=d
    ·grind
    ·simp only [c,cu] at hx ⊢;rw [mB]
     cases q:get (DU k [d] D.t) x with
     | some y=>
      rw [q] at hx;obtain ⟨_,z,h2,p⟩:=zF k _ _ _ _ q
      have U:x∈(jg.sk all ⟨⟨some d,Z,P,B,G,X⟩,D,.app k v⟩).ra:=by
       refine bj _ (gx.2 ⟨fk.2 ?_,?_⟩)
       ·simp only [jg.eff,fa,a8,c,cu,q]; simp
       ·simp only
        cases E:Nat.beq x d with
        | true=>exact absurd (aj E) c
        | false=>rfl
      grind
     | none=>
      rw [q] at hx;have hx:get t x=some u:=by simpa using hx
      rw [hx,bH]
      have f:x ∉ fV (fa D.t (some d) (.app k v)).w:=by
       rw [fk];simp only [fa,a8,c,cu,q];simp
      have hl:sE k u=false:=by
       rcases hv x u hx with h | ⟨m,H,h1,h2,p,A,J⟩
       ·have:=a.1.1 _ h;rw [cq,dv] at this;rcases this with h | h
        ·exact absurd h f
        ·simpa using h
       ·have:=a.2 m (bB.2 p);simp only [cq,dv,fj,h1,aN,al] at this;rcases this with (h | h) | h
        ·exact absurd (aj h).symm h2
        ·exact absurd h A
        ·have:=h.1 _ J;rcases this with h | h
         ·exact absurd h f
         ·simpa using h
      rw [Co hl]
   ·simp only [hb,fa] at hx;have hx:get b x=some u:=by simpa [get] using hx
    simp only [stepR];rw [rP,hx,bH]
    have hl:∀ y∈u,lT k y=false:=by
     rcases hvb x u hx with h | ⟨m,H,h1,h2,p,A,J⟩
     ·intro y hy;simpa using a.1.2 _ h y hy
     ·have:=a.2 m (bB.2 p);simp only [cq,dv,fj,h1,aN,al] at this;rcases this with (h | h) | h
      ·exact absurd (aj h).symm h2
      ·exact absurd h A
      ·intro y hy;simpa using h.2 _ J y hy
    congr 1
    conv=>rhs; rw [<- Hf u]
    grind [List.map_congr_left,o9]
end
open Go
section
variable {Γ:ce} (hΓ:Γ.OK) {T:eS} (hT:T.OK Γ.P) {base:St} {all:List Oper} {tr:List jg} {an:List (List Nat)} {Q:Exit->Act->World->Prop} {w0:World} {a0:Act}
theorem gX {o} {e}:e∈cR o↔∃ x∈o.after,Region.binds .any x=true/\x.on=e:=by
 grind [cR]
theorem iW {l} {i:Nat} {o} (h:l[i]?=some o) {d} (a:d∈o.dst.toList):d∈eE l:=by
 induction l generalizing i with
 | nil=>simp at h
 | cons x r b=>
  cases i with
  | zero=>simp at h; subst h; exact bc _ a
  | succ i=>exact bj _ (b (by simpa using h))
theorem L6 {C} {E} {guards} {s s'} {o} {r0} (d:Ln (ev s) (ev s') s.b s'.b o.op.operands.toList) (j:NG s s' (uj o.op)) (p:NH s s' (CA o.op))
  (l:∀ N I v es rd,r0 = .lent N I v es rd->∀ x∈rd,get s'.t x=get s.t x) (h:Db T C E guards s o fun r=>r=r0):Db T C E guards s' o fun r=>r=r0:=by
 unfold Db at h ⊢
 cases c:zO guards o with
 | false=>rw [c,br] at h; exact L4 d j p h
 | true=>
  rw [c,aR] at h;rw [aR];simp only [AV.go_eq,qT] at h ⊢;unfold Cu at h ⊢;split at h
  ·rename_i call e;rw [e] at d j;split at h
   ·rename_i f a;have hf:ev s' f=ev s f:=(d f (by simp [Op.operands,Call.operands,a])).1;have h1:∀ x∈call.args.toList,ev s' x=ev s x:=fun x hx=>(d x (by grind [Op.operands,Call.operands])).1;have n:(call.args.toList.map fun x=>(ev s' x).pubE)=call.args.toList.map fun x=>(ev s x).pubE:=eG fun x hx=>by rw [h1 x hx]
    have u:call.args.toList.map (ev s')=call.args.toList.map (ev s):=eG h1;simp only [hf,n,u]
    have fin:∀ (N I:List Nat) (L:List (Nat×AV)) (r:AV) (i:List (Nat×AV)),lK.lent N I r (BK i) ((ku L).map xk)=r0->gI s (ku L)=some L->gI s' (ku L)=some L:=fun N I L r i q h1=>
     (sG fun k m=>l _ _ _ _ _ q.symm (xk k) (Lf m)).trans h1
    grind
   ·exact h.elim
  ·exact h.elim
include hΓ hT in
theorem zT {guards} (U:kX base all tr an) (hlen:tr.length=all.length) (u:∀ j d,jt all j=some d->d<Γ.nt)
  (hst:∀ (i:Nat) (st:jg),tr[i]?=some st->all[i]?=some st.o/\okS T (aq Γ.P) (bX Γ.P) all guards st.s st.o st.r/\st.s=⟨tF (Wf tr) base.t (fun _=>true) i,tF (Bf tr) base.b (fun _=>true) i⟩)
  (hQ:∀ a w,d5 Γ ⟨tF (Wf tr) base.t (fun _=>true) tr.length,tF (Bf tr) base.b (fun _=>true) tr.length⟩ a w->NC w0 w->FT (eE all) a0 a->Q .normal a w) :
  ∀ (fuel:Nat) (listed:Array Bool) (a:Act) (w:World),listed.size=tr.length->kR (fun i=>listed.getD i false) tr.length+fuel=tr.length ->
   (∀ m st,tr[m]?=some st->listed.getD m false=true->∀ e∈cR st.o,listed.getD e false=true) ->
   d5 Γ ⟨tF (Wf tr) base.t (fun i=>listed.getD i false) tr.length,tF (Bf tr) base.b (fun i=>listed.getD i false) tr.length⟩ a w->NC w0 w->FT (eE all) a0 a ->
   wpAnyIn Γ.F Γ.n Γ.P .any all.toArray Q fuel listed a w:=by
 have z:∀ (listed:Array Bool) (a:Act) (w:World),(∀ i,i<tr.length->listed.getD i false=true) ->
   d5 Γ ⟨tF (Wf tr) base.t (fun i=>listed.getD i false) tr.length,tF (Bf tr) base.b (fun i=>listed.getD i false) tr.length⟩ a w->NC w0 w->FT (eE all) a0 a->Q .normal a w:=by
  intro listed a w hM A hN hP;refine hQ a w (A.less ⟨fun d x h=>?_,fun d x h _=>?_⟩) hN hP
  ·grind [hZ]
  ·grind [hZ]
 have hgd:∀ (listed:Array Bool) (i:Nat),listed.size=tr.length->i<tr.length->listed.getD i true=listed.getD i false:=by
  intro listed i h1 h2;rw [aG,aG,aE ar];rfl
 have J:∀ (listed:Array Bool),listed.size=tr.length->Region.ready .any all.toArray listed=[]->∀ i,i<tr.length->listed.getD i false=true:=by
  intro listed p H i
  induction i using Nat.strongRecOn with
  | _ i ih=>
   intro hi
   cases hM:listed.getD i false with
   | true=>rfl
   | false=>
    exfalso;have c:tr[i]?=some _:=ai hi
    have:i∈Region.ready .any all.toArray listed:=by
     rw [gB];refine ⟨by grind,_,by simpa using (hst i _ c).1,fun e he hb=>?_⟩;have q:=U.edge i _ c e.on (gX.2 ⟨e,he,hb,rfl⟩);exact ih e.on q ar
    grind
 intro fuel
 induction fuel with
 | zero=>
  intro listed a w p hc _ A hN hP;have hM:∀ i,i<tr.length->listed.getD i false=true:=yD (M:=fun i=>listed.getD i false) tr.length ar;refine ⟨?_,z listed a w hM A hN hP⟩;rw [pU];intro i hi;rw [gB] at hi;grind
 | succ fuel ih=>
  intro listed a w p hc y A hN hP;refine ⟨fun H=>z listed a w (J listed p H) A hN hP,fun i hi=>?_⟩;rw [gB] at hi;obtain ⟨h1,o,h2,h3⟩:=hi;have h2:all[i]?=some o:=by simpa using h2
  have q:i<tr.length:=by
   rw [hlen];exact (am.1 h2).1
  rw [hgd listed i p q] at h1;have c:tr[i]?=some tr[i]:=ai q;generalize tr[i]=st at c;obtain ⟨k1,k2,k3⟩:=hst i st c;have l:st.o=o:=by rw [h2] at k1; simpa using k1.symm
  have H:∀ e∈cR st.o,listed.getD e false=true:=by
   intro e he;obtain ⟨x,g1,g2,rfl⟩:=gX.1 he;exact h3 x (l ▸ g1) g2
  have hag:=U.agree (M:=fun i=>listed.getD i false) y c H h1 k3
  have hM':∀ j,(listed.setIfInBounds i true).getD j false=((fun i=>listed.getD i false) j||decide (j=i)):=by
   intro j;simp only [aG,dn];by_cases hj:i=j
   ·grind
   ·grind
  have hle:=U.step_le (M:=fun i=>listed.getD i false) (M':=fun j=>(listed.setIfInBounds i true).getD j false) y c H h1 k3 hM';have B:∀ d,o.dst=some d->d<Γ.nt:=fun d hd=>u i d (by rw [eF,h2]; exact hd)
  have X:∀ (s':St) (Z:Act) (w':World),s'=stepR ⟨tF (Wf tr) base.t (fun i=>listed.getD i false) tr.length,tF (Bf tr) base.b (fun i=>listed.getD i false) tr.length⟩ st.o.dst st.r ->
    d5 Γ s' Z w'->NC w w'->(∃ v,Z=a.put o.dst v)->wpAnyIn Γ.F Γ.n Γ.P .any all.toArray Q fuel (listed.setIfInBounds i true) Z w':=by
   intro s' Z w' hs' hI' hN' hP';subst hs';refine ih _ Z w' (by simpa using p) ?_ ?_ (hI'.less hle) (hN.trans hN') (hP.trans ((FT.put hP').mono fun d hd=>iW h2 hd))
   ·rw [yC (M:=fun i=>listed.getD i false) h1 hM' tr.length q]; omega
   ·grind
  rw [wpOpIn,show all.toArray[i]?=some o by simpa using h2];simp only;have L:=hag.2;rw [l] at L;rcases k2 with ⟨hw,hop⟩ | ⟨hw,hrv⟩
  ·rw [l] at hw hop;rw [dx u A 0 (by rw [L]; exact hw) ar];simp only [ea,c5];have D:=hag.1;rw [l] at D;have G:=U.agreeX (M:=fun i=>listed.getD i false) y c H h1 k3;rw [l] at G;have E:=U.agreeP (M:=fun i=>listed.getD i false) y c H h1 k3;rw [l] at E;refine L5 hΓ hT A B (U.arrT _) (L6 D G E (fun N I v es rd hlr x hx=>?_) hop) ?_
   ·exact U.agree_t (M:=fun i=>listed.getD i false) y c H h1 k3 (bj _ (by grind))
   rintro s' Z w' ⟨r,rfl,hs'⟩ hI' hN' hP';grind
  ·rw [l] at hw;rw [dx u A 1 (by rw [L]; exact hw) ar];simp only [Nat.reduceBEq,bv,cu];refine ⟨fun f _=>hΓ.fn f,?_⟩
   obtain ⟨s2,hK2,hI2⟩:=fT (K:=fun s'=>s'=stepR ⟨tF (Wf tr) base.t (fun i=>listed.getD i false) tr.length,tF (Bf tr) base.b (fun i=>listed.getD i false) tr.length⟩ st.o.dst st.r) A B (by
    rw [<- l]; exact fU (by rw [hrv]))
   exact X s2 _ w hK2 hI2 (.refl w) ⟨_,rfl⟩
theorem RC.unloc' {c} {x} {v} (h:RC c x v) (d):RC c (x.unloc d) v:=by
 cases x with
 | loc a off=>
  simp only [AV.unloc]
  cases Nat.beq d a with
  | true=>exact RD.junk v
  | false=>exact h
 | _=>exact h
theorem d5.unlocMany {s} {a} {w} (e:d5 Γ s a w):∀ (ds:List Nat),d5 Γ ⟨Go.AI.unlocMany ds s.t,s.b⟩ a w:=by
 intro ds
 induction ds generalizing s with
 | nil=>exact e
 | cons d r j=>
  refine j (s:=⟨unloc d s.t,s.b⟩) ?_;obtain ⟨⟨c,i,f⟩,h2,h,l⟩:=e;refine ⟨⟨c,i,fun k x hx=>?_⟩,h2,h,l⟩;simp only at hx;rw [show get (unloc d s.t) k=(get s.t k).map (AV.unloc d) from by unfold unloc; rw [o5]; exact lu (fun (_:Nat) (v:AV)=>v.unloc d) s.t k] at hx;obtain ⟨u,hu,rfl⟩:=aA.1 hx;exact (f k u hu).unloc' d
include hΓ hT in
theorem sK {kV keep} {s} {K} {a} {w} {id} (f:∀ j d,jt all j=some d->d<Γ.nt) (h:rU T (aq Γ.P) (bX Γ.P) kV keep all s K) (y:d5 Γ s a w)
  (A:∀ s' m l w',ga keep s' K->s'=m->d5 Γ s' l w'->NC w w'->FT (eE all) a l->Q .normal l w'):(Code.region id all.toArray true).wpIn Γ.F Γ.n Γ.P Q a w:=by
 obtain ⟨t,b⟩:=s;simp only [rU,qT] at h;obtain ⟨tr,s',r,c,B⟩:=oe T (aq Γ.P) (bX Γ.P) all [] _ h;rw [bR,He] at c;obtain ⟨g1,g2,g3⟩:=xZ.all T (aq Γ.P) (bX Γ.P) r;obtain ⟨an,x⟩:=wI c;refine CR hΓ.mixed ?_;have o:=(y.drew).unlocMany (kd all)
 have hz:∀ i,(Array.replicate all.length false).getD i false=false:=by
  intro i;rw [aG,mz];split <;> rfl
 have e:∀ {α:Type} (E:Nat->List (Nat×α)) (b:List (Nat×α)) n,tF E b (fun i=>(Array.replicate all.length false).getD i false) n=b:=by
  intro α E b n
  induction n with
  | zero=>rfl
  | succ n q=>simp only [tF]; rw [hz n,br]; exact q
 have p:∀ n,kR (fun i=>(Array.replicate all.length false).getD i false) n=0:=by
  intro n
  induction n with
  | zero=>rfl
  | succ n q=>simp only [kR]; rw [hz n,q]; rfl
 refine zT hΓ hT (w0:=w) (a0:=a) x g1 f g2 (fun l w' z u v=>?_) _ _ a _ (by simp [g1]) ?_ ?_ ?_ ⟨ba _,fun _ _ h _=>h,.drew _,fun _ h=>h⟩ (.refl _ a)
 ·grind
 ·simp only [iO];rw [p,g1]; omega
 ·grind
 ·simp only [iO];rw [e,e];exact o
end
open Go
open Go.RowKit (Below)
def SL (nt:Nat) (o:Oper):Bool:=match o.dst with | some d=>Nat.blt d nt | none=>true
def dC (nt:Nat):Code->Bool
 | .region _ ops _=>ops.toList.all (SL nt)
 | .seq a b=>dC nt a&&dC nt b
 | .cond _ a b=>dC nt a&&dC nt b
 | .block _ c=>dC nt c
 | _=>true
def Xd (Γ:ce) (T:eS) (keep:List Nat):Code->St->(Exit->St->Prop)->Prop
 | .skip,s,K=>K .normal s
 | .label _,s,K=>K .normal s
 | .ret,s,K=>K .ret s
 | .exit j,s,K=>K (.exit j) s
 | .seq a b,s,K=>Xd Γ T keep a s fun e s=>match e with
  | .normal=>Xd Γ T keep b s K
  | e=>K e s
 | .cond c a b,s,K=>match ev s c with
  | .bool t=>(t=true->Xd Γ T keep a s K)/\(t=false->Xd Γ T keep b s K)
  | _=>False
 | .block id c,s,K=>Xd Γ T keep c s fun e s=>match e with
  | .exit j=>bif Nat.beq j id then K .normal s else K (.exit j) s
  | e=>K e s
 | .region _ ops false,s,K=>lg T (aq Γ.P) (bX Γ.P) ops.toList (dw ops.toList ops.toList) ops.toList s fun s=>ga keep s (K .normal)
 | .region _ ops true,s,K=>rU T (aq Γ.P) (bX Γ.P) [] keep ops.toList s (K .normal)
 | c,s,K=>SP Γ s c K
theorem SX {l} {k d} (h:k∈Pr l d):k∈l:=by
 induction l with
 | nil=>simp [Pr] at h
 | cons e r a=>
  simp only [Pr] at h;grind
theorem P4:∀ {t:List (Nat×AV)} {keep:List Nat} {d:Nat} {x:AV},get (zy keep t) d=some x->d∈keep/\get t d=some x:=by
 intro t
 induction t with
 | nil=>intro keep d x h; simp [zy,get] at h
 | cons p r b=>
  obtain ⟨k,v⟩:=p;intro keep d x h;simp only [zy] at h
  cases hm:dj keep k with
  | true=>
   rw [hm] at h;simp only [aR] at h;rw [a8] at h ⊢;split at h
   ·rename_i a; rw [aX a]; subst a; exact ⟨dv.1 hm,h⟩
   ·rename_i a; rw [aV a]; exact ⟨SX (b h).1,(b h).2⟩
  | false=>
   rw [hm] at h;simp only [br] at h;rw [a8,aV]
   ·exact b h
   ·rintro rfl;rw [dv.2 (b h).1] at hm;cases hm
theorem P5:∀ {t:List (Nat×List AV)} {seen:List Nat} {d:Nat} {x:List AV},get (zA seen t) d=some x->d ∉ seen/\get t d=some x:=by
 intro t
 induction t with
 | nil=>grind [zA,get]
 | cons p r b=>
  obtain ⟨k,v⟩:=p;intro seen d x h;simp only [zA] at h
  cases hm:dj seen k with
  | false=>
   rw [hm] at h;simp only [br] at h;rw [a8] at h ⊢;split at h
   ·rename_i a; rw [aX a]; subst a; exact ⟨fun c=>absurd (dv.2 c) (by grind),h⟩
   grind
  | true=>
   rw [hm] at h;simp only [aR] at h;rw [a8,aV]
   ·exact b h
   ·rintro rfl;exact (b h).1 (dv.1 hm)
theorem eb {keep} {s} {K} (h:ga keep s K):∃ s',K s'/\s.le s':=by
 obtain ⟨t,b⟩:=s;simp only [ga,Dt,wq,wr] at h;exact ⟨_,h,fun d x hx=>(P4 hx).2,fun d cs a _=>(P5 a).2⟩
theorem SP.mono {Γ} {s} {c} {K K'} (h:SP Γ s c K) (d:∀ e s,K e s->K' e s):SP Γ s c K':=
 fun a w f=>db (h a w f) fun e _ _ ⟨l,b,s',j,i⟩=>⟨l,b,s',j,d e s' i⟩
theorem SP.seq {Γ} {s} {a b} {K K1} (h:SP Γ s a K1) (q:∀ s,K1 .normal s->SP Γ s b K) (he:∀ e s,e≠.normal->K1 e s->K e s):SP Γ s (.seq a b) K:=by
 intro a0 w p;refine wpIn_seq (db (h a0 w p) fun e o w' r=>?_);obtain ⟨j,i,s',f,m⟩:=r
 replace i:FT (oI (.seq a b)) a0 o:=i.mono fun d n=>bc _ n
 cases e with
 | normal=>exact db (q s' m o w' f) fun e _ _ ⟨n2,p2,s2,h2,k2⟩=>⟨j.trans n2,i.trans (p2.mono fun d n=>bj _ n),s2,h2,k2⟩
 | exit id=>exact ⟨j,i,s',f,he _ _ (by intro h; cases h) m⟩
 | goto l=>exact ⟨j,i,s',f,he _ _ (by intro h; cases h) m⟩
 | ret=>exact ⟨j,i,s',f,he _ _ (by intro h; cases h) m⟩
 | panic c=>exact ⟨j,i,s',f,he _ _ (by intro h; cases h) m⟩
 | outgrown=>exact ⟨j,i,s',f,he _ _ (by intro h; cases h) m⟩
theorem ew {nt} {l} (h:l.all (SL nt)=true):∀ j d,jt l j=some d->d<nt:=by
 intro j d a;rw [eF] at a
 cases hj:l[j]? with
 | none=>rw [hj] at a; cases a
 | some o=>
  rw [hj] at a;have:=aN.1 h o (aC hj);unfold SL at this;rw [show o.dst=some d from a] at this;have:=ah this;omega
section
variable {Γ:ce} (hΓ:Γ.OK) {T:eS} (hT:T.OK Γ.P) {keep:List Nat}
theorem SP.pure {s} {c} {K} {e} (d:∀ {F:Fence} {n:Nat} {P:Program} {Q:Exit->Act->World->Prop} {a:Act} {w:World},Q e a w->c.wpIn F n P Q a w) (h:K e s):SP Γ s c K:=
 fun a w b=>d ⟨.refl w,.refl _ a,s,b,h⟩
include hΓ hT in
theorem eI:∀ (c:Code) (s:St) (K:Exit->St->Prop),dC Γ.nt c=true->Xd Γ T keep c s K->SP Γ s c K
 | .skip,s,K,_,h=>SP.pure wpIn_skip h
 | .label _,s,K,_,h=>SP.pure wpIn_label h
 | .ret,s,K,_,h=>SP.pure wpIn_ret h
 | .exit j,s,K,_,h=>SP.pure wpIn_exit h
 | .seq a b,s,K,m,h=>by
  simp only [dC,al] at m;refine SP.seq (eI a s _ m.1 h) (fun s' A=>eI b s' K m.2 A) (fun e s' he A=>?_);grind
 | .cond c x y,s,K,m,h=>by
  simp only [dC,al] at m;intro a w o;simp only [Xd] at h;split at h
  ·rename_i t D;obtain ⟨F,G,z⟩:=o.ex
   have he:RC F (.bool t) (a.eval c):=by
    have:=cc z c;rwa [D] at this
   exact CS he.bool (fun g=>db (eI x s K m.1 (h.1 g) a w o) fun _ _ _ ⟨h1,h2,u⟩=>⟨h1,h2.mono fun d r=>bc _ r,u⟩)
    (fun g=>db (eI y s K m.2 (h.2 g) a w o) fun _ _ _ ⟨h1,h2,u⟩=>⟨h1,h2.mono fun d r=>bj _ r,u⟩)
  ·exact h.elim
 | .block id c,s,K,m,h=>by
  intro a w o;refine aaC (db (eI c s _ (by simpa [dC] using m) h a w o) fun e B w' E=>?_);obtain ⟨n,p,s',f,i⟩:=E
  cases e with
  | exit j=>
   simp only at i;unfold Exit.inBlock
   cases q:Nat.beq j id with
   | true=>rw [q] at i; simp only [aj q,c5]; exact ⟨n,p,s',f,i⟩
   | false=>rw [q] at i; simp only [de q,cu]; exact ⟨n,p,s',f,i⟩
  | normal=>exact ⟨n,p,s',f,i⟩
  | goto l=>exact ⟨n,p,s',f,i⟩
  | ret=>exact ⟨n,p,s',f,i⟩
  | panic c=>exact ⟨n,p,s',f,i⟩
  | outgrown=>exact ⟨n,p,s',f,i⟩
 | .region id ops false,s,K,m,h=>by
  intro a w o;obtain ⟨l⟩:=ops;refine fP ?_;rw [show (⟨l⟩:Array Oper).size=l.length from rfl,c6];refine kE hΓ hT (ew m) l 0 s a w _ (fun j=>by simp) h o ?_;intro s' B w' i f n v;obtain ⟨s2,h2,hle⟩:=eb i;exact ⟨n,v,s2,f.less hle,h2⟩
 | .region id ops true,s,K,m,h=>by
  intro a w o;obtain ⟨l⟩:=ops;refine sK hΓ hT (ew m) h o ?_;intro s' _ B w' i _ f n v;obtain ⟨s2,h2,hle⟩:=eb i;exact ⟨n,v,s2,f.less hle,h2⟩
 | .loop c,s,K,_,h=>h
 | .rangeFunc _ _ _ _,s,K,_,h=>h
 | .scope c,s,K,_,h=>h
 | .goto _,s,K,_,h=>h
 | .refuse _,s,K,_,h=>h
end
open Go
open Go.RowKit (Below)
theorem SP.loop {Γ} {s} {c} {K} {X:Type} (p:X->St) (I:X->Prop) (μ:X->Nat) (x0) (t:I x0) (hle:s.le (p x0))
  (body:∀ x,I x->SP Γ (p x) c fun e s'=>match e with | .normal=>∃ o,I o/\μ o<μ x/\s'.le (p o) | e=>K e s'):SP Γ s (.loop c) K:=by
 intro a0 w v
 have key:∀ (m:Nat) (x:X) (a:Act) (w1:World),I x->μ x<m->d5 Γ (p x) a w1->NC w w1->FT (oI c) a0 a ->
   Code.roundsIn Γ.F Γ.n Γ.P c (fun e q w'=>NC w w'/\FT (oI c) a0 q/\∃ s',d5 Γ s' q w'/\K e s') m a w1:=by
  intro m
  induction m with
  | zero=>intro x a w1 _ hm; omega
  | succ m y=>
   intro x a w1 hx hm r j i;rw [roundsIn_succ];refine db (body x hx a w1 r) fun e q w' u=>?_;obtain ⟨b,d,s',f,h⟩:=u
   cases e with
   | normal=>
    obtain ⟨o,g1,g2,g3⟩:=h;exact y o q w' g1 ar (f.less g3) (j.trans b) (i.trans d)
   | exit id=>exact ⟨j.trans b,i.trans d,s',f,h⟩
   | goto l=>exact ⟨j.trans b,i.trans d,s',f,h⟩
   | ret=>exact ⟨j.trans b,i.trans d,s',f,h⟩
   | panic c=>exact ⟨j.trans b,i.trans d,s',f,h⟩
   | outgrown=>exact ⟨j.trans b,i.trans d,s',f,h⟩
 exact Xy (μ x0+1) (key _ x0 a0 w t ar (v.less hle) (.refl w) (.refl _ a0))
def AV.weak (x r:AV):Prop:=∀ m v,RD m x v->RD m r v
theorem AV.weak.refl (x:AV):x.weak x:=fun _ _ h=>h
theorem ay {x r:AV} (h:x=r):x.weak r:=h ▸ .refl x
def HX (T:eS) (s:St):ResultVar->Option AV
 | .tmp t=>get s.t t
 | .cell a t=>match get T t,get s.t a with
  | some i,some (.loc d off)=>match get s.b d with
   | some cs=>eO i (cs.drop off)
   | none=>none
  | _,_=>none
def qD (T:eS) (s:St):List ResultVar->Option (List AV)
 | []=>some []
 | x::r=>match HX T s x,qD T s r with
  | some v,some l=>some (v.pub::l)
  | _,_=>none
def Lc (T:eS) (rs:List ResultVar) (s:St) (r:AV):Prop:=match rs with
 | [x]=>match HX T s x with | some v=>v.pub.weak r | none=>False
 | rs=>match qD T s rs with | some vs=>(AV.tup vs).weak r | none=>False
structure Ends (T:eS) (rs:List ResultVar) (r:AV) (e:Exit) (s:St):Prop where
 ex:e = .ret\/e = .normal
 ok:Lc T rs s r
section
variable {Γ:ce} {T:eS} (hT:T.OK Γ.P)
def y8 (tmps:Array Value):ResultVar->Sem Value
 | .tmp t=>pure (tmps.getD t undef)
 | .cell a t=>do loadVar t (<- asAddr (tmps.getD a undef))
include hT in
theorem sV {s} {a:Act} {w} {c} (n:WI Γ c s.b w) (j:∀ d x,get s.t d=some x->RC c x (a.tmps.getD d Go.undef)) {x} {v} (h:HX T s x=some v) :
  ∃ u,(y8 a.tmps x).run Γ.P w = .ok u w/\RC c v u:=by
 cases x with
 | tmp t=>exact ⟨_,rfl,j t v h⟩
 | cell b t=>
  simp only [HX] at h;split at h
  ·rename_i i d off hi m;split at h
   ·rename_i cs e;obtain ⟨vals,g1,g2,g3,g4⟩:=Cy n e off;obtain ⟨u,l,f⟩:=jQ hT hi g1 g2 g3 g4 h;refine ⟨u,?_,f⟩;have:=(j b _ m).loc;grind [y8,Sem.run_bind,asAddr,Sem.run_pure,Result.andThen_ok]
   ·cases h
  ·cases h
include hT in
theorem xf {s:St} {a:Act} {w:World} {c:dE} (n:WI Γ c s.b w) (j:∀ d x,get s.t d=some x->RC c x (a.tmps.getD d Go.undef)):∀ {l:List ResultVar} {vs:List AV},qD T s l=some vs ->
  ∃ us:List Value,(l.mapM (y8 a.tmps)).run Γ.P w = .ok us w/\vs.length=us.length/\∀ (i:Nat) (x:AV) (u:Value),vs[i]?=some x->us[i]?=some u->RD c.m x u
 | [],vs,h=>by
  simp only [qD,aB] at h;subst h;exact ⟨[],by simp,rfl,by simp⟩
 | x::r,vs,h=>by
  simp only [qD] at h;split at h
  ·rename_i v l hv hl;simp only [aB] at h;subst h;obtain ⟨u,e,f⟩:=sV hT n j hv;obtain ⟨us,h1,h2,o⟩:=xf n j hl;refine ⟨u::us,by simp [Hg,aD,e,aw,h1],by simp [h2],fun i y z g1 g2=>?_⟩
   cases i with
   | zero=>simp at g1 g2; subst g1; subst g2; exact f.pub
   | succ i=>grind
  ·cases h
theorem sv {s:St}:∀ {l:List ResultVar} {vs:List AV},qD T s l=some vs->l.length=vs.length
 | [],vs,h=>by
  simp only [qD,aB] at h;subst h;rfl
 | x::r,vs,h=>by
  simp only [qD] at h;split at h
  ·rename_i v l hv hl;simp only [aB] at h;subst h;simp [sv hl]
  ·cases h
include hT in
theorem nb {s} {a:Act} {w} {c} {fn} {r} (q:WI Γ c s.b w) (p:∀ d x,get s.t d=some x->RC c x (a.tmps.getD d Go.undef)) (h:Lc T fn.results.toList s r) :
  ∃ v,(results fn a.tmps).run Γ.P w = .ok v w/\RD c.m r v:=by
 have e:results fn a.tmps=(do let vs <- fn.results.toList.mapM (y8 a.tmps); pure (if h:vs.toArray.size=1 then vs.toArray[0] else .tuple vs.toArray)):=by
  unfold results;rw [vE];simp only [bind_map_left]
  congr 2
 rw [e];unfold Lc at h;split at h
 ·rename_i x hx;split at h
  ·rename_i v hv;obtain ⟨u,n,o⟩:=sV hT q p hv;refine ⟨u,?_,h _ _ o.pub⟩;rw [hx];simp [Hg,aD,n,aw]
  ·exact h.elim
 ·rename_i rs l;split at h
  ·rename_i vs j;obtain ⟨us,h1,h2,y⟩:=xf hT q p j
   have hlen:us.length≠1:=by
    intro hl;have f:=sv j;rw [h2,hl] at f;obtain ⟨x,hx⟩:=List.length_eq_one_iff.1 f;exact l x hx
   refine ⟨.tuple us.toArray,?_,h _ _ (.tup _ _ (by simp [h2]) fun i x u g1 g2=>y i x u g1 (by simpa using g2))⟩;simp [aD,h1,aw,hlen]
  ·exact h.elim
end
def params:Nat->List AV->List (Nat×AV)
 | _,[]=>[]
 | n,x::r=>(n,x)::params (n+1) r
theorem jR:∀ (l:List AV) (n k:Nat) (x:AV),get (params n l) k=some x->n<=k/\l[k - n]?=some x
 | [],n,k,x,h=>by simp [params,get] at h
 | y::r,n,k,x,h=>by
  simp only [params] at h;rw [a8] at h;split at h
  ·grind
  ·have:=jR r (n+1) k x h;grind
theorem rM {F:Fence} {n:Nat} {P:Program} {fn:Func} {tmps:Array Value} {R:Ending->World->Prop} {B:Nat} {w0:World} {m:dI} :
  ∀ (d:List Nat) (w:World),Below B w0 w->m.sub w->d.Nodup->(∀ D∈d,w.heap[D]?=some (.deferred (some []))/\B<=D) ->
  (∀ w',Below B w0 w'->m.sub w'->(∀ (k:Nat) (o:Obj),w.heap[k]?=some o->se o=true->w'.heap[k]?=some o)->iG w w'->∃ v,(results fn tmps).run P w' = .ok v w'/\R (.returned v) w') ->
  LeavesInM F n P fn tmps R (kV d) .returning w
 | [],w,i,f,_,_,h=>h w i f (fun _ _ h _=>h) (.refl w)
 | D::d,w,i,f,j,q,h=>by
  obtain ⟨c,t⟩:=q D a7
  have p:∀ (k:Nat) (o:Obj),w.heap[k]?=some o->se o=true->k≠D:=by
   rintro k o h1 h2 rfl;rw [c] at h1; cases h1; cases h2
  have a:∀ k,k≠D->(w.putObj D (.deferred none)).heap[k]?=w.heap[k]?:=fun k l=>c9 l
  have e:m.sub (w.putObj D (.deferred none)):=by
   refine ⟨fun b o v hv=>?_,fun b x hx=>?_⟩
   ·have:=f.cell b o v hv;simp only [World.cell?] at this ⊢;grind
   ·have:=f.map b x hx;grind
  refine ⟨(fun h=>nomatch h),.inl ⟨D,_,rfl,run_takeDeferred c,rM d _ ?_ e (Xu.1 j).2 (fun E y=>?_) (fun w' h1 h2 u r=>h w' h1 h2 (fun k o g1 g2=>u k o ?_ g2) ((iG.putObj w D (o := .deferred none) (fun _ _ _ h=>nomatch h)).trans r))⟩⟩
  ·exact i.trans ⟨rfl,rfl,rfl,by simp [World.putObj],fun k l=>a k ar⟩
  ·grind
  grind
theorem gN.toBelow {w w'} (h:gN w w') (a:NC w w'):Below w.heap.size w w':=⟨h.os,h.tape,h.output,h.size,fun k b=>by
 by_cases hf:free w k
 ·rcases hf with hf | hf
  ·omega
  ·rw [hf]; exact a.same k _ hf rfl
 ·exact h.block k hf⟩
theorem gN.ofBelow {w w'} (h:Below w.heap.size w w'):gN w w':=⟨h.os,h.tape,h.output,h.size,fun k a=>h.block k (not_free a)⟩
theorem dI.News.unfree {m m':dI} {w w'} (h:m.News (free w) m' w') (f:m'.sub w') (e:NC w w'):m.News (w.heap.size<=·) m' w':=by
 refine ⟨fun b o v d=>?_,fun b x d=>?_⟩
 ·rcases h.cell b o v d with h | ⟨hf | hf,h2⟩
  ·exact .inl h
  ·exact .inr ⟨hf,h2⟩
  ·obtain ⟨c,T,a⟩:=h2;rw [e.same b _ hf rfl] at a; cases a
 ·rcases h.map b x d with h | hf | hf
  ·exact .inl h
  ·exact .inr hf
  ·have a:=f.map b x d;rw [e.same b _ hf rfl] at a; cases a
theorem nD {Γ:ce} {m:dI} (e:m.sub Γ.w0) (hm:Γ.m0=m):WI Γ ⟨fun _=>0,fun _ => .slice none 0 0,fun _=>0,m,fun _=>none,fun _=>(0,0)⟩ [] Γ.w0 where
 ext := .refl _
 sub:=e
 le0:=by rw [hm]; exact .refl _
 new:=⟨fun b o v h => .inl (by rw [hm]; exact h),fun b x h => .inl (by rw [hm]; exact h)⟩
 box:=fun d cs h=>by simp [get] at h
 inj:=fun d f cs c h=>by simp [get] at h
 own:=fun k=>⟨fun g a=>by simp [dc,kW] at a,.inl rfl,fun g d cs a=>by simp [dc,kW] at a,fun g j a=>by simp [dc,kW] at a⟩
 xo:=fun k b o h=>by cases h
theorem WI.keep {Γ:ce} {c:dE} {bx:List (Nat×List AV)} {w w':World} (a:WI Γ c bx w) (l:gN Γ.w0 w') (n:c.m.sub w') (e:∀ (k:Nat) (o:Obj),w.heap[k]?=some o->se o=true->w'.heap[k]?=some o):WI Γ c bx w' where
 ext:=l
 sub:=n
 le0:=a.le0
 new:=a.new.keep fun _ ⟨c,T,h⟩=>⟨c,T,e _ _ h rfl⟩
 box:=fun d cs j f=>by
  obtain ⟨h1,h2,i,vs,U,r,t,q⟩:=a.box d cs j f;exact ⟨h1,h2,i,vs,U,e _ _ r rfl,t,q⟩
 inj:=a.inj
 own:=fun k=>⟨fun g p=>by
  obtain ⟨len,cap,U,cells,h1,h2,i⟩:=(a.own k).blk g p;exact ⟨len,cap,U,cells,h1,e _ _ h2 rfl,i⟩,(a.own k).shape,(a.own k).box,(a.own k).apart⟩
 xo:=fun k b o h=>⟨(a.xo k b o h).new,e _ _ (a.xo k b o h).obj (a.xo k b o h).kept,(a.xo k b o h).kept,(a.xo k b o h).mem,(a.xo k b o h).map,(a.xo k b o h).box,(a.xo k b o h).own,(a.xo k b o h).inj⟩
structure jW (P:Program) (f:FuncId) (args:List AV) (R:AV->Prop):Prop where
 enters:∀ (args:Array Value) (w:World),(callFunc f args).run P w = .ok (.enter f args) w
 runs:∀ (m:dI) (w:World) (vs:List Value),m.sub w->(gf P).le m->args.length=vs.length->(∀ (i:Nat) (x:AV) (v:Value),args[i]?=some x->vs[i]?=some v->RD m x v) ->
  Calls P f vs.toArray w fun e w'=>∃ r,R r/\∃ v m',e = .returned v/\RD m' r v/\m.le m'/\dI.sub m' w'/\RowKit.Below w.heap.size w w'/\m.News (w.heap.size<=·) m' w'/\iG w w'
theorem jW.one {P} {f} {args} {r} (h:jW P f args (·=r)):aq P f args r:=
 ⟨h.enters,fun m w vs h1 b h2 a=>(h.runs m w vs h1 b h2 a).mono fun _ _ ⟨_,e,h⟩=>e ▸ h⟩
theorem jW.ofSP {P} {T} (hT:T.OK P) {f} {fn} {body} {args} {R} (hf:P.funcs[f]?=some fn) (A:fn.body=some body)
  (b:(fn.name == "runtime.NumGoroutine")=false) (hm:P.follows .mixedOrders=true) (Z:args.length<=fn.ntmps)
  (h:∀ (F:Fence) (n:Nat) (w0:World) (m0:dI),ce.OK ⟨P,F,n,w0,m0,fn.ntmps⟩->F.round=none->1<=n->SP ⟨P,F,n,w0,m0,fn.ntmps⟩ ⟨params 0 args,[]⟩ body (fun e s=>∃ r,R r/\Ends T fn.results.toList r e s)):jW P f args R:=by
 refine ⟨gC hf b A,fun m w vs G o hlen N=>?_⟩;have hG:ce.OK ⟨P,Fence.wide,1,w,m,fn.ntmps⟩:=⟨fun _=>trivial,rfl,rfl,hm,o,o.sub G⟩;refine Cx.1 (mC (n:=1) hf A trivial ?_);have L:=h Fence.wide 1 w m hG rfl (ba _);refine db (L _ w ⟨⟨_,nD (Γ:=⟨P,Fence.wide,1,w,m,fn.ntmps⟩) G rfl,fun d x hx=>?_⟩,by simp; omega,⟨[],rfl,eP,by simp⟩,fun _ h=>nomatch h⟩) ?_
 ·obtain ⟨_,h2⟩:=jR _ _ _ _ hx;simp only [nZ] at h2;have Q:d<args.length:=(am.1 h2).1;refine RC.of_RD (c:=⟨_,_,_,m,_,_⟩) (N d x _ h2 ?_);rw [aG,co (by simp; omega)];grind
 ·intro e a w' ⟨z,_,s',M,⟨r,u,⟨he,X⟩⟩⟩
  have i:LeavesInM Fence.wide 1 P fn a.tmps (fun e w'=>∃ r,R r/\∃ v m',e = .returned v/\RD m' r v/\m.le m'/\dI.sub m' w'/\RowKit.Below w.heap.size w w'/\m.News (w.heap.size<=·) m' w'/\iG w w') a.defers .returning w':=by
   obtain ⟨⟨c,j,H⟩,_,⟨U,t,y,l⟩,_⟩:=M;rw [t];refine rM U w' (j.ext.toBelow z) j.sub y (fun D B=>⟨(l D B).1,(l D B).2⟩) fun w2 h1 h2 E J=>?_;obtain ⟨v,p,q⟩:=nb (a:=a) hT (j.keep (.ofBelow h1) h2 E) H X;exact ⟨v,p,r,u,v,c.m,rfl,q,j.le0,h2,h1,(j.new.unfree j.sub z).keep fun _ ⟨c,T,h⟩=>⟨c,T,E _ _ h rfl⟩,z.more.trans J⟩
  rcases he with rfl | rfl <;> exact i
theorem aq.ofSP {P} {T} (hT:T.OK P) {f} {fn} {body} {args} {r} (hf:P.funcs[f]?=some fn) (c:fn.body=some body)
  (a:(fn.name == "runtime.NumGoroutine")=false) (hm:P.follows .mixedOrders=true) (d:args.length<=fn.ntmps)
  (h:∀ (F:Fence) (n:Nat) (w0:World) (m0:dI),ce.OK ⟨P,F,n,w0,m0,fn.ntmps⟩->F.round=none->1<=n->SP ⟨P,F,n,w0,m0,fn.ntmps⟩ ⟨params 0 args,[]⟩ body (Ends T fn.results.toList r)):aq P f args r:=
 jW.one (jW.ofSP hT hf c a hm d fun F n w0 m0 h1 h2 b=>(h F n w0 m0 h1 h2 b).mono fun _ _ he=>⟨_,rfl,he⟩)
theorem aq.of {P} {T} (hT:T.OK P) {f} {fn} {body} {args} {r} (keep) (hf:P.funcs[f]?=some fn) (d:fn.body=some body)
  (a:(fn.name == "runtime.NumGoroutine")=false) (hm:P.follows .mixedOrders=true) (b:dC fn.ntmps body=true) (e:args.length<=fn.ntmps)
  (h:∀ (F:Fence) (n:Nat) (w0:World) (m0:dI),ce.OK ⟨P,F,n,w0,m0,fn.ntmps⟩->F.round=none->1<=n->Xd ⟨P,F,n,w0,m0,fn.ntmps⟩ T keep body ⟨params 0 args,[]⟩ (Ends T fn.results.toList r)):aq P f args r:=
 aq.ofSP hT hf d a hm e fun F n w0 m0 hG c h1=>eI hG hT body _ _ b (h F n w0 m0 hG c h1)
open Go
open Go.RowKit (Below)
structure Gr (W a:World):Prop where
 below:Below W.heap.size W a
 more:iG W a
structure Lw (N:Nat) (W a:World):Prop where
 os:a.os=W.os
 tape:a.tape=W.tape
 output:a.output=W.output
 size:W.heap.size<=a.heap.size
 block:∀ b,b<W.heap.size->(b<N\/Dn W.heap[b]?=false)->a.heap[b]?=W.heap[b]?
 more:iG W a
theorem Gr.toI {N} {W W'} (h:Gr W W'):Lw N W W':=⟨h.below.os,h.below.tape,h.below.output,h.below.size,fun b a _=>h.below.block b a,h.more⟩
theorem Lw.obj {N} {W W'} (h:Lw N W W') {b} {o} (a:W.heap[b]?=some o) (c:b<N\/Dn (some o)=false):W'.heap[b]?=some o:=by
 rw [h.block b (aO.1 a).1 (by rw [a]; exact c)]; exact a
def X2 (W a:World):Prop:=∀ (b:Nat) (o:Obj),W.heap[b]?=some o->Dn (some o)=true->a.heap[b]?=some o
def sR (P:Program) {α:Type} (vals:α->Array Value) (f:FuncId) (cap:List AV) (nx:List α->α->Prop) (fin:List α->Prop):Prop:=
 (∀ (args:Array Value) (w:World),(callFunc f args).run P w = .ok (.enter f args) w) /\
 ∀ (m:dI) (d:Array Value),cap.length=d.size->(∀ (i:Nat) (x:AV) (v:Value),cap[i]?=some x->d[i]?=some v->RD m x v) ->
  ∀ (F:Fence) (n:Nat),(∀ f,F.fn f)->F.depth=none->F.alive=false->F.round=none->∀ (l:Nat) (J:List α->World->Prop) (Jx:World->Prop) (W:World),m.sub W->(gf P).le m ->
   (∀ p a c,J p a->Lw W.heap.size a c->J p c)->(∀ a c,Jx a->Lw W.heap.size a c->Jx c) ->
   (∀ p x a,nx p x->J p a->m.sub a->YieldAt F (n - 1) P l (vals x) a fun e b=>
    (e = .returned (.bool true)/\J (p++[x]) b/\m.sub b/\X2 a b)\/(e = .returned (.bool false)/\Jx b/\m.sub b)) ->
   J [] W->CallsIn F n P f (#[.func (.yield l) #[] #[]]++d) W fun e b=>(∃ v,e = .returned v)/\((∃ p,fin p/\J p b)\/Jx b)
def Lo (P:Program) {α:Type} (vals:α->Array Value) (f:FuncId) (cap:List AV) (items:List α):Prop:=
 sR P vals f cap (fun p x=>∃ r,items=p++x::r) (fun p=>p=items)
theorem WI.re {Γ Γ':ce} {c:dE} {bx:List (Nat×List AV)} {w:World} (a:WI Γ c bx w) (d:Γ'.w0=Γ.w0) (hm:Γ'.m0.le c.m) (e:Γ'.m0.News (free Γ.w0) c.m w):WI Γ' c bx w where
 ext:=by rw [d]; exact a.ext
 sub:=a.sub
 le0:=hm
 new:=by rw [d]; exact e
 box:=by rw [d]; exact a.box
 inj:=a.inj
 own:=fun k=>⟨by rw [d]; exact (a.own k).blk,by rw [d]; exact (a.own k).shape,(a.own k).box,(a.own k).apart⟩
 xo:=fun k b o h=>⟨by rw [d]; exact (a.xo k b o h).new,(a.xo k b o h).obj,(a.xo k b o h).kept,(a.xo k b o h).mem,(a.xo k b o h).map,(a.xo k b o h).box,(a.xo k b o h).own,(a.xo k b o h).inj⟩
theorem WI.grown {Γ} {c} {bx} {w w'} (e:WI Γ c bx w) {row} (d:w.grownBy w' row) (j:∀ r,row=some r->free Γ.w0 r/\∃ o:Obj,w.heap[r]?=some o/\se o=false):WI Γ c bx w':=by
 have a:∀ (k:Nat) (o:Obj),w.heap[k]?=some o->se o=true->w'.heap[k]?=some o:=by
  intro k o f i;rw [d.block k (aO.1 f).1 ?_]
  ·exact f
  ·grind
 refine e.keep ?_ ?_ a
 ·refine e.ext.trans ⟨d.os,d.tape,d.output,d.size,fun k f=>d.block k (by have:=e.ext.size; have:=not_free f; omega) fun l=>?_⟩;grind
 ·refine ⟨fun b o v hv=>?_,fun b x hx=>a b _ (e.sub.map b x hx) rfl⟩;have:=e.sub.cell b o v hv;simp only [World.cell?] at this ⊢
  cases h:w.heap[b]? with
  | none=>grind
  | some p=>
   rw [h] at this
   cases p with
   | cells vs U fr=>rw [a b _ h rfl]; exact this
   | _=>cases this
theorem WI.grownI {Γ} {c} {bx} {w w'} (e:WI Γ c bx w) {N} (j:Γ.w0.heap.size<=N) (d:Lw N w w'):WI Γ c bx w':=by
 have a:∀ (k:Nat) (o:Obj),w.heap[k]?=some o->se o=true->w'.heap[k]?=some o:=fun k o f i=>d.obj f (.inr (Cb i));refine e.keep (e.ext.trans ⟨d.os,d.tape,d.output,d.size,fun k f=>d.block k (by have:=e.ext.size; have:=not_free f; omega) (.inl (by have:=not_free f; omega))⟩) ⟨fun b o v hv=>?_,fun b x hx=>a b _ (e.sub.map b x hx) rfl⟩ a;have:=e.sub.cell b o v hv;simp only [World.cell?] at this ⊢
 cases h:w.heap[b]? with
 | none=>grind
 | some p=>
  rw [h] at this
  cases p with
  | cells vs U fr=>rw [a b _ h rfl]; exact this
  | _=>cases this
structure jo (Γ:ce) (s:St) (a:Act) (w:World):Prop where
 ex:∃ c,WI Γ c s.b w/\∀ d x,get s.t d=some x->RC c x (a.tmps.getD d Go.undef)
 size:a.tmps.size=Γ.nt
theorem d5.toT {Γ} {s} {a} {w} (h:d5 Γ s a w):jo Γ s a w:=⟨h.ex,h.size⟩
theorem jo.grown {Γ} {s} {a} {w w'} (h:jo Γ s a w) {row} (f:w.grownBy w' row) (d:∀ r,row=some r->free Γ.w0 r/\∃ o:Obj,w.heap[r]?=some o/\se o=false):jo Γ s a w':=by
 obtain ⟨⟨c,b,e⟩,h2⟩:=h;exact ⟨⟨c,b.grown f d,e⟩,h2⟩
theorem jo.grownI {Γ} {s} {a} {w w'} (h:jo Γ s a w) {N} (f:Γ.w0.heap.size<=N) (b:Lw N w w'):jo Γ s a w':=by
 obtain ⟨⟨c,d,e⟩,h2⟩:=h;exact ⟨⟨c,d.grownI f b,e⟩,h2⟩
theorem NC.grownI {w0 w w'} (h:NC w0 w) {N} (i:w0.heap.size<=N) (d:Lw N w w'):NC w0 w':=
 ⟨bC h.size d.size,fun b o a f=>d.obj (h.same b o a f) (.inl (dm (aO.1 a).1 i)),h.more.trans d.more,fun b a=>by
  obtain ⟨c,T,e⟩:=h.soft b a;exact ⟨c,T,d.obj e (.inr rfl)⟩⟩
theorem jo.less {Γ} {s s'} {a} {w} (h:jo Γ s a w) (hle:s.le s'):jo Γ s' a w:=by
 obtain ⟨⟨c,e,f⟩,h2⟩:=h;exact ⟨⟨c,e.less hle.b,fun d x hx=>f d x (hle.t d x hx)⟩,h2⟩
theorem jo.tmps {Γ} {s} {a a'} {w} (h:jo Γ s a w) (f:a'.tmps.size=a.tmps.size) (e:∀ d∈fV s.t,a'.tmps.getD d Go.undef=a.tmps.getD d Go.undef):jo Γ s a' w:=by
 obtain ⟨⟨c,b,h1⟩,h2⟩:=h;exact ⟨⟨c,b,fun d x hx=>by rw [e d (fk.2 (by rw [hx]; simp))]; exact h1 d x hx⟩,f.trans h2⟩
theorem NC.grown {w0 w w'} (h:NC w0 w) {row} (d:w.grownBy w' row) (m:∀ r,row=some r->w0.heap.size<=r) (f:iG w w'):NC w0 w':=
 ⟨bC h.size d.size,fun b o a i=>by
  have:=h.same b o a i
  rw [d.block b (aO.1 this).1 fun j=>by
   grind]
  exact this,h.more.trans f,fun b a=>by
  obtain ⟨c,T,e⟩:=h.soft b a;obtain ⟨c0,l,n⟩:=a;refine ⟨c,T,?_⟩
  rw [d.block b (aO.1 e).1 fun j=>by
   grind]
  exact e⟩
def AU:List Nat->List AV->List (Nat×AV)
 | p::ps,v::vs=>(p,v)::AU ps vs
 | _,_=>[]
theorem xd:∀ (ps:List Nat) (vs:List Value) (t:Array Value),((ps.zip vs).foldl (fun t (p:Nat×Value)=>t.setIfInBounds p.1 p.2) t).size=t.size
 | [],_,_=>by simp
 | _::_,[],_=>by simp
 | p::ps,v::vs,t=>by simp [xd ps vs]
theorem mf:∀ (ps:List Nat) (vs:List Value) (t:Array Value) (d:Nat),d ∉ ps->((ps.zip vs).foldl (fun t (p:Nat×Value)=>t.setIfInBounds p.1 p.2) t).getD d Go.undef=t.getD d Go.undef
 | [],_,_,_,_=>by simp
 | _::_,[],_,_,_=>by simp
 | p::ps,v::vs,t,d,a=>by
  simp only [bF,not_or] at a;simp only [List.zip_cons_cons,rE];rw [mf ps vs _ d a.2];simp only [aG,R8 (Ne.symm a.1)]
theorem yY {m:dI}:∀ (ps:List Nat) (vs:List Value) (xs:List AV) (t:Array Value) (d:Nat) (x:AV),ps.Nodup->(∀ p∈ps,p<t.size)->xs.length=vs.length ->
  (∀ (i:Nat) (a:AV) (v:Value),xs[i]?=some a->vs[i]?=some v->RD m a v)->get (AU ps xs) d=some x->RD m x (((ps.zip vs).foldl (fun t (p:Nat×Value)=>t.setIfInBounds p.1 p.2) t).getD d Go.undef)
 | [],_,_,_,_,_,_,_,_,_,h=>by simp [AU,get] at h
 | p::ps,vs,[],_,_,_,_,_,_,_,h=>by simp [AU,get] at h
 | p::ps,[],x::xs,_,_,_,_,_,hl,_,_=>by simp at hl
 | p::ps,v::vs,y::xs,t,d,x,c,b,hl,e,h=>by
  simp only [AU,a8] at h;simp only [List.zip_cons_cons,rE];obtain ⟨h1,h2⟩:=Xu.1 c;split at h
  ·rename_i f;subst f;cases h;rw [mf ps vs _ d h1]
   have:(t.setIfInBounds d v).getD d Go.undef=v:=by
    rw [aG,Array.getElem?_setIfInBounds_self_of_lt (b d a7)]; rfl
   rw [this];exact e 0 y v rfl rfl
  ·exact yY ps vs xs _ d x h2 (fun q j=>by grind) (by simpa using hl) (fun i a u g1 g2=>e (i+1) a u (by simpa using g1) (by simpa using g2)) h
open Go
open Go.RowKit (Below)
def dI.both (a b:dI):dI:=⟨fun x o=>match a x o with | some v=>some v | none=>b x o,fun x=>match a.maps x with | some v=>some v | none=>b.maps x⟩
theorem BD (a b:dI):a.le (a.both b):=⟨fun x o v h=>by simp [dI.both,h],fun x v h=>by simp [dI.both,h]⟩
theorem AG {a b:dI} {w} (c:a.sub w) (d:b.sub w):b.le (a.both b):=by
 refine ⟨fun x o v h=>?_,fun x v h=>?_⟩
 ·simp only [dI.both]
  cases hx:a x o with
  | none=>exact h
  | some u=>
   have h1:=c.cell x o u hx;have h2:=d.cell x o v h;rw [h1] at h2; exact h2
 ·simp only [dI.both]
  cases hx:a.maps x with
  | none=>exact h
  | some u=>
   have h1:=c.map x u hx;have h2:=d.map x v h;grind
theorem Hd {a b:dI} {w} (c:a.sub w) (d:b.sub w):(a.both b).sub w:=by
 refine ⟨fun x o v h=>?_,fun x v h=>?_⟩
 ·simp only [dI.both] at h
  cases hx:a x o with
  | none=>rw [hx] at h; exact d.cell x o v h
  | some u=>rw [hx] at h; cases h; exact c.cell x o _ hx
 ·simp only [dI.both] at h
  cases hx:a.maps x with
  | none=>rw [hx] at h; exact d.map x v h
  | some u=>rw [hx] at h; cases h; exact c.map x _ hx
theorem sP {a b:dI} {x o} {v} (h:(a.both b) x o=some v):a x o=some v\/b x o=some v:=by
 simp only [dI.both] at h;grind
theorem sO {a b:dI} {x} {v} (h:(a.both b).maps x=some v):a.maps x=some v\/b.maps x=some v:=by
 simp only [dI.both] at h;grind
theorem Lw.soft {N} {W W'} (h:Lw N W W') {b} (a:ej W b):ej W' b:=by
 obtain ⟨c,T,a⟩:=a;exact ⟨c,T,h.obj a (.inr rfl)⟩
theorem dI.News.trans {m m' m2:dI} {B B2} {w w2} (h:m.News B m' w) (k:m'.News B2 m2 w2) (a:∀ k,B2 k->B k) (c:∀ b,ej w b->ej w2 b):m.News B m2 w2:=by
 refine ⟨fun b o v hv=>?_,fun b x hx=>?_⟩
 ·rcases k.cell b o v hv with h1 | h1
  ·exact (h.cell b o v h1).imp id fun ⟨g1,g2⟩=>⟨g1,c b g2⟩
  grind
 ·rcases k.map b x hx with h1 | h1
  ·exact h.map b x h1
  ·exact .inr (a _ h1)
def Pf (P:Program) {α:Type} (avs:α->List AV) (f:FuncId) (cap:List AV) (nx:List α->α->Prop) (fin:List α->Prop):Prop:=
 (∀ (args:Array Value) (w:World),(callFunc f args).run P w = .ok (.enter f args) w) /\
 ∀ (m:dI) (h:Array Value),cap.length=h.size->(∀ (i:Nat) (x:AV) (v:Value),cap[i]?=some x->h[i]?=some v->RD m x v) ->
  ∀ (F:Fence) (n:Nat),(∀ f,F.fn f)->F.depth=none->F.alive=false->F.round=none->∀ (l:Nat) (J:List α->dI->World->Prop) (Jx:World->Prop) (W:World),m.sub W->(gf P).le m ->
   (∀ p m1 m2 b d,J p m1 b->Lw W.heap.size b d->m1.le m2->m2.sub d->m1.News (b.heap.size<=·) m2 d->J p m2 d)->(∀ b d,Jx b->Lw W.heap.size b d->Jx d) ->
   (∀ p x m1 b (vs:Array Value),nx p x->m.le m1->m1.sub b->J p m1 b->(avs x).length=vs.size->(∀ (i:Nat) (a:AV) (v:Value),(avs x)[i]?=some a->vs[i]?=some v->RD m1 a v) ->
    YieldAt F (n - 1) P l vs b fun e c=>(e = .returned (.bool true)/\J (p++[x]) m1 c/\m1.sub c/\X2 b c)\/(e = .returned (.bool false)/\Jx c/\m1.sub c)) ->
   J [] m W->CallsIn F n P f (#[.func (.yield l) #[] #[]]++h) W fun e c=>(∃ v,e = .returned v)/\((∃ p m',fin p/\J p m' c)\/Jx c)
def iA (P:Program) {α:Type} (avs:α->List AV) (f:FuncId) (cap:List AV) (items:List α):Prop:=Pf P avs f cap (fun p x=>∃ r,items=p++x::r) (fun p=>p=items)
theorem WI.growM {Γ} {c} {bx} {w w'} (a:WI Γ c bx w) {N} (F:Γ.w0.heap.size<=N) (e:Lw N w w') {m'} (hle:c.m.le m') (A:m'.sub w') (q:c.m.News (w.heap.size<=·) m' w') :
  WI Γ { c with m:=m' } bx w':=by
 have E:Γ.w0.heap.size<=w.heap.size:=a.ext.size;have hle':c.le { c with m:=m' }:=⟨hle,rfl,rfl,rfl,rfl,rfl⟩
 have f:∀ b o,b<w.heap.size->c.m b o=none->m' b o=none:=fun b o D h=>by
  cases hm:m' b o with
  | none=>rfl
  | some v=>
   rcases q.cell b o v hm with h1 | h1
   ·rw [h] at h1; cases h1
   ·omega
 refine ⟨a.ext.trans ⟨e.os,e.tape,e.output,e.size,fun k z=>e.block k (by have:=not_free z; omega) (.inl (by have:=not_free z; omega))⟩,A,a.le0.trans hle,⟨fun b o v h=>?_,fun b x h=>?_⟩,fun d cs h l=>?_,a.inj,fun k=>?_,fun k b o h=>?_⟩
 ·rcases q.cell b o v h with h | h
  ·exact (a.new.cell b o v h).imp id fun ⟨h1,h2⟩=>⟨h1,e.soft h2⟩
  grind [iJ,Nat.le_trans]
 ·rcases q.map b x h with h | h
  ·exact a.new.map b x h
  grind [iJ,Nat.le_trans]
 ·have j:=a.lt_box h l;obtain ⟨h1,h2,y,vs,T,r,t,B⟩:=a.box d cs h l;exact ⟨h1,fun o=>f _ o j (h2 o),y,vs,T,e.obj r (.inr rfl),t,fun i x v g1 g2=>(B i x v g1 g2).mono hle'⟩
 ·have p:=a.own k;refine ⟨fun g n=>?_,p.shape,p.box,p.apart⟩;obtain ⟨len,cap,T,cells,h1,h2,y,r,t⟩:=p.blk g n;exact ⟨len,cap,T,cells,h1,e.obj h2 (.inr rfl),y,fun o u=>f g o (a.lt_own n) (r o u),t⟩
 ·have hx:=a.xo k b o h;have j:=a.lt_x h;refine ⟨hx.new,e.obj hx.obj (.inr (Cb hx.kept)),hx.kept,fun i hi=>f b i j (hx.mem i hi),?_,hx.box,hx.own,hx.inj⟩;show m'.maps b=none
  cases hm:m'.maps b with
  | none=>rfl
  | some v=>
   rcases q.map _ _ hm with h1 | h1
   ·rw [hx.map] at h1; cases h1
   ·omega
theorem jo.growM {P} {F} {n nt} {w0} {m1 m2} {s} {a} {w w'} (h:jo ⟨P,F,n,w0,m1,nt⟩ s a w) {N} (q:w0.heap.size<=N) (i:Lw N w w') (hle:m1.le m2) (l:m2.sub w') (p:m1.News (w.heap.size<=·) m2 w') :
  jo ⟨P,F,n,w0,m2,nt⟩ s a w':=by
 obtain ⟨⟨c,e,r⟩,h2⟩:=h;have f:c.m.sub w':=(e.grownI q i).sub;have j:=AG l f
 have hW':=e.growM q i (m':=m2.both c.m) j (Hd l f) ⟨fun b o v hv=>by
  rcases sP hv with h | h
  ·rcases p.cell b o v h with h | h
   ·exact .inl (e.le0.cell b o v h)
   ·exact .inr h
  ·exact .inl h,fun b x hx=>by
  rcases sO hx with h | h
  ·rcases p.map b x h with h | h
   ·exact .inl (e.le0.map b x h)
   ·exact .inr h
  ·exact .inl h⟩
 refine ⟨⟨_,hW'.re (Γ':=⟨P,F,n,w0,m2,nt⟩) rfl (BD m2 c.m) ⟨fun b o v hv=>?_,fun b x hx=>?_⟩,fun d x hx=>RC.mono (c':={ c with m:=m2.both c.m }) ⟨j,rfl,rfl,rfl,rfl,rfl⟩ (r d x hx)⟩,h2⟩
 ·rcases sP hv with h | h
  ·exact .inl h
  ·rcases e.new.cell b o v h with h | h
   ·exact .inl (hle.cell b o v h)
   ·exact .inr ⟨h.1,i.soft h.2⟩
 ·rcases sO hx with h | h
  ·exact .inl h
  ·rcases e.new.map b x h with h | h
   ·exact .inl (hle.map b x h)
   ·exact .inr h
theorem dI.sub.grI {m:dI} {w w'} (h:m.sub w) {N} (c:Lw N w w'):m.sub w':=by
 refine ⟨fun b o v hv=>?_,fun b x hx=>c.obj (h.map b x hx) (.inr rfl)⟩;have:=h.cell b o v hv;simp only [World.cell?] at this ⊢
 cases a:w.heap[b]? with
 | none=>grind
 | some p=>
  rw [a] at this
  cases p with
  | cells vs U fr=>rw [c.obj a (.inr rfl)]; exact this
  | _=>cases this
theorem BJ {F} {n} {P} {l} {vs} {w} {R R'} (h:YieldAt F n P l vs w R) (k:∀ e w',R e w'->R' e w'):YieldAt F n P l vs w R':=
 let ⟨fn,t,a,b,h1,h2⟩:=h
 ⟨fn,t,a,b,h1,h2.mono k⟩
theorem vG {P} {α} {avs} {vals} {f} {cap} {nx} {fin} (h:sR P vals f cap nx fin) (d:∀ x,(avs x).length=(vals x).size)
  (o:∀ (m:dI) (x:α) (i:Nat) (a:AV) (v:Value),(avs x)[i]?=some a->(vals x)[i]?=some v->RD m a v):Pf P avs f cap nx fin:=by
 refine ⟨h.1,fun m y h1 h2 F n u A D B l J Jx W hm t w r hy q=>(h.2 m y h1 h2 F n u A D B l (fun p W=>J p m W/\m.sub W) Jx W hm t (fun p j z hj b=>?_) r (fun p x j hx hj c=>BJ (hy p x m j (vals x) hx (.refl _) c hj.1 (d x) (o m x)) fun e E k=>?_) ⟨q,hm⟩).mono fun e E k=>⟨k.1,k.2.imp (fun ⟨p,k1,k2⟩=>⟨p,m,k1,k2.1⟩) id⟩⟩
 ·have c:=hj.2.grI b;exact ⟨w p m m j z hj.1 b (.refl _) c ⟨fun _ _ _ h => .inl h,fun _ _ h => .inl h⟩,c⟩
 grind
def X0 {α:Type} (t0:List α->List (Nat×AV)) (B:List α->List (Nat×List AV)) (K:Exit->St->Prop) (xs:List α) (e:Exit) (s:St):Prop:=match e with
 | .normal=>s.le ⟨t0 xs,B xs⟩
 | .ret=>∃ b,s.le ⟨t0 xs,b⟩/\K .ret ⟨t0 xs,b⟩
 | .exit id=>∃ b,s.le ⟨t0 xs,b⟩/\K (.exit id) ⟨t0 xs,b⟩
 | _=>False
def Y9 {α X:Type} (I:List α->X->Prop) (t0:List α->X->List (Nat×AV)) (B:List α->X->List (Nat×List AV)) (K:Exit->St->Prop) (xs:List α) (e:Exit) (s:St):Prop:=match e with
 | .normal=>∃ q,I xs q/\s.le ⟨t0 xs q,B xs q⟩
 | .ret=>∃ q b,s.le ⟨t0 xs q,b⟩/\K .ret ⟨t0 xs q,b⟩
 | .exit id=>∃ q b,s.le ⟨t0 xs q,b⟩/\K (.exit id) ⟨t0 xs q,b⟩
 | _=>False
section
variable {Γ:ce}
theorem CK (hΓ:Γ.OK) (h1:1<=Γ.n) {s} {g} {ps} {assign body} {K} {α} (avs)
  {f} {cap} {nx} {fin} (hg:ev s g = .clo f cap) (hseq:Pf Γ.P avs f cap nx fin) (hsz:∀ x,(avs x).length=ps.size)
  {X} (I) (t0) (ks) (hks:∀ p q,fV (t0 p q)=ks) (B) (q0) (hI0:I [] q0) (hle:s.le ⟨t0 [] q0,B [] q0⟩)
  (hk:(mW ks (oI assign++(oI body++ps.toList))&&mW ks [1000000000]&&mW [1000000000] (oI assign)&&(ps.toList.all fun p=>Nat.blt p Γ.nt))=true) (hnd:ps.toList.Nodup)
  (round:∀ (F':Fence) (n':Nat) (m':dI),ce.OK ⟨Γ.P,F',n',Γ.w0,m',Γ.nt⟩->(∃ l,F'.round=some l)->n'=Γ.n - 1 - 1->∀ (pre:List α) (x:α) (q:X),nx pre x->I pre q ->
   SP ⟨Γ.P,F',n',Γ.w0,m',Γ.nt⟩ ⟨AU ps.toList (avs x)++t0 pre q,B pre q⟩ assign fun e s1=>e = .normal/\s1.le ⟨t0 pre q,B pre q⟩ /\
    SP ⟨Γ.P,F',n',Γ.w0,m',Γ.nt⟩ s1 body (Y9 I t0 B K (pre++[x])))
  (done:∀ p q,fin p->I p q->K .normal ⟨t0 p q,B p q⟩):SP Γ s (.rangeFunc g ps assign body) K:=by
 intro a w hI;simp only [al] at hk;obtain ⟨⟨⟨hk1,hk2⟩,hk3⟩,hk4⟩:=hk;obtain ⟨⟨c,hW,ht⟩,hsize,⟨Ds,hD1,hD2,hD3⟩,hrn⟩:=hI;have hgv:RC c (.clo f cap) (a.eval g):=by rw [<- hg]; exact cc ht g
 obtain ⟨lb,hlb,hcl,hcr⟩:∃ lb:Array Value,a.eval g = .func (.func f) #[] lb/\cap.length=lb.size/\∀ (i:Nat) (x:AV) (v:Value),cap[i]?=some x->lb[i]?=some v->RD c.m x v:=by
  have h:RD c.m (.clo f cap) (a.eval g):=hgv;generalize a.eval g=v at h
  cases h with
  | clo _ _ vs hl hr=>grind
 have hw0:Γ.w0.heap.size<=w.heap.size:=hW.ext.size
 -- the ground of the rounds
 have hΓ2:∀ l m,Γ.m0.le m->ce.OK ⟨Γ.P,Γ.F.inRound l,Γ.n - 1 - 1,Γ.w0,m,Γ.nt⟩:=fun l m hm=>⟨hΓ.fn,hΓ.depth,hΓ.alive,hΓ.mixed,hΓ.gm.trans hm,hΓ.gw⟩
 let G:dI->ce:=fun m=>⟨Γ.P,Γ.F,Γ.n,Γ.w0,m,Γ.nt⟩
 have hGl:∀ (m:dI) (l:Nat) (s:St) (a:Act) (w:World),jo (G m) s a w->jo ⟨Γ.P,Γ.F.inRound l,Γ.n - 1 - 1,Γ.w0,m,Γ.nt⟩ s a w:=fun m l s a w h=>by
  obtain ⟨⟨c',j,ht'⟩,h2⟩:=h;exact ⟨⟨c',j.re rfl j.le0 j.new,ht'⟩,h2⟩
 have hlG:∀ (m:dI) (l:Nat) (s:St) (a:Act) (w:World),jo ⟨Γ.P,Γ.F.inRound l,Γ.n - 1 - 1,Γ.w0,m,Γ.nt⟩ s a w->jo (G m) s a w:=fun m l s a w h=>by
  obtain ⟨⟨c',j,ht'⟩,h2⟩:=h;exact ⟨⟨c',j.re rfl j.le0 j.new,ht'⟩,h2⟩
 have hT0:jo (G c.m) ⟨t0 [] q0,B [] q0⟩ a w:=(show jo (G c.m) s a w from ⟨⟨c,hW.re rfl (.refl _) ⟨fun b o v h => .inl h,fun b x h => .inl h⟩,ht⟩,hsize⟩).less hle
 have hback:∀ (m:dI) (s:St) (a:Act) (W:World),c.m.le m->c.m.News (w.heap.size<=·) m W->(∀ b,ej w b->ej W b)->jo (G m) s a W->∃ c,WI Γ c s.b W/\∀ d x,get s.t d=some x->RC c x (a.tmps.getD d Go.undef):=fun m s a W hle hnew hk h=>by
  obtain ⟨⟨c',j,ht'⟩,_⟩:=h;refine ⟨c',j.re rfl (hW.le0.trans (hle.trans j.le0)) ⟨fun b o v h=>?_,fun b x h=>?_⟩,ht'⟩
  ·rcases j.new.cell b o v h with h | h
   ·rcases hnew.cell b o v h with h | h
    ·rcases hW.new.cell b o v h with h | h
     ·exact .inl h
     grind
    grind [iJ,Nat.le_trans]
   ·exact .inr h
  ·rcases j.new.map b x h with h | h
   ·rcases hnew.map b x h with h | h
    ·rcases hW.new.map b x h with h | h
     ·exact .inl h
     ·exact .inr h
    grind [iJ,Nat.le_trans]
   ·exact .inr h
 have U:∀ (m:dI) (s:St) (a:Act) (W:World),jo (G m) s a W->m.sub W:=fun m s a W h=>by
  obtain ⟨⟨c',j,_⟩,_⟩:=h;exact ⟨fun b o v J=>j.sub.cell b o v (j.le0.cell b o v J),fun b x J=>j.sub.map b x (j.le0.map b x J)⟩
 refine wpIn_rangeFunc ?_;intro fn hfn
 obtain ⟨L,Dl,dd,W1,hE,hL1,hK1,hB1,hM1,hL,hDn,hDl⟩:∃ (L:Nat) (Dl:List Nat) (dd:Nat) (W1:World),(Instr.enterLoop fn a.tmps ps assign body Γ.F.round).run Γ.P w = .ok (L,kV Dl) W1 /\
   W1.heap[L]?=some (.loop { state := .ready,pending:=none,fn,tmps:=a.tmps,params:=ps,assign,body,defers:=dd })/\(∀ D∈Dl,W1.heap[D]?=some (.deferred (some [])))/\Below w.heap.size w W1/\iG w W1/\w.heap.size<=L/\Dl.Nodup/\∀ D∈Dl,w.heap.size<=D/\D≠L:=by
  have hs:∀ {o:Obj},se o=false->tS o:=fun h c T fr e=>by subst e; cases h
  cases hro:Γ.F.round with
  | none=>
   refine ⟨_,[w.heap.size],w.heap.size,_,run_enterLoop_outer _ _ _ _ _,?_,fun D M=>?_,((aaB _ w).alloc (ba _) _).alloc cU _,(iG.alloc w (hs rfl)).trans (.alloc _ (hs rfl)),by omega,by simp,fun D M=>?_⟩
   ·have:=fq (w.alloc (.deferred (some []))) (.loop { state := .ready,pending:=none,fn,tmps:=a.tmps,params:=ps,assign,body,defers:=w.heap.size }); rwa [World.size_alloc] at this
   ·grind [Below.heap_alloc,trans,World.alloc_heap_new]
   grind
  | some l0=>
   obtain ⟨r0,hr0⟩:=hrn l0 hro;exact ⟨w.heap.size,[],r0.defers,_,run_enterLoop_inner hr0 _ _ _ _ _,fq w _,by simp,(aaB _ w).alloc (ba _) _,.alloc _ (hs rfl),ba _,by simp,by simp⟩
 have hfin:∀ (m:dI) (s:St) (W:World),c.m.le m->c.m.News (w.heap.size<=·) m W->jo (G m) s a W->NC w W->(∀ D∈Dl,W.heap[D]?=some (.deferred (some [])))->d5 Γ s { a with defers:=kV Dl++a.defers } W:=fun m s W hle hnew hT hN hWD=>by
  refine ⟨hback m s a W hle hnew hN.soft hT,hsize,⟨Dl++Ds,by simp [kV,hD1],vP.2 ⟨hDn,hD2,fun x hx y hy e=>?_⟩,fun E hE=>?_⟩,fun l e=>?_⟩
  ·grind
  ·rcases eT.1 hE with hE | hE
   ·grind
   ·exact ⟨hN.same E _ (hD3 E hE).1 rfl,(hD3 E hE).2⟩
  ·obtain ⟨r0,hr0⟩:=hrn l e;exact ⟨_,hN.same _ _ hr0 rfl⟩
 obtain ⟨u,hrec⟩:∃ u:LoopState->Option Code->Loop,u=fun st pe=>{ state:=st,pending:=pe,fn,tmps:=a.tmps,params:=ps,assign,body,defers:=dd }:=⟨_,rfl⟩;rw [show (Loop.mk _ _ _ _ _ _ _ _:Loop)=u .ready none by rw [hrec]] at hL1;have hB1N:Γ.w0.heap.size<=W1.heap.size:=bC hw0 hB1.size;have hgr:∀ {A B:World},Below A.heap.size A B->A.grownBy B none:=fun h=>⟨h.os,h.tape,h.output,h.size,fun k hk _=>h.block k hk⟩;have hIg:∀ {m:dI} {s:St} {a:Act} {A B:World},jo (G m) s a A->Below A.heap.size A B->jo (G m) s a B:=fun h J=>h.grown (hgr J) (by intro r e; cases e);have hNg:∀ {A B:World},NC w A->Gr A B->NC w B:=fun h J=>h.grown (hgr J.below) (by intro r e; cases e) J.more
 -- the record is turned
 have N:∀ {m:dI} {s:St} {a:Act} {A:World} {r:Loop} (o:Obj),jo (G m) s a A->A.heap[L]?=some (.loop r)->jo (G m) s a (A.putObj L o):=fun o h hl=>
  h.grown (grownBy_putObj' _ _ o) (by intro r e; cases e; exact ⟨iJ (by grind),_,hl,rfl⟩)
 have H:∀ {A:World} (o:Obj),tS o->NC w A->NC w (A.putObj L o):=fun o ho h=>h.grown (grownBy_putObj' _ _ o) (by grind) (iG.putObj _ _ ho);have hsP:∀ {A:World} {r:Loop} (o:Obj),A.heap[L]?=some (.loop r)->∀ b,ej A b->ej (A.putObj L o) b:=fun o hl b J=>oX J hl (fun _ _ h=>nomatch h) o
 refine ⟨L,kV Dl,W1,{ target := .fn (.func f) lb,args:=#[.func (.yield L) #[] #[]] },W1,f,
  #[.func (.yield L) #[] #[]]++lb,W1,?_,?_,?_,?_,fun _=>h1,?_⟩
 ·exact hE
 ·simp only [resolve,hlb];simp [go_sem]
 ·intro f' hf'; exact hΓ.fn f'
 ·have hen:=hseq.1;simp [invoke,go_sem,hen]
 refine (hseq.2 c.m lb hcl hcr { Γ.F with round:=none } (Γ.n - 1) hΓ.fn hΓ.depth hΓ.alive rfl L
  (fun p m W=>∃ q,I p q/\jo (G m) ⟨t0 p q,B p q⟩ a W/\NC w W/\W.heap[L]?=some (.loop (u .ready none))/\(∀ D∈Dl,W.heap[D]?=some (.deferred (some [])))/\c.m.le m/\c.m.News (w.heap.size<=·) m W)
  (fun W=>∃ m cd e t b,(cd=Code.ret/\e=Exit.ret\/∃ id,cd = .exit id/\e = .exit id)/\K e ⟨t,b⟩/\jo (G m) ⟨t,b⟩ a W/\NC w W/\W.heap[L]?=some (.loop (u .done (some cd)))/\(∀ D∈Dl,W.heap[D]?=some (.deferred (some [])))/\c.m.le m/\c.m.News (w.heap.size<=·) m W)
  W1 (U _ _ a _ (hIg hT0 hB1)) (hΓ.gm.trans hW.le0) ?_ ?_ ?_ ⟨q0,hI0,hIg hT0 hB1,hNg (.refl w) ⟨hB1,hM1⟩,hL1,hK1,.refl _,fun _ _ _ h => .inl h,fun _ _ h => .inl h⟩).mono ?_
 ·rintro k m1 m2 A B' ⟨q,g0,g1,g2,g3,g4,g5,g6⟩ J hle' hs' hnew';exact ⟨q,g0,g1.growM hB1N J hle' hs' hnew',g2.grownI hB1.size J,J.obj g3 (.inr rfl),fun D M=>J.obj (g4 D M) (.inr rfl),g5.trans hle',g6.trans hnew' (fun _=>bC g2.size) fun _ h=>J.soft h⟩
 ·rintro A B' ⟨m,cd,e,t,b,g0,gk,g1,g2,g3,g4,g5,g6⟩ J;exact ⟨m,cd,e,t,b,g0,gk,g1.grownI hB1N J,g2.grownI hB1.size J,J.obj g3 (.inr rfl),fun D M=>J.obj (g4 D M) (.inr rfl),g5,g6.keep fun _ h=>J.soft h⟩
 ·-- ONE ROUND
  rintro p x m1 W vs hx hmle hms ⟨q,hq,hi,hn,hl,hd,hcm,hcn⟩ hvl hvr;have hy:=run_yield (P:=Γ.P) (args:=vs) hl (by grind);rw [hrec] at hy;have hrd2:=round (Γ.F.inRound L) (Γ.n - 1 - 1) m1 (hΓ2 _ _ (hW.le0.trans hmle)) ⟨_,rfl⟩ rfl p x q hx hq
  have htm:((ps.zip vs).foldl (fun (t:Array Value) (q:Nat×Value)=>t.setIfInBounds q.1 q.2) a.tmps)=((ps.toList.zip vs.toList).foldl (fun t (p:Nat×Value)=>t.setIfInBounds p.1 p.2) a.tmps):=by
   rw [<- Array.foldl_toList,Array.toList_zip]
  have hpl:∀ p∈ps.toList,p<a.tmps.size:=fun p hp=>by
   rw [hsize];exact ah (aN.1 hk4 p hp)
  refine ⟨fn,_,assign,body,hy,roundIn_of_wpIn hfn (db (hrd2 _ W ⟨?_,?_,⟨[],rfl,eP,by simp⟩,fun l e=>by cases e; exact ⟨_,hl⟩⟩) ?_)⟩
  ·obtain ⟨⟨c',j,ht'⟩,_⟩:=hi;refine ⟨c',j.re rfl j.le0 j.new,fun d y hy=>?_⟩;simp only at hy ⊢;rw [show ((ps.zip vs).foldl (fun (t:Array Value) (q:Nat×Value)=>match q with | (p,v)=>t.setIfInBounds p v) a.tmps)=_ from htm];rw [eD] at hy
   cases hz:get (AU ps.toList (avs x)) d with
   | some z=>
    rw [hz] at hy;cases hy;exact RC.of_RD ((yY _ _ _ _ d _ hnd hpl ar (fun i a v g1 g2=>hvr i a v g1 (by simpa using g2)) hz).mono j.le0)
   | none=>
    rw [hz] at hy;have hy:get (t0 p q) d=some y:=hy;have Z:d∈ks:=by rw [<- hks p q]; exact fk.2 (by rw [hy]; simp)
    grind [mf,dN,List.mem_append_right]
  ·grind [Array,Value,Nat,xd]
  ·rintro e a2 W2 ⟨hN2,hF2,s1,hI1,rfl,hle1,hSP⟩;have hd2:a2.defers=[]:=hF2.defers fun hc=>dN hk3 cU hc;have hl2:=hN2.same _ _ hl rfl;have hdd2:=fun D M=>hN2.same D _ (hd D M) rfl
   have ht2:∀ d∈ks,a2.tmps.getD d Go.undef=a.tmps.getD d Go.undef:=fun d Z=>by
    rw [hF2.tmps (fun hc=>dN hk1 Z (bc _ hc)) (fun hc=>dN hk2 Z (by simp [hc]))];grind [Array,Value,Nat,mf,dN,List.mem_append_right]
   refine ⟨_,run_beginRound hl2 (by rw [hrec]),?_⟩;have hT2:=N (.loop { u .ready none with state := .busy }) (hlG _ _ _ _ _ hI1.toT) hl2;have hl3:(W2.putObj L (.loop { u .ready none with state := .busy })).heap[L]?=some (.loop { u .ready none with state := .busy }):=oK (aO.1 hl2).1;have hd3:∀ D∈Dl,(W2.putObj L (.loop { u .ready none with state := .busy })).heap[D]?=some (.deferred (some [])):=fun D M=>(c9 (hDl D M).2).trans (hdd2 D M);have hN3:=H (.loop { u .ready none with state := .busy }) (fun _ _ _ h=>nomatch h) (hn.trans hN2);refine db (hSP a2 _ ⟨(hGl _ _ _ _ _ hT2).ex,(hGl _ _ _ _ _ hT2).size,⟨[],by simpa [kV] using hd2,eP,by simp⟩,fun l e=>by cases e; exact ⟨_,hl3⟩⟩) ?_;rintro e a3 W3 ⟨hN4,hF4,s2,hI4,hR⟩;have hl4:=hN4.same _ _ hl3 rfl;have hd4:=fun D M=>hN4.same D _ (hd3 D M) rfl;have hN5:=hN3.trans hN4;have hs5:∀ b,ej W b->ej W3 b:=fun b h=>hN4.soft b (hsP _ hl2 b (hN2.soft b h))
   have hT4:∀ {p:List α} {q:X} {b:List (Nat×List AV)},s2.le ⟨t0 p q,b⟩->jo (G m1) ⟨t0 p q,b⟩ a W3:=fun hle=>((hlG _ _ _ _ _ hI4.toT).less hle).tmps (hsize.trans hI4.size.symm) fun d Z=>by
    have Z:d∈ks:=(hks _ _) ▸ Z;rw [<- ht2 d Z];exact (hF4.tmps (fun hc=>dN hk1 Z (bj _ (bc _ hc))) (fun hc=>dN hk2 Z (by simp [hc]))).symm
   have fin:∀ (Q:Option Code),(Instr.endRound L Q).run Γ.P W3 = .ok (.bool Q.isNone) (W3.putObj L (.loop (u (if Q.isNone then .ready else .done) Q))):=fun Q=>by
    have:=run_endRound (P:=Γ.P) Q hl4;grind
   have hl5:∀ (o:Obj),(W3.putObj L o).heap[L]?=some o:=fun o=>oK (aO.1 hl4).1;have hd5:∀ (o:Obj),∀ D∈Dl,(W3.putObj L o).heap[D]?=some (.deferred (some [])):=fun o D M=>(c9 (hDl D M).2).trans (hd4 D M);have hc5:∀ (o:Obj),c.m.News (w.heap.size<=·) m1 (W3.putObj L o):=fun o=>hcn.keep fun b h=>hsP o hl4 b (hs5 b h)
   cases e with
   | normal=>
    obtain ⟨q',hq',hR⟩:=hR;have hT5:=N (.loop (u .ready none)) (hT4 hR) hl4;refine ⟨_,_,fin none,.inl ⟨rfl,⟨q',hq',hT5,H _ (fun _ _ _ h=>nomatch h) hN5,hl5 _,hd5 _,hcm,hc5 _⟩,U _ _ _ _ hT5,fun b o J ho=>?_⟩⟩;have hno:se o=false:=by cases o <;> first | rfl | cases ho
    have h1:=hN2.same b o J hno;have hbl:b≠L:=fun e=>by rw [e,hl2] at h1; cases h1; cases ho
    exact (c9 hbl).trans (hN4.same b o ((c9 hbl).trans h1) hno)
   | ret=>
    obtain ⟨q',b,g1,g2⟩:=hR;have hT5:=N (.loop (u .done (some .ret))) (hT4 g1) hl4;exact ⟨_,_,fin (some .ret),.inr ⟨rfl,⟨m1,.ret,.ret,_,b,.inl ⟨rfl,rfl⟩,g2,hT5,H _ (fun _ _ _ h=>nomatch h) hN5,hl5 _,hd5 _,hcm,hc5 _⟩,U _ _ _ _ hT5⟩⟩
   | exit id=>
    obtain ⟨q',b,g1,g2⟩:=hR;have hT5:=N (.loop (u .done (some (.exit id)))) (hT4 g1) hl4;exact ⟨_,_,fin (some (.exit id)),.inr ⟨rfl,⟨m1,.exit id,.exit id,_,b,.inr ⟨id,rfl,rfl⟩,g2,hT5,H _ (fun _ _ _ h=>nomatch h) hN5,hl5 _,hd5 _,hcm,hc5 _⟩,U _ _ _ _ hT5⟩⟩
   | goto l=>exact hR.elim
   | panic ch=>exact hR.elim
   | outgrown=>exact hR.elim
 ·-- BEHIND THE ITERATOR
  have hFTd:∀ (ds:List Deferred),FT (oI (.rangeFunc g ps assign body)) a { a with defers:=ds }:=fun ds d hd=>by
   grind [oI,vw]
  rintro e W2 ⟨⟨v,rfl⟩,(⟨p,m',hp,q,hq,hi,hn,hl,hd,hcm,hcn⟩ | ⟨m',cd,e,t,b,h0,hK,hi,hn,hl,hd,hcm,hcn⟩)⟩
  ·refine ⟨none,W2.putObj L (.loop { u .ready none with state := .exhausted }),by grind [run_endLoop],?_⟩;exact ⟨H _ (fun _ _ _ h=>nomatch h) hn,hFTd _,_,hfin m' _ _ hcm (hcn.keep (hsP _ hl)) (N _ hi hl) (H _ (fun _ _ _ h=>nomatch h) hn) (fun D M=>(c9 (hDl D M).2).trans (hd D M)),done p q hp hq⟩
  ·refine ⟨some cd,W2.putObj L (.loop { u .done (some cd) with state := .exhausted }),by grind [run_endLoop],?_⟩
   have hpost:=(show NC w (W2.putObj L (.loop { u .done (some cd) with state := .exhausted }))/\FT (oI (.rangeFunc g ps assign body)) a { a with defers:=kV Dl++a.defers }/\∃ s',d5 Γ s' { a with defers:=kV Dl++a.defers } (W2.putObj L (.loop { u .done (some cd) with state := .exhausted }))/\K e s' from
    ⟨H _ (fun _ _ _ h=>nomatch h) hn,hFTd _,_,hfin m' _ _ hcm (hcn.keep (hsP _ hl)) (N _ hi hl) (H _ (fun _ _ _ h=>nomatch h) hn) (fun D M=>(c9 (hDl D M).2).trans (hd D M)),hK⟩)
   rcases h0 with ⟨rfl,rfl⟩ | ⟨id,rfl,rfl⟩
   ·exact wpIn_ret hpost
   ·exact wpIn_exit hpost
theorem wU (o:Γ.OK) (h1:1<=Γ.n) {s} {g} {ps} {assign body} {K} {α} (avs)
  {f} {cap} {nx} {fin} (t:ev s g = .clo f cap) (c:Pf Γ.P avs f cap nx fin) (j:∀ x,(avs x).length=ps.size)
  (t0) (ks) (i:∀ p,fV (t0 p)=ks) (B) (hle:s.le ⟨t0 [],B []⟩)
  (v:(mW ks (oI assign++(oI body++ps.toList))&&mW ks [1000000000]&&mW [1000000000] (oI assign)&&(ps.toList.all fun p=>Nat.blt p Γ.nt))=true) (d:ps.toList.Nodup)
  (round:∀ (b:Fence) (a:Nat) (m':dI),ce.OK ⟨Γ.P,b,a,Γ.w0,m',Γ.nt⟩->(∃ l,b.round=some l)->a=Γ.n - 1 - 1->∀ (pre:List α) (x:α),nx pre x ->
   SP ⟨Γ.P,b,a,Γ.w0,m',Γ.nt⟩ ⟨AU ps.toList (avs x)++t0 pre,B pre⟩ assign fun e s1=>e = .normal/\s1.le ⟨t0 pre,B pre⟩ /\
    SP ⟨Γ.P,b,a,Γ.w0,m',Γ.nt⟩ s1 body (X0 t0 B K (pre++[x])))
  (done:∀ p,fin p->K .normal ⟨t0 p,B p⟩):SP Γ s (.rangeFunc g ps assign body) K:=
 CK o h1 avs t c j (X:=Unit) (fun _ _=>True) (fun p _=>t0 p) ks (fun p _=>i p) (fun p _=>B p) () trivial hle v d
  (fun b a m' q hl u pre x _ hx _=>(round b a m' q hl u pre x hx).mono fun e s1 ⟨h1,h2,r⟩=>⟨h1,h2,r.mono fun e s h=>match e,h with
   | .normal,h=>⟨(),trivial,h⟩
   | .ret,h=>⟨(),h⟩
   | .exit _,h=>⟨(),h⟩⟩) (fun p _ m _=>done p m)
theorem oG (m:Γ.OK) (h1:1<=Γ.n) {s} {g} {ps} {assign body} {K} {α} (avs)
  {f} {cap} {items} (q:ev s g = .clo f cap) (c:iA Γ.P avs f cap items) (i:∀ x,(avs x).length=ps.size)
  (t0) (ks) (h:∀ p,fV (t0 p)=ks) (B) (hle:s.le ⟨t0 [],B []⟩)
  (u:(mW ks (oI assign++(oI body++ps.toList))&&mW ks [1000000000]&&mW [1000000000] (oI assign)&&(ps.toList.all fun p=>Nat.blt p Γ.nt))=true) (d:ps.toList.Nodup)
  (round:∀ (b:Fence) (a:Nat) (m':dI),ce.OK ⟨Γ.P,b,a,Γ.w0,m',Γ.nt⟩->(∃ l,b.round=some l)->a=Γ.n - 1 - 1->∀ (pre:List α) (x:α) (rest:List α),items=pre++x::rest ->
   SP ⟨Γ.P,b,a,Γ.w0,m',Γ.nt⟩ ⟨AU ps.toList (avs x)++t0 pre,B pre⟩ assign fun e s1=>e = .normal/\s1.le ⟨t0 pre,B pre⟩ /\
    SP ⟨Γ.P,b,a,Γ.w0,m',Γ.nt⟩ s1 body (X0 t0 B K (pre++[x])))
  (done:K .normal ⟨t0 items,B items⟩):SP Γ s (.rangeFunc g ps assign body) K:=
 wU m h1 avs q c i t0 ks h B hle u d (fun b a m' o hl t pre x ⟨r,hx⟩=>round b a m' o hl t pre x r hx) (fun p j=>j ▸ done)
end
open Go
open Go.RowKit (Below)
def uN:List AV->Option (List Value)
 | []=>some []
 | .int k n::r=>match uN r with
  | some l=>some (.int k n::l)
  | none=>none
 | _=>none
def DS:AV->Option Value
 | .int k n=>some (.int k n)
 | .bool b=>some (.bool b)
 | .agg cs=>match uN cs with
  | some l=>some (.agg l.toArray)
  | none=>none
 | _=>none
theorem uL {c:dE}:∀ {cs:List AV} {l vs:List Value},uN cs=some l->cs.length=vs.length->(∀ (i:Nat) (x:AV) (u:Value),cs[i]?=some x->vs[i]?=some u->fp c x u)->vs=l
 | [],l,vs,h,hl,_=>by
  simp only [uN,aB] at h;subst h;exact qm (by simpa using hl.symm)
 | x::r,l,[],h,hl,_=>by simp at hl
 | x::r,l,v::vs,h,hl,b=>by
  unfold uN at h;split at h
  ·rename_i heq; cases heq
  ·rename_i k n e heq;cases heq;split at h
   ·rename_i f a;cases h;have d:=b 0 (.int k n) v rfl rfl;rw [RC.int (c:=c) d,uL (c:=c) (vs:=vs) a (by simpa using hl) fun i x u h1 h2=>b (i+1) x u (by simpa using h1) (by simpa using h2)]
   ·cases h
  ·cases h
theorem DR {c} {x} {v u} (h:DS x=some v) (a:RC c x u):u=v:=by
 cases x <;> simp only [DS] at h <;> first | cases h | skip
 ·exact RC.int a
 ·exact RC.bool a
 ·split at h
  ·rename_i l hl;cases h;obtain ⟨vs,rfl,h1,_,h2⟩:=a
   congr 1
   apply pW;simpa using uL (c:=c) (vs:=vs.toList) hl (by simpa using h1) fun i x u g1 g2=>h2 i x u g1 (by simpa using g2)
  ·cases h
def lw:List (Nat×AV)->List (Nat×AV)
 | []=>[]
 |(d,.int k n)::r=>(d,.int k n)::lw r
 |(d,.bool b)::r=>(d,.bool b)::lw r
 |(d,_)::r=>(d,.junk)::lw r
theorem IU {m} {c} {t} {d} {x} (h:get (lw t) d=some x) {v} (b:∀ y,get t d=some y->RC c y v):RD m x v:=by
 induction t with
 | nil=>simp [lw,get] at h
 | cons p r e=>
  obtain ⟨k,y⟩:=p;by_cases a:d=k
  ·subst a;have hy:=b y (by rw [a8,aX rfl]);cases y <;> simp only [lw,a8,c5,aB] at h <;> subst h <;> first | exact RD.junk v | (rw [hy.int]; exact RD.int _ _) | (rw [hy.bool]; exact RD.bool _)
  ·have hr':∀ y,get r d=some y->RC c y v:=fun z hz=>b z (by rw [a8,aV a]; exact hz);cases y <;> simp only [lw,a8,aV a] at h <;> exact e h hr'
def uK:List AV->Option (List Value)
 | []=>some []
 | x::r=>match DS x,uK r with
  | some v,some l=>some (v::l)
  | _,_=>none
theorem uJ {c:dE} {e:Operand->AV} {ρ:Operand->Value}:∀ {xs:List Operand} {vs:List Value},(∀ x∈xs,RC c (e x) (ρ x))->uK (xs.map e)=some vs->xs.map ρ=vs
 | [],vs,_,h=>by simp only [eU,uK,aB] at h; exact h
 | x::r,vs,a,h=>by
  simp only [cp,uK] at h;split at h
  ·rename_i v l hv hl;cases h;rw [cp,uJ (fun y hy=>a y (a6 _ hy)) hl,DR hv (a x a7)]
  ·cases h
structure YB (ι α:Type) where
 P:Program
 F:Fence
 n:Nat
 nt:Nat
 m:dI
 l:Nat
 J:ι->World->Prop
 Jx:ι->World->Prop
 ok:ι->α->Prop
 nxt:ι->α->ι
 vals:α->Array Value
 tm:List (Nat×AV)
def YB.base {ι α:Type} (Y:YB ι α) (W:World):ce:=⟨Y.P,Y.F,Y.n,W,Y.m,Y.nt⟩
structure YB.OK {ι α:Type} (Y:YB ι α):Prop where
 base:∀ W,(gf Y.P).sub W->(Y.base W).OK
 round:Y.F.round=none
 ab:∀ k W a,Y.J k W->Gr W a->Y.J k a
 abx:∀ k W a,Y.Jx k W->Gr W a->Y.Jx k a
 yld:∀ k x b,Y.ok k x->Y.J k b->Y.m.sub b->YieldAt Y.F (Y.n - 1) Y.P Y.l (Y.vals x) b fun e a=>
    (e = .returned (.bool true)/\Y.J (Y.nxt k x) a/\Y.m.sub a)\/(e = .returned (.bool false)/\Y.Jx (Y.nxt k x) a/\Y.m.sub a)
abbrev sQ (ι:Type):=Bool×ι
structure YI {ι α:Type} (Y:YB ι α) (g:sQ ι) (s:St) (a:Act) (w:World):Prop where
 ex:∃ b,(bif g.1 then Y.Jx g.2 b else Y.J g.2 b)/\jo (Y.base b) s a w/\NC b w/\(gf Y.P).sub b
 tm:∀ d x,get Y.tm d=some x->RD Y.m x (a.tmps.getD d Go.undef)
 df:a.defers=[]
def YP {ι α:Type} (Y:YB ι α) (g:sQ ι) (s:St) (c:Code) (K:Exit->sQ ι->St->Prop):Prop:=
 ∀ a w,YI Y g s a w->c.wpIn Y.F Y.n Y.P (fun e d w'=>∃ b s',YI Y b s' d w'/\K e b s') a w
section
variable {ι α:Type} {Y:YB ι α} (hY:Y.OK)
theorem YI.less {g} {s s'} {a} {w} (h:YI Y g s a w) (hle:s.le s'):YI Y g s' a w:=
 ⟨let ⟨b,h1,h2,c⟩:=h.ex; ⟨b,h1,h2.less hle,c⟩,h.tm,h.df⟩
def vV (tm:List (Nat×AV)) (ds:List Nat):Bool:=mW (1000000000::fV tm) ds&&mW [1000000000] (fV tm)
theorem Uf {g} {s} {c} {K} (n:Y.F.round=none) (j:vV Y.tm (oI c)=true) (h:∀ b,(gf Y.P).sub b->SP (Y.base b) s c fun e s'=>K e g s'):YP Y g s c K:=by
 intro a w r;obtain ⟨⟨b,h1,h2,m,f⟩,t,p⟩:=r;simp only [vV,al] at j;refine db (h b f a w ⟨h2.ex,h2.size,⟨[],by simpa [kV] using p,eP,by simp⟩,fun _ e=>nomatch (show none=some _ from n ▸ e)⟩) ?_;rintro e y w' ⟨u,q,s',l,v⟩;refine ⟨g,s',⟨⟨b,h1,l.toT,m.trans u,f⟩,fun d x hx=>?_,?_⟩,v⟩
 ·have o:d∈fV Y.tm:=fk.2 (by rw [hx]; simp);rw [q.tmps (fun i=>dN j.1 (a6 _ o) i) (fun i=>dN j.2 cU (i ▸ o))];exact t d x hx
 ·rw [q.defers fun i=>dN j.1 a7 i]; exact p
theorem YP.seq {g} {s} {x y} {K K1} (h:YP Y g s x K1) (j:∀ g s,K1 .normal g s->YP Y g s y K) (he:∀ e g s,e≠.normal->K1 e g s->K e g s):YP Y g s (.seq x y) K:=by
 intro a w i;refine wpIn_seq (db (h a w i) fun e n w' m=>?_);obtain ⟨d,s',b,f⟩:=m
 cases e with
 | normal=>exact j d s' f n w' b
 | exit id=>exact ⟨d,s',b,he _ _ _ (by intro h; cases h) f⟩
 | goto l=>exact ⟨d,s',b,he _ _ _ (by intro h; cases h) f⟩
 | ret=>exact ⟨d,s',b,he _ _ _ (by intro h; cases h) f⟩
 | panic c=>exact ⟨d,s',b,he _ _ _ (by intro h; cases h) f⟩
 | outgrown=>exact ⟨d,s',b,he _ _ _ (by intro h; cases h) f⟩
theorem YP.block {g} {s} {id} {c} {K} (h:YP Y g s c fun e g s=>match e with | .exit j=>bif Nat.beq j id then K .normal g s else K (.exit j) g s | e=>K e g s):YP Y g s (.block id c) K:=by
 intro a w m;refine aaC (db (h a w m) fun e o w' n=>?_);obtain ⟨f,s',b,d⟩:=n
 cases e with
 | exit j=>
  simp only at d;unfold Exit.inBlock
  cases i:Nat.beq j id with
  | true=>rw [i] at d; simp only [aj i,c5]; exact ⟨f,s',b,d⟩
  | false=>rw [i] at d; simp only [de i,cu]; exact ⟨f,s',b,d⟩
 | normal=>exact ⟨f,s',b,d⟩
 | goto l=>exact ⟨f,s',b,d⟩
 | ret=>exact ⟨f,s',b,d⟩
 | panic c=>exact ⟨f,s',b,d⟩
 | outgrown=>exact ⟨f,s',b,d⟩
theorem YP.loop {g} {s} {c} {K} {X:Type} (f:X->sQ ι×St) (I:X->Prop) (μ:X->Nat) (x0) (p:I x0) (q:(f x0).1=g) (hle:s.le (f x0).2)
  (body:∀ x,I x->YP Y (f x).1 (f x).2 c fun e d s'=>match e with | .normal=>∃ i,I i/\μ i<μ x/\(f i).1=d/\s'.le (f i).2 | e=>K e d s'):YP Y g s (.loop c) K:=by
 intro a0 w t
 have key:∀ (m:Nat) (x:X) (a:Act) (w1:World),I x->μ x<m->YI Y (f x).1 (f x).2 a w1 ->
   Code.roundsIn Y.F Y.n Y.P c (fun e j w'=>∃ d s',YI Y d s' j w'/\K e d s') m a w1:=by
  intro m
  induction m with
  | zero=>intro x a w1 _ hm; omega
  | succ m u=>
   intro x a w1 hx hm o;rw [roundsIn_succ];refine db (body x hx a w1 o) fun e j w' r=>?_;obtain ⟨d,s',b,h⟩:=r
   cases e with
   | normal=>
    obtain ⟨i,g1,g2,g3,g4⟩:=h;exact u i j w' g1 ar (by rw [g3]; exact b.less g4)
   | exit id=>exact ⟨d,s',b,h⟩
   | goto l=>exact ⟨d,s',b,h⟩
   | ret=>exact ⟨d,s',b,h⟩
   | panic c=>exact ⟨d,s',b,h⟩
   | outgrown=>exact ⟨d,s',b,h⟩
 exact Xy (μ x0+1) (key _ x0 a0 w p ar (by rw [q]; exact t.less hle))
theorem YP.pure {g} {s} {c} {K} {e} (d:∀ {F:Fence} {n:Nat} {P:Program} {Q:Exit->Act->World->Prop} {a:Act} {w:World},Q e a w->c.wpIn F n P Q a w) (h:K e g s):YP Y g s c K:=
 fun _ _ b=>d ⟨g,s,b,h⟩
end
open Go
open Go.RowKit (Below)
def rN (s:St) (o:Oper):Bool:=match o.op with
 | .call c=>match c.callee with
  | .value f=>match ev s f with
   | .lit (.func (.yield _) _ _)=>true
   | _=>false
  | _=>false
 | _=>false
section
variable {ι α:Type} (Y:YB ι α) (T:eS) (keep:List Nat)
def Ly (g:sQ ι) (s:St) (o:Oper) (K:sQ ι->St->Prop):Prop:=match o.op,o.dst with
 | .call c,some d=>match c.callee with
  | .value f=>match g,uK (c.args.toList.map (ev s)) with
   |(false,k),some vs=>ev s f = .lit (.func (.yield Y.l) #[] #[])/\∃ x,Y.ok k x/\vs.toArray=Y.vals x /\
     K (false,Y.nxt k x) ⟨(d,.bool true)::(Y.tm++lw s.t),[]⟩/\K (true,Y.nxt k x) ⟨(d,.bool false)::(Y.tm++lw s.t),[]⟩
   | _,_=>False
  | _=>False
 | _,_=>False
def rS (all:List Oper) (guards:List Nat):List Oper->sQ ι->St->(sQ ι->St->Prop)->Prop
 | [],g,s,K=>K g s
 | o::rest,g,s,K=>match j3 all s o with
  | 0=>bif rN s o then Ly Y g s o fun g s=>rS all guards rest g s K
   else ng T (aq Y.P) s o.dst o.type o.op fun s=>Dv o.op s fun s=>gL guards o.dst s fun s=>rS all guards rest g s K
  | 1=>fx s o.dst .undef fun s=>rS all guards rest g s K
  | _=>False
def I1:Code->sQ ι->St->(Exit->sQ ι->St->Prop)->Prop
 | .skip,g,s,K=>K .normal g s
 | .label _,g,s,K=>K .normal g s
 | .ret,g,s,K=>K .ret g s
 | .exit j,g,s,K=>K (.exit j) g s
 | .seq a b,g,s,K=>I1 a g s fun e g s=>match e with
  | .normal=>I1 b g s K
  | e=>K e g s
 | .cond c a b,g,s,K=>match ev s c with
  | .bool t=>(t=true->I1 a g s K)/\(t=false->I1 b g s K)
  | _=>False
 | .block id c,g,s,K=>I1 c g s fun e g s=>match e with
  | .exit j=>bif Nat.beq j id then K .normal g s else K (.exit j) g s
  | e=>K e g s
 | .region _ ops false,g,s,K=>rS Y T ops.toList (dw ops.toList ops.toList) ops.toList g s fun g s=>ga keep s (K .normal g)
 | c,g,s,K=>YP Y g s c K
end
section
variable {ι α:Type} {Y:YB ι α} (hY:Y.OK) {T:eS} (hT:T.OK Y.P) {keep:List Nat} {Q:Exit->Act->World->Prop} {next:Act->World->Prop}
theorem YI.inv {g} {s} {a} {w} (h:YI Y g s a w) (c:Y.F.round=none):∃ b,(bif g.1 then Y.Jx g.2 b else Y.J g.2 b)/\d5 (Y.base b) s a w/\NC b w/\(gf Y.P).sub b:=by
 obtain ⟨⟨b,h1,h2,f⟩,_,d⟩:=h;exact ⟨b,h1,⟨h2.ex,h2.size,⟨[],by simpa [kV] using d,eP,by simp⟩,fun _ e=>nomatch (show none=some _ from c ▸ e)⟩,f⟩
theorem YI.put {g} {s s'} {a a'} {w w' W0} (h:YI Y g s a w) (n:(bif g.1 then Y.Jx g.2 W0 else Y.J g.2 W0)) (m:d5 (Y.base W0) s' a' w') {dst} (l:∃ v,a'=a.put dst v) (e:NC W0 w') (f:(gf Y.P).sub W0) (c:vV Y.tm dst.toList=true):YI Y g s' a' w':=by
 simp only [vV,al] at c;have j:=FT.put l;refine ⟨⟨W0,n,m.toT,e,f⟩,fun d x hx=>?_,?_⟩
 ·have i:d∈fV Y.tm:=fk.2 (by rw [hx]; simp);rw [j.tmps (fun b=>dN c.1 (a6 _ i) b) (fun b=>dN c.2 cU (b ▸ i))];exact h.tm d x hx
 ·rw [j.defers fun b=>dN c.1 a7 b]; exact h.df
theorem qw {tm} {ds es} (h:vV tm ds=true) (a:∀ d∈es,d∈ds):vV tm es=true:=by
 simp only [vV,al] at h ⊢;refine ⟨aN.2 fun x hx=>?_,h.2⟩
 cases hm:dj es x with
 | false=>rfl
 | true=>exact (dN h.1 hx (a x (dv.1 hm))).elim
include hY in
theorem CN {g} {s} {o} {a} {w} {K} (hI:YI Y g s a w) (r:∀ d,o.dst=some d->d<Y.nt) (p:vV Y.tm o.dst.toList=true) (h:Ly Y g s o K)
  (hn:∀ g' s' a' w',K g' s'->YI Y g' s' a' w'->next a' w'):o.wpIn Y.F Y.n Y.P a w next Q:=by
 obtain ⟨W0,hJ,A,H,hgs⟩:=hI.inv hY.round;have hG:=hY.base W0 hgs;unfold Ly at h;split at h
 ·rename_i c d X L;split at h
  ·rename_i f D;split at h
   ·rename_i k vs hvs;obtain ⟨hf,x,hx,hxv,hK1,hK2⟩:=h;obtain ⟨⟨cx,q,N⟩,B,hdf⟩:=A
    have Z:a.eval f = .func (.yield Y.l) #[] #[]:=by
     have:=cc N f;rw [hf] at this;have this:RD cx.m _ _:=this;generalize a.eval f=u at this;cases this;rfl
    have M:=uJ (c:=cx) (ρ:=a.eval) (fun y _=>cc N y) hvs;have hJw:Y.J k w:=hY.ab k W0 w hJ ⟨q.ext.toBelow H,H.more⟩;have hmw:Y.m.sub w:=⟨fun b o v U=>q.sub.cell b o v (q.le0.cell b o v U),fun b x U=>q.sub.map b x (q.le0.map b x U)⟩;obtain ⟨fn,tmps,assign,body,hy,hR⟩:=hY.yld k x w hx hJw hmw
    have i:c.args.map a.eval=Y.vals x:=by
     rw [<- hxv,<- M];apply pW;simp
    have E:(execOp a.eval o).run Y.P w = .ok (.round Y.l fn tmps assign body) w:=by
     simp only [execOp,X,aD,resolve,D,Z,Deferred.ofValue,aL,aw,invoke,i];simpa using hy
    refine ⟨fun f _=>hG.fn f,?_⟩;rw [ju _ _ _ (by grind),E,Oper.uponIn_round];refine ⟨fun h=>(by rw [show Y.F.depth=none from hG.depth] at h; cases h),hR.mono ?_⟩
    have fin:∀ (b:Bool) (w':World),Y.m.sub w'->(bif !b then Y.Jx (Y.nxt k x) w' else Y.J (Y.nxt k x) w')->YI Y (!b,Y.nxt k x) ⟨(d,.bool b)::(Y.tm++lw s.t),[]⟩ (a.put o.dst (.bool b)) w':=by
     intro b w' hm hj;have G:d<a.tmps.size:=by rw [B]; exact r d L
     have hF:FT o.dst.toList a (a.put o.dst (.bool b)):=FT.put ⟨_,rfl⟩;simp only [vV,al] at p
     have htm':∀ (d:Nat) (x:AV),get Y.tm d=some x->RD Y.m x ((a.put o.dst (.bool b)).tmps.getD d Go.undef):=fun e y hy=>by
      have hk:e∈fV Y.tm:=fk.2 (by rw [hy]; simp);rw [hF.tmps (fun hc=>dN p.1 (a6 _ hk) hc) (fun hc=>dN p.2 cU (hc ▸ hk))];exact hI.tm e y hy
     refine ⟨⟨w',hj,⟨⟨_,nD (Γ:=Y.base w') hm rfl,fun e y hy=>?_⟩,by rw [fC]; exact B⟩,.refl _,hG.gm.sub hm⟩,htm',by rw [el]; exact hI.df⟩;refine RC.of_RD (c:=⟨_,_,_,Y.m,_,_⟩) ?_;simp only [a8] at hy;split at hy
     ·rename_i j;cases hy;rw [L,fD _ _ _ _ G,aX j];exact RD.bool b
     ·rename_i j;rw [eD] at hy
      cases hg:get Y.tm e with
      | some z=>grind
      | none=>
       rw [hg] at hy;rw [L,fD _ _ _ _ G,aV j];exact IU hy fun z hz=>N e z hz
    rintro e w' (⟨rfl,hj,hm⟩ | ⟨rfl,hj,hm⟩)
    ·exact hn _ _ _ _ hK1 (fin true w' hm hj)
    ·exact hn _ _ _ _ hK2 (fin false w' hm hj)
   ·exact h.elim
  ·exact h.elim
 ·exact h.elim
end
open Go
open Go.RowKit (Below)
section
variable {ι α:Type} {Y:YB ι α} (hY:Y.OK) {T:eS} (hT:T.OK Y.P) {keep:List Nat} {Q:Exit->Act->World->Prop} {next:Act->World->Prop}
include hY hT in
theorem jF {all:List Oper} {guards:List Nat} (b:∀ j d,jt all j=some d->d<Y.nt) (i:vV Y.tm (eE all)=true):∀ (l:List Oper) (k:Nat) (g:sQ ι) (s:St) (a:Act) (w:World) (K:sQ ι->St->Prop),
  (∀ j,l[j]?=all[k+j]?)->rS Y T all guards l g s K->YI Y g s a w->(∀ z s' t w',K z s'->YI Y z s' t w'->Q .normal t w')->wpOpsIn Y.F Y.n Y.P all.toArray Q (List.range' k l.length) a w
 | [],k,g,s,a,w,K,_,h,u,v=>v g s a w h u
 | o::rest,k,g,s,a,w,K,J,h,u,v=>by
  have H:all.toArray[k]?=some o:=by simpa using (J 0).symm
  have h0':all[k]?=some o:=by simpa using H
  have hk':∀ j,rest[j]?=all[k+1+j]?:=fun j=>by have:=J (j+1); simpa [dV,n3 1 j] using this
  have e:∀ d,o.dst=some d->d<Y.nt:=fun d E=>b k d (by rw [eF,h0']; exact E);have m:vV Y.tm o.dst.toList=true:=qw i fun d E=>iW h0' E;obtain ⟨y,G,c,x,r⟩:=u.inv hY.round;have hG:=hY.base y r;simp only [bt,ff,wpOpsIn,H];simp only [rS] at h;split at h
  ·rename_i D;rw [dx (Γ:=Y.base y) b c 0 D ar];simp only [ea,c5]
   cases hy:rN s o with
   | true=>
    rw [hy,aR] at h;exact CN hY u e m h fun z s' t w' A p=>jF b i rest (k+1) z s' t w' K hk' A p v
   | false=>
    rw [hy,br] at h;refine eH (Γ:=Y.base y) hG hT rfl c e h ?_;intro s' t w' A p M L;rw [uy] at A;obtain ⟨s2,q,hle⟩:=iZ A;exact jF b i rest (k+1) g s2 t w' K hk' q ((u.put G p L (x.trans M) r m).less hle) v
  ·rename_i D;rw [dx (Γ:=Y.base y) b c 1 D ar];simp only [Nat.reduceBEq,bv,cu];obtain ⟨s2,q,B⟩:=fT c e h;exact ⟨fun f _=>hG.fn f,jF b i rest (k+1) g s2 _ w K hk' q (u.put G B ⟨_,rfl⟩ x r m) v⟩
  ·exact h.elim
include hY hT in
theorem fA:∀ (c:Code) (g:sQ ι) (s:St) (K:Exit->sQ ι->St->Prop),dC Y.nt c=true->vV Y.tm (oI c)=true->I1 Y T keep c g s K->YP Y g s c K
 | .skip,g,s,K,_,_,h=>YP.pure wpIn_skip h
 | .label _,g,s,K,_,_,h=>YP.pure wpIn_label h
 | .ret,g,s,K,_,_,h=>YP.pure wpIn_ret h
 | .exit j,g,s,K,_,_,h=>YP.pure wpIn_exit h
 | .seq a b,g,s,K,f,i,h=>by
  simp only [dC,al] at f;refine YP.seq (fA a g s _ f.1 (qw i fun d m=>bc _ m) h) (fun p s' u=>fA b p s' K f.2 (qw i fun d m=>bj _ m) u) (fun e p s' he u=>?_);grind
 | .cond c x y,g,s,K,f,o,h=>by
  simp only [dC,al] at f;intro a w n;simp only [I1] at h;split at h
  ·rename_i t i;obtain ⟨A,E,⟨⟨v,B,r⟩,_⟩,_⟩:=n.inv hY.round
   have he:RC v (.bool t) (a.eval c):=by
    have:=cc r c;rwa [i] at this
   exact CS he.bool (fun g1=>fA x g s K f.1 (qw o fun d m=>bc _ m) (h.1 g1) a w n) (fun g1=>fA y g s K f.2 (qw o fun d m=>bj _ m) (h.2 g1) a w n)
  ·exact h.elim
 | .block id c,g,s,K,f,i,h=>YP.block (fA c g s _ (by simpa [dC] using f) (by simpa [oI] using i) h)
 | .region id ops false,g,s,K,f,i,h=>by
  intro a w n;obtain ⟨l⟩:=ops;refine fP ?_;rw [show (⟨l⟩:Array Oper).size=l.length from rfl,c6];refine jF hY hT (ew f) i l 0 g s a w _ (fun j=>by simp) h n ?_;intro p s' D w' z q;obtain ⟨s2,h2,hle⟩:=eb z;exact ⟨p,s2,q.less hle,h2⟩
 | .region _ _ true,g,s,K,_,_,h=>h
 | .loop c,g,s,K,_,_,h=>h
 | .rangeFunc _ _ _ _,g,s,K,_,_,h=>h
 | .scope c,g,s,K,_,_,h=>h
 | .goto _,g,s,K,_,_,h=>h
 | .refuse _,g,s,K,_,_,h=>h
end
structure iL (n:Nat) (e:Exit) (g:sQ Nat) (s:St):Prop where
 ex:e = .ret\/e = .normal
 all:g=(false,n)\/g.1=true
theorem Lo.of {P} {T:eS} (hT:T.OK P) {α:Type} {vals:α->Array Value} {f:FuncId} {fn:Func} {body:Code} {cap:List AV} {items:List α} (keep:List Nat) (hf:P.funcs[f]?=some fn) (hb:fn.body=some body)
  (j:(fn.name == "runtime.NumGoroutine")=false) (hm:P.follows .mixedOrders=true) (L:dC fn.ntmps body=true) (hn:cap.length+1<=fn.ntmps) (q:fn.results=#[])
  (U:∀ l:Nat,vV (params 0 (.lit (.func (.yield l) #[] #[])::cap)) (oI body)=true)
  (h:∀ (F:Fence) (n:Nat) (m:dI) (l:Nat) (J Jx:Nat->World->Prop),YB.OK ⟨P,F,n,fn.ntmps,m,l,J,Jx,fun k x=>items[k]?=some x,fun k _=>k+1,vals,params 0 (.lit (.func (.yield l) #[] #[])::cap)⟩ ->
   I1 ⟨P,F,n,fn.ntmps,m,l,J,Jx,fun k x=>items[k]?=some x,fun k _=>k+1,vals,params 0 (.lit (.func (.yield l) #[] #[])::cap)⟩ T keep body (false,0) ⟨params 0 (.lit (.func (.yield l) #[] #[])::cap),[]⟩ fun e g s=>iL items.length e g s):Lo P vals f cap items:=by
 refine ⟨gC hf j hb,fun m lb hl hr F n r D N w l J Jx W hs E t b z G=>?_⟩
 let Y:YB Nat α:=⟨P,F,n,fn.ntmps,m,l,fun k=>J (items.take k),fun _=>Jx,fun k x=>items[k]?=some x,fun k _=>k+1,vals,params 0 (.lit (.func (.yield l) #[] #[])::cap)⟩
 have hY:Y.OK:=⟨fun W hgs=>⟨r,D,N,hm,E,hgs⟩,w,fun k A H h1 h2=>t _ A H h1 h2.toI,fun _ A H h1 h2=>b A H h1 h2.toI,fun k x A hx i hm=>by
  have hlt:=(am.1 hx).1;have hxx:=(am.1 hx).2;have X:items.take (k+1)=items.take k++[x]:=by rw [ef,hx]; rfl
  have hz:=z _ x A ⟨items.drop (k+1),by grind [List.drop_eq_getElem_cons,List.take_append_drop]⟩ i hm;rw [<- X] at hz;obtain ⟨fn,tmps,Z,bd,q1,q2⟩:=hz;exact ⟨fn,tmps,Z,bd,q1,q2.mono fun e W' h=>h.imp (fun ⟨h1,h2,h3,_⟩=>⟨h1,h2,h3⟩) id⟩⟩
 have hp:=fA hY hT body _ _ _ L (U l) (h F n m l _ _ hY)
 have y:∀ (d:Nat) (x:AV),get (params 0 (.lit (.func (.yield l) #[] #[])::cap)) d=some x->RD m x ((#[Value.func (.yield l) #[] #[]]++lb++Array.replicate (fn.ntmps - (#[Value.func (.yield l) #[] #[]]++lb).size) Go.undef).getD d Go.undef):=by
  intro d x hx;obtain ⟨_,h2⟩:=jR _ _ _ _ hx;simp only [nZ] at h2;have hdl:=(am.1 h2).1;simp only [bt] at hdl;rw [aG,co (by simp; omega)]
  cases d with
  | zero=>
   simp at h2;subst h2;rw [co cU];exact .lit (.func (.yield l) #[] #[]) rfl rfl
  | succ d=>
   grind
 refine callsIn_of_wp hf hb (r f) (db (hp _ W ⟨⟨W,G,⟨⟨_,nD (Γ:=Y.base W) hs rfl,fun d x hx=>RC.of_RD (c:=⟨_,_,_,m,_,_⟩) (y d x hx)⟩,?_⟩,.refl _,E.sub hs⟩,y,rfl⟩) ?_) w
 ·grind [YB.base,Array.size_append,Array.size_replicate,List.size_toArray,List.length_cons,List.length_nil]
 ·rintro e a' w' ⟨g',s',hI,⟨he,B⟩⟩
  have o:a'.defers=[]/\∃ v,(results fn a'.tmps).run P w' = .ok v w'/\((∃ u,Ending.returned v = .returned u)/\((∃ p,p=items/\J p w')\/Jx w')):=by
   refine ⟨hI.df,.tuple #[],by simp [results,q],⟨_,rfl⟩,?_⟩;obtain ⟨W0,i,M,a,_⟩:=hI.ex;obtain ⟨⟨c,hW,_⟩,_⟩:=M;rcases B with rfl | hg
   ·exact .inl ⟨items,rfl,t _ _ _ (by have i:J (items.take items.length) W0:=i; rwa [dl] at i) (Gr.toI ⟨hW.ext.toBelow a,a.more⟩)⟩
   ·rw [hg] at i;exact .inr (b _ _ i (Gr.toI ⟨hW.ext.toBelow a,a.more⟩))
  rcases he with rfl | rfl <;> exact o
open Go
def Zk {α:Type} (t:List (Nat×α)):List (Nat×α)->Prop
 | []=>True
 |(d,v)::r=>get t d=some v/\Zk t r
theorem zu {α:Type} {t:List (Nat×α)}:∀ {a:List (Nat×α)},Zk t a->∀ d x,get a d=some x->get t d=some x
 | [],_,d,x,h=>by simp [get] at h
 |(e,v)::r,h,d,x,hx=>by
  rw [a8] at hx;split at hx
  ·rename_i b; subst b; cases hx; exact h.1
  ·exact zu h.2 d x hx
theorem St.le.of {s s':St} (a:Zk s.t s'.t) (c:Zk s.b s'.b):s.le s':=⟨zu a,fun d cs h _=>zu c d cs h⟩
open Go
theorem aq.args {P} {f} {us bs} {r} (h:aq P f bs r) (hl:us.length=bs.length) (c:∀ (i:Nat) (a b:AV),us[i]?=some a->bs[i]?=some b->a.weak b):aq P f us r:=by
 refine ⟨h.1,fun m w vs e j hlen d=>h.2 m w vs e j (hl ▸ hlen) fun i x v h1 h2=>?_⟩;have hi:i<us.length:=by rw [hl]; exact (am.1 h1).1
 exact c i _ x (ai hi) h1 m v (d i _ v (ai hi) h2)
theorem AV.weak.sl {o} {sz} {xs}:(AV.sl o sz xs).weak (.sl .no sz xs):=fun _ _ h=>h.no
inductive bD:List AV->List AV->Prop
 | nil:bD [] []
 | cons {a b:AV} {us c:List AV} (h:a.weak b) (t:bD us c):bD (a::us) (b::c)
theorem bD.refl:∀ l:List AV,bD l l
 | [] => .nil
 | a::l => .cons (.refl a) (bD.refl l)
theorem bD.spec {us bs} (h:bD us bs):us.length=bs.length/\∀ (i:Nat) (a b:AV),us[i]?=some a->bs[i]?=some b->a.weak b:=by
 induction h with
 | nil=>exact ⟨rfl,by simp⟩
 | cons h t c=>
  grind
theorem aq.weak {P} {f} {us bs} {r} (h:aq P f bs r) (a:bD us bs):aq P f us r:=h.args a.spec.1 a.spec.2
theorem aq.sl0 {P} {f} {o} {sz} {xs} {us} {r} (h:aq P f (.sl .no sz xs::us) r):aq P f (.sl o sz xs::us) r:=h.weak (.cons .sl (.refl _))
open Go
section
variable {P:Program} {b:Frame} {a:Act} {k:List Item} {cs:List Frame} {w:World} {F:Fence} {n:Nat} {Q:Exit->Act->World->Prop}
theorem j4 {c}:step P (lone (b.atR a (.code (.scope c)::k)) cs w) = .next (lone (b.atR a (.code c :: .inScope c::k)) cs w):=
 step_lone_go (by simp [stepG,stepG.exec,Frame.atR])
theorem AZ {c}:step P (lone (b.atR a (.inScope c::k)) cs w) = .next (lone (b.atR a k) cs w):=
 step_lone_go (by simp [stepG,stepG.exec,Frame.atR])
theorem LC {c} (h:c.wpIn F n P (fun e a w=>(∀ l,e≠.goto l)/\Q e a w) a w):(Code.scope c).wpIn F n P Q a w:=by
 intro b k cs r q p;have f:(lone (b.atR a (.code (.scope c)::k)) cs w).fenced P F:=fenced_calm q p rfl;obtain ⟨e,m,i,⟨u,j⟩,d⟩:=h b (.inScope c::k) cs r q p
 cases e with
 | normal=>exact ⟨.normal,m,i,j,.head f j4 (StepsIn.trans d (.one (fenced_calm q p rfl) AZ))⟩
 | exit id=>
  have hx:exitTo id (.inScope c::k)=exitTo id k:=by simp [exitTo]
  exact ⟨.exit id,m,i,j,fun k' t => .head f j4 (d.1 k' (by rw [hx]; exact t)),
   fun o t=>let ⟨k₁,h1,h2⟩:=d.2 o (by rw [hx]; exact t); ⟨k₁,h1,.head f j4 h2⟩⟩
 | goto l=>exact absurd rfl (u l)
 | ret=>exact ⟨_,m,i,j,.of_steps (.one f j4) d⟩
 | panic v=>exact ⟨_,m,i,j,.of_steps (.one f j4) d⟩
 | outgrown=>exact ⟨_,m,i,j,.of_steps (.one f j4) d⟩
end
theorem SP.scope {Γ} {s} {c} {K} (h:SP Γ s c fun e s'=>(∀ l,e≠.goto l)/\K e s'):SP Γ s (.scope c) K:=by
 intro a w d;refine LC (db (h a w d) ?_);rintro e m w' ⟨h1,h2,s',f,i,j⟩;exact ⟨i,h1,h2,s',f,j⟩
theorem SP.scopeEnds {Γ} {s} {c} {T} {rs} {r} (h:SP Γ s c (Ends T rs r)):SP Γ s (.scope c) (Ends T rs r):=by
 refine SP.scope fun a w f=>db (h a w f) ?_;rintro e j w' ⟨h1,h2,s',i,d⟩;exact ⟨h1,h2,s',i,fun l hl=>by rcases d.ex with h | h <;> (rw [h] at hl; cases hl),d⟩
open Go Go.ChangeShapes Go.WideShapes Go.RowKit
inductive Sh where
 | int (k:IntKind) | bool | str | sl (e:List Sh)
def Fa {α β:Type} (R:α->β->Prop):List α->List β->Prop
 | [],[]=>True
 | a::l,b::r=>R a b/\Fa R l r
 | _,_=>False
theorem Fa.mono {α β:Type} {R S:α->β->Prop} (h:∀ a b,R a b->S a b):∀ {l:List α} {r:List β},Fa R l r->Fa S l r
 | [],[],_=>trivial
 | _::_,_::_,g=>⟨h _ _ g.1,Fa.mono h g.2⟩
 | [],_::_,g=>g
 | _::_,[],g=>g
theorem Fa.length {α β:Type} {R:α->β->Prop}:∀ {l:List α} {r:List β},Fa R l r->l.length=r.length
 | [],[],_=>rfl
 | _::_,_::_,g=>by simp [Fa.length g.2]
 | [],_::_,g=>g.elim
 | _::_,[],g=>g.elim
theorem Fa.append {α β:Type} {R:α->β->Prop}:∀ {l l2:List α} {r a:List β},Fa R l r->Fa R l2 a->Fa R (l++l2) (r++a)
 | [],_,[],_,_,h=>h
 | _::_,_,_::_,_,g,h=>⟨g.1,Fa.append g.2 h⟩
 | [],_,_::_,_,g,_=>g.elim
 | _::_,_,[],_,g,_=>g.elim
theorem Fa.mem {α β:Type} {R:α->β->Prop}:∀ {l:List α} {r:List β},Fa R l r->∀ b∈r,∃ a,R a b
 | [],[],_,_,h=>nomatch h
 | a::_,b::_,g,c,h=>by
  rcases bF.1 h with rfl | h
  ·exact ⟨a,g.1⟩
  ·exact Fa.mem g.2 c h
 | [],_::_,g,_,_=>g.elim
 | _::_,[],g,_,_=>g.elim
def kK:Nat->Sh->AV->Prop
 | 0,_,_=>False
 | _+1,.int k,a=>∃ z,a = .int k z/\k.min<=z/\z<=k.max
 | _+1,.bool,a=>∃ b,a = .bool b
 | _+1,.str,a=>∃ s,a = .str s
 | n+1,.sl e,a=>∃ xs,a = .sl .no e.length xs/\xs.length<=9223372036854775807/\∀ x∈xs,Fa (kK n) e x
theorem kK.mono:∀ {n:Nat} {s:Sh} {a:AV},kK n s a->kK (n+1) s a
 | 0,_,_,h=>h.elim
 | _+1,.int _,_,h=>h
 | _+1,.bool,_,h=>h
 | _+1,.str,_,h=>h
 | n+1,.sl e,a,h=>by
  obtain ⟨xs,h1,b,h2⟩:=h;exact ⟨xs,h1,b,fun x hx=>(h2 x hx).mono fun _ _=>kK.mono⟩
theorem kK.cell:∀ {n:Nat} {s:Sh} {a:AV},kK n s a->a.isCell=true
 | 0,_,_,h=>h.elim
 | _+1,.int _,_,⟨_,h,_⟩=>by rw [h]; rfl
 | _+1,.bool,_,⟨_,h⟩=>by rw [h]; rfl
 | _+1,.str,_,⟨_,h⟩=>by rw [h]; rfl
 | _+1,.sl _,_,⟨_,h,_⟩=>by rw [h]; rfl
def qz (P:Program) (g:TypeId->Option (List Sh)):List Field->Nat->Option (List Sh)
 | [],_=>some []
 | f::r,off=>match g f.type with
  | some l=>bif Nat.beq f.offset off&&Nat.beq l.length (P.cellsOf f.type) then (match qz P g r (off+l.length) with | some l2=>some (l++l2) | none=>none) else none
  | none=>none
def Yi {α:Type}:Nat->List α->List α
 | 0,_=>[]
 | n+1,l=>l++Yi n l
def HI (P:Program):Nat->TypeId->Option (List Sh)
 | 0,_=>none
 | n+1,t=>match P.underlying t with
  | some .bool=>some [.bool]
  | some (.int k)=>some [.int k]
  | some .string=>some [.str]
  | some (.slice e)=>match HI P n e with
   | some (a::l)=>bif Nat.beq (P.cellsOf e) (l.length+1) then some [.sl (a::l)] else none
   | _=>none
  | some (.struct b)=>match qz P (HI P n) b.toList 0 with
   | some l=>bif Nat.beq (P.cellsOf t) l.length then some l else none
   | none=>none
  | some (.array m e)=>match HI P n e with
   | some l=>bif Nat.beq l.length (P.cellsOf e)&&Nat.beq (P.cellsOf t) (m*l.length) then some (Yi m l) else none
   | none=>none
  | _=>none
def kU (w:World):dI:=⟨fun b o=>w.cell? ⟨b,o,none⟩,fun b=>match w.heap[b]? with | some (.map es k)=>some (es,k) | _=>none⟩
theorem PN (w):(kU w).sub w:=⟨fun _ _ _ h=>h,fun b x h=>by
 grind [kU]⟩
def kN (m:dI) (n:Nat) (L:List Sh) (cs:List Value):Prop:=∃ avs:List AV,Fa (kK n) L avs/\avs.length=cs.length/\∀ (i:Nat) (a:AV) (v:Value),avs[i]?=some a->cs[i]?=some v->RD m a v
theorem kN.mono {m} {n} {L} {cs} (h:kN m n L cs):kN m (n+1) L cs:=by
 obtain ⟨avs,h1,h2⟩:=h;exact ⟨avs,h1.mono fun _ _=>kK.mono,h2⟩
theorem kN.nil {m} {n}:kN m n [] []:=⟨[],trivial,rfl,by simp⟩
theorem kN.append {m} {n} {L L2} {cs cs2} (h:kN m n L cs) (g:kN m n L2 cs2):kN m n (L++L2) (cs++cs2):=by
 obtain ⟨avs,h1,h2,d⟩:=h;obtain ⟨b,g1,g2,g3⟩:=g;refine ⟨avs++b,h1.append g1,by simp [h2,g2],fun i a v c e=>?_⟩;grind
theorem kN.one {m} {n} {s} {a} {v} (h:kK n s a) (b:RD m a v):kN m n [s] [v]:=
 ⟨[a],⟨h,trivial⟩,rfl,fun i x u h1 h2=>by
  grind⟩
section
variable {H:Type} {enc:TypeId×Value->H} {P:Program} {w:World} {sp:Nat->Bool} {held:Bool}
theorem uk {n:Nat} {g:TypeId->Option (List Sh)} {fuel:Nat} (j:∀ t L cs x,g t=some L->DataW.trod enc P w 0 sp held fuel t cs=some x->kN (kU w) n L cs) :
  ∀ (m:List Field) (off:Nat) (L:List Sh) (cs:List Value),qz P g m off=some L->cs.length=off+L.length->(∀ f∈m,∃ x,DataW.trod enc P w 0 sp held fuel f.type ((cs.drop f.offset).take (P.cellsOf f.type))=some x) ->
  kN (kU w) n L (cs.drop off)
 | [],off,L,cs,h,hl,_=>by
  simp only [qz,aB] at h;subst h;rw [dg (by simp at hl; omega)];exact .nil
 | f::r,off,L,cs,h,hl,hx=>by
  simp only [qz] at h;split at h
  ·rename_i l e
   cases a:(Nat.beq f.offset off&&Nat.beq l.length (P.cellsOf f.type)) with
   | false=>rw [a] at h; cases h
   | true=>
    rw [a,aR] at h;have i:=aj (qp.1 a).1;have d:=aj (qp.1 a).2;split at h
    ·rename_i l2 b;simp only [aB] at h;subst h;obtain ⟨x,c⟩:=hx f a7;have h1:=j _ _ _ _ e c;rw [i,<- d] at h1;have h2:=uk j r _ _ cs b (by simp at hl; omega) (fun f hf=>hx f (a6 _ hf));have:=h1.append h2;grind [List.drop_drop,List.take_append_drop]
    ·cases h
  ·cases h
theorem Ce {n:Nat} {l:List Sh} {fuel:Nat} {e:TypeId} (c:∀ cs x,DataW.trod enc P w 0 sp held fuel e cs=some x->kN (kU w) n l cs) (d:l.length=P.cellsOf e) :
  ∀ (k:Nat) (cs:List Value),cs.length=k*l.length->(∀ i,i<k->∃ x,DataW.trod enc P w 0 sp held fuel e ((cs.drop (i*P.cellsOf e)).take (P.cellsOf e))=some x)->kN (kU w) n (Yi k l) cs
 | 0,cs,hl,_=>by
  have:cs=[]:=yl.1 (by simpa using hl);subst this;exact .nil
 | k+1,cs,hl,hx=>by
  obtain ⟨x,a⟩:=hx 0 ar;simp only [RS,Hh] at a;have h1:=c _ _ a
  have h2:=Ce c d k (cs.drop (P.cellsOf e)) (by grind) (fun i hi=>by
   obtain ⟨x,b⟩:=hx (i+1) ar;refine ⟨x,?_⟩;rw [List.drop_drop,<- b];grind)
  have:=h1.append h2;rwa [BE] at this
theorem CB {a:Addr} (h:a.spot=none) (n):a.add n=⟨a.block,a.off+n,none⟩:=by
 obtain ⟨b,o,s⟩:=a;simp only at h;subst h;unfold Addr.add;grind
theorem qJ:∀ (n:Nat) (t:TypeId) (L:List Sh),HI P n t=some L->∀ (fuel:Nat) (cs:List Value) (x:DataW H×List MemPlace),DataW.trod enc P w 0 sp held fuel t cs=some x->kN (kU w) n L cs
 | 0,_,_,h=>by cases h
 | n+1,t,L,h=>by
  intro fuel cs x hx;simp only [HI] at h;split at h
  ·rename_i r;cases h;obtain ⟨b,rfl,_⟩:=DataW.trod_bool r hx;exact .one (a := .bool b) ⟨b,rfl⟩ (.bool b)
  ·rename_i k r;cases h;obtain ⟨z,rfl,_,U⟩:=DataW.trod_int r hx;simp only [Lit.wf,al,aP] at U;exact .one (a := .int k z) ⟨z,rfl,U.1,U.2⟩ (.int k z)
  ·rename_i r;cases h;obtain ⟨s,rfl,_⟩:=DataW.trod_string r hx;exact .one (a := .str s) ⟨s,rfl⟩ (.str s)
  ·rename_i e r;split at h
   ·rename_i a l hl
    cases p:Nat.beq (P.cellsOf e) (l.length+1) with
    | false=>rw [p] at h; cases h
    | true=>
     rw [p,aR] at h;cases h;have p:=aj p;rcases DataW.trod_slice r hx with ⟨rfl,_⟩ | ⟨d,len,cap,elems,rest,m,rfl,rfl,_,_,X,Q,hel,F,_,_⟩
     ·refine .one (a := .sl .no (a::l).length []) ⟨[],rfl,by simp,by simp⟩ ?_;exact .sl _ _ _ _ _ _ (by intro k B; cases B) (by intro B; cases B) rfl (ba _) cU cU 0 0 ar (fun _ _=>Go.undef) cU cU
     ·have y:∀ i,i<len->∃ ci,w.cells? 0 (d.add (i*P.cellsOf e)) (P.cellsOf e)=some ci/\kN (kU w) n (a::l) ci:=by
       intro i hi;have:=F i hi;rw [ai ar] at this;obtain ⟨ci,h1,h2⟩:=Option.bind_eq_some_iff.1 this;exact ⟨ci,h1,qJ n e _ hl _ _ _ h2⟩
      let f:Nat->List AV:=fun i=>if h:i<len then Classical.choose (oO (y i h)).2 else []
      have hf:∀ i,i<len->∃ ci,w.cells? 0 (d.add (i*P.cellsOf e)) (P.cellsOf e)=some ci/\Fa (kK n) (a::l) (f i)/\(f i).length=ci.length/\∀ (j:Nat) (c:AV) (v:Value),(f i)[j]?=some c->ci[j]?=some v->RD (kU w) c v:=by
       intro i hi;refine ⟨_,(oO (y i hi)).1,?_⟩;simp only [f,hi,dif_pos];exact oO (oO (y i hi)).2
      have hlen:∀ i,i<len->(f i).length=l.length+1:=fun i hi=>by
       obtain ⟨ci,_,h2,_⟩:=hf i hi;have:=h2.length;simpa using this.symm
      have u:0<len->d=⟨d.block,d.off,none⟩:=by
       intro E;obtain ⟨ci,h1,_⟩:=hf 0 E;have A:=(VE h1).2.2 0 ar;have hcl:=(VE h1).2.1;rw [ai ar] at A
       have:d.spot=none:=by
        simp only [RS,Addr.add,c5] at A;simp only [World.cell?] at A;split at A
        ·cases J:d.spot with
         | none=>rfl
         | some q=>grind
        ·cases A
       obtain ⟨b,o,s⟩:=d;simp only at this;subst this;rfl
      have D:∀ i j,i<len->j<P.cellsOf e->∀ ci,w.cells? 0 (d.add (i*P.cellsOf e)) (P.cellsOf e)=some ci->w.cell? ⟨d.block,d.off+i*P.cellsOf e+j,none⟩=ci[j]?:=by
       intro i j hi hj ci h1;have A:=(VE h1).2.2 j hj;have J:d.spot=none:=by rw [u ar]
       rw [CB J,CB rfl] at A;exact A
      have N:∀ (i:Nat) (x:List AV),((List.range len).map f)[i]?=some x->i<len/\x=f i:=by
       intro i x h;rw [aQ] at h;obtain ⟨k,h1,h2⟩:=aA.1 h;obtain ⟨A,h4⟩:=am.1 h1;simp only [vQ] at A;simp only [List.getElem_range] at h4;subst h4;exact ⟨A,h2.symm⟩
      have G:∀ x∈(List.range len).map f,∃ i,i<len/\x=f i:=by
       intro x hx;obtain ⟨i,h1,h2⟩:=bp.1 hx;exact ⟨i,bB.1 h1,h2.symm⟩
      refine .one (a := .sl .no (a::l).length ((List.range len).map f)) ⟨_,rfl,by simp; unfold maxLen at Q; omega,fun x hx=>?_⟩ ?_
      ·grind
      ·refine .sl _ _ _ _ len cap (by intro k B; cases B) (by intro B; cases B) cU X (fun x hx=>?_) (fun x hx c hc=>?_) d.block d.off (fun h=>by rw [<- u h]) (fun i j=>(w.cell? ⟨d.block,d.off+i*P.cellsOf e+j,none⟩).getD Go.undef) ?_ ?_
       ·grind
       ·obtain ⟨i,hi,rfl⟩:=G x hx;obtain ⟨ci,_,h2,_⟩:=hf i hi;obtain ⟨s,J⟩:=h2.mem c hc;exact J.cell
       ·intro i x j c h1 h2;obtain ⟨hi,rfl⟩:=N i x h1;have hj:j<P.cellsOf e:=by have:=(am.1 h2).1; rw [hlen i hi] at this; omega
        obtain ⟨ci,g1,_,g3,_⟩:=hf i hi;have:=D i j hi hj ci g1;rw [ai (by grind)] at this;show w.cell? ⟨d.block,d.off+i*(l.length+1)+j,none⟩=_;rw [<- p,this]; rfl
       grind
   ·cases h
  ·rename_i fs r;split at h
   ·rename_i l hl
    cases p:Nat.beq (P.cellsOf t) l.length with
    | false=>rw [p] at h; cases h
    | true=>
     rw [p,aR] at h;cases h;have p:=aj p;obtain ⟨xs,m,rfl,_,hlen,M,hf⟩:=DataW.trod_struct r hx
     have:=uk (fuel:=m) (fun t L cs x h1 h2=>qJ n t L h1 m cs x h2) fs.toList 0 _ cs hl ar (fun f Z=>by
      obtain ⟨i,hi1,hi2⟩:=cw Z;have:=hf i f (by grind);grind)
     exact kN.mono (by simpa using this)
   ·cases h
  ·rename_i m e r;split at h
   ·rename_i l hl
    cases p:(Nat.beq l.length (P.cellsOf e)&&Nat.beq (P.cellsOf t) (m*l.length)) with
    | false=>rw [p] at h; cases h
    | true=>
     rw [p,aR] at h;cases h;have hb1:=aj (qp.1 p).1;have hb2:=aj (qp.1 p).2;obtain ⟨xs,q,rfl,_,hlen,M,hf⟩:=DataW.trod_array r hx;refine kN.mono (Ce (fun cs x h2=>qJ n e l hl q cs x h2) hb1 m cs ar (fun i hi=>?_));grind
   ·cases h
  ·cases h
end
open Go Go.ChangeShapes Go.WideShapes Go.RowKit
def vA (n:Nat):List (Bool×List Sh)->List AV->Prop
 | [],[]=>True
 |(b,L)::r,a::q=>(bif b then ∃ cs,a = .agg cs/\Fa (kK n) L cs else ∃ s,L=[s]/\kK n s a)/\vA n r q
 | _,_=>False
def o0 (P:Program) (n:Nat):List TypeId->Option (List (Bool×List Sh))
 | []=>some []
 | t::r=>match P.underlying t,HI P n t,o0 P n r with
  | some (.struct _),some l,some q=>some ((true,l)::q)
  | some (.array _ _),some l,some q=>some ((true,l)::q)
  | some .bool,some [s],some q=>some ((false,[s])::q)
  | some (.int _),some [s],some q=>some ((false,[s])::q)
  | some .string,some [s],some q=>some ((false,[s])::q)
  | some (.slice _),some [s],some q=>some ((false,[s])::q)
  | _,_,_=>none
section
variable {H:Type} {enc:TypeId×Value->H} {P:Program} {w:World} {sp:Nat->Bool} {held:Bool} {r:Reach} {b0:Nat}
theorem O7 {n} {t} {L} {v} {d} {ps} (b:HI P n t=some L) (hv:∃ cs,v = .agg cs/\cs.size=P.cellsOf t/\Row.okWide P w r b0 t cs) (h:DataW.Trod enc P w 0 sp held t v d ps) :
  ∃ a,(∃ cs,a = .agg cs/\Fa (kK n) L cs)/\RD (kU w) a v:=by
 obtain ⟨cs,rfl,_,_⟩:=hv;obtain ⟨fuel,hf⟩:=h;obtain ⟨avs,h1,h2,c⟩:=qJ n t L b fuel _ _ hf;simp only [Value.cells] at h2 c;refine ⟨.agg avs,⟨avs,rfl,h1⟩,.agg avs cs (by simpa using h2) (fun x hx=>?_) (fun i x v g1 g2=>c i x v g1 (by simpa using g2))⟩;obtain ⟨s,b⟩:=h1.mem x hx;exact b.cell
theorem yH {n} {t} {s} {v} {d} {ps} (c:HI P n t=some [s]) (hv:v.cells=#[v]) (h:DataW.Trod enc P w 0 sp held t v d ps) :
  ∃ a,(∃ s',[s]=[s']/\kK n s' a)/\RD (kU w) a v:=by
 obtain ⟨fuel,hf⟩:=h;obtain ⟨avs,h1,h2,b⟩:=qJ n t [s] c fuel _ _ hf;rw [hv] at h2 b
 match avs,h1 with
 | [a],h1=>exact ⟨a,⟨s,rfl,h1.1⟩,b 0 a v rfl rfl⟩
 | [],h1=>exact h1.elim
 | _::_::_,h1=>exact h1.2.elim
theorem O6 {n:Nat}:∀ (A:List TypeId) (z:List (Bool×List Sh)),o0 P n A=some z->∀ (vs:List Value) (ds:List (DataW H)) (ps:List MemPlace),DataW.TrodAll enc P w 0 sp held A vs ds ps ->
  (∀ (j:Nat) (t:TypeId) (v:Value),A[j]?=some t->vs[j]?=some v->Value.okWide P w r b0 t v) ->
  ∃ avs,vA n z avs/\avs.length=vs.length/\∀ (i:Nat) (a:AV) (v:Value),avs[i]?=some a->vs[i]?=some v->RD (kU w) a v
 | [],z,h,vs,ds,ps,B,_=>by
  simp only [o0,aB] at h;subst h;obtain ⟨rfl,rfl,rfl⟩:=trodAll_nil B;exact ⟨[],trivial,rfl,by simp⟩
 | t::A,z,h,vs,ds,ps,B,hv=>by
  obtain ⟨v,vs,d,E,p,q,rfl,rfl,rfl,y,o⟩:=trodAll_cons B;have e:=hv 0 t v rfl rfl
  have key:∀ (b:Bool) (L:List Sh) (rest:List (Bool×List Sh)),o0 P n A=some rest->z=(b,L)::rest->(∃ a,(bif b then ∃ cs,a = .agg cs/\Fa (kK n) L cs else ∃ s,L=[s]/\kK n s a)/\RD (kU w) a v) ->
    ∃ avs,vA n z avs/\avs.length=(v::vs).length/\∀ (i:Nat) (a:AV) (u:Value),avs[i]?=some a->(v::vs)[i]?=some u->RD (kU w) a u:=by
   rintro b L rest F rfl ⟨a,J,D⟩;obtain ⟨avs,h1,h2,G⟩:=O6 A rest F vs E q o (fun j t v g1 g2=>hv (j+1) t v g1 g2);refine ⟨a::avs,⟨J,h1⟩,by simp [h2],fun i x u g1 g2=>?_⟩
   cases i with
   | zero=>simp at g1 g2; subst g1; subst g2; exact D
   | succ i=>exact G i x u (by simpa using g1) (by simpa using g2)
  simp only [o0] at h;split at h
  ·rename_i hu m f; cases h;exact key _ _ _ f rfl (by simpa using O7 m (by simpa [Value.okWide,hu] using e) y)
  ·rename_i hu m f; cases h;exact key _ _ _ f rfl (by simpa using O7 m (by simpa [Value.okWide,hu] using e) y)
  ·rename_i hu m f; cases h;exact key _ _ _ f rfl (by obtain ⟨b,rfl⟩:=okWide_bool hu e; simpa using yH m rfl y)
  ·rename_i hu m f; cases h;exact key _ _ _ f rfl (by obtain ⟨b,rfl⟩:=okWide_int hu e; simpa using yH m rfl y)
  ·rename_i hu m f; cases h;exact key _ _ _ f rfl (by obtain ⟨b,rfl⟩:=okWide_string hu e; simpa using yH m rfl y)
  ·rename_i hu m f; cases h;exact key _ _ _ f rfl (by obtain ⟨a,l,c,rfl⟩:=okWide_slice hu e; simpa using yH m rfl y)
  ·cases h
end
theorem Cz {H:Type} {enc:TypeId×Value->H} {P:Program} (hl:laidOutB P=true) {w w':World} (i:Below w.heap.size w w') {sp:Nat->Bool} :
  ∀ {e:List TypeId} {vs:List Value} {ds:List (DataW H)} {ps:List MemPlace},(∀ t∈e,P.readableRec t=true/\t<P.types.size)->DataW.TrodAll enc P w 0 (fun _=>true) true e vs ds ps->(∀ x∈ps,x.block<w.heap.size)->(∀ x∈ps,sp x.block=true) ->
   DataW.TrodAll enc P w' 0 sp true e vs ds ps
 | [],_,_,_,_,h,_,_=>by obtain ⟨rfl,rfl,rfl⟩:=trodAll_nil h; rfl
 | t::e,vs,ds,ps,f,h,b,c=>by
  obtain ⟨v,n,d,m,p,q,rfl,rfl,rfl,j,a⟩:=trodAll_cons h
  refine ⟨p,q,WideElems.Trod_stays hl (f t a7).1 (f t a7).2 j (fun x hx=>i.same (b x (bc _ hx))) (fun x hx=>c x (bc _ hx)),
   Cz hl i (fun t l=>f t (a6 _ l)) a (fun x hx=>b x (bj _ hx)) (fun x hx=>c x (bj _ hx)),rfl⟩
open Go
inductive aJ (Γ:ce) (s:St) (c:Code) (K:Exit->St->Prop):Prop
 | mk (h:SP Γ s c K)
section
variable {Γ:ce} {T:eS} {s:St} {K:Exit->St->Prop}
theorem aJ.out {c} (h:aJ Γ s c K):SP Γ s c K:=by cases h; assumption
theorem ij (a:Γ.OK) (b:T.OK Γ.P) (keep) {c} (d:dC Γ.nt c=true) (h:Xd Γ T keep c s K):aJ Γ s c K:=⟨eI a b c s K d h⟩
theorem aJ.skip (a:Γ.OK) (b:T.OK Γ.P) (h:K .normal s):aJ Γ s .skip K:=ij a b [] rfl h
theorem aJ.ret (a:Γ.OK) (b:T.OK Γ.P) (h:K .ret s):aJ Γ s .ret K:=ij a b [] rfl h
theorem aJ.exit (a:Γ.OK) (b:T.OK Γ.P) {j} (h:K (.exit j) s):aJ Γ s (.exit j) K:=ij a b [] rfl h
theorem aJ.seq {a b} (h:aJ Γ s a fun e s'=>match e with | .normal=>aJ Γ s' b K | e=>K e s'):aJ Γ s (.seq a b) K:=
 ⟨SP.seq h.out (fun _ h=>h.out) (fun e s' he h=>by cases e <;> first | exact absurd rfl he | exact h)⟩
theorem aJ.block {id} {c} (h:aJ Γ s c fun e s'=>match e with
  | .exit j=>bif Nat.beq j id then K .normal s' else K (.exit j) s'
  | e=>K e s'):aJ Γ s (.block id c) K:=by
 refine ⟨fun a w n=>aaC (db (h.out a w n) fun e p w' o=>?_)⟩;obtain ⟨i,f,s',b,d⟩:=o
 cases e with
 | exit j=>
  simp only at d;unfold Exit.inBlock
  cases m:Nat.beq j id with
  | true=>rw [m] at d; simp only [aj m,c5]; exact ⟨i,f,s',b,d⟩
  | false=>rw [m] at d; simp only [de m,cu]; exact ⟨i,f,s',b,d⟩
 | normal=>exact ⟨i,f,s',b,d⟩
 | goto l=>exact ⟨i,f,s',b,d⟩
 | ret=>exact ⟨i,f,s',b,d⟩
 | panic c=>exact ⟨i,f,s',b,d⟩
 | outgrown=>exact ⟨i,f,s',b,d⟩
theorem aJ.cond {c} {x y} {t} (l:ev s c = .bool t) (h:(t=true->aJ Γ s x K)/\(t=false->aJ Γ s y K)):aJ Γ s (.cond c x y) K:=by
 refine ⟨fun a w e=>?_⟩;obtain ⟨j,m,i⟩:=e.ex
 have he:RC j (.bool t) (a.eval c):=by
  have:=cc i c;rwa [l] at this
 exact CS he.bool (fun g=>db ((h.1 g).out a w e) fun _ _ _ ⟨h1,h2,f⟩=>⟨h1,h2.mono fun d b=>bc _ b,f⟩)
  (fun g=>db ((h.2 g).out a w e) fun _ _ _ ⟨h1,h2,f⟩=>⟨h1,h2.mono fun d b=>bj _ b,f⟩)
theorem ck {c} {x y} (a:ev s c = .bool true) (h:aJ Γ s x K):aJ Γ s (.cond c x y) K:=aJ.cond a ⟨fun _=>h,fun h=>Bool.noConfusion h⟩
theorem cm {c} {x y} (a:ev s c = .bool false) (h:aJ Γ s y K):aJ Γ s (.cond c x y) K:=aJ.cond a ⟨fun h=>Bool.noConfusion h,fun _=>h⟩
theorem oF (a:Γ.OK) (b:T.OK Γ.P) (keep) {id} {ops} (d:dC Γ.nt (.region id ops true)=true) (h:rU T (aq Γ.P) (bX Γ.P) [] keep ops.toList s (K .normal)):aJ Γ s (.region id ops true) K:=
 ij a b keep d h
theorem aJ.reg (b:Γ.OK) (d:T.OK Γ.P) (keep) {id} {ops} (a:dC Γ.nt (.region id ops false)=true)
  (h:lg T (aq Γ.P) (bX Γ.P) ops.toList (dw ops.toList ops.toList) ops.toList s fun s'=>ga keep s' (K .normal)):aJ Γ s (.region id ops false) K:=ij b d keep a h
theorem mZ (i:Γ.OK) (m:T.OK Γ.P) (keep b:List Nat) {id} {ops} (e:dC Γ.nt (.region id ops false)=true)
  (h:lg T (aq Γ.P) (bX Γ.P) ops.toList (b.map (1000000000+·)++dw ops.toList ops.toList) ops.toList s fun s'=>ga keep s' (K .normal)):aJ Γ s (.region id ops false) K:=by
 refine ⟨fun a w f=>?_⟩;obtain ⟨l⟩:=ops;refine fP ?_;rw [show (⟨l⟩:Array Oper).size=l.length from rfl,c6];refine kE i m (ew e) l 0 s a w _ (fun j=>by simp) h f ?_;intro s' q w' n d o p;obtain ⟨s2,h2,hle⟩:=eb n;exact ⟨o,p,s2,d.less hle,h2⟩
theorem aJ.loop {c} {X:Type} (a:X->St) (I:X->Prop) (μ:X->Nat) (x0) (d:I x0) (hle:s.le (a x0))
  (body:∀ x,I x->aJ Γ (a x) c fun e s'=>match e with | .normal=>∃ b,I b/\μ b<μ x/\s'.le (a b) | e=>K e s'):aJ Γ s (.loop c) K:=
 ⟨SP.loop a I μ x0 d hle fun x hx=>(body x hx).out⟩
theorem aJ.le {c} {s'} (hle:s.le s') (h:aJ Γ s' c K):aJ Γ s c K:=⟨fun a w b=>h.out a w (b.less hle)⟩
theorem aJ.scopeEnds {c} {rs} {r} (h:aJ Γ s c (Ends T rs r)):aJ Γ s (.scope c) (Ends T rs r):=⟨SP.scopeEnds h.out⟩
end
theorem aq.ofB {P} {T} (b:T.OK P) {f} {fn} {body} {args} {r} (hf:P.funcs[f]?=some fn) (e:fn.body=some body)
  (a:(fn.name == "runtime.NumGoroutine")=false) (hm:P.follows .mixedOrders=true) (i:args.length<=fn.ntmps)
  (h:∀ (F:Fence) (n:Nat) (w0:World) (m0:dI),ce.OK ⟨P,F,n,w0,m0,fn.ntmps⟩->F.round=none->1<=n->aJ ⟨P,F,n,w0,m0,fn.ntmps⟩ ⟨params 0 args,[]⟩ body (Ends T fn.results.toList r)):aq P f args r:=
 aq.ofSP b hf e a hm i fun F n w0 m0 hG d h1=>(h F n w0 m0 hG d h1).out
open Go
theorem bK {o} {sz sz'}:(AV.sl o sz []).weak (.sl .no sz' []):=fun m v h=>by
 cases h with
 | sl _ _ _ base len cap j hf hl f i d b off e g hm l=>
  exact .sl _ _ _ _ _ _ (by intro k a; cases a) (by intro a; cases a) hl f cU cU b off e g cU cU
open Go
section
variable {Γ:ce} {T:eS} {s:St} {K:Exit->St->Prop}
theorem aJ.cut {c} {X:Type} (d:X->St) (P:X->Prop) (h:aJ Γ s c fun e s'=>e = .normal/\∃ x,P x/\s'.le (d x)) (k:∀ x,P x->K .normal (d x)):aJ Γ s c K:=by
 refine ⟨fun a w f=>db (h.out a w f) ?_⟩;rintro e l w' ⟨i,j,s',b,rfl,x,hx,hle⟩;exact ⟨i,j,d x,b.less hle,k x hx⟩
theorem aJ.frz {c} (l) (h:kA s l fun s'=>aJ Γ s' c K):aJ Γ s c K:=by
 refine ⟨fun a w b=>?_⟩;obtain ⟨s',h1,h2⟩:=gZ _ _ h b;exact h1.out a w h2
end
open Go
section
variable {Γ:ce} {c:dE} {bx:List (Nat×List AV)} {w:World}
theorem WI.rebox (l:WI Γ c bx w) {d} {cs n} (h:get bx d=some cs) (j:cs≠[]) (hl:n.length=cs.length) (H:∀ x∈n,x.isCell=true)
  (F:∀ (vs:Array Value),(∀ (i:Nat) (x:AV) (v:Value),cs[i]?=some x->vs[i]?=some v->fp c x v)->∀ (i:Nat) (x:AV) (v:Value),n[i]?=some x->vs[i]?=some v->fp c x v):WI Γ c ((d,n)::bx) w:=by
 obtain ⟨h1,h2,J,vs,T,D,E,G⟩:=l.box d cs h j;refine ⟨l.ext,l.sub,l.le0,l.new,fun q ds a f=>?_,fun B z c1 c2 g1 g2 n1 n2 r=>?_,fun k=>?_,fun k b o hx=>?_⟩
 ·rw [a8] at a;split at a
  ·rename_i u;subst u;cases a;exact ⟨h1,h2,H,vs,T,D,hl.trans E,F vs G⟩
  ·exact l.box q ds a f
 ·rw [a8] at g1 g2;split at g1
  ·rename_i y;split at g2
   ·rename_i t; rw [y,t]
   ·rename_i t;rw [y] at r ⊢;exact l.inj d z cs c2 h g2 j n2 r
  ·rename_i y;split at g2
   ·rename_i t;rw [t] at r ⊢;exact l.inj B d c1 cs g1 h n1 j r
   ·exact l.inj B z c1 c2 g1 g2 n1 n2 r
 ·have p:=l.own k;refine ⟨p.blk,p.shape,fun g q ds A a f=>?_,p.apart⟩;rw [a8] at a;split at a
  ·rename_i e; rw [e]; exact p.box g d cs A h j
  ·exact p.box g q ds A a f
 ·have m:=l.xo k b o hx;refine ⟨m.new,m.obj,m.kept,m.mem,m.map,fun q ds a f=>?_,m.own,m.inj⟩;rw [a8] at a;split at a
  ·rename_i e; rw [e]; exact m.box d cs h j
  ·exact m.box q ds a f
end
section
variable {Γ:ce} {T:eS} {s:St} {K:Exit->St->Prop}
theorem Nz {c} (k d) {b} {rows} (h1:get s.t (xk k)=some (.me .ents k b rows)) (h2:get s.b d=some [.lit (.map (some b))]) (h:aJ Γ ⟨iX (AV.unme k) s.t,(d,[.mapv rows])::s.b⟩ c K):aJ Γ s c K:=by
 refine ⟨fun a w G=>h.out a w ?_⟩;obtain ⟨⟨D,B,q⟩,J,y,j⟩:=G;have hx:=(show RX D .ents k b rows (a.tmps.getD (xk k) Go.undef) from q _ _ h1);have l:=hx;obtain ⟨es,clock,u,_⟩:=l;obtain ⟨E,r⟩:=B.freezeMap u;refine ⟨⟨_,E.rebox h2 cU rfl (by simp [AV.isCell]) (fun vs o i x v n L=>?_),fun e z hz=>?_⟩,J,y,j⟩
 ·cases i with
  | succ i=>simp at n
  | zero=>
   simp only [bw,aB] at n;subst n;have H:=(show RD _ (.lit (.map (some b))) v from o 0 _ v rfl L);cases H
   exact hx.mapv r.m fun F f he=>by
    rw [u] at he;cases he;exact aX rfl
 ·rw [dG] at hz;obtain ⟨A,p,rfl⟩:=aA.1 hz;exact (q e A p).leX r
theorem jW.ofB {P:Program} {T:eS} (j:T.OK P) {f:FuncId} {fn:Func} {body:Code} {args:List AV} {R:AV->Prop} (hf:P.funcs[f]?=some fn) (d:fn.body=some body)
  (a:(fn.name == "runtime.NumGoroutine")=false) (hm:P.follows .mixedOrders=true) (i:args.length<=fn.ntmps)
  (h:∀ (F:Fence) (n:Nat) (w0:World) (m0:dI),ce.OK ⟨P,F,n,w0,m0,fn.ntmps⟩->F.round=none->1<=n->aJ ⟨P,F,n,w0,m0,fn.ntmps⟩ ⟨params 0 args,[]⟩ body (fun e s=>∃ r,R r/\Ends T fn.results.toList r e s)):jW P f args R:=
 jW.ofSP j hf d a hm i fun F n w0 m0 hG b h1=>(h F n w0 m0 hG b h1).out
end
open Go
open Go.RowKit (Below)
def i7 (w:World) (d:Nat):World:={ w with drawn:=w.drawn+d }
theorem mQ {F} {n} {P} {all} {Q} {i} {l} {a} {w} {o} (c:all[i]?=some o) (d:o.guard=none)
  (h:o.wpIn F n P a w (fun a w=>wpOpsIn F n P all Q l a w) Q):wpOpsIn F n P all Q (i::l) a w:=by
 simp only [wpOpsIn,c,Region.wanted,d,c5];exact h
section
variable {P:Program} {W:World} {r b:Nat} {es:Array MapEntry} {clock:Nat} {seen:Array Nat}
theorem run_range_map {t} {k e} (a:P.underlying t=some (.map k e)) (c:W.heap[b]?=some (.map es clock)) :
  (Instr.range t (.map (some b))).run P W = .ok (.pointer (some ⟨W.heap.size,0,none⟩)) (W.alloc (.mapIter (some b) clock #[] clock)):=by
 simp only [Instr.range,aD,aY a,aw,cY c,aL,vJ];rfl
theorem pZ {s} {q} (a:W.heap[r]?=some (.mapIter (some b) s seen q)):(getObj r).run P W = .ok (.mapIter (some b) s seen q) W:=by
 simp [getObj,Sem.run,a]
theorem x6 {s} {q} (a:W.heap[r]?=some (.mapIter (some b) s seen q)) (o):(setObj r o).run P W = .ok () (W.putObj r o):=by
 simp [setObj,Sem.run,a,World.putObj]
theorem LM (n) (c:0<n):∃ k d,k<n/\(choose (.mapNext n)).run P W = .ok k (i7 W d):=by
 have a:(choose (.mapNext n)).run P W=if (Question.mapNext n).forced then .ok 0 W else .ok ((Question.mapNext n).cut (W.tape W.drawn (.mapNext n))) { W with drawn:=W.drawn+1 }:=rfl
 rw [a]
 cases hf:(Question.mapNext n).forced with
 | true=>exact ⟨0,0,c,rfl⟩
 | false=>exact ⟨_,1,nd _ c,rfl⟩
theorem run_next_map (T) (t:W.heap[r]?=some (.mapIter (some b) clock seen clock)) (v:W.heap[b]?=some (.map es clock)) (c:∀ e∈es.toList,e.born<clock) :
  (∃ d,(Instr.next (.pointer (some ⟨r,0,none⟩)) false T).run P W = .ok (.tuple #[.bool false]) (i7 W d)/\∀ e∈es.toList,seen.contains e.born=true) \/
  ∃ e d,e∈es.toList/\seen.contains e.born=false/\(Instr.next (.pointer (some ⟨r,0,none⟩)) false T).run P W = .ok (.tuple #[.bool true,e.key,e.val]) ((i7 W d).putObj r (.mapIter (some b) clock (seen.push e.born) clock)):=by
 have l:(!seen.isEmpty && !es.isEmpty&&es.all (·.born>=clock))=false:=by
  cases h1:es.isEmpty with
  | true=>simp
  | false=>
   have:es.all (·.born>=clock)=false:=by
    rw [Bool.eq_false_iff];intro w
    have n:0<es.size:=by
     rw [Array.isEmpty_eq_false_iff] at h1;exact Array.size_pos_iff.2 h1
    have h2:=Array.all_eq_true.1 w 0 n;have x:=c es[0] cU;simp at h2; omega
   simp [this]
 obtain ⟨left,f⟩:∃ left,es.filter (fun e => !seen.contains e.born)=left:=⟨_,rfl⟩
 have j:∀ e,e∈left.toList↔e∈es.toList/\seen.contains e.born=false:=fun e=>by
  rw [<- f]; simp
 have m:left.filter (fun e=>decide (e.born<clock))=left:=by
  rw [Array.filter_eq_self];intro e he;simpa using c e ((j e).1 (by simpa using he)).1
 have o:left.filter (fun e=>decide (e.born>=clock))=#[]:=by
  rw [Array.filter_eq_empty_iff];intro e he;have:=c e ((j e).1 (by simpa using he)).1;simp; omega
 have h:∀ a:Array (Option MapEntry),a=(if left.isEmpty then #[none] else #[])++(left++#[]).map some->0<a.size/\∀ k (u:k<a.size),(a[k]?=some none/\left=#[])\/∃ e,a[k]?=some (some e)/\e∈left.toList:=by
  rintro a rfl
  cases hl:left.isEmpty with
  | true=>
   grind
  | false=>
   grind
 obtain ⟨p,q⟩:=h _ rfl;obtain ⟨k,d,u,i⟩:=LM (P:=P) (W:=W) _ p;have hr':(i7 W d).heap[r]?=some (.mapIter (some b) clock seen clock):=t;simp only [Instr.next,aD,pZ t,aw,cY v,l,bv,cu,aL,f,m,o,i];rcases q k u with ⟨h1,h2⟩ | ⟨e,h1,h2⟩
 ·refine .inl ⟨d,by simp only [h1,aL],fun e he=>?_⟩;grind
 grind [Sem.run_bind,x6,Result.andThen_ok,Sem.run_pure]
theorem run_entry_map {e} (c:W.heap[r]?=some (.mapIter (some b) clock seen clock)) (d:W.heap[b]?=some (.map es clock)) (a:seen.back?=some e.born) (he:e∈es.toList) (hu:∀ f∈es.toList,f.born=e.born->f=e) :
  (Instr.entry (.pointer (some ⟨r,0,none⟩))).run P W = .ok (.tuple #[e.key,e.val]) W:=by
 have hf:es.find? (fun f=>f.born==e.born)=some e:=by
  rw [<- Array.find?_toList]
  cases hx:es.toList.find? (fun f=>f.born==e.born) with
  | none=>
   grind
  | some f=>
   grind
 simp only [Instr.entry,aD,pZ c,aw,a,cY d,bne_self_eq_false,bv,cu,aL,hf]
end
section
variable {ι α:Type} {Y:YB ι α} (hY:Y.OK)
theorem rW {k} {s} {a} {w} (n:Y.J k w) (hm:Y.m.sub w) (j:a.tmps.size=Y.nt) (i:∀ d x,get Y.tm d=some x->RD Y.m x (a.tmps.getD d Go.undef)) (e:a.defers=[])
  (hx:∀ d x,get s.t d=some x->RD Y.m x (a.tmps.getD d Go.undef)) (l:s.b=[]) (f:(gf Y.P).sub w):YI Y (false,k) s a w:=by
 obtain ⟨t,b⟩:=s;simp only at l;subst l;exact ⟨⟨w,n,⟨⟨_,nD (Γ:=Y.base w) hm rfl,fun d x h=>RC.of_RD (c:=⟨_,_,_,Y.m,_,_⟩) (hx d x h)⟩,j⟩,.refl _,f⟩,i,e⟩
theorem YI.sub {g} {s} {a} {w} (h:YI Y g s a w):Y.m.sub w:=by
 obtain ⟨⟨f,h1,h2,i⟩,_⟩:=h;obtain ⟨⟨c,d,_⟩,_⟩:=h2;exact ⟨fun b o v e=>d.sub.cell b o v (d.le0.cell b o v e),fun b x e=>d.sub.map b x (d.le0.map b x e)⟩
include hY in
theorem YI.now {k} {s} {a} {w} (h:YI Y (false,k) s a w):Y.J k w:=by
 obtain ⟨⟨e,h1,h2,d⟩,_⟩:=h;obtain ⟨⟨c,f,_⟩,_⟩:=h2;exact hY.ab k e w h1 ⟨f.ext.toBelow d.1,d.1.more⟩
theorem YI.nt {g} {s} {a} {w} (h:YI Y g s a w):a.tmps.size=Y.nt:=by
 obtain ⟨⟨c,h1,h2,d⟩,_⟩:=h;exact h2.size
end
end Go.AI
