/- The abstract interpreter for the code, part 2: what it reckons of a piece of code holds of every run. No condition but those typed. -/
import Derived.Test.YtnbgjinkghhdoaaGreatTAiA
import Derived.RangeFuncNested
set_option linter.unusedSectionVars false
set_option linter.unusedVariables false
set_option linter.unusedSimpArgs false
namespace Go.AI
open Go
open Go.RowKit (Below)
theorem aB {c:Ctx} {s:St} {a:Act} (ht:∀ d x,get s.t d=some x→RC c x (a.tmps.getD d Go.undef)) (x:Operand):RC c (ev s x) (a.eval x):=by
 cases x with
 | tmp t=>
  simp only [ev,St.tmp,Act.eval]
  cases hg:get s.t t with
  | none=>exact RD.junk _
  | some v=>exact ht t v hg
 | const v=>exact RC.of_RD (RD.cst _ _)
 | global g=>exact RD.junk _
 | func f=>exact RD.fn f
section
variable {Γ:aH} (hΓ:Γ.OK) {T:Tab} (hT:T.OK Γ.P) {s:St} {K:St→Prop} {o:Oper} {a:Act} {w:World}
 {next:Act→World→Prop} {Q:Exit→Act→World→Prop}
def bJ (Γ:aH) (a:Act) (dst:Option Nat) (w:World) (K:St→Prop) (next:Act→World→Prop):Prop:=∀ s' a' w',K s'→Inv Γ s' a' w'→NC w w'→(∃ v,a'=a.put dst v)→next a' w'
theorem dx {a:Act} {d:Nat} {v:Value} {dst:Option Nat} (h:dst=some d):∃ u,a.put (some d) v=a.put dst u:=⟨v,by rw [h]⟩
theorem gM {a:Act} {dst:Option Nat} (h:dst=none):∃ u,a=a.put dst u:=⟨Go.undef,by rw [h]; rfl⟩
include hΓ hT in
theorem BG (hI:Inv Γ s a w) (hd:∀ d,o.dst=some d→d<Γ.nt)
  (h:opV T (ae Γ.P) s.b (ev s) o.type o.op fun v=>v.go fun v=>ef s o.dst v K) (hn:bJ Γ a o.dst w K next):o.wpIn Γ.F Γ.n Γ.P a w next Q:=by
 obtain ⟨c,hW,ht⟩:=hI.ex
 refine CQ hΓ hT h rfl hW (fun x _=>aB ht x) ?_
 intro x v w' c' hK hle hW' hN hx
 rw [AV.go_eq] at hK
 obtain ⟨t,b⟩:=s
 cases hdst:o.dst with
 | none=>
  rw [hdst] at hK
  exact hn _ _ _ hK (hI.next hN hW' (d:=none) (v:=v) (by intro k hk; cases hk) (fun k y hy=>(ht k y hy).mono hle)) hN (gM hdst)
 | some d=>
  rw [hdst] at hK
  have hdlt:=hd d hdst
  exact hn _ _ _ hK (hI.next hN hW' (d:=some d) (v:=v) (by intro k hk; cases hk; exact hdlt) (bV (fun k y hy=>(ht k y hy).mono hle) (by rw [hI.size]; exact hdlt) hx)) hN (dx hdst)
theorem EB (hI:Inv Γ s a w) {d k sz:Nat} (hd:d<Γ.nt) {c:Ctx} (ht:∀ k x,get s.t k=some x→RC c x (a.tmps.getD k Go.undef)) {w':World} {m':Mem} (hle:c.m.le m') {r:Value} (hN:NC w w')
  (hW:WI Γ ((c.mem m').own k r sz) (vb k s.b) w') {x:AV} (hx:RC ((c.mem m').own k r sz) x r):Inv Γ ⟨(d,x)::(s.dem k).t,(s.dem k).b⟩ (a.put (some d) r) w':=by
 refine hI.next hN (c:=(c.mem m').own k r sz) hW (d:=some d) (v:=r) (by intro k hk; cases hk; exact hd) (bV (fun j y hy=>?_) (by rw [hI.size]; exact hd) hx)
 rw [jj] at hy
 obtain ⟨z,hz,rfl⟩:=Option.map_eq_some_iff.1 hy
 exact (ht j z hz).reown hle
include hΓ hT in
theorem xg {args:Array Operand} {ts:Array TypeId} (ho:o.op = .call { callee := .builtin .append,args:=args,argTypes:=ts }) (hI:Inv Γ s a w) (hd:∀ d,o.dst=some d→d<Γ.nt)
  (h:opS T (ae Γ.P) s o.dst o.type (.call { callee := .builtin .append,args:=args,argTypes:=ts }) K) (hn:bJ Γ a o.dst w K next):o.wpIn Γ.F Γ.n Γ.P a w next Q:=by
 obtain ⟨c,hW,ht⟩:=hI.ex
 simp only [opS] at h
 split at h
 ·rename_i x y t t' d hx hts hdst
  have hdlt:=hd d hdst
  split at h
  ·rename_i i hi
   split at h
   ·rename_i j hj
    split at h
    ·rename_i ow sz xs ow' sz' ys hxs hys
     cases hb:(Nat.beq i.kind 3&&Nat.beq t t'&&qC j&&Nat.blt 0 j.size&&xx ow j.size sz) with
     | false=>simp only [hb,cond_false] at h
     | true=>
      simp only [hb,cond_true] at h
      simp only [Bool.and_eq_true] at hb
      obtain ⟨⟨⟨⟨b1,b2⟩,b3⟩,b4⟩,b5⟩:=hb
      have hk3:=Nat.eq_of_beq_eq_true b1
      have htt:=Nat.eq_of_beq_eq_true b2
      subst htt
      obtain ⟨h,hsx⟩:=gC h
      obtain ⟨h,hsy⟩:=gC h
      obtain ⟨hroom,hmax,h⟩:=h
      have hpos:0<j.size:=Nat.le_of_ble_eq_true b4
      unfold qC at b3
      split at b3
      ·rename_i zs hz
       have hzl:=Nat.eq_of_beq_eq_true b3
       have hrx:=aB ht x
       rw [hxs] at hrx
       have hry:=aB ht y
       rw [hys] at hry
       have hrx1:=(RC.iff (by intro cs hc; cases hc)).1 hrx
       have hry1:=(RC.iff (by intro cs hc; cases hc)).1 hry
       obtain ⟨args⟩:=args
       obtain ⟨ts⟩:=ts
       simp only at hx hts
       subst hx
       subst hts
       have hrun:∀ r w',(Builtin.append_ #[t,t] o.type #[a.eval x,a.eval y]).run Γ.P w = .ok r w'→(execOp a.eval o).run Γ.P w = .ok (.value r) w':=by
        intro r w' hr
        simp only [execOp,ho,Sem.run_bind,bT,Result.andThen_ok,invoke,builtin,List.map_toArray,List.map_cons,List.map_nil,hr,Sem.run_pure]
       have fin:∀ k,((ow = .full∧AZ xs ys=true)∨(ow = .id k∧(j.size=sz∨sz=0)))→K ⟨(d,.sl (.id k) j.size (xs++ys))::(s.dem k).t,(s.dem k).b⟩→o.wpIn Γ.F Γ.n Γ.P a w next Q:=by
        intro k hok hK
        obtain ⟨r,w',m',r1,r2,r3,r4,r5⟩:=AY hT hW hi hk3 hj hz hzl hpos hrx1 hry1 hsx hsy hroom hmax hok o.type
        refine aP hΓ (by rw [ho]; intro c hc; cases hc) (hrun r w' r1) ?_
        rw [hdst]
        exact hn _ _ _ hK (EB hI hdlt ht r2 r4 r3 ((RC.iff (by intro cs hc; cases hc)).2 r5)) r4 (dx hdst)
       cases ow with
       | full=>
        cases ha:AZ xs ys with
        | true=>simp only [ha,cond_true] at h; exact fin d (.inl ⟨rfl,ha⟩) h
        | false=>
         simp only [ha,cond_false] at h
         cases hy0:rm ys with
         | true=>rw [hy0] at h; exact h.elim
         | false=>
          rw [hy0,cond_false] at h
          have hKK:K ⟨(d,.sl .full sz xs)::s.t,s.b⟩:=h
          cases ys with
          | cons y r=>cases hy0
          | nil=>
           have hr:=sm (w:=w) hT hi hk3 hj hz hzl hrx1 hry1 o.type
           refine aP hΓ (by rw [ho]; intro c hc; cases hc) (hrun _ _ hr) ?_
           rw [hdst]
           exact hn _ _ _ hKK (hI.next (.refl w) hW (d:=some d) (v:=a.eval x) (by intro k hk; cases hk; exact hdlt) (bV (fun k y hy=>ht k y hy) (by rw [hI.size]; exact hdlt) hrx) ) (.refl w) (dx hdst)
       | id k=>
        refine fin k (.inr ⟨rfl,?_⟩) h
        simp only [xx,Bool.or_eq_true] at b5
        rcases b5 with b | b
        ·exact .inl (Nat.eq_of_beq_eq_true b)
        ·exact .inr (Nat.eq_of_beq_eq_true b)
       | no=>exact h.elim
      ·cases b3
    ·exact h.elim
   ·exact h.elim
  ·exact h.elim
 ·exact h.elim
end
end Go.AI
namespace Go.AI
open Go
open Go.RowKit (Below)
section
variable {Γ:aH} (hΓ:Γ.OK) {T:Tab} (hT:T.OK Γ.P) {s:St} {K:St→Prop} {o:Oper} {a:Act} {w:World}
 {next:Act→World→Prop} {Q:Exit→Act→World→Prop}
include hT in
theorem jx {t:TypeId} {i:TI} (g:get T t=some i) {cs:List AV} (hz:i.zero.cells?=some cs):∃ z,(zeroValue t).run Γ.P w = .ok z w∧cs.length=z.cells.size∧∀ (m:Mem) (n:Nat) (x:AV) (u:Value),cs[n]?=some x→z.cells[n]?=some u→RD m x u:=by
 obtain ⟨j,d,h1,h2,h3⟩:=bH hT g
 simp only [TI.of,h1,h2,Option.some.injEq] at h3
 have hzero:=(congrArg TI.zero h3).symm
 simp only at hzero
 clear h3
 cases hj:j.zero with
 | none=>rw [hj] at hzero; simp only at hzero; rw [hzero] at hz; cases hz
 | some z=>
  rw [hj] at hzero
  simp only at hzero
  refine ⟨z,by simp only [zeroValue,typeInfo,Sem.run_bind,run_program,Result.andThen_ok,h1,Sem.run_pure,hj],?_⟩
  rw [hzero] at hz
  have one:∀ z:Value,(cst z).cells?=some cs→cs.length=z.cells.size∧∀ (m:Mem) (n:Nat) (x:AV) (u:Value),cs[n]?=some x→z.cells[n]?=some u→RD m x u:=by
   intro z hz
   have hc:(cst z).isCell=true∧cs=[cst z]:=by
    unfold cst at hz ⊢
    split <;> simp_all [AV.cells?,AV.isCell]
   obtain ⟨hc1,rfl⟩:=hc
   have h1:=RD.one (RD.cst ⟨fun _ _=>none,fun _=>none⟩ z) hc1
   rw [h1.2]
   refine ⟨rfl,fun m n x u g1 g2=>?_⟩
   cases n with
   | zero=>simp at g1 g2; subst g1; subst g2; exact RD.cst m _
   | succ n=>simp at g1
  cases z with
  | agg vs=>
   simp only [Dq,AV.cells?,Option.some.injEq] at hz
   subst hz
   refine ⟨by simp [Value.cells],fun m n x u g1 g2=>?_⟩
   rw [List.getElem?_map] at g1
   obtain ⟨v,hv,rfl⟩:=Option.map_eq_some_iff.1 g1
   have:vs[n]?=some v:=by simpa using hv
   simp only [Value.cells] at g2
   rw [this] at g2
   cases g2
   exact RD.cst _ _
  | _=>exact one _ hz
theorem uL (l news:List Value) (off n:Nat) (h:off+news.length≤l.length):(l.take off++news++l.drop (off+news.length)).toArray[n]?=if off≤n∧n<off+news.length then news[n - off]? else l[n]?:=by
 have hl1:(l.take off).length=off:=by simp; omega
 rw [List.getElem?_toArray]
 by_cases c1:n<off
 ·rw [if_neg (by omega),List.append_assoc,List.getElem?_append_left (by omega),List.getElem?_take,if_pos c1]
 ·by_cases c2:n<off+news.length
  ·rw [if_pos ⟨by omega,c2⟩,List.append_assoc,List.getElem?_append_right (by omega),hl1,List.getElem?_append_left (by omega)]
  ·rw [if_neg (by omega),List.getElem?_append_right (by simp; omega),List.getElem?_drop]
   simp only [List.length_append,hl1]
   rw [show off+news.length+(n - (off+news.length))=n by omega]
theorem oQ (d:Nat):∀ (cs:List AV) (vs:List Value) (j0:Nat) (c:Ctx) (s:St),WI Γ c s.b w→(∀ k x,get s.t k=some x→RC c x (a.tmps.getD k Go.undef))→cs.length=vs.length →
  (∀ (i:Nat) (x:AV) (v:Value),cs[i]?=some x→vs[i]?=some v→RD c.m x v) →
  ∃ c',c'.m=c.m∧c'.ρ=c.ρ∧WI Γ c' (s.demMany (jH d j0 cs)).b w∧(∀ k x,get (s.demMany (jH d j0 cs)).t k=some x→RC c' x (a.tmps.getD k Go.undef))∧(bM d j0 cs).length=cs.length ∧
   (∀ (i:Nat) (x:AV) (v:Value),(bM d j0 cs)[i]?=some x→vs[i]?=some v→RC1 c' x v)∧∀ k,(∀ j,j0≤j→k≠mf d j)→c'.τ k=c.τ k∧c'.σ k=c.σ k
 | [],vs,j0,c,s,hW,ht,_,_=>⟨c,rfl,rfl,hW,ht,rfl,by simp [bM],fun k _=>⟨rfl,rfl⟩⟩
 | x::r,vs,j0,c,s,hW,ht,hl,hr=>by
  cases vs with
  | nil=>cases hl
  | cons v vs=>
   have hx:=hr 0 x v rfl rfl
   have other:jH d j0 (x::r)=jH d (j0+1) r→bM d j0 (x::r)=x::bM d (j0+1) r→∃ c',c'.m=c.m∧c'.ρ=c.ρ∧WI Γ c' (s.demMany (jH d j0 (x::r))).b w ∧
     (∀ k x',get (s.demMany (jH d j0 (x::r))).t k=some x'→RC c' x' (a.tmps.getD k Go.undef))∧(bM d j0 (x::r)).length=(x::r).length ∧
     (∀ (i:Nat) (x':AV) (v':Value),(bM d j0 (x::r))[i]?=some x'→(v::vs)[i]?=some v'→RC1 c' x' v')∧∀ k,(∀ j,j0≤j→k≠mf d j)→c'.τ k=c.τ k∧c'.σ k=c.σ k:=by
    intro e1 e2
    obtain ⟨c',g1,g2,g3,g4,g5,g6,g7⟩:=oQ d r vs (j0+1) c s hW ht (by simpa using hl) (fun i y u h1 h2=>hr (i+1) y u h1 h2)
    rw [e1,e2]
    refine ⟨c',g1,g2,g3,g4,by simp [g5],fun i y u h1 h2=>?_,fun k hk=>g7 k (fun j hj=>hk j (by omega))⟩
    cases i with
    | zero=>simp at h1 h2; subst h1; subst h2; exact RC1.of_RD (by rw [g1]; exact hx)
    | succ i=>exact g6 i y u h1 h2
   cases x with
   | sl ow sz xs=>
    cases ow with
    | full=>
     cases sz with
     | zero=>
      cases xs with
      | nil=>
       have hsp:j6 v=false∧js (sfree Γ.w0 (mf d j0)) v:=by
        cases hx with
        | sl _ _ _ base len cap ho hf hl' hc=>
         have:=hf rfl
         exact ⟨by simp [j6,this],.inr ⟨_,_,_,rfl,fun _=>this.symm,fun a _ h0=>by simp at hl'; omega⟩⟩
       have hW1:=hW.own_none (mf d j0) 0 v hsp.2 hsp.1
       obtain ⟨c',g1,g2,g3,g4,g5,g6,g7⟩:=oQ d r vs (j0+1) ((c.mem c.m).own (mf d j0) v 0) (s.dem (mf d j0)) hW1 (fun k y hy=>by
        rw [jj] at hy
        obtain ⟨z,hz,rfl⟩:=Option.map_eq_some_iff.1 hy
        exact (ht k z hz).reown (.refl _)) (by simpa using hl) (fun i y u h1 h2=>hr (i+1) y u h1 h2)
       refine ⟨c',g1,g2,g3,g4,by simp [bM,g5],fun i y u h1 h2=>?_,fun k hk=>?_⟩
       ·cases i with
        | zero=>
         simp only [bM,List.getElem?_cons_zero,Option.some.injEq] at h1 h2
         subst h1
         subst h2
         have:=g7 (mf d j0) (fun j hj e=>by unfold mf at e; omega)
         refine ⟨by rw [this.1]; simp [Ctx.own],fun h=>(by rw [hsp.1] at h; cases h),?_⟩
         rw [g1]
         exact hx.no
        | succ i=>exact g6 i y u h1 h2
       ·have h1:=g7 k (fun j hj=>hk j (by omega))
        have h2:=hk j0 (Nat.le_refl _)
        rw [h1.1,h1.2]
        simp [Ctx.own,Ctx.mem,h2]
      | cons y ys=>exact other rfl rfl
     | succ n=>exact other rfl rfl
    | no=>exact other rfl rfl
    | id k=>exact other rfl rfl
   | _=>exact other rfl rfl
theorem kI {c:Ctx} {t:List (Nat×AV)} (ht:∀ k x,get t k=some x→RC c x (a.tmps.getD k Go.undef)) {d:Nat} (hd:d<a.tmps.size) (b:Nat) :
  ∀ k y,get ((d,.loc d 0)::unloc d t) k=some y→RC (c.at d b) y ((a.put (some d) (.pointer (some ⟨b,0,none⟩))).tmps.getD k Go.undef):=by
 refine bV (c:=c.at d b) (fun k y hy=>?_) hd ?_
 ·rw [Db] at hy
  obtain ⟨z,hz,rfl⟩:=Option.map_eq_some_iff.1 hy
  exact (ht k z hz).unloc d b
 ·show _=_
  simp [Ctx.at]
include hΓ hT in
theorem Hc {t:TypeId} (ho:o.op = .alloc t) (hI:Inv Γ s a w) (hd:∀ d,o.dst=some d→d<Γ.nt) (h:opS T (ae Γ.P) s o.dst o.type (.alloc t) K) (hn:bJ Γ a o.dst w K next):o.wpIn Γ.F Γ.n Γ.P a w next Q:=by
 obtain ⟨c,hW,ht⟩:=hI.ex
 simp only [opS] at h
 split at h
 ·rename_i d i hdst hi
  have hdlt:=hd d hdst
  split at h
  ·rename_i cs hcs
   cases hb:Nat.beq cs.length i.size&&cs.all (fun c=>c.isCell) with
   | false=>rw [hb] at h; exact h.elim
   | true=>
    rw [hb] at h
    simp only [cond_true] at h
    simp only [Bool.and_eq_true,List.all_eq_true] at hb
    obtain ⟨z,z1,z2,z3⟩:=jx hT (w:=w) hi hcs
    obtain ⟨c',g1,g2,g3,g4,g5,g6,g7⟩:=oQ (a:=a) d cs z.cells.toList 0 c s hW ht (by simpa using z2) (fun i x v h1 h2=>z3 _ i x v h1 (by simpa using h2))
    have hcell:∀ x∈bM d 0 cs,x.isCell=true:=by
     have:∀ (cs:List AV) (j:Nat),(∀ x∈cs,x.isCell=true)→∀ x∈bM d j cs,x.isCell=true:=by
      intro cs
      induction cs with
      | nil=>intro j _ x hx; simp [bM] at hx
      | cons y r ih=>
       intro j hall x hx
       have ih':=ih (j+1) (fun z hz=>hall z (List.mem_cons_of_mem _ hz))
       unfold bM at hx
       split at hx
       ·rename_i heq; cases heq
       ·rename_i heq
        cases heq
        rcases List.mem_cons.1 hx with rfl | hx
        ·rfl
        ·exact ih' x hx
       ·rename_i heq
        cases heq
        rcases List.mem_cons.1 hx with rfl | hx
        ·exact hall _ (List.mem_cons_self ..)
        ·exact ih' x hx
     exact this cs 0 hb.2
    have hnb:=g3.newBox d t (cs:=bM d 0 cs) (vs:=z.cells) (by rw [g5,z2]) hcell (fun i x v h1 h2=>g6 i x v h1 (by simpa using h2))
    refine aP hΓ (by rw [ho]; intro c hc; cases hc) (v := .pointer (some ⟨w.heap.size,0,none⟩)) (w':=w.alloc (.cells z.cells t)) ?_ ?_
    ·simp only [execOp,ho,Instr.alloc,Sem.run_bind,z1,Result.andThen_ok,newVar,newRow,run_newObj,Sem.run_pure,World.alloc_eq]
    ·rw [hdst]
     exact hn _ _ _ h (hI.next (fV _ (bA _ _)) hnb (d:=some d) (by intro k hk; cases hk; exact hdlt) (kI g4 (by rw [hI.size]; exact hdlt) _)) (fV _ (bA _ _)) (dx hdst)
  ·exact h.elim
 ·exact h.elim
include hΓ hT in
theorem EC {t:TypeId} {d:Nat} {i:TI} {cs:List AV} (ho:o.op = .alloc t) (hI:Inv Γ s a w) (hd:∀ d,o.dst=some d→d<Γ.nt) (hdst:o.dst=some d) (hi:get T t=some i) (hcs:i.zero.cells?=some cs) (hcell:∀ x∈cs,x.isCell=true) (K:St→Prop)
  (h:K ⟨(d,.loc d 0)::unloc d s.t,(d,cs)::s.b⟩) (hn:bJ Γ a (some d) w K next):o.wpIn Γ.F Γ.n Γ.P a w next Q:=by
 obtain ⟨c,hW,ht⟩:=hI.ex
 have hdlt:=hd d hdst
 obtain ⟨z,z1,z2,z3⟩:=jx hT (w:=w) hi hcs
 have hnb:=hW.newBox d t (cs:=cs) (vs:=z.cells) (by rw [z2]) hcell (fun i x v h1 h2 => .of_RD (z3 _ i x v h1 h2))
 refine aP hΓ (by rw [ho]; intro c hc; cases hc) (v := .pointer (some ⟨w.heap.size,0,none⟩)) (w':=w.alloc (.cells z.cells t)) ?_ ?_
 ·simp only [execOp,ho,Instr.alloc,Sem.run_bind,z1,Result.andThen_ok,newVar,newRow,run_newObj,Sem.run_pure,World.alloc_eq]
 ·rw [hdst]
  exact hn _ _ _ h (hI.next (fV _ (bA _ _)) hnb (d:=some d) (by intro k hk; cases hk; exact hdlt) (kI ht (by rw [hI.size]; exact hdlt) _)) (fV _ (bA _ _)) (dx rfl)
include hΓ hT in
theorem IV {t:TypeId} {x:Operand} (ho:o.op = .box t x) (hI:Inv Γ s a w) (hd:∀ d,o.dst=some d→d<Γ.nt) (h:opS T (ae Γ.P) s o.dst o.type (.box t x) K) (hn:bJ Γ a o.dst w K next):o.wpIn Γ.F Γ.n Γ.P a w next Q:=by
 obtain ⟨c,hW,ht⟩:=hI.ex
 simp only [opS] at h
 split at h
 ·rename_i d i cs hdst hi hcs
  have hdlt:=hd d hdst
  cases hb:Nat.beq cs.length i.size&&cs.all (fun c=>c.isCell) with
  | false=>rw [hb] at h; exact h.elim
  | true=>
   rw [hb] at h
   simp only [cond_true] at h
   simp only [Bool.and_eq_true,List.all_eq_true] at hb
   obtain ⟨g1,g2⟩:=(aB ht x).cells0 hcs
   have hnb:=hW.newBox d t g1 hb.2 g2
   refine aP hΓ (by rw [ho]; intro c hc; cases hc) (v := .pointer (some ⟨w.heap.size,0,none⟩)) (w':=w.alloc (.cells (a.eval x).cells t)) ?_ ?_
   ·simp only [execOp,ho,Instr.box,Sem.run_bind,newVar,newRow,run_newObj,Result.andThen_ok,Sem.run_pure,World.alloc_eq]
   ·rw [hdst]
    exact hn _ _ _ h (hI.next (fV _ (bA _ _)) hnb (d:=some d) (by intro k hk; cases hk; exact hdlt) (kI ht (by rw [hI.size]; exact hdlt) _)) (fV _ (bA _ _)) (dx hdst)
 ·exact h.elim
include hΓ hT in
theorem BH {t:TypeId} {x y:Operand} (ho:o.op = .store t x y) (hI:Inv Γ s a w) (h:opS T (ae Γ.P) s o.dst o.type (.store t x y) K) (hn:bJ Γ a o.dst w K next):o.wpIn Γ.F Γ.n Γ.P a w next Q:=by
 obtain ⟨c,hW,ht⟩:=hI.ex
 simp only [opS] at h
 split at h
 ·rename_i i d off cs hdst hi hx hcs
  cases hb:Nat.beq cs.length i.size&&cs.all (fun c=>c.isCell) with
  | false=>rw [hb] at h; exact h.elim
  | true=>
   rw [hb] at h
   simp only [cond_true] at h
   simp only [Bool.and_eq_true,List.all_eq_true] at hb
   split at h
   ·rename_i b hsb
    unfold mC at hsb
    simp only [fF] at hsb
    split at hsb
    ·cases hsb
    rename_i ds hds
    cases hb2:Nat.ble (off+cs.length) ds.length&&Nat.blt 0 cs.length with
    | false=>rw [hb2] at hsb; cases hsb
    | true=>
     rw [hb2] at hsb
     simp only [cond_true,Option.some.injEq] at hsb
     subst hsb
     simp only [Bool.and_eq_true] at hb2
     have hle:=Nat.le_of_ble_eq_true hb2.1
     have hpos:1≤cs.length:=Nat.le_of_ble_eq_true hb2.2
     have hne:ds≠[]:=by rintro rfl; rw [List.length_nil] at hle; omega
     obtain ⟨q1,q2,q3,vs,U,q4,q5,q6⟩:=hW.box d ds hds hne
     obtain ⟨g1,g2⟩:=(aB ht y).cells0 hcs
     have hp:=aB ht x
     rw [hx] at hp
     have hone:∀ v∈(a.eval y).cells.toList,v.oneCell'=true:=by
      intro v hv
      obtain ⟨n,hn',hv'⟩:=List.getElem_of_mem hv
      have hlt:n<cs.length:=by rw [g1]; simpa using hn'
      have h1:(a.eval y).cells[n]?=some v:=by
       rw [← hv',← Array.getElem?_toList]; exact List.getElem?_eq_getElem hn'
      exact ((g2 n _ v (List.getElem?_eq_getElem hlt) h1).one (hb.2 _ (List.getElem_mem hlt))).1
     have hst:=run_storeCells_at Γ.P (c.ρ d) off U (a.eval y).cells.toList 0 vs w q4 (by simp only [Nat.add_zero,Array.length_toList]; omega) hone
     have hrow:gc c (setMany ds off cs) (vs.toList.take (off+0)++(a.eval y).cells.toList++vs.toList.drop (off+0+(a.eval y).cells.toList.length)).toArray:=by
      have h1:=gc.setMany (c:=c) (ds:=cs) (us:=(a.eval y).cells.toList) (cs:=ds) (vs:=vs) ⟨q5,q6⟩ (by simpa using g1) (fun i x v h1 h2=>g2 i x v h1 (by simpa using h2)) off
      have h2:=o9 (a.eval y).cells.toList off vs
      refine ⟨by rw [h1.1,h2.1]; simp; omega,fun n x v e1 e2=>h1.2 n x v e1 ?_⟩
      rw [h2.2,← e2,uL _ _ _ _ (by simp only [Array.length_toList]; omega),Nat.add_zero]
      by_cases c1:off≤n∧n<off+(a.eval y).cells.toList.length
      ·rw [if_pos ⟨c1.1,c1.2,by simp at c1; omega⟩,if_pos c1]
      ·rw [if_neg (fun hh=>c1 ⟨hh.1,hh.2.1⟩),if_neg c1]; simp
     obtain ⟨W1,W2⟩:=hW.storeBox hds hne hrow.1 (fun z hz=>by rcases ip cs ds off z hz with h | h; exact hb.2 z h; exact q3 z h) hrow.2
     refine gG hΓ (by rw [ho]; intro c hc; cases hc) (w':=w.setRow (c.ρ d) (vs.toList.take (off+0)++(a.eval y).cells.toList++vs.toList.drop (off+0+(a.eval y).cells.toList.length)).toArray) ?_ ?_
     ·have hsz:(a.eval y).cells.size=i.size:=by rw [← g1]; exact Nat.eq_of_beq_eq_true hb.1
      simp only [execOp,ho,hp.loc,Instr.storeAt,Instr.sureAddr,Sem.run_bind,Sem.run_pure,Result.andThen_ok,storeVar,bF hT hi,hsz,ne_eq,not_true_eq_false,if_false,hst]
     ·rw [hdst]
      exact hn _ _ _ h (hI.next W2 W1 (d:=none) (v:=Go.undef) (by intro k hk; cases hk) ht) W2 (gM hdst)
   ·exact h.elim
 ·exact h.elim
end
end Go.AI
namespace Go.AI
open Go
open Go.RowKit (Below)
section
variable {Γ:aH} (hΓ:Γ.OK) {T:Tab} (hT:T.OK Γ.P) {s:St} {K:St→Prop} {o:Oper} {a:Act} {w:World}
 {next:Act→World→Prop} {Q:Exit→Act→World→Prop}
theorem De (s:St) (d:Nat) (cs:List AV) (k:Nat):get (s.frz d cs).t k=(get s.t k).map (AV.frz d cs):=by unfold St.frz; rw [jJ]; exact gn (fun (_:Nat) (v:AV)=>v.frz d cs) s.t k
theorem m9:∀ (xs:List Operand) (s:St) (K:St→List AV→Prop) (c:Ctx),Dn xs s K→WI Γ c s.b w→(∀ k x,get s.t k=some x→RC c x (a.tmps.getD k Go.undef)) →
  ∃ s' l c',K s' l∧c.m.le c'.m∧WI Γ c' s'.b w∧(∀ k x,get s'.t k=some x→RC c' x (a.tmps.getD k Go.undef))∧l.length=xs.length∧∀ (i:Nat) (x:AV) (p:Operand),l[i]?=some x→xs[i]?=some p→RD c'.m x (a.eval p)
 | [],s,K,c,h,hW,ht=>⟨s,[],c,h,.refl _,hW,ht,rfl,by simp⟩
 | p::r,s,K,c,h,hW,ht=>by
  have hp:=aB ht p
  have plain:∀ v,ev s p=v→(bif v.isCell then Dn r s (fun s l=>K s (v.pub1::l)) else False)→∃ s' l c',K s' l∧c.m.le c'.m∧WI Γ c' s'.b w∧(∀ k x,get s'.t k=some x→RC c' x (a.tmps.getD k Go.undef))∧l.length=(p::r).length ∧
    ∀ (i:Nat) (x:AV) (q:Operand),l[i]?=some x→(p::r)[i]?=some q→RD c'.m x (a.eval q):=by
   intro v hv h
   cases hc:v.isCell with
   | false=>rw [hc] at h; exact h.elim
   | true=>
    rw [hc] at h
    obtain ⟨s',l,c',g1,g2,g3,g4,g5,g6⟩:=m9 r s _ c h hW ht
    refine ⟨s',_,c',g1,g2,g3,g4,by simp [g5],fun i x q h1 h2=>?_⟩
    cases i with
    | zero=>
     simp only [List.getElem?_cons_zero,Option.some.injEq] at h1 h2
     subst h1
     subst h2
     rw [hv] at hp
     have:RC1 c v (a.eval p):=(RC.iff (by rintro cs rfl; simp [AV.isCell] at hc)).1 hp
     exact this.pub.mono g2
    | succ i=>exact g6 i x q h1 h2
  unfold Dn at h
  split at h
  ·rename_i d hev
   split at h
   ·rename_i y ys hb
    obtain ⟨m',m1,m2,m3⟩:=hW.freeze hb (by simp)
    have ht2:∀ k x,get (s.frz d ((y::ys).map AV.pub1)).t k=some x→RC (c.mem m') x (a.tmps.getD k Go.undef):=by
     intro k x hk
     rw [De] at hk
     obtain ⟨z,hz,rfl⟩:=Option.map_eq_some_iff.1 hk
     exact (ht k z hz).frz m1 m3
    obtain ⟨s',l,c',g1,g2,g3,g4,g5,g6⟩:=m9 r (s.frz d ((y::ys).map AV.pub1)) _ (c.mem m') h m2 ht2
    refine ⟨s',_,c',g1,m1.trans g2,g3,g4,by simp [g5],fun i x q h1 h2=>?_⟩
    cases i with
    | zero=>
     simp only [List.getElem?_cons_zero,Option.some.injEq] at h1 h2
     subst h1
     subst h2
     rw [hev] at hp
     rw [show a.eval p=_ from hp.loc]
     exact m3.mono g2
    | succ i=>exact g6 i x q h1 h2
   ·exact h.elim
  ·exact plain _ rfl h
include hΓ in
theorem Aj {f:FuncId} {first captured:Array Operand} (ho:o.op = .makeFunc (.func f) first captured) (hI:Inv Γ s a w) (hd:∀ d,o.dst=some d→d<Γ.nt)
  (h:opS T (ae Γ.P) s o.dst o.type (.makeFunc (.func f) first captured) K) (hn:bJ Γ a o.dst w K next):o.wpIn Γ.F Γ.n Γ.P a w next Q:=by
 obtain ⟨c,hW,ht⟩:=hI.ex
 simp only [opS] at h
 cases hf:first.toList.isEmpty with
 | false=>rw [hf] at h; exact h.elim
 | true=>
  rw [hf] at h
  simp only [cond_true] at h
  obtain ⟨s',l,c',g1,g2,g3,g4,g5,g6⟩:=m9 _ s _ c h hW ht
  have hfirst:first=#[]:=by
   obtain ⟨fl⟩:=first
   cases fl with
   | nil=>rfl
   | cons _ _=>cases hf
  have hrd:RD c'.m (.clo f l) (.func (.func f) #[] (captured.map a.eval)):=by
   refine .clo _ _ _ (by simpa using g5) (fun i x v h1 h2=>?_)
   rw [Array.getElem?_map] at h2
   obtain ⟨q,hq,rfl⟩:=Option.map_eq_some_iff.1 h2
   exact g6 i x q h1 (by simpa using hq)
  refine aP hΓ (by rw [ho]; intro c hc; cases hc) (v := .func (.func f) #[] (captured.map a.eval)) (w':=w) (by simp only [execOp,ho,Instr.makeFunc,hfirst,Sem.run_bind,Sem.run_pure,Result.andThen_ok,List.map_toArray,List.map_nil]) ?_
  obtain ⟨t,b⟩:=s'
  cases hdst:o.dst with
  | none=>
   rw [hdst] at g1
   exact hn _ _ _ g1 (hI.next (.refl w) g3 (d:=none) (v:=Go.undef) (by intro k hk; cases hk) g4) (.refl w) (gM hdst)
  | some d=>
   rw [hdst] at g1
   have hdlt:=hd d hdst
   exact hn _ _ _ g1 (hI.next (.refl w) g3 (d:=some d) (by intro k hk; cases hk; exact hdlt) (bV g4 (by rw [hI.size]; exact hdlt) (RC.of_RD hrd))) (.refl w) (dx hdst)
include hΓ in
theorem HU {x:Operand} (hx:x = .const (.slice none 0 0)) (ho:o.op = .assign x∨o.op = .move x) (hI:Inv Γ s a w) (hd:∀ d,o.dst=some d→d<Γ.nt)
  (h:match o.dst,get T o.type with
   | some d,some i=>match get T i.elem with
    | some j=>bif Nat.beq i.kind 3 then match s.dem d with | ⟨t,b⟩=>K ⟨(d,.sl (.id d) j.size [])::t,b⟩ else False
    | none=>False
   | _,_=>False) (hn:bJ Γ a o.dst w K next):o.wpIn Γ.F Γ.n Γ.P a w next Q:=by
 obtain ⟨c,hW,ht⟩:=hI.ex
 split at h
 ·rename_i d i hdst hi
  have hdlt:=hd d hdst
  split at h
  ·rename_i j hj
   cases hk:Nat.beq i.kind 3 with
   | false=>rw [hk] at h; exact h.elim
   | true=>
    rw [hk] at h
    have hW1:=hW.own_none d j.size (.slice none 0 0) (.inl rfl) rfl
    have hrun:(execOp a.eval o).run Γ.P w = .ok (.value (.slice none 0 0)) w:=by
     subst hx
     rcases ho with ho | ho <;> (simp only [execOp,ho]; rfl)
    refine aP hΓ (by rcases ho with ho | ho <;> (rw [ho]; intro c hc; cases hc)) hrun ?_
    rw [hdst]
    refine hn _ _ _ h (EB hI hdlt ht (.refl _) (.refl w) hW1 ((RC.iff (by intro cs hc; cases hc)).2 ⟨by simp [Ctx.own],fun hh=>(by cases hh),?_⟩)) (.refl w) (dx hdst)
    exact .sl _ _ _ _ _ _ (by intro k hk; cases hk) (by intro hk; cases hk) rfl (Nat.le_refl _) (by simp) (by simp) 0 0 (by omega) (fun _ _=>Go.undef) (by simp) (by simp)
  ·exact h.elim
 ·exact h.elim
theorem mj (zs:Array Value) (n k:Nat) (hz:0<zs.size) (hk:k<n):(madeCells zs n)[k]?=zs[k % zs.size]?:=by
 have hm:k % zs.size<zs.size:=Nat.mod_lt _ hz
 simp [madeCells,hk,hm]
include hΓ hT in
theorem xf {t:TypeId} {p q:Operand} (ho:o.op = .makeSlice t p q) (hI:Inv Γ s a w) (hd:∀ d,o.dst=some d→d<Γ.nt)
  (h:opS T (ae Γ.P) s o.dst o.type (.makeSlice t p q) K) (hn:bJ Γ a o.dst w K next):o.wpIn Γ.F Γ.n Γ.P a w next Q:=by
 obtain ⟨c,hW,ht⟩:=hI.ex
 simp only [opS] at h
 split at h
 ·rename_i d i hdst hi
  have hdlt:=hd d hdst
  split at h
  ·rename_i j hj
   split at h
   ·rename_i k1 l k2 n hl hc
    split at h
    ·rename_i zs hzs
     cases hb:Nat.beq i.kind 3&&Nat.beq zs.length j.size&&zs.all (fun c=>c.isCell)&&Nat.blt 0 j.size with
     | false=>rw [hb] at h; exact h.elim
     | true=>
      rw [hb] at h
      simp only [cond_true] at h
      simp only [Bool.and_eq_true,List.all_eq_true] at hb
      obtain ⟨⟨⟨b1,b2⟩,b3⟩,b4⟩:=hb
      obtain ⟨h0,hlc,hroom,hmax,hK⟩:=h
      have hpos:0<j.size:=Nat.le_of_ble_eq_true b4
      have hu:=bK hT hi (Nat.eq_of_beq_eq_true b1)
      have hzl:=Nat.eq_of_beq_eq_true b2
      obtain ⟨q',z,q1,q2,q3,q4,q5,_⟩:=gE (c:=c) w hT hj hzs hzl
      obtain ⟨z',z1,z2,z3⟩:=jx hT (w:=w) hj hzs
      have hzz:z'=z:=by
       simp only [zeroValue,typeInfo,Sem.run_bind,run_program,Result.andThen_ok,q1,Sem.run_pure,q4,Result.ok.injEq,and_true] at z1
       exact z1.symm
      subst hzz
      have hp:=aB ht p
      rw [hl] at hp
      have hq:=aB ht q
      rw [hc] at hq
      have hbytes:(q'.bytes:Int)*n≤281474976710656:=by
       unfold eA at hroom
       have:((n.toNat*j.bytes:Nat):Int)≤70368744177664:=by omega
       rw [q3,Int.mul_comm]
       rw [Int.natCast_mul,Int.toNat_of_nonneg (by omega)] at this
       omega
      have hrun:=run_make (P:=Γ.P) w t i.elem q' z' hu q1 q4 k1 k2 l n h0 hlc hbytes (by omega)
      rw [q2] at hrun
      have hsz:(madeCells z'.cells (n.toNat*j.size)).size=n.toNat*j.size:=by simp [madeCells]
      obtain ⟨W1,W2,W3⟩:=hW.own_new d j.size l.toNat n.toNat (madeCells z'.cells (n.toNat*j.size)) i.elem hsz (by omega)
      refine aP hΓ (by rw [ho]; intro c hc; cases hc) (v := .slice (some ⟨w.heap.size,0,none⟩) l.toNat n.toNat) (w':=w.alloc (.cells (madeCells z'.cells (n.toNat*j.size)) i.elem)) ?_ ?_
      ·simp only [execOp,ho,hp.int,hq.int,Sem.run_bind,hrun,Result.andThen_ok,Sem.run_pure]
      ·rw [hdst]
       refine hn _ _ _ hK (EB hI hdlt ht W2 W3 W1 ((RC.iff (by intro cs hc; cases hc)).2 ⟨by simp [Ctx.own],fun _=>⟨by simp [Ctx.own],hpos⟩,?_⟩)) W3 (dx hdst)
       have hrep:∀ (i:Nat) (x:List AV),(List.replicate l.toNat zs)[i]?=some x→i<l.toNat∧x=zs:=by
        intro i x hx
        rw [List.getElem?_replicate] at hx
        split at hx
        ·cases hx; exact ⟨‹_›,rfl⟩
        ·cases hx
       refine RD.of_flat (l:=(madeCells z'.cells (n.toNat*j.size)).toList) (by intro k hk; cases hk) (by intro hk; cases hk) (by simp) (by omega) (fun x hx=>by rw [List.eq_of_mem_replicate hx]; exact hzl) (fun x hx=>by rw [List.eq_of_mem_replicate hx]; exact b3)
        (fun i x p c' h1 h2=>?_) (fun p v hp' hlt=>?_)
       ·obtain ⟨hi',hxz⟩:=hrep i x h1
        rw [hxz] at h2
        have hpl:p<zs.length:=(List.getElem?_eq_some_iff.1 h2).1
        have hpz:p<z'.cells.size:=by omega
        have hlt:i*j.size+p<n.toNat*j.size:=by
         have:(i+1)*j.size≤n.toNat*j.size:=Nat.mul_le_mul_right _ (by omega)
         rw [Nat.succ_mul] at this; omega
        refine ⟨z'.cells[p],?_,z3 _ p c' _ h2 (Array.getElem?_eq_getElem hpz)⟩
        rw [Array.getElem?_toList,mj _ _ _ (by omega) hlt]
        rw [show (i*j.size+p) % z'.cells.size=p by rw [q5,Nat.mul_comm,Nat.mul_add_mod]; exact Nat.mod_eq_of_lt (by omega)]
        exact Array.getElem?_eq_getElem hpz
       ·simp only [Ctx.own,Ctx.mem,Mem.with,Nat.zero_add,if_true]
        rw [if_pos hlt]
        simpa using hp'
    ·exact h.elim
   ·exact h.elim
  ·exact h.elim
 ·exact h.elim
include hΓ hT in
theorem bi {op:Op} (hop:o.op=op) (hI:Inv Γ s a w) (hd:∀ d,o.dst=some d→d<Γ.nt) (h:opS T (ae Γ.P) s o.dst o.type op K) (hn:bJ Γ a o.dst w K next):o.wpIn Γ.F Γ.n Γ.P a w next Q:=by
 unfold opS at h
 split at h
 ·exact IV hΓ hT hop hI hd (by simpa only [opS] using h) hn
 ·exact Hc hΓ hT hop hI hd (by simpa only [opS] using h) hn
 ·exact BH hΓ hT hop hI (by simpa only [opS] using h) hn
 ·exact Aj (T:=T) hΓ hop hI hd (by simpa only [opS] using h) hn
 ·exact HU hΓ rfl (.inl hop) hI hd h hn
 ·exact HU hΓ rfl (.inr hop) hI hd h hn
 ·exact xf hΓ hT hop hI hd (by simpa only [opS] using h) hn
 ·exact xg hΓ hT hop hI hd (by simpa only [opS] using h) hn
 ·rw [← hop] at h
  exact BG hΓ hT hI hd h hn
end
end Go.AI
namespace Go.AI
open Go
open Go.RowKit (Below)
structure Ctx.leX (k:Nat) (c c':Ctx):Prop where
 m:c.m.le c'.m
 ρ:c'.ρ=c.ρ
 τ:c'.τ=c.τ
 σ:c'.σ=c.σ
 x:∀ j,j≠k→c'.x j=c.x j∧c'.xn j=c.xn j
theorem RC1.leX_cell {k:Nat} {c c':Ctx} (h:c.leX k c') {x:AV} {v:Value} (r:RC1 c x v) (hx:x.isCell=true):RC1 c' x v:=by
 cases x with
 | me g j n xs=>simp [AV.isCell] at hx
 | loc d off=>simp [AV.isCell] at hx
 | sl o sz xs=>
  cases o with
  | id k=>obtain ⟨r1,r2,r3⟩:=r; exact ⟨by rw [h.τ]; exact r1,by rw [h.σ]; exact r2,r3.mono h.m⟩
  | no=>exact RD.mono h.m (show RD c.m _ v from r)
  | full=>exact RD.mono h.m (show RD c.m _ v from r)
 | _=>exact RD.mono h.m (show RD c.m _ v from r)
theorem RX.leX {k:Nat} {c c':Ctx} (h:c.leX k c') {g:qo} {j n:Nat} {xs:List (List AV)} {v:Value} (r:RX c g j n xs v) (hj:j≠k):RX c' g j n xs v:=by
 obtain ⟨h1,h2⟩:=h.x j hj
 cases g with
 | sl=>simp only [RX,h1,h2] at r ⊢; exact r
 | ptr sz q=>simp only [RX,h1] at r ⊢; exact r
 | arr=>
  obtain ⟨b,cells,T,r1,r0,r2,r3,r4⟩:=r
  exact ⟨b,cells,T,by rw [h1]; exact r1,by rw [h2]; exact r0,r2,r3,fun i r j y h1 h2=>let ⟨u,q1,q2⟩:=r4 i r j y h1 h2; ⟨u,q1,q2.mono h.m⟩⟩
 | mp=>simp only [RX,h1] at r ⊢; exact r
 | sub sz l=>simp only [RX,h1,h2] at r ⊢; exact r
 | box=>
  obtain ⟨cells,T,own,r1,r2,r3,r4,r5⟩:=r
  exact ⟨cells,T,own,by rw [h1]; exact r1,r2,r3,r4,fun i y u h1 h2=>(r5 i y u h1 h2).mono h.τ h.σ h.m⟩
 | ents=>
  obtain ⟨es,clock,r1,r2,r3,r4,r5,r6⟩:=r
  exact ⟨es,clock,by rw [h1]; exact r1,r2,r3,r4,fun i x e y h1 h2 h3=>(r5 i x e y h1 h2 h3).mono h.m,fun i x e y h1 h2 h3=>(r6 i x e y h1 h2 h3).mono h.m⟩
theorem RC.leX {k:Nat} {c c':Ctx} (h:c.leX k c') {x:AV} {v:Value} (r:RC c x v):RC c' (x.unme k) v:=by
 cases x with
 | me g j n xs=>
  simp only [AV.unme]
  cases hb:Nat.beq k j with
  | true=>exact RD.junk v
  | false=>exact RX.leX h (show RX c g j n xs v from r) (Ne.symm (Nat.ne_of_beq_eq_false hb))
 | agg cs=>obtain ⟨vs,r1,r2,r3,r4⟩:=r; exact ⟨vs,r1,r2,r3,fun i x u h1 h2=>(r4 i x u h1 h2).leX_cell h (r3 x (List.mem_of_getElem? h1))⟩
 | loc d off=>show v=_; rw [show c'.ρ=c.ρ from h.ρ]; exact r
 | sl o sz xs=>exact (RC.iff (by intro cs hc; cases hc)).2 (((RC.iff (by intro cs hc; cases hc)).1 r).leX_cell h rfl)
 | _=>exact RD.mono h.m (show RD c.m _ v from r)
theorem bY (f:AV→AV) (t:List (Nat×AV)) (k:Nat):get (fY f t) k=(get t k).map f:=by rw [jJ]; exact gn (fun (_:Nat) (v:AV)=>f v) t k
section
variable {Γ:aH} {c:Ctx} {bx:List (Nat×List AV)} {w:World}
theorem WI.freezeX (hW:WI Γ c bx w) {k b:Nat} {cells:Array Value} {T:TypeId} (hx:c.x k=some (b,.cells cells T (0,0))) :
  let c':Ctx:={ c with m:=c.m.with fun b' o=>if b'=b then cells[o]? else c.m b' o,x:=fun j=>if j=k then none else c.x j }
  WI Γ c' bx w∧c.leX k c':=by
 intro c'
 have hq:=hW.xo k b _ hx
 have hle:c.m.le c'.m:=⟨fun b' o v hm=>by
  show (if _ then _ else _)=_
  by_cases e:b'=b
  ·rw [if_pos e]
   have:=hW.sub.cell b' o v hm
   simpa [World.cell?,e,hq.obj] using this
  ·rw [if_neg e]; exact hm,fun _ _ h=>h⟩
 have hL:c.leX k c':=⟨hle,rfl,rfl,rfl,fun j hj=>⟨if_neg hj,rfl⟩⟩
 refine ⟨⟨hW.ext,⟨fun b' o v hm=>?_,hW.sub.map⟩,hW.le0.trans hle,⟨fun b' o v hm=>?_,hW.new.map⟩,fun d cs h hne=>?_,hW.inj,fun j=>?_,fun j b' o h=>?_⟩,hL⟩
 ·simp only [c',Mem.with] at hm
  split at hm
  ·rename_i hb; subst hb; simpa [World.cell?,hq.obj] using hm
  ·exact hW.sub.cell b' o v hm
 ·simp only [c',Mem.with] at hm
  split at hm
  ·rename_i hb; exact .inr (by rw [hb]; exact ⟨hq.new,cells,T,hq.obj⟩)
  ·exact hW.new.cell b' o v hm
 ·obtain ⟨g1,g2,g3,us,U,g4,g5,g6⟩:=hW.box d cs h hne
  refine ⟨g1,fun o=>?_,g3,us,U,g4,g5,fun i x v q1 q2=>(g6 i x v q1 q2).leX_cell hL (g3 x (List.mem_of_getElem? q1))⟩
  show (if c.ρ d=b then _ else _)=_
  rw [if_neg (hq.box d cs h hne)]; exact g2 o
 ·have ho:=hW.own j
  refine ⟨fun g hg=>?_,ho.shape,ho.box,ho.apart⟩
  obtain ⟨len,cap,U,cells',q1,q2,q3,q4,q5⟩:=ho.blk g hg
  refine ⟨len,cap,U,cells',q1,q2,q3,fun o ho'=>?_,q5⟩
  show (if g=b then _ else _)=_
  rw [if_neg (fun e=>by subst e; exact hq.own j hg)]; exact q4 o ho'
 ·simp only [c'] at h
  split at h
  ·cases h
  ·rename_i hj
   have hr:=hW.xo j b' o h
   refine ⟨hr.new,hr.obj,hr.kept,fun i hi=>?_,hr.map,hr.box,hr.own,fun j' o' h'=>?_⟩
   ·show (if b'=b then _ else _)=_
    rw [if_neg (fun e=>by subst e; exact hj (hq.inj j _ h))]; exact hr.mem i hi
   ·simp only [c'] at h'
    split at h'
    ·cases h'
    ·exact hr.inj j' o' h'
theorem WI.newX (hW:WI Γ c bx w) (k:Nat) (n:Nat×Nat) (o:Obj) (hk:nD o=true) (hso:nk o) :
  let c':Ctx:={ c with x:=fun j=>if j=k then some (w.heap.size,o) else c.x j,xn:=fun j=>if j=k then n else c.xn j }
  WI Γ c' bx (w.alloc o)∧c.leX k c'∧NC w (w.alloc o):=by
 intro c'
 have hL:c.leX k c':=⟨.refl _,rfl,rfl,rfl,fun j hj=>⟨if_neg hj,if_neg hj⟩⟩
 obtain ⟨g1,_,g3⟩:=hW.grow (m':=c.m) (w':=w.alloc o) ((Below.refl _ w).alloc (Nat.le_refl _) _) (.alloc w hso) (.refl _) ⟨fun b i v h=>by
  rw [World.cell?_alloc_lt _ _ _ (show (⟨b,i,none⟩:Addr).block<_ from hW.lt_m h)]; exact hW.sub.cell b i v h,fun b x h=>(Below.heap_alloc _ _ _ (hW.lt_map h)).trans (hW.sub.map b x h)⟩ ⟨fun b i v h => .inl h,fun b x h => .inl h⟩
 have hB:=hW.ext.size
 refine ⟨⟨g1.ext,g1.sub,g1.le0,g1.new,fun d cs h hne=>?_,g1.inj,fun j=>⟨(g1.own j).blk,(g1.own j).shape,(g1.own j).box,(g1.own j).apart⟩,fun j b p h=>?_⟩,hL,g3⟩
 ·obtain ⟨q1,q2,q3,us,U,q4,q5,q6⟩:=g1.box d cs h hne
  exact ⟨q1,q2,q3,us,U,q4,q5,fun i x v e1 e2=>(q6 i x v e1 e2).leX_cell (c:=c) hL (q3 x (List.mem_of_getElem? e1))⟩
 ·simp only [c'] at h
  split at h
  ·rename_i hj
   cases h
   refine ⟨dD hB,World.alloc_heap_new _ _,hk,fun i _=>?_,?_,fun d cs h hne e=>?_,fun j' hj'=>?_,fun j' o' h'=>?_⟩
   ·show c.m w.heap.size i=none
    cases hm:c.m w.heap.size i with
    | none=>rfl
    | some v=>have:=hW.lt_m hm; omega
   ·show c.m.maps w.heap.size=none
    cases hm:c.m.maps w.heap.size with
    | none=>rfl
    | some v=>have:=hW.lt_map hm; omega
   ·have:=hW.lt_box h hne
    simp only [c'] at e
    omega
   ·have:=hW.lt_own (k:=j') (g:=w.heap.size) hj'
    omega
   ·simp only [c'] at h'
    split at h'
    ·rename_i e; rw [e,hj]
    ·have:=hW.lt_x h'; omega
  ·rename_i hj
   have hr:=g1.xo j b p h
   have hlt:=hW.lt_x h
   refine ⟨hr.new,hr.obj,hr.kept,hr.mem,hr.map,hr.box,hr.own,fun j' o' h'=>?_⟩
   simp only [c'] at h'
   split at h'
   ·cases h'; omega
   ·exact hr.inj j' o' h'
theorem WI.storeX (hW:WI Γ c bx w) {k b:Nat} {cells:Array Value} {T:TypeId} (hx:c.x k=some (b,.cells cells T (0,0))) (cells':Array Value) (hag:∀ o v,c.m b o=some v→cells'[o]?=some v) :
  let c':Ctx:={ c with x:=fun j=>if j=k then some (b,.cells cells' T (0,0)) else c.x j }
  WI Γ c' bx (w.setRow b cells')∧c.leX k c'∧NC w (w.setRow b cells'):=by
 intro c'
 have hq:=hW.xo k b _ hx
 have hB:=hW.ext.size
 have hn:=hq.new
 have hL:c.leX k c':=⟨.refl _,rfl,rfl,rfl,fun j hj=>⟨if_neg hj,rfl⟩⟩
 refine ⟨⟨hW.ext.trans ⟨rfl,rfl,rfl,by simp,fun q hq'=>setRow_other _ _ _ _ (d7 hq' hn)⟩,⟨fun b' o v hm=>?_,fun b' x hm=>by
  have hm:=hW.sub.map b' x hm
  have hqo:=hq.obj
  rw [setRow_other _ _ _ _ (fun e=>by rw [e,hqo] at hm; cases hm)]; exact hm⟩,hW.le0,hW.new.keep (fun _ h=>jA h _ _),fun d cs h hne=>?_,hW.inj,fun j=>?_,fun j b' o h=>?_⟩,hL,lP hq.obj _⟩
 ·by_cases hb:b'=b
  ·subst hb
   simp only [World.cell?,setRow_heap _ _ _ _ _ _ hq.obj]
   simpa using hag o v hm
  ·rw [cell_setRow_other _ _ _ _ hb]; exact hW.sub.cell b' o v hm
 ·obtain ⟨g1,g2,g3,us,U,g4,g5,g6⟩:=hW.box d cs h hne
  refine ⟨g1,g2,g3,us,U,?_,g5,fun i x v q1 q2=>(g6 i x v q1 q2).leX_cell hL (g3 x (List.mem_of_getElem? q1))⟩
  rw [setRow_other _ _ _ _ (hq.box d cs h hne)]; exact g4
 ·have ho:=hW.own j
  refine ⟨fun g hg=>?_,ho.shape,ho.box,ho.apart⟩
  obtain ⟨len,cap,U,cells'',q1,q2,q3⟩:=ho.blk g hg
  refine ⟨len,cap,U,cells'',q1,?_,q3⟩
  rw [setRow_other _ _ _ _ (fun e=>by subst e; exact hq.own j hg)]; exact q2
 ·simp only [c'] at h
  split at h
  ·rename_i hj
   subst hj
   cases h
   refine ⟨hq.new,setRow_heap _ _ _ _ _ _ hq.obj,rfl,hq.mem,hq.map,hq.box,hq.own,fun j' o' h'=>?_⟩
   simp only [c'] at h'
   split at h'
   ·assumption
   ·exact hq.inj j' o' h'
  ·rename_i hj
   have hr:=hW.xo j b' o h
   have hne:b'≠b:=fun e=>by subst e; exact hj (hq.inj j _ h)
   refine ⟨hr.new,?_,hr.kept,hr.mem,hr.map,hr.box,hr.own,fun j' o' h'=>?_⟩
   ·rw [setRow_other _ _ _ _ hne]; exact hr.obj
   ·simp only [c'] at h'
    split at h'
    ·cases h'; exact absurd rfl hne
    ·exact hr.inj j' o' h'
end
end Go.AI
namespace Go.AI
open Go
open Go.RowKit (Below)
section
variable {Γ:aH} (hΓ:Γ.OK) {T:Tab} (hT:T.OK Γ.P) {s:St} {K:St→Prop} {o:Oper} {a:Act} {w:World}
 {next:Act→World→Prop} {Q:Exit→Act→World→Prop}
theorem zZ {k sz:Nat} {xs:List (List AV)} (h:el s k=some (sz,xs)):get s.t (xk k)=some (.me .arr k sz xs):=by
 unfold el at h
 split at h
 ·rename_i k' sz' xs' hg
  cases hb:Nat.beq k' k with
  | false=>rw [hb,Bool.false_and] at h; cases h
  | true=>
   cases hc:Nat.beq (lo k) 0 with
   | false=>rw [hc,Bool.and_false] at h; cases h
   | true=>rw [hb,hc] at h; cases h; rw [hg,Nat.eq_of_beq_eq_true hb]
 ·cases h
theorem kj {k sz:Nat} {xs:List (List AV)} (h:el s k=some (sz,xs)):lo k=0:=by
 unfold el at h
 split at h
 ·cases hc:Nat.beq (lo k) 0 with
  | false=>rw [hc,Bool.and_false] at h; cases h
  | true=>exact Nat.eq_of_beq_eq_true hc
 ·cases h
theorem XOK.none {c:Ctx} {bx:List (Nat×List AV)} {k b:Nat} {p:Obj} (h:XOK Γ c bx w k b p) (hk:lo k=0) (i:Nat):c.m b i=none:=h.mem i (by omega)
theorem XOK.ag {c:Ctx} {bx:List (Nat×List AV)} {k b:Nat} {p:Obj} (h:XOK Γ c bx w k b p) (hk:lo k=0) {cells:Array Value} (i:Nat) (v:Value) (hv:c.m b i=some v):cells[i]?=some v:=by
 rw [h.none hk i] at hv; cases hv
theorem nb {c:Ctx} {k sz:Nat} {xs:List (List AV)} (ht:∀ d x,get s.t d=some x→RC c x (a.tmps.getD d Go.undef)) (h:el s k=some (sz,xs)) :
  ∃ b cells T,c.x k=some (b,.cells cells T (0,0))∧(xs.length=(c.xn k).1∧(c.xn k).2*sz≤cells.size)∧xs.length*sz≤cells.size∧(∀ r∈xs,r.length=sz∧∀ y∈r,y.isCell=true) ∧
   ∀ (i:Nat) (r:List AV) (j:Nat) (y:AV),xs[i]?=some r→r[j]?=some y→∃ u,cells[i*sz+j]?=some u∧RD c.m y u:=ht _ _ (zZ h)
theorem cX:∀ (l:List Operand) (s:St),gV s l K→Inv Γ s a w→∃ s',K s'∧Inv Γ s' a w
 | [],s,h,hI=>⟨s,h,hI⟩
 | x::r,s,h,hI=>by
  unfold gV at h
  split at h
  ·rename_i k n ys hx
   split at h
   ·rename_i sz xs hc
    rw [St.go_eq] at h
    refine cX r _ h ?_
    obtain ⟨⟨c,hW,ht⟩,h2,h3,h4⟩:=hI
    obtain ⟨b,cells,U,e1,e2,e3,e4,e5⟩:=nb ht hc
    obtain ⟨g1,g2⟩:=hW.freezeX e1
    refine ⟨⟨_,g1,fun d y hy=>?_⟩,h2,h3,h4⟩
    rw [bY] at hy
    obtain ⟨z,hz,rfl⟩:=Option.map_eq_some_iff.1 hy
    have hr:=ht d z hz
    have hun:=hr.leX g2
    have key:∀ n,RX c .sl k n [] (a.tmps.getD d Go.undef)→RD (c.m.with fun b' o=>if b'=b then cells[o]? else c.m b' o) (.sl .no sz xs) (a.tmps.getD d Go.undef):=fun n hz=>by
     obtain ⟨b',cells',U',cap,f1,f2,f3,f4⟩:=hz
     rw [e1] at f1
     cases f1
     rw [f2]
     have hm:c.m.le (c.m.with fun b' o=>if b'=b then cells[o]? else c.m b' o):=g2.m
     refine .sl _ _ _ _ _ _ (by intro k hk; cases hk) (by intro hk; cases hk) (by omega) f4 (fun r hr=>(e4 r hr).1) (fun r hr=>(e4 r hr).2) b 0 (fun _=>rfl) (fun i j=>(cells[i*sz+j]?).getD Go.undef) (fun i r j y h1 h2=>?_) (fun i r j y h1 h2=>?_)
     ·obtain ⟨u,q1,q2⟩:=e5 i r j y h1 h2
      show (if _ then _ else _)=_; rw [if_pos rfl,Nat.zero_add,q1]; rfl
     ·obtain ⟨u,q1,q2⟩:=e5 i r j y h1 h2
      rw [q1]; exact q2.mono hm
    cases z with
    | me g k' n' zs=>
     simp only [AV.frzx,AV.unme] at hun ⊢
     cases hb:Nat.beq k k' with
     | false=>rw [hb] at hun; exact hun
     | true=>
      have hk:=Nat.eq_of_beq_eq_true hb
      subst hk
      cases g with
      | sl=>exact key n' (by obtain ⟨b',cells',U',cap,f⟩:=(show RX c .sl k n' zs _ from hr); exact ⟨b',cells',U',cap,f⟩)
      | _=>exact RD.junk _
    | _=>exact hun
   ·exact h.elim
  ·exact cX r s h hI
include hΓ in
theorem lZ {c:Ctx} (hI:Inv Γ s a w) (hd:∀ d,o.dst=some d→d<Γ.nt) (hW:WI Γ c s.b w) (ht:∀ d x,get s.t d=some x→RC c x (a.tmps.getD d Go.undef)) (hnd:∀ c,o.op≠.defer c)
  {x:AV} {v:Value} (hx:RC c x v) (hrun:(execOp a.eval o).run Γ.P w = .ok (.value v) w) (h:ef s o.dst x K) (hn:bJ Γ a o.dst w K next):o.wpIn Γ.F Γ.n Γ.P a w next Q:=by
 refine aP hΓ hnd hrun ?_
 obtain ⟨t,b⟩:=s
 cases hdst:o.dst with
 | none=>
  rw [hdst] at h
  exact hn _ _ _ h (hI.next (.refl w) hW (d:=none) (v:=Go.undef) (by intro k hk; cases hk) ht) (.refl w) (by rw [hdst]; exact ⟨Go.undef,rfl⟩)
 | some d=>
  rw [hdst] at h
  have hdlt:=hd d hdst
  exact hn _ _ _ h (hI.next (.refl w) hW (d:=some d) (v:=v) (by intro k hk; cases hk; exact hdlt) (bV ht (by rw [hI.size]; exact hdlt) hx)) (.refl w) (dx hdst)
include hΓ hT in
theorem pp {t:TypeId} {x y:Operand} {k len:Nat} {zs:List (List AV)} {q:IntKind} {i:Int} (hop:o.op = .indexAddr t x y) (hI:Inv Γ s a w) (hd:∀ d,o.dst=some d→d<Γ.nt) (hx:ev s x = .me .sl k len zs) (hy:ev s y = .int q i)
  (h:jt T s o.dst t k len i K) (hn:bJ Γ a o.dst w K next):o.wpIn Γ.F Γ.n Γ.P a w next Q:=by
 obtain ⟨c,hW,ht⟩:=hI.ex
 unfold jt at h
 split at h
 ·exact h.elim
 rename_i ti hi
 split at h
 ·exact h.elim
 rename_i j hj
 split at h
 ·exact h.elim
 rename_i sz xs hc
 cases hb:(Nat.beq ti.kind 3&&Nat.beq j.size sz) with
 | false=>rw [hb] at h; exact h.elim
 | true=>
  rw [hb] at h
  obtain ⟨h0,h1,h⟩:=h
  simp only [Bool.and_eq_true] at hb
  have hu:=bK hT hi (Nat.eq_of_beq_eq_true hb.1)
  have hsz:=Nat.eq_of_beq_eq_true hb.2
  have hrx:=aB ht x
  rw [hx] at hrx
  obtain ⟨b,cells,U,cap,e1,e2,e3,e4⟩:=(show RX c .sl k len zs (a.eval x) from hrx)
  have hry:=aB ht y
  rw [hy] at hry
  refine lZ hΓ hI hd hW ht (by rw [hop]; intro c hc; cases hc) (x := .me (.ptr sz 0) k i.toNat []) (v := .pointer (some ⟨b,i.toNat*sz+0,none⟩)) ⟨b,cells,U,e1,rfl⟩ ?_ h hn
  simp only [execOp,hop,e2,hry.int,Instr.indexAt,asIntOf,Sem.run_bind,Sem.run_pure,Result.andThen_ok,run_underlying hu]
  rw [if_pos ⟨h0,by omega⟩]
  simp only [Sem.run_bind,bF hT hj,Result.andThen_ok,Sem.run_pure,hsz,cG,Nat.zero_add,Nat.add_zero]
include hΓ hT in
theorem pq {t:TypeId} {x:Operand} {f sz j k i:Nat} {zs:List (List AV)} (hop:o.op = .fieldAddr t x f) (hI:Inv Γ s a w) (hd:∀ d,o.dst=some d→d<Γ.nt) (hx:ev s x = .me (.ptr sz j) k i zs)
  (h:ju T s o.dst t f sz j k i K) (hn:bJ Γ a o.dst w K next):o.wpIn Γ.F Γ.n Γ.P a w next Q:=by
 obtain ⟨c,hW,ht⟩:=hI.ex
 unfold ju at h
 split at h
 ·exact h.elim
 rename_i ti hi
 cases hk:Nat.beq ti.kind 1 with
 | false=>rw [hk] at h; exact h.elim
 | true=>
  rw [hk] at h
  simp only [cond_true] at h
  obtain ⟨fs,hu,hfl⟩:=jz hT hi (Nat.eq_of_beq_eq_true hk)
  split at h
  ·exact h.elim
  rename_i off ft hn'
  rw [d6,hfl,List.getElem?_map] at hn'
  obtain ⟨fd,hfd,hfd2⟩:=Option.map_eq_some_iff.1 hn'
  simp only [Prod.mk.injEq] at hfd2
  obtain ⟨rfl,rfl⟩:=hfd2
  have hfd':fs[f]?=some fd:=by simpa using hfd
  split at h
  ·exact h.elim
  rename_i u hj
  cases hj0:Nat.beq u.size 0 with
  | true=>rw [hj0] at h; exact h.elim
  | false=>
   rw [hj0] at h
   simp only [cond_false] at h
   have hrx:=aB ht x
   rw [hx] at hrx
   obtain ⟨b,cells,U,e1,e2⟩:=(show RX c (.ptr sz j) k i zs (a.eval x) from hrx)
   refine lZ hΓ hI hd hW ht (by rw [hop]; intro c hc; cases hc) (x := .me (.ptr sz (j+fd.offset)) k i []) (v := .pointer (some ⟨b,i*sz+(j+fd.offset),none⟩)) ⟨b,cells,U,e1,rfl⟩ ?_ h hn
   simp only [execOp,hop,e2,Instr.fieldAt,Sem.run_bind,run_underlying hu,Result.andThen_ok,hfd',Instr.sureAddr,Sem.run_pure,eT hT hj hj0 rfl,Nat.add_assoc]
include hΓ hT in
theorem Eg {t:TypeId} {x:Operand} {sz j k i:Nat} {zs:List (List AV)} (hop:o.op = .load t x) (hI:Inv Γ s a w) (hd:∀ d,o.dst=some d→d<Γ.nt) (hx:ev s x = .me (.ptr sz j) k i zs)
  (h:Bt T s o.dst t sz j k i K) (hn:bJ Γ a o.dst w K next):o.wpIn Γ.F Γ.n Γ.P a w next Q:=by
 obtain ⟨c,hW,ht⟩:=hI.ex
 unfold Bt at h
 split at h
 ·exact h.elim
 rename_i ti hi
 split at h
 ·exact h.elim
 rename_i sz' xs hc
 cases hb:Nat.beq sz' sz with
 | false=>rw [hb] at h; exact h.elim
 | true=>
  rw [hb] at h
  have:=Nat.eq_of_beq_eq_true hb
  subst this
  obtain ⟨r,hr,h⟩:=h
  split at h
  ·rename_i v hv
   rw [AV.go_eq] at h
   obtain ⟨b,cells,U,e1,e2,e3,e4,e5⟩:=nb ht hc
   have hq:=hW.xo k b _ e1
   have hrx:=aB ht x
   rw [hx] at hrx
   obtain ⟨b',cells',U',f1,f2⟩:=(show RX c (.ptr sz' j) k i zs (a.eval x) from hrx)
   rw [e1] at f1
   cases f1
   have hrl:=(e4 r (List.mem_of_getElem? hr)).1
   have hmul:(i+1)*sz'≤xs.length*sz':=Nat.mul_le_mul_right _ (List.getElem?_eq_some_iff.1 hr).1
   rw [Nat.add_mul,Nat.one_mul] at hmul
   have hA:∀ (p:Nat) (y:AV) (v:Value),(r.drop j)[p]?=some y→((cells.toList.drop (i*sz'+j)).take (sz' - j))[p]?=some v→RC1 c y v:=fun p y v g1 g2=>by
    rw [List.getElem?_drop] at g1
    rw [List.getElem?_take] at g2
    split at g2
    ·rw [List.getElem?_drop] at g2
     obtain ⟨u,q1,q2⟩:=e5 i r _ y hr g1
     have:cells[i*sz'+(j+p)]?=some v:=by rw [← Nat.add_assoc]; simpa using g2
     rw [q1] at this
     cases this
     exact RC1.of_RD q2
    ·cases g2
   have hB:∀ (p:Nat) (v:Value),((cells.toList.drop (i*sz'+j)).take (sz' - j))[p]?=some v→w.cell? ⟨b,i*sz'+j+p,none⟩=some v:=fun p v g=>by
    rw [List.getElem?_take] at g
    split at g
    ·rw [List.getElem?_drop] at g
     simp only [World.cell?,hq.obj]
     simpa using g
    ·cases g
   obtain ⟨u,hu1,hu2⟩:=eF (c:=c) (w:=w) hT hi (b:=b) (off:=i*sz'+j) (cells:=r.drop j) (vals:=(cells.toList.drop (i*sz'+j)).take (sz' - j)) (by simp [hrl]; omega)
    (fun y hy=>(e4 r (List.mem_of_getElem? hr)).2 y (List.mem_of_mem_drop hy)) hA hB hv
   refine lZ hΓ hI hd hW ht (by rw [hop]; intro c hc; cases hc) hu2 ?_ h hn
   simp only [execOp,hop,f2,Sem.run_bind,Instr.loadAt,Instr.sureAddr,Sem.run_pure,Result.andThen_ok,hu1]
  ·exact h.elim
end
end Go.AI
namespace Go.AI
open Go
open Go.RowKit (Below)
theorem ed {α:Type}:∀ (l:List α) (n:Nat) (v:α),(bB l n v).length=l.length
 | [],_,_=>rfl
 | _::_,0,_=>rfl
 | _::r,n+1,v=>by simp [bB,ed r n v]
theorem kC {α:Type}:∀ (ds l:List α) (off p:Nat),(setMany l off ds)[p]?=if off≤p∧p<off+ds.length∧p<l.length then ds[p - off]? else l[p]?
 | [],l,off,p=>by rw [if_neg (by simp; omega)]; rfl
 | d::ds,l,off,p=>by
  rw [setMany,kC ds,ed,cR]
  by_cases h1:off=p
  ·subst h1
   rw [if_neg (by omega)]
   by_cases h2:off<l.length
   ·rw [if_pos ⟨rfl,h2⟩,if_pos ⟨Nat.le_refl _,by simp,h2⟩]; simp
   ·rw [if_neg (by omega),if_neg (by omega)]
  ·by_cases h2:off+1≤p∧p<off+1+ds.length∧p<l.length
   ·rw [if_pos h2,if_pos ⟨by omega,by simp; omega,h2.2.2⟩,show p - off=(p - (off+1))+1 by omega]; simp
   ·rw [if_neg h2,if_neg (by omega),if_neg (by simp; omega)]
theorem kB {α:Type}:∀ (ds l:List α) (off:Nat),(setMany l off ds).length=l.length
 | [],_,_=>rfl
 | _::ds,l,off=>by rw [setMany,kB ds,ed]
theorem eD {k:Nat} {g:qo} (hg:ep g=true):∀ {t:List (Nat×AV)},kb k t=true→∀ {d n:Nat} {xs:List (List AV)},get t d=some (.me g k n xs)→d=xk k
 | [],_,d,n,xs,h=>by simp [get] at h
 |(e,v)::r,hb,d,n,xs,h=>by
  rw [ak] at h
  split at h
  ·rename_i hd
   cases h
   simp only [kb,Nat.beq_refl,Bool.not_true,Bool.or_false,hg,Bool.false_or,Bool.and_eq_true] at hb
   rw [hd]; exact Nat.eq_of_beq_eq_true hb.1
  ·refine eD (t:=r) hg ?_ h
   unfold kb at hb
   split at hb
   ·rename_i heq; cases heq
   ·rename_i heq; simp only [List.cons.injEq] at heq; rw [heq.2]; simp only [Bool.and_eq_true] at hb; exact hb.2
   ·rename_i heq; simp only [List.cons.injEq] at heq; rw [heq.2]; exact hb
section
variable {Γ:aH} (hΓ:Γ.OK) {T:Tab} (hT:T.OK Γ.P) {s:St} {K:St→Prop} {o:Oper} {a:Act} {w:World}
 {next:Act→World→Prop} {Q:Exit→Act→World→Prop}
include hΓ hT in
theorem wN {t:TypeId} {x y:Operand} {sz j k i:Nat} {zs:List (List AV)} (hop:o.op = .store t x y) (hI:Inv Γ s a w) (hx:ev s x = .me (.ptr sz j) k i zs)
  (harr:∀ g d n xs,ep g=true→get s.t d=some (.me g k n xs)→d=xk k) (h:qr T s o.dst t sz j k i (ev s y) K) (hn:bJ Γ a o.dst w K next):o.wpIn Γ.F Γ.n Γ.P a w next Q:=by
 obtain ⟨c,hW,ht⟩:=hI.ex
 unfold qr at h
 split at h
 ·rename_i ti cs hdst hi hcs
  split at h
  ·exact h.elim
  rename_i sz' xs hc
  cases hb:(Nat.beq sz' sz&&(Nat.beq cs.length ti.size&&(cs.all (fun c=>c.isCell)&&(Nat.ble (j+cs.length) sz&&Nat.blt 0 cs.length)))) with
  | false=>rw [hb] at h; exact h.elim
  | true=>
   rw [hb] at h
   simp only [Bool.and_eq_true,List.all_eq_true] at hb
   obtain ⟨b1,b2,b3,b4,b5⟩:=hb
   have:=Nat.eq_of_beq_eq_true b1
   subst this
   have hle:=Nat.le_of_ble_eq_true b4
   have hpos:1≤cs.length:=Nat.le_of_ble_eq_true b5
   obtain ⟨r,hr,h⟩:=h
   obtain ⟨b,cells,U,e1,e2,e3,e4,e5⟩:=nb ht hc
   have hq:=hW.xo k b _ e1
   have hrx:=aB ht x
   rw [hx] at hrx
   obtain ⟨b',cells',U',f1,f2⟩:=(show RX c (.ptr sz' j) k i zs (a.eval x) from hrx)
   rw [e1] at f1
   cases f1
   have hil:=(List.getElem?_eq_some_iff.1 hr).1
   have hrl:=(e4 r (List.mem_of_getElem? hr)).1
   have hmul:(i+1)*sz'≤xs.length*sz':=Nat.mul_le_mul_right _ hil
   rw [Nat.add_mul,Nat.one_mul] at hmul
   obtain ⟨g1,g2⟩:=(aB ht y).cells0 hcs
   have hone:∀ v∈(a.eval y).cells.toList,v.oneCell'=true:=by
    intro v hv
    obtain ⟨n,hn',hv'⟩:=List.getElem_of_mem hv
    have hlt:n<cs.length:=by rw [g1]; simpa using hn'
    have h1:(a.eval y).cells[n]?=some v:=by
     rw [← hv',← Array.getElem?_toList]; exact List.getElem?_eq_getElem hn'
    exact ((g2 n _ v (List.getElem?_eq_getElem hlt) h1).one (b3 _ (List.getElem_mem hlt))).1
   have hnl:(a.eval y).cells.toList.length=cs.length:=by simp [g1]
   generalize hnews:(a.eval y).cells.toList=news at *
   have hst:=run_storeCells_at Γ.P b (i*sz'+j) U news 0 cells w hq.obj (by simp only [Nat.add_zero,Array.length_toList]; omega) hone
   simp only [Nat.add_zero] at hst
   obtain ⟨W1,W2,W3⟩:=hW.storeX e1 (cells.toList.take (i*sz'+j)++news++cells.toList.drop (i*sz'+j+news.length)).toArray (hq.ag (kj hc))
   have hrow:=fun n=>uL cells.toList news (i*sz'+j) n (by simp only [Array.length_toList]; omega)
   refine gG hΓ (by rw [hop]; intro c hc; cases hc) (w':=w.setRow b (cells.toList.take (i*sz'+j)++news++cells.toList.drop (i*sz'+j+news.length)).toArray) ?_ ?_
   ·have hsz:(a.eval y).cells.size=ti.size:=by rw [← g1]; exact Nat.eq_of_beq_eq_true b2
    simp only [execOp,hop,f2,Instr.storeAt,Instr.sureAddr,Sem.run_bind,Sem.run_pure,Result.andThen_ok,storeVar,bF hT hi,hsz,ne_eq,not_true_eq_false,if_false,hnews,hst]
   ·rw [hdst]
    refine hn _ _ _ h (hI.next W3 W1 (d:=none) (v:=Go.undef) (by intro k hk; cases hk) (fun d z hz=>?_)) W3 (gM hdst)
    rw [ak] at hz
    split at hz
    ·rename_i hd
     cases hz
     refine ⟨b,_,U,if_pos rfl,⟨by rw [ed]; exact e2.1,by
      have h22:=e2.2
      simp only [List.size_toArray,List.length_append,List.length_take,List.length_drop,Array.length_toList]
      omega⟩,?_,fun r' hr'=>?_,fun i' r' j' z' h1 h2=>?_⟩
     ·rw [ed]
      simp only [List.size_toArray,List.length_append,List.length_take,List.length_drop,Array.length_toList]
      omega
     ·obtain ⟨p,hp⟩:=List.getElem?_of_mem hr'
      rw [cR] at hp
      split at hp
      ·cases hp
       rw [fF]
       refine ⟨by rw [kB]; exact hrl,fun z hz=>?_⟩
       rcases ip _ _ _ _ hz with h | h
       ·obtain ⟨u,hu,rfl⟩:=List.mem_map.1 h
        exact AV.pub1_cell (b3 u hu)
       ·exact (e4 r (List.mem_of_getElem? hr)).2 z h
      ·exact e4 r' (List.mem_of_getElem? hp)
     ·have hil':i'<xs.length:=by have:=(List.getElem?_eq_some_iff.1 h1).1; rwa [ed] at this
      rw [hrow]
      rw [cR] at h1
      split at h1
      ·rename_i hi'
       obtain ⟨rfl,_⟩:=hi'
       cases h1
       rw [fF,kC,List.length_map] at h2
       split at h2
       ·rename_i hc2
        rw [if_pos ⟨by omega,by omega⟩,show i*sz'+j' - (i*sz'+j)=j' - j by omega]
        rw [List.getElem?_map] at h2
        obtain ⟨z0,hz0,rfl⟩:=Option.map_eq_some_iff.1 h2
        have hlt:j' - j<news.length:=by omega
        refine ⟨news[j' - j],List.getElem?_eq_getElem hlt,?_⟩
        refine (g2 _ z0 _ hz0 ?_).pub
        rw [← Array.getElem?_toList,hnews]; exact List.getElem?_eq_getElem hlt
       ·rename_i hc2
        have hj':j'<r.length:=(List.getElem?_eq_some_iff.1 h2).1
        rw [if_neg (by omega)]
        simpa using e5 i r j' z' hr h2
      ·rename_i hi'
       have hne:i≠i':=fun e=>hi' ⟨e,hil'⟩
       have hj':j'<sz':=by rw [← (e4 r' (List.mem_of_getElem? h1)).1]; exact (List.getElem?_eq_some_iff.1 h2).1
       rw [if_neg ?_]
       ·simpa using e5 i' r' j' z' h1 h2
       ·intro hc2
        rcases Nat.lt_or_gt_of_ne hne with g | g
        ·have:(i+1)*sz'≤i'*sz':=Nat.mul_le_mul_right _ g
         rw [Nat.add_mul,Nat.one_mul] at this; omega
        ·have:(i'+1)*sz'≤i*sz':=Nat.mul_le_mul_right _ g
         rw [Nat.add_mul,Nat.one_mul] at this; omega
    ·have hz':=ht d z hz
     -- heads and pointers under the same name stay
     cases z with
     | me g k' n' zs'=>
      by_cases hk:k'=k
      ·subst hk
       cases g with
       | sl=>
        obtain ⟨p1,p2,p3,p4,p5⟩:=(show RX c .sl k' n' zs' _ from hz')
        exact ⟨p1,_,U,p4,by rw [show c.x k'=_ from e1] at p5; simp only [Option.some.injEq,Prod.mk.injEq] at p5; rw [← p5.1.1]; exact if_pos rfl,p5.2⟩
       | ptr sz2 j2=>
        obtain ⟨p1,p2,p3,p5⟩:=(show RX c (.ptr sz2 j2) k' n' zs' _ from hz')
        exact ⟨p1,_,U,by rw [show c.x k'=_ from e1] at p5; simp only [Option.some.injEq,Prod.mk.injEq] at p5; rw [← p5.1.1]; exact if_pos rfl,p5.2⟩
       | arr=>exact absurd (harr _ _ _ _ rfl hz) (by assumption)
       | box=>exact absurd (harr _ _ _ _ rfl hz) (by assumption)
       | mp=>
        obtain ⟨p1,p2,p3,p5,_⟩:=(show RX c .mp k' n' zs' _ from hz')
        rw [show c.x k'=_ from e1] at p5; cases p5
       | ents=>
        obtain ⟨p2,p3,p5,_⟩:=(show RX c .ents k' n' zs' Go.undef from hz')
        rw [show c.x k'=_ from e1] at p5; cases p5
       | sub sz2 l2=>
        obtain ⟨p1,p2,p3,p4,p6,p5,p7⟩:=(show RX c (.sub sz2 l2) k' n' zs' _ from hz')
        exact ⟨p1,_,U,p4,p6,by rw [show c.x k'=_ from e1] at p5; simp only [Option.some.injEq,Prod.mk.injEq] at p5; rw [← p5.1]; exact if_pos rfl,p7⟩
      ·have:=hz'.leX W2
       simp only [AV.unme,show Nat.beq k k'=false from by cases hb:Nat.beq k k' with | false=>rfl | true=>exact absurd (Nat.eq_of_beq_eq_true hb).symm hk] at this
       exact this
     | _=>exact hz'.leX W2
 ·exact h.elim
include hΓ hT in
theorem GZ {t:TypeId} {x y:Operand} {sz j k i:Nat} {zs:List (List AV)} (hop:o.op = .store t x y) (hI:Inv Γ s a w) (hx:ev s x = .me (.ptr sz j) k i zs)
  (h:Aa T s o.dst t sz j k i (ev s y) K) (hn:bJ Γ a o.dst w K next):o.wpIn Γ.F Γ.n Γ.P a w next Q:=by
 unfold Aa at h
 cases hb:kb k s.t with
 | false=>rw [hb] at h; exact h.elim
 | true=>rw [hb] at h; exact wN hΓ hT hop hI hx (fun _ d n xs hg=>eD hg hb) h hn
end
end Go.AI
namespace Go.AI
open Go
open Go.RowKit (Below)
section
variable {Γ:aH} (hΓ:Γ.OK) {T:Tab} (hT:T.OK Γ.P) {s:St} {K:St→Prop} {o:Oper} {a:Act} {w:World}
 {next:Act→World→Prop} {Q:Exit→Act→World→Prop}
include hT in
theorem Dk {c:Ctx} {bx:List (Nat×List AV)} (hW:WI Γ c bx w) {t:Nat} {i j:TI} {o':Own} {sz sz':Nat} {ys:List (List AV)} {u v:Value} {zs:List AV} (hi:get T t=some i) (hk3:i.kind=3) (hj:get T i.elem=some j)
  (hz:j.zero.cells?=some zs) (hzl:zs.length=j.size) (hpos:0<j.size) (hx:RC1 c (.sl .full sz []) u) (hy:RC1 c (.sl o' sz' ys) v) (hsy:j.size=sz'∨ys=[]) (hroom:eA ys.length j.bytes)
  (hmax:ys.length≤4611686018427387904) (hn:0<ys.length) (ty:TypeId) :
  ∃ cap cells,(Builtin.append_ #[t,t] ty #[u,v]).run Γ.P w = .ok (.slice (some ⟨w.heap.size,0,none⟩) ys.length cap) (w.drew.alloc (.cells cells i.elem))∧ys.length≤cap∧cap*j.size≤cells.size ∧
   (∀ r∈ys,r.length=j.size∧∀ y∈r,y.isCell=true)∧∀ (p:Nat) (r:List AV) (q:Nat) (y:AV),ys[p]?=some r→r[q]?=some y→∃ u,cells[p*j.size+q]?=some u∧RD c.m y u:=by
 have hu:=bK hT hi hk3
 obtain ⟨q,z,q1,q2,q3,q4,q5,_⟩:=gE (c:=c) w hT hj hz hzl
 have hy':RD c.m (.sl .no sz' ys) v:=hy.sl_no
 obtain ⟨base',n,cap',rfl,_,_⟩:=hy'.elem
 obtain ⟨k2,k1,k2',k3,k4,k5,k6,k7,k8⟩:=hy'.flat
 subst k4
 have hsz:j.size=sz':=by
  rcases hsy with h | h
  ·exact h
  ·subst h; simp at hn
 subst hsz
 have hx':RD c.m (.sl .full sz []) u:=hx
 have hu0:∃ base,u = .slice base 0 0:=by
  generalize hav:u=av at hx'
  cases hx' with
  | sl _ _ _ base len cap ho hf hl hc=>
   have:=hf rfl
   simp at hl
   subst hl
   subst this
   exact ⟨base,rfl⟩
 obtain ⟨base,rfl⟩:=hu0
 obtain ⟨b',off',rfl,hkm⟩:=k8 hn
 have hnews:∀ p v,k2[p]?=some v→w.cell? ((⟨b',off',none⟩:Addr).add p)=some v:=fun p v h=>by rw [cG]; exact hW.sub.cell _ _ _ (hkm p v h)
 have hr47:ys.length*j.bytes≤140737488355328:=by unfold eA at hroom; omega
 have hfits:=growslice_fits (need:=ys.length) (old:=0) (bytes:=q.bytes) (by omega) (by rw [q3]; exact hr47)
 have hge:=grownCap_ge w ys.length 0 i.elem
 obtain ⟨cells,hcells⟩:∃ cells,cells=k2.toArray++Builtin.zeroCells z.cells (grownCap w ys.length 0 i.elem - ys.length):=⟨_,rfl⟩
 have hrun:(Builtin.append_ #[t,t] ty #[.slice base 0 0,.slice (some ⟨b',off',none⟩) ys.length cap']).run Γ.P w = .ok (.slice (some ⟨w.heap.size,0,none⟩) ys.length (grownCap w ys.length 0 i.elem)) (w.drew.alloc (.cells cells i.elem)):=by
  cases base with
  | none=>
   have:=run_append_nil (P:=Γ.P) w t ty i.elem q z hu q1 q4 ⟨b',off',none⟩ ys.length cap' k2 (by rw [k1,q2]) hnews hn (by omega) (by rw [q3]; omega)
   rw [this,hcells]
  | some a0=>
   have:=run_append_grow (P:=Γ.P) w t ty i.elem q z hu q1 q4 a0 0 0 [] (by simp) (by simp) ⟨b',off',none⟩ ys.length cap' k2 (by rw [k1,q2]) hnews (by omega) (by omega) (by simpa using hfits)
   simp only [Nat.zero_add] at this
   rw [this,hcells]; simp
 refine ⟨_,cells,hrun,hge,?_,fun r hr=>⟨k6 r hr,k7 r hr⟩,fun p r q y h1 h2=>?_⟩
 ·rw [hcells]; simp only [Array.size_append,List.size_toArray,size_zeroCells,q5,k1]; rw [← Nat.add_mul]; exact Nat.mul_le_mul_right _ (by omega)
 ·obtain ⟨v,g1,g2⟩:=k2' p r q y h1 h2
  refine ⟨v,?_,g2⟩
  rw [hcells,Array.getElem?_append_left (by simpa using (List.getElem?_eq_some_iff.1 g1).1)]
  simpa using g1
include hΓ hT in
theorem G0 {args:Array Operand} {ts:Array TypeId} {x y:Operand} {sz:Nat} (hop:o.op = .call { callee := .builtin .append,args:=args,argTypes:=ts }) (ha:args.toList=[x,y]) (hI:Inv Γ s a w) (hd:∀ d,o.dst=some d→d<Γ.nt)
  (hx:ev s x = .sl .full sz []) (h:Ac T s o.dst ts.toList (ev s y) K) (hn:bJ Γ a o.dst w K next):o.wpIn Γ.F Γ.n Γ.P a w next Q:=by
 obtain ⟨c,hW,ht⟩:=hI.ex
 unfold Ac at h
 split at h
 ·rename_i d t t' hdst hts
  have hdlt:=hd d hdst
  split at h
  ·exact h.elim
  rename_i ti hi
  split at h
  ·exact h.elim
  rename_i j hj
  split at h
  ·rename_i ow sz' ys hys
   cases hb:(Nat.beq ti.kind 3&&(Nat.beq t t'&&(qC j&&Nat.blt 0 j.size))) with
   | false=>rw [hb] at h; exact h.elim
   | true=>
    rw [hb] at h
    simp only [Bool.and_eq_true] at hb
    obtain ⟨b1,b2,b3,b4⟩:=hb
    have htt:=Nat.eq_of_beq_eq_true b2
    subst htt
    obtain ⟨⟨h0,hroom,hmax,h⟩,hsy⟩:=gC h
    have hpos:0<j.size:=Nat.le_of_ble_eq_true b4
    unfold qC at b3
    split at b3
    ·rename_i zs hz
     have hzl:=Nat.eq_of_beq_eq_true b3
     have hrx:=aB ht x
     rw [hx] at hrx
     have hry:=aB ht y
     rw [hys] at hry
     obtain ⟨cap,cells,r1,r2,r3,r4,r5⟩:=Dk (o':=ow) hT hW hi (Nat.eq_of_beq_eq_true b1) hj hz hzl hpos ((RC.iff (by intro cs hc; cases hc)).1 hrx) ((RC.iff (by intro cs hc; cases hc)).1 hry) hsy hroom hmax h0 o.type
     obtain ⟨args⟩:=args
     obtain ⟨ts⟩:=ts
     simp only at ha hts
     subst ha
     subst hts
     obtain ⟨W1,W2,W3⟩:=hW.drew.newX d (ys.length,cap) (.cells cells ti.elem (0,0)) rfl (bA _ _)
     refine aP hΓ (by rw [hop]; intro c hc; cases hc) (v := .slice (some ⟨w.heap.size,0,none⟩) ys.length cap) (w':=w.drew.alloc (.cells cells ti.elem)) ?_ ?_
     ·simp only [execOp,hop,Sem.run_bind,bT,Result.andThen_ok,invoke,builtin,List.map_toArray,List.map_cons,List.map_nil,r1,Sem.run_pure]
     ·have hN:NC w (w.drew.alloc (.cells cells ti.elem (0,0))):=NC.trans (show NC w w.drew from ⟨Nat.le_refl _,fun _ _ h _=>h,.drew _,fun _ h=>h⟩) W3
      rw [hdst]
      refine hn _ _ _ h (hI.next hN W1 (d:=some d) (by intro k hk; cases hk; exact hdlt) (bV (fun e z hz=>?_) (by rw [hI.size]; exact hdlt) ?_)) hN (dx hdst)
      ·rw [ak] at hz
       split at hz
       ·cases hz
        exact ⟨_,cells,ti.elem,if_pos rfl,⟨by simp,by simpa using r3⟩,Nat.le_trans (Nat.mul_le_mul_right _ r2) r3,r4,r5⟩
       ·rw [bY] at hz
        obtain ⟨z',hz',rfl⟩:=Option.map_eq_some_iff.1 hz
        exact (ht e z' hz').leX W2
      ·exact ⟨_,cells,ti.elem,cap,if_pos rfl,by rw [World.size_drew],⟨by simp,by simp⟩,r2⟩
    ·cases b3
  ·exact h.elim
 ·exact h.elim
include hΓ hT in
theorem HP {args:Array Operand} {ts:Array TypeId} {x:Operand} {t:TypeId} {k n:Nat} {zs:List (List AV)} {i:TI} (hop:o.op = .call { callee := .builtin .len,args:=args,argTypes:=ts }) (ha:args.toList=[x]) (hts:ts.toList=[t]) (hI:Inv Γ s a w)
  (hd:∀ d,o.dst=some d→d<Γ.nt) (hx:ev s x = .me .sl k n zs) (hi:get T t=some i) (hk:i.kind=3) (h:ef s o.dst (.int .i64 n) K) (hn:bJ Γ a o.dst w K next):o.wpIn Γ.F Γ.n Γ.P a w next Q:=by
 obtain ⟨c,hW,ht⟩:=hI.ex
 have hrx:=aB ht x
 rw [hx] at hrx
 obtain ⟨b,cells,U,cap,e1,e2,e3,e4⟩:=(show RX c .sl k n zs (a.eval x) from hrx)
 obtain ⟨args⟩:=args
 obtain ⟨ts⟩:=ts
 simp only at ha hts
 subst ha
 subst hts
 have hu:=bK hT hi hk
 refine lZ hΓ hI hd hW ht (by rw [hop]; intro c hc; cases hc) (x := .int .i64 n) (v := .int .i64 n) (RC.of_int _ _) ?_ h hn
 have:(Builtin.len_ #[t] o.type #[a.eval x]).run Γ.P w = .ok (.int .i64 n) w:=by rw [e2]; simp [Builtin.len_,run_underlying hu,goInt]
 simp only [execOp,hop,Sem.run_bind,bT,Result.andThen_ok,invoke,builtin,List.map_toArray,List.map_cons,List.map_nil,this,Sem.run_pure]
end
end Go.AI
namespace Go.AI
open Go
open Go.RowKit (Below)
section
variable {Γ:aH} {c:Ctx} {bx:List (Nat×List AV)} {w:World}
theorem WI.putX (hW:WI Γ c bx w) {k b:Nat} {es:Array MapEntry} {clock:Nat} (hx:c.x k=some (b,.map es clock)) (p':Obj) (hk':nD p'=true) (hso:nk p') :
  let c':Ctx:={ c with x:=fun j=>if j=k then some (b,p') else c.x j }
  WI Γ c' bx (w.putObj b p')∧c.leX k c'∧NC w (w.putObj b p'):=by
 intro c'
 have hq:=hW.xo k b _ hx
 have hB:=hW.ext.size
 have hn:=hq.new
 have hlt:=hW.lt_x hx
 have hL:c.leX k c':=⟨.refl _,rfl,rfl,rfl,fun j hj=>⟨if_neg hj,rfl⟩⟩
 have ho:∀ b',b'≠b→(w.putObj b p').heap[b']?=w.heap[b']?:=fun b' h=>World.putObj_heap_other h
 refine ⟨⟨hW.ext.trans ⟨rfl,rfl,rfl,by simp [World.putObj],fun q hq'=>ho q (d7 hq' hn)⟩,⟨fun b' o v hm=>?_,fun b' x hm=>?_⟩,hW.le0,hW.new.keep (fun _ h=>jB h hq.obj (fun _ _ h=>nomatch h) _),fun d cs h hne=>?_,hW.inj,fun j=>?_,fun j b' o h=>?_⟩,hL,⟨by simp [World.putObj],fun b' o hb ho'=>?_,.putObj w b hso,fun _ h=>jB h hq.obj (fun _ _ h=>nomatch h) _⟩⟩
 ·have hne:b'≠b:=by
   rintro rfl
   have:=hW.sub.cell b' o v hm
   simp [World.cell?,hq.obj] at this
  have h1:=hW.sub.cell b' o v hm
  simp only [World.cell?] at h1 ⊢
  rw [ho b' hne]; exact h1
 ·have hne:b'≠b:=by
   rintro rfl
   have:=hq.map
   rw [show c.m.maps b'=some x from hm] at this; cases this
  rw [ho b' hne]; exact hW.sub.map b' x hm
 ·obtain ⟨g1,g2,g3,us,U,g4,g5,g6⟩:=hW.box d cs h hne
  refine ⟨g1,g2,g3,us,U,?_,g5,fun i x v q1 q2=>(g6 i x v q1 q2).leX_cell hL (g3 x (List.mem_of_getElem? q1))⟩
  rw [ho _ (hq.box d cs h hne)]; exact g4
 ·have hw:=hW.own j
  refine ⟨fun g hg=>?_,hw.shape,hw.box,hw.apart⟩
  obtain ⟨len,cap,U,cells'',q1,q2,q3⟩:=hw.blk g hg
  refine ⟨len,cap,U,cells'',q1,?_,q3⟩
  rw [ho _ (fun e=>by subst e; exact hq.own j hg)]; exact q2
 ·simp only [c'] at h
  split at h
  ·rename_i hj
   subst hj
   cases h
   refine ⟨hq.new,World.putObj_heap_same hlt,hk',hq.mem,hq.map,hq.box,hq.own,fun j' o' h'=>?_⟩
   simp only [c'] at h'
   split at h'
   ·assumption
   ·exact hq.inj j' o' h'
  ·rename_i hj
   have hr:=hW.xo j b' o h
   have hne:b'≠b:=fun e=>by subst e; exact hj (hq.inj j _ h)
   refine ⟨hr.new,?_,hr.kept,hr.mem,hr.map,hr.box,hr.own,fun j' o' h'=>?_⟩
   ·rw [ho _ hne]; exact hr.obj
   ·simp only [c'] at h'
    split at h'
    ·cases h'; exact absurd rfl hne
    ·exact hr.inj j' o' h'
 ·have hne:b'≠b:=by
   rintro rfl
   rw [hq.obj] at hb
   cases hb
   rw [hq.kept] at ho'; cases ho'
  rw [ho _ hne]; exact hb
theorem WI.freezeMap (hW:WI Γ c bx w) {k b:Nat} {es:Array MapEntry} {clock:Nat} (hx:c.x k=some (b,.map es clock)) :
  let c':Ctx:={ c with m:=⟨c.m.cells,fun b'=>if b'=b then some (es,clock) else c.m.maps b'⟩,x:=fun j=>if j=k then none else c.x j }
  WI Γ c' bx w∧c.leX k c':=by
 intro c'
 have hq:=hW.xo k b _ hx
 have hle:c.m.le c'.m:=⟨fun _ _ _ h=>h,fun b' x hm=>by
  show (if _ then _ else _)=_
  rw [if_neg (fun e=>by subst e; rw [hq.map] at hm; cases hm)]; exact hm⟩
 have hL:c.leX k c':=⟨hle,rfl,rfl,rfl,fun j hj=>⟨if_neg hj,rfl⟩⟩
 refine ⟨⟨hW.ext,⟨hW.sub.cell,fun b' x hm=>?_⟩,hW.le0.trans hle,⟨hW.new.cell,fun b' x hm=>?_⟩,fun d cs h hne=>?_,hW.inj,fun j=>⟨(hW.own j).blk,(hW.own j).shape,(hW.own j).box,(hW.own j).apart⟩,fun j b' o h=>?_⟩,hL⟩
 ·simp only [c'] at hm
  split at hm
  ·rename_i hb; subst hb; cases hm; exact hq.obj
  ·exact hW.sub.map b' x hm
 ·simp only [c'] at hm
  split at hm
  ·rename_i hb; exact .inr (by rw [hb]; exact hq.new)
  ·exact hW.new.map b' x hm
 ·obtain ⟨g1,g2,g3,us,U,g4,g5,g6⟩:=hW.box d cs h hne
  exact ⟨g1,g2,g3,us,U,g4,g5,fun i x v q1 q2=>(g6 i x v q1 q2).leX_cell hL (g3 x (List.mem_of_getElem? q1))⟩
 ·simp only [c'] at h
  split at h
  ·cases h
  ·rename_i hj
   have hr:=hW.xo j b' o h
   refine ⟨hr.new,hr.obj,hr.kept,hr.mem,?_,hr.box,hr.own,fun j' o' h'=>?_⟩
   ·show (if _ then _ else _)=_
    rw [if_neg (fun e=>by subst e; exact hj (hq.inj j o h))]; exact hr.map
   ·simp only [c'] at h'
    split at h'
    ·cases h'
    ·exact hr.inj j' o' h'
theorem RX.mapv {k n:Nat} {rows:List (List AV)} {u:Value} (h2:RX c .ents k n rows u) {m':Mem} (hle:c.m.le m') (hm:∀ es clock,c.x k=some (n,.map es clock)→m'.maps n=some (es,clock)):RD m' (.mapv rows) (.map (some n)):=by
 obtain ⟨es,clock,e1,q1,q2,q3,q4,q5⟩:=h2
 exact .mapv rows n es clock (hm es clock e1) q1 q2 q3 (fun i x e y g1 g2 g3=>(q4 i x e y g1 g2 g3).mono hle) (fun i x e y g1 g2 g3=>(q5 i x e y g1 g2 g3).mono hle)
theorem WI.newMap (hW:WI Γ c bx w) (k:Nat) :
  let c':Ctx:={ c with x:=fun j=>if j=k then some (w.heap.size,.map #[] 0) else c.x j,xn:=fun j=>if j=k then (0,0) else c.xn j }
  WI Γ c' bx (w.alloc (.map #[] 0))∧c.leX k c'∧NC w (w.alloc (.map #[] 0))∧∀ u,RX c' .ents k w.heap.size [] u:=by
 intro c'
 obtain ⟨h1,h2,h3⟩:=hW.newX k (0,0) (.map #[] 0) rfl (fun _ _ _ h=>nomatch h)
 refine ⟨h1,h2,h3,fun u=>⟨#[],0,if_pos rfl,⟨by simp,by simp,by simp⟩,rfl,by simp,by simp,by simp⟩⟩
end
end Go.AI
namespace Go.AI
open Go
open Go.RowKit (Below)
theorem oL {l:List (List Int×AV)} {i:Nat} {x:List AV} (h:(eL l)[i]?=some x):∃ p,l[i]?=some p∧x=[keyA p.1,p.2]:=by
 simp only [eL,List.getElem?_map,Option.map_eq_some_iff] at h
 obtain ⟨p,h1,h2⟩:=h
 exact ⟨p,h1,h2.symm⟩
theorem RD.int_eq {m:Mem} {k:IntKind} {n:Int}:∀ {v:Value},RD m (.int k n) v→v = .int k n
 | _,.int _ _=>rfl
theorem RD.keyA {m:Mem} {k:List Int} {v:Value} (h:RD m (Go.AI.keyA k) v):v=cq k:=by
 unfold Go.AI.keyA at h
 cases h with
 | agg _ vs hl hc hr=>
  unfold cq
  congr 1
  apply Array.ext'
  apply List.ext_getElem?
  intro i
  simp only [List.length_map] at hl
  simp only [List.getElem?_map]
  by_cases hi:i<k.length
  ·have h1:(k.map (AV.int .i64))[i]?=some (.int .i64 k[i]):=by simp [hi]
   have hv:vs[i]?=some (vs[i]'(by omega)):=Array.getElem?_eq_getElem _
   rw [Array.getElem?_toList,hv,(hr i _ _ h1 hv).int_eq,List.getElem?_eq_getElem hi,Option.map_some]
  ·rw [Array.getElem?_toList,Array.getElem?_eq_none (by omega),List.getElem?_eq_none (by omega)]; rfl
theorem oM {sk:Bool} {l:List (List Int×AV)} {i:Nat} {x:List AV} (h:(d3 sk l)[i]?=some x):∃ p,l[i]?=some p∧x=[keyE sk p.1,p.2]:=by
 cases sk with
 | true=>exact oL h
 | false=>
  simp only [d3,cond_false,BI,List.getElem?_map,Option.map_eq_some_iff] at h
  obtain ⟨p,h1,h2⟩:=h
  exact ⟨p,h1,h2.symm⟩
theorem tL (sk:Bool) (l:List (List Int×AV)):(d3 sk l).length=l.length:=by cases sk <;> simp [d3,eL,BI]
theorem EE {sk:Bool} {l:List (List Int×AV)} {i:Nat} {p:List Int×AV} (h:l[i]?=some p):(d3 sk l)[i]?=some [keyE sk p.1,p.2]:=by cases sk <;> simp [d3,eL,BI,keyE,h]
theorem RD.keyE {m:Mem} {sk:Bool} {n:Nat} (hn:sk=false→n=1) {k:List Int} (hk:k.length=n) {v:Value} (h:RD m (Go.AI.keyE sk k) v):v=kvE sk k:=by
 cases sk with
 | true=>exact RD.keyA h
 | false=>
  obtain ⟨x,rfl⟩:=gj (x:=k) (by rw [hk,hn rfl])
  exact RD.int_eq h
theorem RD.of_keyE (m:Mem) {sk:Bool} {n:Nat} (hn:sk=false→n=1) {k:List Int} (hk:k.length=n):RD m (Go.AI.keyE sk k) (kvE sk k):=by
 cases sk with
 | false=>
  obtain ⟨x,rfl⟩:=gj (x:=k) (by rw [hk,hn rfl])
  exact RD.int _ _
 | true=>
  refine .agg _ _ (by simp) (fun x hx=>?_) (fun i x u h1 h2=>?_)
  ·obtain ⟨n,_,rfl⟩:=List.mem_map.1 hx; rfl
  ·simp only [List.getElem?_map,Option.map_eq_some_iff,List.getElem?_toArray] at h1 h2
   obtain ⟨n,hn',rfl⟩:=h1
   obtain ⟨n',hn'',rfl⟩:=h2
   rw [hn'] at hn''; cases hn''
   exact .int _ _
theorem RC.keyE_RD {c:Ctx} {sk:Bool} {n:Nat} (hn:sk=false→n=1) {k:List Int} (hk:k.length=n) {v:Value} (h:RC c (Go.AI.keyE sk k) v):RD c.m (Go.AI.keyE sk k) v:=by
 cases sk with
 | false=>
  obtain ⟨x,rfl⟩:=gj (x:=k) (by rw [hk,hn rfl])
  exact h
 | true=>
  obtain ⟨vs,r1,r2,r3,r4⟩:=(show RC c (.agg (k.map (AV.int .i64))) v from h)
  rw [r1]
  refine .agg _ vs r2 r3 fun i x u h1 h2=>?_
  have h3:=r4 i x u h1 h2
  simp only [List.getElem?_map,Option.map_eq_some_iff] at h1
  obtain ⟨n,_,rfl⟩:=h1
  exact h3
theorem RX.toE {c:Ctx} {k b:Nat} {sk:Bool} {n:Nat} (hn:sk=false→n=1) {l:List (List Int×AV)} (hall:∀ p∈l,p.1.length=n) {u:Value} (h:RX c .ents k b (d3 sk l) u) :
  ∃ es clock,c.x k=some (b,.map es clock)∧f9 es clock∧l.length=es.size∧∀ (j:Nat) (e:MapEntry),es[j]?=some e→∃ p,l[j]?=some p∧e.key=kvE sk p.1∧RD c.m p.2 e.val:=by
 obtain ⟨es,clock,e1,q1,q2,q3,q4,q5⟩:=h
 have hll:l.length=es.size:=by rw [tL] at q2; exact q2
 refine ⟨es,clock,e1,q1,hll,fun j e he=>?_⟩
 have hj:j<l.length:=by rw [hll]; exact (Array.getElem?_eq_some_iff.1 he).1
 have hp:(d3 sk l)[j]?=some [Go.AI.keyE sk l[j].1,l[j].2]:=EE (List.getElem?_eq_getElem hj)
 exact ⟨l[j],List.getElem?_eq_getElem hj,(q4 j _ e _ hp he rfl).keyE hn (hall _ (List.getElem_mem hj)),q5 j _ e _ hp he rfl⟩
theorem tz {k:List Int} {v:AV}:∀ {l:List (List Int×AV)},(∀ p∈l,p.1≠k)→dZ k v l=l++[(k,v)]
 | [],_=>rfl
 |(k',v')::r,h=>by
  rw [dZ,if_neg (h (k',v') List.mem_cons_self),tz fun p hp=>h p (List.mem_cons_of_mem _ hp)]; rfl
theorem ni {k:List Int} {v:AV}:∀ {l:List (List Int×AV)} {p:List Int×AV},p∈dZ k v l→p=(k,v)∨p∈l
 | [],p,h => .inl (by simpa [dZ] using h)
 |(k',v')::r,p,h=>by
  simp only [dZ] at h
  split at h
  ·rcases List.mem_cons.1 h with h | h
   ·exact .inl h
   ·exact .inr (List.mem_cons_of_mem _ h)
  ·rcases List.mem_cons.1 h with h | h
   ·exact .inr (h ▸ List.mem_cons_self)
   ·exact (ni h).imp id (List.mem_cons_of_mem _)
theorem tx {k:List Int} {v:AV}:∀ {l:List (List Int×AV)} {j:Nat} {p:List Int×AV},l[j]?=some p→p.1=k→(∀ (i i':Nat) (q q':List Int×AV),l[i]?=some q→l[i']?=some q'→q.1=q'.1→i=i')→dZ k v l=l.set j (k,v)
 | [],j,p,h,_,_=>by simp at h
 |(k',v')::r,0,p,h,hp,_=>by
  simp only [List.getElem?_cons_zero,Option.some.injEq] at h
  subst h
  rw [dZ,if_pos hp]; rfl
 |(k',v')::r,j+1,p,h,hp,hu=>by
  simp only [List.getElem?_cons_succ] at h
  have hne:k'≠k:=fun e=>by
   have:=hu 0 (j+1) (k',v') p rfl h (by rw [e,hp])
   omega
  rw [dZ,if_neg hne,tx h hp fun i i' q q' h1 h2 e=>by
   have:=hu (i+1) (i'+1) q q' (by simpa using h1) (by simpa using h2) e
   omega]
  rfl
section
variable {Γ:aH} (hΓ:Γ.OK) {T:Tab} (hT:T.OK Γ.P) {s:St} {o:Oper} {a:Act} {w:World}
 {next:Act→World→Prop} {Q:Exit→Act→World→Prop}
include hΓ in
theorem Cu {K:St→Prop} {t:TypeId} {d:Nat} (hop:o.op = .makeMap t none) (hI:Inv Γ s a w) (hd:∀ d,o.dst=some d→d<Γ.nt) (hdst:o.dst=some d)
  (h:∀ b,K ⟨(d,.lit (.map (some b)))::(xk d,.me .ents d b [])::fY (AV.unme d) s.t,s.b⟩) (hn:bJ Γ a o.dst w K next):o.wpIn Γ.F Γ.n Γ.P a w next Q:=by
 obtain ⟨c,hW,ht⟩:=hI.ex
 have hdlt:=hd d hdst
 obtain ⟨W1,W2,W3,W4⟩:=hW.newMap d
 refine aP hΓ (by rw [hop]; intro c hc; cases hc) (v := .map (some w.heap.size)) (w':=w.alloc (.map #[] 0)) ?_ ?_
 ·simp only [execOp,hop,Instr.makeMap,Sem.run_bind,Option.map_none,run_newObj,Result.andThen_ok,Sem.run_pure]
  rfl
 ·rw [hdst]
  refine hn _ _ _ (h w.heap.size) (hI.next W3 W1 (d:=some d) (by intro k hk; cases hk; exact hdlt) (bV (fun e z hz=>?_) (by rw [hI.size]; exact hdlt) (RD.lit _ rfl rfl))) W3 (dx hdst)
  rw [ak] at hz
  split at hz
  ·cases hz; exact W4 Go.undef
  ·rw [bY] at hz
   obtain ⟨z',hz',rfl⟩:=Option.map_eq_some_iff.1 hz
   exact (ht e z' hz').leX W2
include hT in
theorem Bw {t:TypeId} {i:TI} {kt z:Nat} (h:get T t=some i) (hk:i.kind=9) (hf:i.flds=[(z,kt)]):Γ.P.underlying t=some (.map kt i.elem):=by
 obtain ⟨q,d,h1,h2,h3⟩:=bH hT h
 simp only [TI.of,h1,h2,Option.some.injEq] at h3
 subst h3
 cases d <;> simp at hk
 rename_i k e
 simp only [List.cons.injEq,Prod.mk.injEq] at hf
 rw [h2,hf.1.2]
include hΓ hT in
theorem ii {K:Nat→AV→Prop} {t:TypeId} {x y z:Operand} {b:Nat} (hop:o.op = .mapUpdate t x y z∨o.op = .insert t x y z) (hI:Inv Γ s a w) (hx:ev s x = .lit (.map (some b)))
  (h:qE T s o.dst t b (ev s y) (ev s z) K) (hn:∀ k v,K k v→(∀ d n xs,get s.t d=some (.me .ents k n xs)→d=xk k)→bJ Γ a o.dst w (fun s'=>s'=⟨(xk k,v)::s.t,s.b⟩) next)
  (harr:∀ k v,K k v→∀ d n xs,get s.t d=some (.me .ents k n xs)→d=xk k):o.wpIn Γ.F Γ.n Γ.P a w next Q:=by
 obtain ⟨c,hW,ht⟩:=hI.ex
 unfold qE at h
 split at h
 ·rename_i im hdst him
  split at h
  ·rename_i kz kt hfl
   split at h
   ·rename_i i hi
    cases hb:Nat.beq im.kind 9 with
    | false=>rw [hb] at h; exact h.elim
    | true=>
     rw [hb,cond_true] at h
     cases hkk:lE i with
     | none=>rw [hkk] at h; exact h.elim
     | some skn=>
     obtain ⟨sk,sn⟩:=skn
     rw [hkk] at h
     have hKO:=rF hT hi hkk
     obtain ⟨k,l,key,⟨hk,hkey,hlen,hall⟩,hK⟩:=h
     rw [AV.go1_eq] at hK
     have hcl:=harr k _ hK
     have hm:=Bw hT him (Nat.eq_of_beq_eq_true hb) hfl
     obtain ⟨es,clock,e1,q1,hll,hkeys⟩:=RX.toE hKO.pos hall (show RX c .ents k b (d3 sk l) (a.tmps.getD (xk k) Go.undef) from ht _ _ hk)
     have hq:=hW.xo k b _ e1
     have hrx:RD c.m (.lit (.map (some b))) (a.eval x):=by have:=aB ht x; rwa [hx] at this
     have hvx:a.eval x = .map (some b):=by generalize a.eval x=u at hrx; cases hrx; rfl
     have hry:=aB ht y
     rw [hkey] at hry
     have hry':RD c.m (keyE sk key) (a.eval y):=hry.keyE_RD hKO.pos hlen
     have hvy:=hry'.keyE hKO.pos hlen
     have hrz:RD c.m (ev s z).pub (a.eval z):=(aB ht z).pub
     have hes:∀ e∈es.toList,∃ y:List Int,e.key=kvE sk y∧y.length=sn:=fun e he=>by
      obtain ⟨j,hj,rfl⟩:=List.getElem_of_mem he
      obtain ⟨p,p1,p2,_⟩:=hkeys j _ (by rw [← Array.getElem?_toList]; exact List.getElem?_eq_getElem hj)
      exact ⟨p.1,p2,hall p (List.mem_of_getElem? p1)⟩
     have hex:∀ (u:Unit) (w':World),(Instr.mapUpdate t (.map (some b)) (kvE sk key) (a.eval z)).run Γ.P w = .ok u w'→(execOp a.eval o).run Γ.P w = .ok .skip w':=fun u w' hr=>by
      rcases hop with hop | hop <;> simp only [execOp,hop,Sem.run_bind,hvx,hvy,hr,Result.andThen_ok,Sem.run_pure]
     -- the new content
     have hsn:∀ p∈dZ key (ev s z).pub l,p.1.length=sn:=fun p hp=>by
      rcases ni hp with h | h
      ·rw [h]; exact hlen
      ·exact hall p h
     have fin:∀ (es':Array MapEntry) (clock':Nat),(Instr.mapUpdate t (.map (some b)) (kvE sk key) (a.eval z)).run Γ.P w = .ok () (w.putObj b (.map es' clock'))→f9 es' clock'→(dZ key (ev s z).pub l).length=es'.size →
       (∀ (j:Nat) (p:List Int×AV) (e:MapEntry),(dZ key (ev s z).pub l)[j]?=some p→es'[j]?=some e→e.key=kvE sk p.1∧RD c.m p.2 e.val)→o.wpIn Γ.F Γ.n Γ.P a w next Q:=by
      intro es' clock' hrun hborn hsz hrel
      obtain ⟨W1,W2,W3⟩:=hW.putX e1 (.map es' clock') rfl (fun _ _ _ h=>nomatch h)
      refine gG hΓ (by rcases hop with hop | hop <;> (rw [hop]; intro c hc; cases hc)) (hex _ _ hrun) ?_
      rw [hdst]
      refine hn k _ hK hcl _ _ _ rfl (hI.next W3 W1 (d:=none) (v:=Go.undef) (by intro k hk; cases hk) (fun d z' hz=>?_)) W3 (gM hdst)
      rw [ak] at hz
      split at hz
      ·cases hz
       refine ⟨es',clock',if_pos rfl,hborn,by rw [tL]; exact hsz,?_,?_,?_⟩
       ·intro r hr
        obtain ⟨j,hj⟩:=List.getElem?_of_mem hr
        obtain ⟨p,_,rfl⟩:=oM hj
        rfl
       ·intro j r e y' h1 h2 h3
        obtain ⟨p,p1,rfl⟩:=oM h1
        simp only [List.getElem?_cons_zero,Option.some.injEq] at h3
        subst h3
        rw [(hrel j p e p1 h2).1]
        exact RD.of_keyE _ hKO.pos (hsn p (List.mem_of_getElem? p1))
       ·intro j r e y' h1 h2 h3
        obtain ⟨p,p1,rfl⟩:=oM h1
        simp only [List.getElem?_cons_succ,List.getElem?_cons_zero,Option.some.injEq] at h3
        subst h3
        exact (hrel j p e p1 h2).2
      ·rename_i hd
       have hz':=ht d z' hz
       cases z' with
       | me g k' n' zs'=>
        by_cases hk':k'=k
        ·subst hk'
         cases g with
         | sl=>obtain ⟨p1,p2,p3,p4,p5,_⟩:=(show RX c .sl k' n' zs' (a.tmps.getD d Go.undef) from hz'); rw [e1] at p5; cases p5
         | ptr sz2 j2=>obtain ⟨p1,p2,p3,p5,_⟩:=(show RX c (.ptr sz2 j2) k' n' zs' (a.tmps.getD d Go.undef) from hz'); rw [e1] at p5; cases p5
         | arr=>obtain ⟨p1,p2,p3,p5,_⟩:=(show RX c .arr k' n' zs' (a.tmps.getD d Go.undef) from hz'); rw [e1] at p5; cases p5
         | mp=>
          obtain ⟨p1,p2,p3,p5,p6⟩:=(show RX c .mp k' n' zs' (a.tmps.getD d Go.undef) from hz')
          rw [e1] at p5; cases p5
          exact ⟨b,es',clock',if_pos rfl,p6⟩
         | ents=>exact absurd (hcl _ _ _ hz) hd
         | sub sz2 l2=>obtain ⟨p1,p2,p3,p4,p6,p5,_⟩:=(show RX c (.sub sz2 l2) k' n' zs' (a.tmps.getD d Go.undef) from hz'); rw [e1] at p5; cases p5
         | box=>obtain ⟨p1,p2,p3,p5,_⟩:=(show RX c .box k' n' zs' (a.tmps.getD d Go.undef) from hz'); rw [e1] at p5; cases p5
        ·have:=hz'.leX W2
         simp only [AV.unme,show Nat.beq k k'=false from by cases hb:Nat.beq k k' with | false=>rfl | true=>exact absurd (Nat.eq_of_beq_eq_true hb).symm hk'] at this
         exact this
       | _=>exact hz'.leX W2
     rcases nv (w:=w) hKO hm key hlen (a.eval z) hq.obj hes with ⟨h1,h2⟩ | ⟨j,e,h1,h2,h3⟩
     ·have hup:dZ key (ev s z).pub l=l++[(key,(ev s z).pub)]:=tz fun p hp hc=>by
       obtain ⟨j,hj,rfl⟩:=List.getElem_of_mem hp
       have hj':j<es.size:=by omega
       have hje:=Array.getElem?_eq_getElem hj'
       obtain ⟨p',p1,p2,_⟩:=hkeys j _ hje
       rw [List.getElem?_eq_getElem hj] at p1
       cases p1
       exact h2 es[j] (by simp) (by rw [p2,hc])
      refine fin _ _ h1 ⟨fun i e he=>?_,fun i i' e e' h4 h5 h6=>?_,fun i i' e e' h4 h5 h6=>?_⟩ (by rw [hup]; simp [hll]) (fun i p e h4 h5=>?_)
      ·rw [Array.getElem?_push] at he
       split at he
       ·cases he; simp
       ·have:=q1.1 i e he; omega
      ·rw [Array.getElem?_push] at h4 h5
       split at h4 <;> split at h5
       ·omega
       ·cases h4; have:=q1.1 _ _ h5; simp only at h6; omega
       ·cases h5; have:=q1.1 _ _ h4; simp only at h6; omega
       ·exact q1.2.1 i i' e e' h4 h5 h6
      ·rw [Array.getElem?_push] at h4 h5
       have hmem:∀ (n:Nat) (f:MapEntry),es[n]?=some f→f∈es.toList:=fun n f hf=>by rw [← Array.getElem?_toList] at hf; exact List.mem_of_getElem? hf
       split at h4 <;> split at h5
       ·omega
       ·cases h4; exact absurd h6.symm (h2 _ (hmem _ _ h5))
       ·cases h5; exact absurd h6 (h2 _ (hmem _ _ h4))
       ·exact q1.2.2 i i' e e' h4 h5 h6
      ·rw [hup] at h4
       rw [Array.getElem?_push] at h5
       by_cases hil:i<l.length
       ·rw [List.getElem?_append_left hil] at h4
        rw [if_neg (by omega)] at h5
        obtain ⟨p',p1,p2,p3⟩:=hkeys i e h5
        rw [h4] at p1; cases p1
        exact ⟨p2,p3⟩
       ·rw [List.getElem?_append_right (by omega)] at h4
        have hi0:i=l.length:=by
         have:=(List.getElem?_eq_some_iff.1 h4).1
         simp at this; omega
        subst hi0
        simp at h4
        subst h4
        rw [if_pos hll] at h5
        cases h5
        exact ⟨rfl,hrz⟩
     ·obtain ⟨p,p1,p2,p3⟩:=hkeys j e h2
      have hpk:p.1=key:=by rw [h3] at p2; exact (hKO.inj _ _ hlen (hall p (List.mem_of_getElem? p1)) p2).symm
      have huniq:∀ (i i':Nat) (q q':List Int×AV),l[i]?=some q→l[i']?=some q'→q.1=q'.1→i=i':=fun i i' q q' h4 h5 h6=>by
       have hi1:i<es.size:=by rw [← hll]; exact (List.getElem?_eq_some_iff.1 h4).1
       have hi2:i'<es.size:=by rw [← hll]; exact (List.getElem?_eq_some_iff.1 h5).1
       obtain ⟨r,r1,r2,_⟩:=hkeys i _ (Array.getElem?_eq_getElem hi1)
       obtain ⟨r',r1',r2',_⟩:=hkeys i' _ (Array.getElem?_eq_getElem hi2)
       rw [h4] at r1; cases r1
       rw [h5] at r1'; cases r1'
       exact q1.2.2 i i' _ _ (Array.getElem?_eq_getElem hi1) (Array.getElem?_eq_getElem hi2) (by rw [r2,r2',h6])
      have hup:dZ key (ev s z).pub l=l.set j (key,(ev s z).pub):=tx p1 hpk huniq
      have hget:∀ n,(es.modify j fun e=>{ e with key:=kvE sk key,val:=a.eval z })[n]?=if j=n then (es[n]?).map (fun e=>{ e with key:=kvE sk key,val:=a.eval z }) else es[n]?:=fun n=>by
       rw [Array.getElem?_modify]
      have hborn:∀ (n:Nat) (f:MapEntry),(es.modify j fun e=>{ e with key:=kvE sk key,val:=a.eval z })[n]?=some f→∃ f0,es[n]?=some f0∧f0.born=f.born∧f0.key=f.key:=fun n f hf=>by
       rw [hget] at hf
       split at hf
       ·rename_i hjn
        subst hjn
        rw [h2] at hf
        simp only [Option.map_some,Option.some.injEq] at hf
        subst hf
        exact ⟨e,h2,rfl,h3⟩
       ·exact ⟨f,hf,rfl,rfl⟩
      refine fin _ _ h1 ⟨fun i e he=>?_,fun i i' e e' h4 h5 h6=>?_,fun i i' e e' h4 h5 h6=>?_⟩ (by rw [hup]; simp [hll]) (fun i p e h4 h5=>?_)
      ·obtain ⟨f0,g1,g2,_⟩:=hborn i e he
       rw [← g2]; exact q1.1 i f0 g1
      ·obtain ⟨f0,g1,g2,_⟩:=hborn i e h4
       obtain ⟨f1,g1',g2',_⟩:=hborn i' e' h5
       exact q1.2.1 i i' f0 f1 g1 g1' (by rw [g2,g2',h6])
      ·obtain ⟨f0,g1,_,g2⟩:=hborn i e h4
       obtain ⟨f1,g1',_,g2'⟩:=hborn i' e' h5
       exact q1.2.2 i i' f0 f1 g1 g1' (by rw [g2,g2',h6])
      ·rw [hup] at h4
       rw [hget] at h5
       by_cases hji:j=i
       ·subst hji
        rw [if_pos rfl,h2] at h5
        simp only [Option.map_some,Option.some.injEq] at h5
        rw [List.getElem?_set_self (by rw [hll]; exact (Array.getElem?_eq_some_iff.1 h2).1)] at h4
        cases h4
        subst h5
        exact ⟨rfl,hrz⟩
       ·rw [if_neg hji] at h5
        rw [List.getElem?_set_ne hji] at h4
        obtain ⟨p',p1',p2',p3'⟩:=hkeys i e h5
        rw [h4] at p1'; cases p1'
        exact ⟨p2',p3'⟩
   ·exact h.elim
  ·exact h.elim
 ·exact h.elim
end
end Go.AI
namespace Go.AI
open Go
open Go.RowKit (Below)
theorem uc {k:List Int}:∀ {l:List (List Int×AV)},(∀ p∈l,p.1≠k)→jP k l=none
 | [],_=>rfl
 |(k',v')::r,h=>by rw [jP,if_neg (h (k',v') List.mem_cons_self),uc fun p hp=>h p (List.mem_cons_of_mem _ hp)]
theorem ub {k:List Int}:∀ {l:List (List Int×AV)} {j:Nat} {p:List Int×AV},l[j]?=some p→p.1=k→(∀ (i i':Nat) (q q':List Int×AV),l[i]?=some q→l[i']?=some q'→q.1=q'.1→i=i')→jP k l=some p.2
 | [],j,p,h,_,_=>by simp at h
 |(k',v')::r,0,p,h,hp,_=>by
  simp only [List.getElem?_cons_zero,Option.some.injEq] at h
  subst h
  rw [jP,if_pos hp]
 |(k',v')::r,j+1,p,h,hp,hu=>by
  simp only [List.getElem?_cons_succ] at h
  have hne:k'≠k:=fun e=>by
   have:=hu 0 (j+1) (k',v') p rfl h (by rw [e,hp])
   omega
  rw [jP,if_neg hne,ub h hp fun i i' q q' h1 h2 e=>by
   have:=hu (i+1) (i'+1) q q' (by simpa using h1) (by simpa using h2) e
   omega]
theorem RO.toRC1 {c:Ctx} {y:AV} {u:Value} (hc:y.isCell=true) (h:RO c y u):RC1 c y u:=by
 cases y with
 | loc d off=>cases hc
 | me g k n xs=>cases hc
 | sl o sz xs=>cases o <;> exact h
 | _=>exact h
theorem RO.ofRC1 {c:Ctx} {y:AV} {u:Value} (hc:y.isCell=true) (h:RC1 c y u):RO c y u:=by
 cases y with
 | loc d off=>cases hc
 | me g k n xs=>cases hc
 | sl o sz xs=>cases o <;> exact h
 | _=>exact h
theorem qX {s:St} {k b:Nat} {own:List AV} (h:qY s k=some (b,own)):get s.t (xk k)=some (.me .box k b [own]):=by
 unfold qY at h
 split at h
 ·rename_i k' b' own' hg
  cases hb:Nat.beq k' k with
  | false=>rw [hb] at h; cases h
  | true=>rw [hb] at h; cases h; rw [hg,Nat.eq_of_beq_eq_true hb]
 ·cases h
section
variable {Γ:aH} (hΓ:Γ.OK) {T:Tab} (hT:T.OK Γ.P) {s:St} {o:Oper} {a:Act} {w:World}
 {next:Act→World→Prop} {Q:Exit→Act→World→Prop}
include hT in
theorem Cx {t:TypeId} {i:TI} (g:get T t=some i) (hc:i.zero.isCell=true):∃ z,(zeroValue t).run Γ.P w = .ok z w∧∀ m,RD m i.zero z:=by
 obtain ⟨j,d,h1,h2,h3⟩:=bH hT g
 simp only [TI.of,h1,h2,Option.some.injEq] at h3
 have hzero:=(congrArg TI.zero h3).symm
 simp only at hzero
 cases hj:j.zero with
 | none=>rw [hj] at hzero; simp only at hzero; rw [hzero] at hc; cases hc
 | some z=>
  rw [hj] at hzero
  simp only at hzero
  refine ⟨z,by simp only [zeroValue,typeInfo,Sem.run_bind,run_program,Result.andThen_ok,h1,Sem.run_pure,hj],fun m=>?_⟩
  rw [hzero] at hc ⊢
  have key:∀ v:Value,(∀ cs,v≠.agg cs)→Dq v=cst v:=fun v hv=>by
   cases v with
   | agg cs=>exact absurd rfl (hv cs)
   | _=>rfl
  rw [key z fun cs e=>by rw [e] at hc; cases hc]
  exact RD.cst m z
include hT in
theorem Cv {K:AV→Prop} {t:TypeId} {x y:Operand} {b:Nat} {ok:Bool} {c:Ctx} (hW:WI Γ c s.b w) (ht:∀ d x,get s.t d=some x→RC c x (a.tmps.getD d Go.undef)) (hx:ev s x = .lit (.map (some b))) (h:iU T s t b (ev s y) ok K) :
  ∃ v u,K v∧RC c v u∧(Instr.lookup t (a.eval x) (a.eval y) ok).run Γ.P w = .ok u w:=by
 unfold iU at h
 split at h
 ·rename_i im him
  split at h
  ·rename_i kz kt hfl
   split at h
   ·rename_i i j hi hj
    cases hb:(Nat.beq im.kind 9&&j.zero.isCell) with
    | false=>rw [hb] at h; exact h.elim
    | true=>
     rw [hb,cond_true] at h
     rw [Bool.and_eq_true] at hb
     cases hkk:lE i with
     | none=>rw [hkk] at h; exact h.elim
     | some skn=>
     obtain ⟨sk,sn⟩:=skn
     rw [hkk] at h
     have hKO:=rF hT hi hkk
     obtain ⟨k,l,key,g,⟨hk,hkey,hlen,hall,hg⟩,hK⟩:=h
     have hm:=Bw hT him (Nat.eq_of_beq_eq_true hb.1) hfl
     obtain ⟨es,clock,e1,q1,hll,hkeys⟩:=RX.toE hKO.pos hall (show RX c .ents k b (d3 sk l) (a.tmps.getD (xk k) Go.undef) from ht _ _ hk)
     have hq:=hW.xo k b _ e1
     have hrx:RD c.m (.lit (.map (some b))) (a.eval x):=by have:=aB ht x; rwa [hx] at this
     have hvx:a.eval x = .map (some b):=by generalize a.eval x=u at hrx; cases hrx; rfl
     have hry:=aB ht y
     rw [hkey] at hry
     have hvy:=(hry.keyE_RD hKO.pos hlen).keyE hKO.pos hlen
     have hes:∀ e∈es.toList,∃ y:List Int,e.key=kvE sk y∧y.length=sn:=fun e he=>by
      obtain ⟨j,hj,rfl⟩:=List.getElem_of_mem he
      obtain ⟨p,p1,p2,_⟩:=hkeys j _ (by rw [← Array.getElem?_toList]; exact List.getElem?_eq_getElem hj)
      exact ⟨p.1,p2,hall p (List.mem_of_getElem? p1)⟩
     obtain ⟨z,hz1,hz2⟩:=Cx (w:=w) hT hj hb.2
     rw [hvx,hvy]
     rcases hKO.find w key hlen es.toList hes with ⟨h1,h2⟩ | ⟨n,e,h1,h2,h3⟩
     ·have hgn:g=none:=by
       rw [← hg]
       refine uc fun p hp hc=>?_
       obtain ⟨n,hn,rfl⟩:=List.getElem_of_mem hp
       have hje:=Array.getElem?_eq_getElem (show n<es.size by omega)
       obtain ⟨p',p1,p2,_⟩:=hkeys n _ hje
       rw [List.getElem?_eq_getElem hn] at p1
       cases p1
       exact h2 es[n] (by simp) (by rw [p2,hc])
      subst hgn
      refine ⟨_,if ok then .tuple #[z,.bool false] else z,hK,?_,?_⟩
      ·cases ok with
       | false=>exact RC.of_RD (hz2 c.m)
       | true=>
        refine RC.of_RD (c:=c) (.tup _ _ rfl fun n x u g1 g2=>?_)
        rcases n with _ | _ | n <;> simp at g1 g2
        ·subst g1; subst g2; exact hz2 c.m
        ·subst g1; subst g2; exact .bool _
      ·simp only [Instr.lookup,Sem.run_bind,run_underlying hm,Result.andThen_ok,MapKept.run_getObj_map hq.obj,Sem.run_pure,hKO.check w _ key hlen,h1,hz1]
     ·have h2':es[n]?=some e:=by simpa using h2
      obtain ⟨p,p1,p2,p3⟩:=hkeys n e h2'
      have hpk:p.1=key:=by rw [h3] at p2; exact (hKO.inj _ _ hlen (hall p (List.mem_of_getElem? p1)) p2).symm
      have huniq:∀ (i i':Nat) (q q':List Int×AV),l[i]?=some q→l[i']?=some q'→q.1=q'.1→i=i':=fun i i' q q' h4 h5 h6=>by
       have hi1:i<es.size:=by rw [← hll]; exact (List.getElem?_eq_some_iff.1 h4).1
       have hi2:i'<es.size:=by rw [← hll]; exact (List.getElem?_eq_some_iff.1 h5).1
       obtain ⟨r,r1,r2,_⟩:=hkeys i _ (Array.getElem?_eq_getElem hi1)
       obtain ⟨r',r1',r2',_⟩:=hkeys i' _ (Array.getElem?_eq_getElem hi2)
       rw [h4] at r1; cases r1
       rw [h5] at r1'; cases r1'
       exact q1.2.2 i i' _ _ (Array.getElem?_eq_getElem hi1) (Array.getElem?_eq_getElem hi2) (by rw [r2,r2',h6])
      have hgs:g=some p.2:=by rw [← hg]; exact ub p1 hpk huniq
      subst hgs
      refine ⟨_,if ok then .tuple #[e.val,.bool true] else e.val,hK,?_,?_⟩
      ·cases ok with
       | false=>exact RC.of_RD p3
       | true=>
        refine RC.of_RD (c:=c) (.tup _ _ rfl fun n x u g1 g2=>?_)
        rcases n with _ | _ | n <;> simp at g1 g2
        ·subst g1; subst g2; exact p3
        ·subst g1; subst g2; exact .bool _
      ·simp only [Instr.lookup,Sem.run_bind,run_underlying hm,Result.andThen_ok,MapKept.run_getObj_map hq.obj,Sem.run_pure,hKO.check w _ key hlen,h1]
   ·exact h.elim
  ·exact h.elim
 ·exact h.elim
include hΓ hT in
theorem Ef {K:St→Prop} {t:TypeId} {x y:Operand} {b:Nat} {ok:Bool} (hop:o.op = .lookup t x y ok) (hI:Inv Γ s a w) (hd:∀ d,o.dst=some d→d<Γ.nt) (hx:ev s x = .lit (.map (some b)))
  (h:iU T s t b (ev s y) ok fun v=>ef s o.dst v K) (hn:bJ Γ a o.dst w K next):o.wpIn Γ.F Γ.n Γ.P a w next Q:=by
 obtain ⟨c,hW,ht⟩:=hI.ex
 obtain ⟨v,u,h1,h2,h3⟩:=Cv hT hW ht hx h
 exact lZ hΓ hI hd hW ht (by rw [hop]; intro c hc; cases hc) h2 (by simp only [execOp,hop,Sem.run_bind,h3,Result.andThen_ok,Sem.run_pure]) h1 hn
include hT in
theorem CN {K:AV→Prop} {t:TypeId} {x:Operand} {k b off:Nat} {cs:List AV} {c:Ctx} (hW:WI Γ c s.b w) (ht:∀ d x,get s.t d=some x→RC c x (a.tmps.getD d Go.undef)) (hx:ev s x = .pin k b off cs) (h:kK T s t k b off cs K) :
  ∃ v u,K v∧RC c v u∧(Instr.loadAt t (a.eval x)).run Γ.P w = .ok u w:=by
 have hrx:=aB ht x
 rw [hx] at hrx
 obtain ⟨hav,hx''⟩:=RD.pin_ref (show RD c.m (.pin k b off cs) (a.eval x) from hrx)
 rw [hav]
 unfold kK at h
 split at h
 ·exact h.elim
 rename_i ti hi
 split at h
 ·rename_i v hv
  obtain ⟨vals,g1,g2,g3,g4⟩:=oO hW.sub hx''
  obtain ⟨u,hu1,hu2⟩:=eF hT hi g1 g2 g3 g4 hv
  exact ⟨v,u,h,hu2,by simp only [Instr.loadAt,Instr.sureAddr,Sem.run_bind,Sem.run_pure,Result.andThen_ok,hu1]⟩
 ·split at h
  ·rename_i b' own hp
   cases hl:Nat.ble (lo k) off with
   | false=>rw [hl] at h; exact h.elim
   | true=>
    rw [hl,cond_true] at h
    have hlo:=Nat.le_of_ble_eq_true hl
    split at h
    ·rename_i v hv
     obtain ⟨rfl,hK⟩:=h
     obtain ⟨cells,U,own',e1,e2,e3,e4,e5⟩:=(show RX c .box k b' [own] (a.tmps.getD (xk k) Go.undef) from ht _ _ (qX hp))
     cases e2
     have hq:=hW.xo k b' _ e1
     obtain ⟨u,hu1,hu2⟩:=eF (c:=c) (w:=w) hT hi (b:=b') (off:=off) (cells:=own.drop (off - lo k)) (vals:=cells.toList.drop off) (by simp only [List.length_drop,Array.length_toList]; omega)
      (fun y hy=>e4 y (List.mem_of_mem_drop hy)) (fun p y v g1 g2=>by
       rw [List.getElem?_drop] at g1 g2
       refine (e5 _ y v g1 ?_).toRC1 (e4 y (List.mem_of_getElem? g1))
       rw [show lo k+(off - lo k+p)=off+p by omega]
       simpa using g2) (fun p v g=>by
       rw [List.getElem?_drop] at g
       simp only [World.cell?,hq.obj]
       simpa using g) hv
     exact ⟨v,u,hK,hu2,by simp only [Instr.loadAt,Instr.sureAddr,Sem.run_bind,Sem.run_pure,Result.andThen_ok,hu1]⟩
    ·exact h.elim
  ·exact h.elim
include hΓ hT in
theorem EP {K:St→Prop} {t:TypeId} {x:Operand} {k b off:Nat} {cs:List AV} (hop:o.op = .load t x) (hI:Inv Γ s a w) (hd:∀ d,o.dst=some d→d<Γ.nt) (hx:ev s x = .pin k b off cs)
  (h:kK T s t k b off cs fun v=>ef s o.dst v K) (hn:bJ Γ a o.dst w K next):o.wpIn Γ.F Γ.n Γ.P a w next Q:=by
 obtain ⟨c,hW,ht⟩:=hI.ex
 obtain ⟨v,u,h1,h2,h3⟩:=CN hT hW ht hx h
 exact lZ hΓ hI hd hW ht (by rw [hop]; intro c hc; cases hc) h2 (by simp only [execOp,hop,Sem.run_bind,h3,Result.andThen_ok,Sem.run_pure]) h1 hn
theorem qF {K K':AV→Prop} {t:TypeId} {b:Nat} {kv:AV} {ok:Bool} (h:iU T s t b kv ok K) (hk:∀ v,K v→K' v):iU T s t b kv ok K':=by
 unfold iU at h ⊢
 split at h
 ·split at h
  ·split at h
   ·rename_i j _ _
    generalize (Nat.beq _ 9&&_)=bb at h ⊢
    cases bb with
    | false=>exact h
    | true=>
     simp only [cond_true] at h ⊢
     split at h
     ·obtain ⟨k,l,key,g,h1,h2⟩:=h
      exact ⟨k,l,key,g,h1,hk _ h2⟩
     ·exact h
   ·exact h
  ·exact h
 ·exact h
theorem rf {K K':AV→Prop} {t:TypeId} {k b off:Nat} {cs:List AV} (h:kK T s t k b off cs K) (hk:∀ v,K v→K' v):kK T s t k b off cs K':=by
 unfold kK at h ⊢
 split at h
 ·exact h
 ·split at h
  ·exact hk _ h
  ·split at h
   ·generalize Nat.ble (lo k) off=bb at h ⊢
    cases bb with
    | false=>exact h
    | true=>
     simp only [cond_true] at h ⊢
     split at h
     ·exact ⟨h.1,hk _ h.2⟩
     ·exact h
   ·exact h
include hΓ hT in
theorem BN {K:Nat→AV→Prop} {t:TypeId} {x y:Operand} {k b off:Nat} {cs0:List AV} (hop:o.op = .store t x y) (hI:Inv Γ s a w) (hx:ev s x = .pin k b off cs0) (h:mN T s o.dst t k b off (ev s y) K)
  (harr:∀ k v,K k v→∀ g d n xs,ep g=true→get s.t d=some (.me g k n xs)→d=xk k) (hn:∀ k v,K k v→bJ Γ a o.dst w (fun s'=>s'=⟨(xk k,v)::s.t,s.b⟩) next):o.wpIn Γ.F Γ.n Γ.P a w next Q:=by
 obtain ⟨c,hW,ht⟩:=hI.ex
 have hrx:=aB ht x
 rw [hx] at hrx
 obtain ⟨hav,_⟩:=RD.pin_ref (show RD c.m (.pin k b off cs0) (a.eval x) from hrx)
 unfold mN at h
 split at h
 ·rename_i ti cs hdst hi hcs
  split at h
  ·exact h.elim
  rename_i b' own hp
  cases hb:(Nat.beq cs.length ti.size&&(cs.all (fun c=>c.isCell)&&(Nat.ble (lo k) off&&(Nat.ble (off - lo k+cs.length) own.length&&Nat.blt 0 cs.length)))) with
  | false=>rw [hb] at h; exact h.elim
  | true=>
   rw [hb,cond_true,eY] at h
   obtain ⟨rfl,hK⟩:=h
   have hcl:=harr _ _ hK
   simp only [Bool.and_eq_true,List.all_eq_true] at hb
   obtain ⟨b1,b2,b3,b4,b5⟩:=hb
   have hlo:=Nat.le_of_ble_eq_true b3
   have hle:=Nat.le_of_ble_eq_true b4
   have hpos:1≤cs.length:=Nat.le_of_ble_eq_true b5
   obtain ⟨cells,U,own',e1,e2,e3,e4,e5⟩:=(show RX c .box k b' [own] (a.tmps.getD (xk k) Go.undef) from ht _ _ (qX hp))
   cases e2
   have hq:=hW.xo k b' _ e1
   obtain ⟨g1,g2⟩:=(aB ht y).cells0 hcs
   have hone:∀ v∈(a.eval y).cells.toList,v.oneCell'=true:=by
    intro v hv
    obtain ⟨n,hn',hv'⟩:=List.getElem_of_mem hv
    have hlt:n<cs.length:=by rw [g1]; simpa using hn'
    have h1:(a.eval y).cells[n]?=some v:=by
     rw [← hv',← Array.getElem?_toList]; exact List.getElem?_eq_getElem hn'
    exact ((g2 n _ v (List.getElem?_eq_getElem hlt) h1).one (b2 _ (List.getElem_mem hlt))).1
   have hnl:(a.eval y).cells.toList.length=cs.length:=by simp [g1]
   generalize hnews:(a.eval y).cells.toList=news at *
   have hst:=run_storeCells_at Γ.P b' off U news 0 cells w hq.obj (by simp only [Nat.add_zero]; omega) hone
   simp only [Nat.add_zero] at hst
   have hrow:=fun n=>uL cells.toList news off n (by simp only [Array.length_toList]; omega)
   obtain ⟨W1,W2,W3⟩:=hW.storeX e1 (cells.toList.take off++news++cells.toList.drop (off+news.length)).toArray (fun i v hv=>by
    have hlt:i<lo k:=Nat.lt_of_not_le fun hc=>by rw [hq.mem i hc] at hv; cases hv
    rw [hrow,if_neg (by omega)]
    have:=hW.sub.cell b' i v hv
    simpa [World.cell?,hq.obj] using this)
   refine gG hΓ (by rw [hop]; intro c hc; cases hc) (w':=w.setRow b' (cells.toList.take off++news++cells.toList.drop (off+news.length)).toArray) ?_ ?_
   ·have hsz:(a.eval y).cells.size=ti.size:=by rw [← g1]; exact Nat.eq_of_beq_eq_true b1
    simp only [execOp,hop,hav,Instr.storeAt,Instr.sureAddr,Sem.run_bind,Sem.run_pure,Result.andThen_ok,storeVar,bF hT hi,hsz,ne_eq,not_true_eq_false,if_false,hnews,hst]
   ·rw [hdst]
    refine hn _ _ hK _ _ _ rfl (hI.next W3 W1 (d:=none) (v:=Go.undef) (by intro k hk; cases hk) (fun d z hz=>?_)) W3 (gM hdst)
    rw [ak] at hz
    split at hz
    ·rename_i hd
     cases hz
     refine ⟨_,U,_,if_pos rfl,rfl,?_,fun z hz=>?_,fun i z u h1 h2=>?_⟩
     ·rw [fF,kB]
      simp only [List.size_toArray,List.length_append,List.length_take,List.length_drop,Array.length_toList]
      omega
     ·rw [fF] at hz
      rcases ip _ _ _ _ hz with h | h
      ·exact b2 z h
      ·exact e4 z h
     ·rw [fF,kC] at h1
      rw [hrow] at h2
      split at h1
      ·rename_i hr
       rw [if_pos (by omega)] at h2
       rw [show lo k+i - off=i - (off - lo k) by omega] at h2
       have h3:(a.eval y).cells[i - (off - lo k)]?=some u:=by rw [← Array.getElem?_toList,hnews]; exact h2
       have h4:=g2 _ z u h1 h3
       have h5:=(RO.ofRC1 (b2 z (List.mem_of_getElem? h1)) h4)
       exact h5.mono W2.τ W2.σ W2.m
      ·rename_i hr
       have hil:=(List.getElem?_eq_some_iff.1 h1).1
       rw [if_neg (by omega)] at h2
       exact (e5 i z u h1 (by simpa using h2)).mono W2.τ W2.σ W2.m
    ·rename_i hd
     have hz':=ht d z hz
     cases z with
     | me g k' n' zs'=>
      by_cases hk':k'=k
      ·subst hk'
       cases g with
       | sl=>obtain ⟨p1,p2,p3,p4,p5,p6⟩:=(show RX c .sl k' n' zs' (a.tmps.getD d Go.undef) from hz'); rw [e1] at p5; cases p5; exact ⟨_,_,_,p4,if_pos rfl,p6⟩
       | ptr sz2 j2=>obtain ⟨p1,p2,p3,p5,p6⟩:=(show RX c (.ptr sz2 j2) k' n' zs' (a.tmps.getD d Go.undef) from hz'); rw [e1] at p5; cases p5; exact ⟨_,_,_,if_pos rfl,p6⟩
       | arr=>exact absurd (hcl _ _ _ _ rfl hz) hd
       | mp=>obtain ⟨p1,p2,p3,p5,p6⟩:=(show RX c .mp k' n' zs' (a.tmps.getD d Go.undef) from hz'); rw [e1] at p5; cases p5
       | ents=>exact absurd (hcl _ _ _ _ rfl hz) hd
       | sub sz2 l2=>obtain ⟨p1,p2,p3,p4,p6,p5,p7⟩:=(show RX c (.sub sz2 l2) k' n' zs' (a.tmps.getD d Go.undef) from hz'); rw [e1] at p5; cases p5; exact ⟨_,_,_,p4,p6,if_pos rfl,p7⟩
       | box=>exact absurd (hcl _ _ _ _ rfl hz) hd
      ·have:=hz'.leX W2
       simp only [AV.unme,show Nat.beq k k'=false from by cases hb:Nat.beq k k' with | false=>rfl | true=>exact absurd (Nat.eq_of_beq_eq_true hb).symm hk'] at this
       exact this
     | _=>exact hz'.leX W2
 ·exact h.elim
include hΓ hT in
theorem Ig {K:St→Prop} (hI:Inv Γ s a w) (hd:∀ d,o.dst=some d→d<Γ.nt) (h:Eh T s o.dst o.op K) (hn:bJ Γ a o.dst w K next):o.wpIn Γ.F Γ.n Γ.P a w next Q:=by
 obtain ⟨c,hW,ht⟩:=hI.ex
 unfold Eh at h
 split at h
 ·rename_i t p q d ho hdst
  have hdlt:=hd d hdst
  split at h
  ·rename_i i hi
   split at h
   ·rename_i j hj
    split at h
    ·rename_i k1 l k2 n zs hl hc hzs
     cases hb:(Nat.beq i.kind 3&&(Nat.beq zs.length j.size&&(zs.all (fun c=>c.isCell)&&Nat.blt 0 j.size))) with
     | false=>rw [hb] at h; exact h.elim
     | true=>
      rw [hb,cond_true] at h
      simp only [Bool.and_eq_true,List.all_eq_true] at hb
      obtain ⟨b1,b2,b3,b4⟩:=hb
      obtain ⟨h0,hlc,hroom,hmax,hK⟩:=h
      have hpos:0<j.size:=Nat.le_of_ble_eq_true b4
      have hu:=bK hT hi (Nat.eq_of_beq_eq_true b1)
      have hzl:=Nat.eq_of_beq_eq_true b2
      obtain ⟨q',z,q1,q2,q3,q4,q5,_⟩:=gE (c:=c) w hT hj hzs hzl
      obtain ⟨z',z1,z2,z3⟩:=jx hT (w:=w) hj hzs
      have hzz:z'=z:=by
       simp only [zeroValue,typeInfo,Sem.run_bind,run_program,Result.andThen_ok,q1,Sem.run_pure,q4,Result.ok.injEq,and_true] at z1
       exact z1.symm
      subst hzz
      have hp:=aB ht p
      rw [hl] at hp
      have hq:=aB ht q
      rw [hc] at hq
      have hbytes:(q'.bytes:Int)*n≤281474976710656:=by
       unfold eA at hroom
       have:((n.toNat*j.bytes:Nat):Int)≤70368744177664:=by omega
       rw [q3,Int.mul_comm]
       rw [Int.natCast_mul,Int.toNat_of_nonneg (by omega)] at this
       omega
      have hrun:=run_make (P:=Γ.P) w t i.elem q' z' hu q1 q4 k1 k2 l n h0 hlc hbytes (by omega)
      rw [q2] at hrun
      have hsz:(madeCells z'.cells (n.toNat*j.size)).size=n.toNat*j.size:=by simp [madeCells]
      obtain ⟨W1,W2,W3⟩:=hW.newX d (l.toNat,n.toNat) (.cells (madeCells z'.cells (n.toNat*j.size)) i.elem (0,0)) rfl (bA _ _)
      refine aP hΓ (by rw [ho]; intro c hc; cases hc) (v := .slice (some ⟨w.heap.size,0,none⟩) l.toNat n.toNat) (w':=w.alloc (.cells (madeCells z'.cells (n.toNat*j.size)) i.elem)) ?_ ?_
      ·simp only [execOp,ho,hp.int,hq.int,Sem.run_bind,hrun,Result.andThen_ok,Sem.run_pure]
      ·rw [hdst]
       refine hn _ _ _ hK (hI.next W3 W1 (d:=some d) (by intro k hk; cases hk; exact hdlt) (bV (fun e z hz=>?_) (by rw [hI.size]; exact hdlt) ?_)) W3 (dx hdst)
       ·rw [ak] at hz
        split at hz
        ·cases hz
         refine ⟨_,_,i.elem,if_pos rfl,⟨by simp,by rw [hsz]; simp⟩,by rw [hsz,List.length_replicate]; exact Nat.mul_le_mul_right _ (by omega),fun r hr=>?_,fun m r p y h1 h2=>?_⟩
         ·rw [List.eq_of_mem_replicate hr]; exact ⟨hzl,b3⟩
         ·rw [List.getElem?_replicate] at h1
          split at h1
          ·rename_i hm
           cases h1
           have hpl:p<zs.length:=(List.getElem?_eq_some_iff.1 h2).1
           have hpz:p<z'.cells.size:=by omega
           have hlt:m*j.size+p<n.toNat*j.size:=by
            have:(m+1)*j.size≤n.toNat*j.size:=Nat.mul_le_mul_right _ (by omega)
            rw [Nat.succ_mul] at this; omega
           refine ⟨z'.cells[p],?_,z3 _ p y _ h2 (Array.getElem?_eq_getElem hpz)⟩
           rw [mj _ _ _ (by omega) hlt]
           rw [show (m*j.size+p) % z'.cells.size=p by rw [q5,Nat.mul_comm,Nat.mul_add_mod]; exact Nat.mod_eq_of_lt (by omega)]
           exact Array.getElem?_eq_getElem hpz
          ·cases h1
        ·rw [bY] at hz
         obtain ⟨z',hz',rfl⟩:=Option.map_eq_some_iff.1 hz
         exact (ht e z' hz').leX W2
       ·exact ⟨_,_,i.elem,n.toNat,if_pos rfl,rfl,⟨by simp,by simp⟩,by omega⟩
    ·exact h.elim
   ·exact h.elim
  ·exact h.elim
 ·exact h.elim
end
end Go.AI
namespace Go.AI
open Go
open Go.RowKit (Below)
section
variable {Γ:aH} (hΓ:Γ.OK) {T:Tab} (hT:T.OK Γ.P) {s:St} {K:St→Prop} {o:Oper} {a:Act} {w:World}
 {next:Act→World→Prop} {Q:Exit→Act→World→Prop}
include hΓ hT in
theorem Bs {t:TypeId} {x:Operand} {lo hi mx:Option Operand} {k n:Nat} {zs:List (List AV)} (hop:o.op = .slice t x lo hi mx) (hI:Inv Γ s a w) (hd:∀ d,o.dst=some d→d<Γ.nt) (hx:ev s x = .me .sl k n zs)
  (h:uF T s o.dst t k n (lo.map (ev s)) (hi.map (ev s)) (mx.map (ev s)) K) (hn:bJ Γ a o.dst w K next):o.wpIn Γ.F Γ.n Γ.P a w next Q:=by
 obtain ⟨c,hW,ht⟩:=hI.ex
 unfold uF at h
 split at h
 ·exact h.elim
 rename_i i hi'
 split at h
 ·exact h.elim
 rename_i j hj
 split at h
 ·exact h.elim
 rename_i sz xs hc
 cases hb:(Nat.beq i.kind 3&&(Nat.beq j.size sz&&(mx.map (ev s)).isNone)) with
 | false=>rw [hb] at h; exact h.elim
 | true=>
  rw [hb] at h
  simp only [cond_true] at h
  simp only [Bool.and_eq_true] at hb
  obtain ⟨b1,b2,b3⟩:=hb
  have hmx:mx=none:=by cases mx with | none=>rfl | some _=>simp at b3
  subst hmx
  have hu:=bK hT hi' (Nat.eq_of_beq_eq_true b1)
  have hsz:=Nat.eq_of_beq_eq_true b2
  have hrx:=aB ht x
  rw [hx] at hrx
  obtain ⟨b,cells,U,cap,e1,e2,e3,e4⟩:=(show RX c .sl k n zs (a.eval x) from hrx)
  have bnd:∀ (bo:Option Operand) (d:Nat) (K':Nat→Prop),eI (bo.map (ev s)) d K' →
    ∃ n,K' n∧(∀ (y:Nat) (code:BoundsCode),n≤y→∀ v,bo.map a.eval=some v→(Instr.sliceBound v y code).run Γ.P w = .ok n w)∧(bo.map a.eval=none→n=d):=by
   intro bo d K' hb
   cases bo with
   | none=>exact ⟨d,hb,by simp,fun _=>rfl⟩
   | some y=>
    simp only [Option.map_some,eI] at hb
    split at hb
    ·cases ‹some (ev s y)=none›
    ·rename_i q n hy
     simp only [Option.some.injEq] at hy
     have:=aB ht y
     rw [hy] at this
     refine ⟨n.toNat,hb.2,fun z code hz v hv=>?_,by simp⟩
     simp only [Option.map_some,Option.some.injEq] at hv
     exact pi (hv ▸ this.int) hb.1 hz
    ·exact hb.elim
  obtain ⟨l,h,hl1,hl2⟩:=bnd lo 0 _ h
  obtain ⟨r,h,hr1,hr2⟩:=bnd hi n _ h
  obtain ⟨g1,g2,h⟩:=h
  have hrun:(Instr.sliceBounds true n cap (lo.map a.eval) (hi.map a.eval) none).run Γ.P w = .ok (l,r,cap) w:=by
   refine pR ?_ ?_
   ·cases hi with
    | none=>exact hr2 rfl
    | some z=>exact fun code=>hr1 _ code (by omega) _ rfl
   ·cases lo with
    | none=>exact hl2 rfl
    | some y=>exact fun code=>hl1 _ code g1 _ rfl
  refine lZ hΓ hI hd hW ht (by rw [hop]; intro c hc; cases hc) (x := .me (.sub sz l) k (r - l) []) (v := .slice (if cap=l then some ⟨b,0,none⟩ else (some (⟨b,0,none⟩:Addr)).map (·.add (l*j.size))) (r - l) (cap - l)) ?_ ?_ h hn
  ·refine ⟨b,cells,U,if cap=l then 0 else l*sz,cap - l,e1,?_,?_,by omega,by omega⟩
   ·split
    ·rfl
    ·rw [hsz]; simp only [Option.map_some,cG,Nat.zero_add]
   ·split
    ·exact Or.inr ⟨by omega,rfl⟩
    ·exact Or.inl rfl
  ·simp only [execOp,hop,e2,Instr.sliceAt,Sem.run_bind,run_underlying hu,Result.andThen_ok,Instr.slice,hrun,bF hT hj,Sem.run_pure,Option.map_none]
include hΓ hT in
theorem HQ {args:Array Operand} {ts:Array TypeId} {x y:Operand} {sz k h0:Nat} {zs:List (List AV)} (hop:o.op = .call { callee := .builtin .append,args:=args,argTypes:=ts }) (ha:args.toList=[x,y]) (hI:Inv Γ s a w) (hd:∀ d,o.dst=some d→d<Γ.nt)
  (hx:ev s x = .me (.sub sz 0) k h0 zs) (h:G1 T s o.dst ts.toList sz k h0 (ev s y) K) (hn:bJ Γ a o.dst w K next):o.wpIn Γ.F Γ.n Γ.P a w next Q:=by
 obtain ⟨c,hW,ht⟩:=hI.ex
 unfold G1 at h
 split at h
 ·rename_i d t t' hdst hts
  have hdlt:=hd d hdst
  split at h
  ·exact h.elim
  rename_i i hi
  split at h
  ·exact h.elim
  rename_i j hj
  split at h
  ·rename_i sz' l k' m ys hys
   split at h
   ·exact h.elim
   rename_i sz2 xs hc
   cases hb:(Nat.beq i.kind 3&&(Nat.beq t t'&&(Nat.beq sz sz2&&(Nat.beq sz' sz2&&(Nat.beq k k'&&(Nat.beq j.size sz2&&Nat.blt 0 sz2)))))) with
   | false=>rw [hb] at h; exact h.elim
   | true=>
    rw [hb] at h
    simp only [Bool.and_eq_true] at hb
    obtain ⟨b1,b2,b3,b4,b5,b6,b7⟩:=hb
    have q1:=Nat.eq_of_beq_eq_true b2
    have q2:=Nat.eq_of_beq_eq_true b3
    have q3:=Nat.eq_of_beq_eq_true b4
    have q4:=Nat.eq_of_beq_eq_true b5
    have q5:=Nat.eq_of_beq_eq_true b6
    subst q1; subst q2; subst q3; subst q4
    obtain ⟨hle,h⟩:=h
    have hpos:0<sz':=Nat.le_of_ble_eq_true b7
    obtain ⟨b,cells,U,e1,e2,e3,e4,e5⟩:=nb ht hc
    have hq:=hW.xo k b _ e1
    have hrx:=aB ht x
    rw [hx] at hrx
    obtain ⟨b',cells',U',off,cap,f1,f2,f3,f4,f5⟩:=(show RX c (.sub sz' 0) k h0 zs (a.eval x) from hrx)
    rw [e1] at f1
    cases f1
    have hoff:off=0:=f3.elim (fun h=>by rw [h,Nat.zero_mul]) (fun h=>h.2)
    subst hoff
    have hry:=aB ht y
    rw [hys] at hry
    obtain ⟨b'',cells'',U'',off2,cap2,g1,g2,g3,g4,g5⟩:=(show RX c (.sub sz' l) k m ys (a.eval y) from hry)
    rw [e1] at g1
    cases g1
    obtain ⟨q,hq1,hq2⟩:∃ q,Γ.P.info? i.elem=some q∧q.size=sz':=by
     obtain ⟨q,d,h1,h2,h3⟩:=bH hT hj
     simp only [TI.of,h1,h2,Option.some.injEq] at h3
     exact ⟨q,h1,by rw [← q5,← h3]⟩
    have hu:=bK hT hi (Nat.eq_of_beq_eq_true b1)
    obtain ⟨news,hnews⟩:∃ news,news=(cells.toList.drop (l*sz')).take (m*sz'):=⟨_,rfl⟩
    have hlm:(l+m)*sz'≤cells.size:=Nat.le_trans (Nat.mul_le_mul_right _ (by omega)) e3
    rw [Nat.add_mul] at hlm
    have hnl:news.length=m*sz':=by rw [hnews]; simp; omega
    have hng:∀ p,news[p]?=if p<m*sz' then cells[l*sz'+p]? else none:=fun p=>by
     rw [hnews,List.getElem?_take]
     split
     ·rw [List.getElem?_drop]; simp
     ·rfl
    have hone:∀ v∈news,v.oneCell'=true:=by
     intro v hv
     obtain ⟨p,hp⟩:=List.getElem?_of_mem hv
     rw [hng] at hp
     split at hp
     ·rename_i hlt
      obtain ⟨r0,hr0⟩:∃ r0,xs[l+p / sz']?=some r0:=by
       have:p / sz'<m:=Nat.div_lt_of_lt_mul (by rw [Nat.mul_comm]; exact hlt)
       exact ⟨_,List.getElem?_eq_getElem (by omega)⟩
      have hrl:=(e4 r0 (List.mem_of_getElem? hr0)).1
      have hmod:=Nat.mod_lt p hpos
      obtain ⟨y0,hy0⟩:∃ y0,r0[p % sz']?=some y0:=⟨_,List.getElem?_eq_getElem (by omega)⟩
      obtain ⟨u,hu1,hu2⟩:=e5 _ r0 _ y0 hr0 hy0
      have hidx:(l+p / sz')*sz'+p % sz'=l*sz'+p:=by
       rw [Nat.add_mul,Nat.add_assoc,Nat.mul_comm (p / sz') sz',Nat.div_add_mod]
      rw [hidx,hp] at hu1
      cases hu1
      exact (hu2.one ((e4 r0 (List.mem_of_getElem? hr0)).2 y0 (List.mem_of_getElem? hy0))).1
     ·cases hp
    have hcell:∀ p u,news[p]?=some u→w.cell? ((⟨b,off2,none⟩:Addr).add p)=some u:=by
     intro p u hp
     rw [hng] at hp
     split at hp
     ·rename_i hlt
      have:off2=l*sz':=by
       rcases g3 with h | h
       ·exact h
       ·rw [h.1,Nat.zero_mul] at hlt; omega
      rw [cG,this]
      simp only [World.cell?,hq.obj]
      simpa using hp
     ·cases hp
    have hfit:(h0+m)*sz'≤cells.size:=Nat.le_trans (Nat.mul_le_mul_right _ hle) e3
    rw [Nat.add_mul] at hfit
    have hrun:=fx hu hq1 (w:=w) (T:=U) (cur:=cells) (g:=b) (sLen:=h0) (sCap:=cap) hq.obj ⟨b,off2,none⟩ m cap2 news (by rw [hnl,hq2]) hcell hone (by omega) (by rw [hnl,hq2]; omega) o.type
    rw [hq2,hnl] at hrun
    obtain ⟨cells2,hcells2⟩:∃ cells2,cells2=(cells.toList.take (h0*sz')++news++cells.toList.drop (h0*sz'+m*sz')).toArray:=⟨_,rfl⟩
    rw [← hcells2] at hrun
    have hc2:∀ p,cells2[p]?=if p<h0*sz' then cells[p]? else if p<h0*sz'+m*sz' then cells[l*sz'+(p - h0*sz')]? else cells[p]?:=fun p=>by
     have hl1:(cells.toList.take (h0*sz')).length=h0*sz':=by simp; omega
     have he:cells2[p]?=(cells.toList.take (h0*sz')++news++cells.toList.drop (h0*sz'+m*sz'))[p]?:=by rw [hcells2]; simp
     rw [he]
     by_cases hp1:p<h0*sz'
     ·rw [if_pos hp1,List.append_assoc,List.getElem?_append_left (by omega),List.getElem?_take,if_pos hp1]; simp
     ·rw [if_neg hp1]
      by_cases hp2:p<h0*sz'+m*sz'
      ·rw [if_pos hp2,List.append_assoc,List.getElem?_append_right (by omega),hl1,List.getElem?_append_left (by omega),hng,if_pos (by omega)]
      ·rw [if_neg hp2,List.getElem?_append_right (by rw [List.length_append]; omega),List.getElem?_drop,List.length_append,hl1,hnl,show h0*sz'+m*sz'+(p - (h0*sz'+m*sz'))=p by omega]; simp
    have hsize2:cells2.size=cells.size:=by rw [hcells2]; simp [hnl]; omega
    obtain ⟨W1,W2,W3⟩:=hW.storeX e1 cells2 (hq.ag (kj hc))
    obtain ⟨c2,hc2d⟩:∃ c2:Ctx,c2={ c with x:=fun j=>if j=k then some (b,.cells cells2 U (0,0)) else c.x j,xn:=fun j=>if j=k then (h0+m,cap) else c.xn j }:=⟨_,rfl⟩
    have W1':WI Γ c2 s.b (w.setRow b cells2):=by
     rw [hc2d]
     exact ⟨W1.ext,W1.sub,W1.le0,W1.new,fun d cs h hne=>by
      obtain ⟨p1,p2,p3,us,V,p4,p5,p6⟩:=W1.box d cs h hne
      exact ⟨p1,p2,p3,us,V,p4,p5,fun i x v z1 z2=>RC1.leX_cell (k:=k) (c:={ c with x:=fun j=>if j=k then some (b,.cells cells2 U (0,0)) else c.x j }) (c':={ c with x:=fun j=>if j=k then some (b,.cells cells2 U (0,0)) else c.x j,xn:=fun j=>if j=k then (h0+m,cap) else c.xn j }) ⟨.refl _,rfl,rfl,rfl,fun j hj=>⟨rfl,if_neg hj⟩⟩ (p6 i x v z1 z2) (p3 x (List.mem_of_getElem? z1))⟩,
      W1.inj,fun j=>⟨(W1.own j).blk,(W1.own j).shape,(W1.own j).box,(W1.own j).apart⟩,fun j b' o' h=>⟨(W1.xo j b' o' h).new,(W1.xo j b' o' h).obj,(W1.xo j b' o' h).kept,(W1.xo j b' o' h).mem,(W1.xo j b' o' h).map,(W1.xo j b' o' h).box,(W1.xo j b' o' h).own,(W1.xo j b' o' h).inj⟩⟩
    have L2:c.leX k c2:=by rw [hc2d]; exact ⟨.refl _,rfl,rfl,rfl,fun j hj=>⟨if_neg hj,if_neg hj⟩⟩
    have hx2:c2.x k=some (b,.cells cells2 U (0,0)):=by rw [hc2d]; exact if_pos rfl
    have hn2:c2.xn k=(h0+m,cap):=by rw [hc2d]; exact if_pos rfl
    have hm2:c2.m=c.m:=by rw [hc2d]
    obtain ⟨args⟩:=args
    obtain ⟨ts⟩:=ts
    simp only at ha hts
    subst ha
    subst hts
    refine aP hΓ (by rw [hop]; intro c hc; cases hc) (v := .slice (some ⟨b,0,none⟩) (h0+m) cap) (w':=w.setRow b cells2) ?_ ?_
    ·simp only [execOp,hop,Sem.run_bind,bT,Result.andThen_ok,invoke,builtin,List.map_toArray,List.map_cons,List.map_nil,f2,g2,hrun,Sem.run_pure]
    ·rw [hdst]
     refine hn _ _ _ h (hI.next W3 W1' (d:=some d) (by intro k hk; cases hk; exact hdlt) (bV (fun e z hz=>?_) (by rw [hI.size]; exact hdlt) ?_)) W3 (dx hdst)
     ·rw [ak] at hz
      split at hz
      ·cases hz
       have htk:∀ (p:Nat) (r:List AV),(xs.take h0++(xs.drop l).take m)[p]?=some r→if p<h0 then xs[p]?=some r else p<h0+m∧xs[l+(p - h0)]?=some r:=fun p r hp=>by
        have hl1:(xs.take h0).length=h0:=by simp; omega
        by_cases hp1:p<h0
        ·rw [if_pos hp1]
         rw [List.getElem?_append_left (by omega),List.getElem?_take,if_pos hp1] at hp; exact hp
        ·rw [if_neg hp1]
         rw [List.getElem?_append_right (by omega),hl1,List.getElem?_take] at hp
         split at hp
         ·rw [List.getElem?_drop] at hp; exact ⟨by omega,hp⟩
         ·cases hp
       refine ⟨b,cells2,U,hx2,?_,?_,fun r hr=>?_,fun p r p' z1 h1 h2=>?_⟩
       ·rw [hn2]; exact ⟨by simp; omega,by rw [hsize2]; exact Nat.le_trans (Nat.mul_le_mul_right _ (by omega)) e2.2⟩
       ·rw [hsize2]
        have:(xs.take h0++(xs.drop l).take m).length=h0+m:=by simp; omega
        rw [this,Nat.add_mul]; omega
       ·obtain ⟨p,hp⟩:=List.getElem?_of_mem hr
        have:=htk p r hp
        split at this
        ·exact e4 r (List.mem_of_getElem? this)
        ·exact e4 r (List.mem_of_getElem? this.2)
       ·have:=htk p r h1
        rw [hc2,hm2]
        split at this
        ·rename_i hp1
         have hrl:=(e4 r (List.mem_of_getElem? this)).1
         have hpl:p'<sz':=by rw [← hrl]; exact (List.getElem?_eq_some_iff.1 h2).1
         have hmul:(p+1)*sz'≤h0*sz':=Nat.mul_le_mul_right _ hp1
         rw [Nat.add_mul,Nat.one_mul] at hmul
         rw [if_pos (by omega)]
         exact e5 p r p' z1 this h2
        ·rename_i hp1
         obtain ⟨hp2,this⟩:=this
         have hrl:=(e4 r (List.mem_of_getElem? this)).1
         have hpl:p'<sz':=by rw [← hrl]; exact (List.getElem?_eq_some_iff.1 h2).1
         have hmul:h0*sz'≤p*sz':=Nat.mul_le_mul_right _ (by omega)
         have hmul2:(p+1)*sz'≤(h0+m)*sz':=Nat.mul_le_mul_right _ hp2
         rw [Nat.add_mul,Nat.one_mul,Nat.add_mul] at hmul2
         rw [if_neg (by omega),if_pos (by omega)]
         obtain ⟨u,u1,u2⟩:=e5 _ r p' z1 this h2
         refine ⟨u,?_,u2⟩
         rw [← u1]
         congr 1
         have:(p - h0)*sz'=p*sz' - h0*sz':=Nat.sub_mul _ _ _
         rw [Nat.add_mul]; omega
      ·rw [bY] at hz
       obtain ⟨z',hz',rfl⟩:=Option.map_eq_some_iff.1 hz
       exact (ht e z' hz').leX L2
     ·exact ⟨b,cells2,U,cap,hx2,rfl,by rw [hn2]; exact ⟨rfl,rfl⟩,by omega⟩
  ·exact h.elim
 ·exact h.elim
end
end Go.AI
namespace Go.AI
open Go
open Go.RowKit (Below)
section
variable {Γ:aH} (hΓ:Γ.OK) {T:Tab} (hT:T.OK Γ.P) {s:St} {K:St→Prop} {o:Oper} {a:Act} {w:World}
 {next:Act→World→Prop} {Q:Exit→Act→World→Prop}
theorem WI.rename {c:Ctx} {bx:List (Nat×List AV)} (hW:WI Γ c bx w) (k:Nat) (p:Nat×Nat):WI Γ { c with xn:=fun j=>if j=k then p else c.xn j } bx w∧c.leX k { c with xn:=fun j=>if j=k then p else c.xn j }:=by
 have L:c.leX k { c with xn:=fun j=>if j=k then p else c.xn j }:=⟨.refl _,rfl,rfl,rfl,fun j hj=>⟨rfl,if_neg hj⟩⟩
 refine ⟨⟨hW.ext,hW.sub,hW.le0,hW.new,fun d cs h hne=>?_,hW.inj,fun j=>⟨(hW.own j).blk,(hW.own j).shape,(hW.own j).box,(hW.own j).apart⟩,fun j b o h=>⟨(hW.xo j b o h).new,(hW.xo j b o h).obj,(hW.xo j b o h).kept,(hW.xo j b o h).mem,(hW.xo j b o h).map,(hW.xo j b o h).box,(hW.xo j b o h).own,(hW.xo j b o h).inj⟩⟩,L⟩
 obtain ⟨p1,p2,p3,us,V,p4,p5,p6⟩:=hW.box d cs h hne
 exact ⟨p1,p2,p3,us,V,p4,p5,fun i x v z1 z2=>(p6 i x v z1 z2).leX_cell L (p3 x (List.mem_of_getElem? z1))⟩
theorem Ctx.leX.trans {k:Nat} {a b c:Ctx} (h:a.leX k b) (g:b.leX k c):a.leX k c:=
 ⟨h.m.trans g.m,g.ρ.trans h.ρ,g.τ.trans h.τ,g.σ.trans h.σ,fun j hj=>⟨(g.x j hj).1.trans (h.x j hj).1,(g.x j hj).2.trans (h.x j hj).2⟩⟩
include hΓ hT in
theorem IQ {args:Array Operand} {ts:Array TypeId} {x y:Operand} {k n:Nat} {zs:List (List AV)} (hop:o.op = .call { callee := .builtin .append,args:=args,argTypes:=ts }) (ha:args.toList=[x,y]) (hI:Inv Γ s a w) (hd:∀ d,o.dst=some d→d<Γ.nt)
  (hx:ev s x = .me .sl k n zs) (h:Ih T s o.dst ts.toList k n (ev s y) K) (hn:bJ Γ a o.dst w K next):o.wpIn Γ.F Γ.n Γ.P a w next Q:=by
 obtain ⟨c,hW,ht⟩:=hI.ex
 unfold Ih at h
 split at h
 ·rename_i d t t' hdst hts
  have hdlt:=hd d hdst
  split at h
  ·exact h.elim
  rename_i i hi
  split at h
  ·exact h.elim
  rename_i j hj
  split at h
  ·exact h.elim
  rename_i sz xs hc
  split at h
  ·rename_i ow sz' ys hys
   cases hb:(Nat.beq i.kind 3&&(Nat.beq t t'&&(qC j&&(Nat.blt 0 j.size&&Nat.beq j.size sz)))) with
   | false=>rw [hb] at h; exact h.elim
   | true=>
    rw [hb] at h
    simp only [Bool.and_eq_true] at hb
    obtain ⟨b1,b2,b3,b4,b5⟩:=hb
    have htt:=Nat.eq_of_beq_eq_true b2
    subst htt
    have hjs:=Nat.eq_of_beq_eq_true b5
    subst hjs
    obtain ⟨⟨hn0,hroom,hmax,h⟩,hsy⟩:=gC h
    have hpos:0<j.size:=Nat.le_of_ble_eq_true b4
    unfold qC at b3
    split at b3
    ·rename_i zs' hz
     have hzl:=Nat.eq_of_beq_eq_true b3
     obtain ⟨b,cells,U,e1,⟨e2,e2'⟩,e3,e4,e5⟩:=nb ht hc
     have hq:=hW.xo k b _ e1
     have hrx:=aB ht x
     rw [hx] at hrx
     obtain ⟨b',cells',U',cap,f1,f2,⟨f3,f4⟩,f5⟩:=(show RX c .sl k n zs (a.eval x) from hrx)
     rw [e1] at f1
     cases f1
     rw [← f4] at e2'
     have hxn:xs.length=n:=by omega
     have hry:=aB ht y
     rw [hys] at hry
     have hry1:=(RC.iff (by intro cs hc; cases hc)).1 hry
     have hu:=bK hT hi (Nat.eq_of_beq_eq_true b1)
     obtain ⟨q,z,q1,q2,q3,q4,q5,_⟩:=gE (c:=c) w hT hj hz hzl
     have hy':RD c.m (.sl .no sz' ys) (a.eval y):=hry1.sl_no
     obtain ⟨v,hv⟩:∃ v,v=a.eval y:=⟨_,rfl⟩
     rw [← hv] at hy'
     obtain ⟨base',n',cap',rfl,_,_⟩:=hy'.elem
     obtain ⟨k2,k1,k2',k3,k4,k5,k6,k7,k8⟩:=hy'.flat
     subst k4
     have hy6:∀ r∈ys,r.length=j.size:=by
      rcases hsy with h | h
      ·rw [h]; exact k6
      ·subst h; simp
     have hkl:k2.length=ys.length*j.size:=by
      rcases hsy with h | h
      ·rw [h]; exact k1
      ·subst h; simpa using k1
     have hk2:∀ (i:Nat) (x:List AV) (p:Nat) (c':AV),ys[i]?=some x→x[p]?=some c'→∃ v,k2[i*j.size+p]?=some v∧RD c.m c' v:=by
      rcases hsy with h | h
      ·rw [h]; exact k2'
      ·subst h; simp
     obtain ⟨args⟩:=args
     obtain ⟨ts⟩:=ts
     simp only at ha hts
     subst ha
     subst hts
     -- the rows,flat
     obtain ⟨l,hl⟩:∃ l,l=cells.toList.take (n*j.size):=⟨_,rfl⟩
     have hll:l.length=xs.length*j.size:=by rw [hl,hxn]; simp; rw [hxn] at e3; omega
     have hlg:∀ p,p<n*j.size→l[p]?=cells[p]?:=fun p hp=>by rw [hl,List.getElem?_take,if_pos hp]; simp
     have hl2:∀ (i:Nat) (x:List AV) (p:Nat) (c':AV),xs[i]?=some x→x[p]?=some c'→∃ v,l[i*j.size+p]?=some v∧RD c.m c' v:=fun i r p c' h1 h2=>by
      obtain ⟨u,u1,u2⟩:=e5 i r p c' h1 h2
      refine ⟨u,?_,u2⟩
      rw [hlg]
      ·exact u1
      ·have hrl:=(e4 r (List.mem_of_getElem? h1)).1
       have hpl:p<j.size:=by rw [← hrl]; exact (List.getElem?_eq_some_iff.1 h2).1
       have hmul:(i+1)*j.size≤n*j.size:=Nat.mul_le_mul_right _ (by have:=(List.getElem?_eq_some_iff.1 h1).1; omega)
       rw [Nat.add_mul,Nat.one_mul] at hmul
       omega
     have hall:∀ r∈xs++ys,r.length=j.size∧∀ y∈r,y.isCell=true:=fun r hr=>by
      rcases List.mem_append.1 hr with h | h
      ·exact e4 r h
      ·exact ⟨hy6 r h,k7 r h⟩
     have hlen2:(xs++ys).length=n+ys.length:=by rw [List.length_append,hxn]
     -- what is to be shown of the new row
     have fin:∀ (c2:Ctx) (b2:Nat) (cells2:Array Value) (U2:TypeId) (cap2:Nat) (w2:World),(Builtin.append_ #[t,t] o.type #[.slice (some ⟨b,0,none⟩) n cap,.slice base' ys.length cap']).run Γ.P w = .ok (.slice (some ⟨b2,0,none⟩) (n+ys.length) cap2) w2 →
       WI Γ c2 s.b w2→c.leX k c2→NC w w2→c2.x k=some (b2,.cells cells2 U2 (0,0))→c2.xn k=(n+ys.length,cap2)→n+ys.length≤cap2→cap2*j.size≤cells2.size →
       (∀ (p:Nat) (v:Value),(l++k2)[p]?=some v→cells2[p]?=some v)→o.wpIn Γ.F Γ.n Γ.P a w next Q:=by
      intro c2 b2 cells2 U2 cap2 w2 hrun W1 L2 W3 hx2 hn2 hcap hsz2 hcells
      refine aP hΓ (by rw [hop]; intro c hc; cases hc) (v := .slice (some ⟨b2,0,none⟩) (n+ys.length) cap2) (w':=w2) ?_ ?_
      ·simp only [execOp,hop,Sem.run_bind,bT,Result.andThen_ok,invoke,builtin,List.map_toArray,List.map_cons,List.map_nil,f2,← hv,hrun,Sem.run_pure]
      ·rw [hdst]
       refine hn _ _ _ h (hI.next W3 W1 (d:=some d) (by intro k hk; cases hk; exact hdlt) (bV (fun e z hz=>?_) (by rw [hI.size]; exact hdlt) ?_)) W3 (dx hdst)
       ·rw [ak] at hz
        split at hz
        ·cases hz
         refine ⟨b2,cells2,U2,hx2,⟨by rw [hn2]; exact hlen2,by rw [hn2]; exact hsz2⟩,?_,hall,fun p r p' z1 h1 h2=>?_⟩
         ·rw [hlen2]; exact Nat.le_trans (Nat.mul_le_mul_right _ hcap) hsz2
         ·obtain ⟨v,h3,h4⟩:=kW (m:=c.m) hll hl2 hk2 p r p' z1 h1 h2
          exact ⟨v,hcells _ _ h3,h4.mono L2.m⟩
        ·rw [bY] at hz
         obtain ⟨z',hz',rfl⟩:=Option.map_eq_some_iff.1 hz
         exact (ht e z' hz').leX L2
       ·exact ⟨b2,cells2,U2,cap2,hx2,rfl,by rw [hn2]; exact ⟨rfl,rfl⟩,hcap⟩
     obtain ⟨bb,off',rfl,hkm⟩:=k8 hn0
     have hnews:∀ p v,k2[p]?=some v→w.cell? ((⟨bb,off',none⟩:Addr).add p)=some v:=fun p v h=>by rw [cG]; exact hW.sub.cell _ _ _ (hkm p v h)
     have hr47:(xs.length+ys.length)*j.bytes≤140737488355328:=by unfold eA at hroom; omega
     by_cases hfit:n+ys.length≤cap
     ·-- in its place
      have hmul:=Nat.mul_le_mul_right j.size hfit
      rw [Nat.add_mul] at hmul
      have hrun:=fx hu q1 (w:=w) (T:=U) (cur:=cells) (g:=b) (sLen:=n) (sCap:=cap) hq.obj ⟨bb,off',none⟩ ys.length cap' k2 (by rw [hkl,q2]) hnews k3 hfit (by rw [hkl,q2]; omega) o.type
      rw [q2,hkl] at hrun
      obtain ⟨cells2,hcells2⟩:∃ cells2,cells2=(cells.toList.take (n*j.size)++k2++cells.toList.drop (n*j.size+ys.length*j.size)).toArray:=⟨_,rfl⟩
      rw [← hcells2] at hrun
      have hsize2:cells2.size=cells.size:=by rw [hcells2]; simp [hkl]; omega
      obtain ⟨W1,L1,W3⟩:=hW.storeX e1 cells2 (hq.ag (kj hc))
      obtain ⟨W1',L2⟩:=W1.rename k (n+ys.length,cap)
      refine fin _ b cells2 U cap _ hrun W1' (L1.trans L2) W3 (if_pos rfl) (if_pos rfl) hfit (by rw [hsize2]; exact e2') (fun p v hp=>?_)
      rw [hcells2,List.getElem?_toArray,List.getElem?_append_left (by have:=(List.getElem?_eq_some_iff.1 hp).1; rw [hl] at this; exact this)]
      rw [← hl]; exact hp
     ·-- elsewhere
      have hfits:=growslice_fits (need:=n+ys.length) (old:=cap) (bytes:=q.bytes) (by omega) (by rw [q3,← hxn]; exact hr47)
      have hge:=grownCap_ge w (n+ys.length) cap i.elem
      obtain ⟨cells2,hcells2⟩:∃ cells2,cells2=l.toArray++k2.toArray++Builtin.zeroCells z.cells (grownCap w (n+ys.length) cap i.elem - (n+ys.length)):=⟨_,rfl⟩
      have holds:∀ p v,l[p]?=some v→w.cell? ((⟨b,0,none⟩:Addr).add p)=some v:=fun p v hp=>by
       have hpl:=(List.getElem?_eq_some_iff.1 hp).1
       rw [hll,hxn] at hpl
       rw [hlg p hpl] at hp
       rw [cG,Nat.zero_add]
       simp only [World.cell?,hq.obj]
       exact hp
      have hrun:=run_append_grow (P:=Γ.P) w t o.type i.elem q z hu q1 q4 ⟨b,0,none⟩ n cap l (by rw [hll,q2,hxn]) holds ⟨bb,off',none⟩ ys.length cap' k2 (by rw [hkl,q2]) hnews (by omega) (by omega) hfits
      rw [← hcells2] at hrun
      have hsz:cells2.size=grownCap w (n+ys.length) cap i.elem*j.size:=by
       rw [hcells2]
       simp only [Array.size_append,List.size_toArray,size_zeroCells,q5,hll,hkl,hxn]
       rw [← Nat.add_mul,← Nat.add_mul]
       congr 1
       omega
      obtain ⟨W1,L1,W3⟩:=hW.drew.newX k (n+ys.length,grownCap w (n+ys.length) cap i.elem) (.cells cells2 i.elem (0,0)) rfl (bA _ _)
      have hN:NC w (w.drew.alloc (.cells cells2 i.elem (0,0))):=NC.trans (show NC w w.drew from ⟨Nat.le_refl _,fun _ _ h _=>h,.drew _,fun _ h=>h⟩) W3
      refine fin _ w.heap.size cells2 i.elem _ _ hrun W1 L1 hN (by rw [World.size_drew]; exact if_pos rfl) (if_pos rfl) hge (by rw [hsz]; exact Nat.le_refl _) (fun p v hp=>?_)
      rw [hcells2,Array.getElem?_append_left (by have:=(List.getElem?_eq_some_iff.1 hp).1; simpa using this)]
      have:(l++k2).toArray[p]?=some v:=by simpa using hp
      simpa using this
    ·cases b3
  ·exact h.elim
 ·exact h.elim
end
end Go.AI
namespace Go.AI
open Go
open Go.RowKit (Below)
section
variable {Γ:aH} (hΓ:Γ.OK) {T:Tab} (hT:T.OK Γ.P) {s:St} {K:St→Prop} {o:Oper} {a:Act} {w:World}
 {next:Act→World→Prop} {Q:Exit→Act→World→Prop}
theorem uV {guards:List Nat} {o:Oper} (h:qv guards o=true):o.op = .assign (.const (.slice none 0 0)):=by
 unfold qv at h
 split at h
 ·assumption
 ·cases h
include hΓ in
theorem IP (hop:o.op = .assign (.const (.slice none 0 0))) (hI:Inv Γ s a w) (hd:∀ d,o.dst=some d→d<Γ.nt) (h:ef s o.dst (.sl .full 0 []) K) (hn:bJ Γ a o.dst w K next):o.wpIn Γ.F Γ.n Γ.P a w next Q:=by
 obtain ⟨c,hW,ht⟩:=hI.ex
 refine lZ hΓ hI hd hW ht (by rw [hop]; intro c hc; cases hc) (x := .sl .full 0 []) (v := .slice none 0 0) ?_ (by simp only [execOp,hop]; rfl) h hn
 exact RC.of_RD (.sl _ _ _ _ _ _ (by intro k hk; cases hk) (fun _=>rfl) rfl (Nat.le_refl _) (by simp) (by simp) 0 0 (by omega) (fun _ _=>Go.undef) (by simp) (by simp))
include hΓ hT in
theorem oR {op:Op} (hop:o.op=op) (hI:Inv Γ s a w) (hd:∀ d,o.dst=some d→d<Γ.nt) (h:opX T (ae Γ.P) s o.dst o.type op K) (hn:bJ Γ a o.dst w K next):o.wpIn Γ.F Γ.n Γ.P a w next Q:=by
 unfold opX at h
 split at h
 ·split at h
  ·rename_i hx hy; exact pp hΓ hT hop hI hd hx hy h hn
  ·exact bi hΓ hT hop hI hd h hn
 ·split at h
  ·rename_i hx; exact pq hΓ hT hop hI hd hx h hn
  ·exact bi hΓ hT hop hI hd h hn
 ·split at h
  ·rename_i hx; exact Eg hΓ hT hop hI hd hx h hn
  ·rename_i hx; exact EP hΓ hT hop hI hd hx (rf h fun v hv=>by rw [AV.go_eq] at hv; exact hv) hn
  ·exact bi hΓ hT hop hI hd h hn
 ·split at h
  ·rename_i hx; exact Ef hΓ hT hop hI hd hx (qF h fun v hv=>by rw [AV.go_eq] at hv; exact hv) hn
  ·exact h.elim
 ·split at h
  ·rename_i hx; exact GZ hΓ hT hop hI hx h hn
  ·obtain ⟨s',h1,h2⟩:=cX _ _ h hI
   split at h1
   ·rename_i hx
    exact BN hΓ hT hop h2 hx h1 (fun k v hK g d n xs hg=>eD hg hK.1) (fun k v hK s2 a2 w2 e1 e2 e3 e4=>hn s2 a2 w2 (by rw [e1]; exact hK.2) e2 e3 e4)
   ·exact h1.elim
  ·obtain ⟨s',h1,h2⟩:=cX _ _ h hI
   exact bi hΓ hT hop h2 hd h1 hn
 ·exact bi hΓ hT hop hI hd h hn
 ·exact bi hΓ hT hop hI hd h hn
 ·split at h
  ·rename_i d hd'
   exact Cu hΓ hop hI hd hd' h hn
  ·exact h.elim
 ·split at h
  ·rename_i b hx
   exact ii hΓ hT (.inl hop) hI hx h (fun k v hK _ s' a' w' h1 h2 h3 h4=>hn s' a' w' (by rw [h1]; exact hK.2) h2 h3 h4) (fun k v hK d n xs=>eD rfl hK.1)
  ·exact h.elim
 ·split at h
  ·rename_i b hx
   exact ii hΓ hT (.inr hop) hI hx h (fun k v hK _ s' a' w' h1 h2 h3 h4=>hn s' a' w' (by rw [h1]; exact hK.2) h2 h3 h4) (fun k v hK d n xs=>eD rfl hK.1)
  ·exact h.elim
 ·split at h
  ·rename_i ha hts
   split at h
   ·rename_i hx
    split at h
    ·rename_i i hi
     cases hb:Nat.beq i.kind 3 with
     | false=>rw [hb] at h; exact h.elim
     | true=>rw [hb] at h; exact HP hΓ hT hop ha hts hI hd hx hi (Nat.eq_of_beq_eq_true hb) h hn
    ·exact h.elim
   ·exact bi hΓ hT hop hI hd h hn
  ·exact bi hΓ hT hop hI hd h hn
 ·split at h
  ·rename_i ha
   obtain ⟨s',h1,h2⟩:=cX _ _ h hI
   split at h1
   ·rename_i hx
    split at h1
    ·rcases h1 with h1 | ⟨hnil,h1⟩
     ·exact bi hΓ hT hop h2 hd h1 hn
     ·subst hnil; exact G0 hΓ hT hop ha h2 hd hx h1 hn
    ·exact bi hΓ hT hop h2 hd h1 hn
   ·rename_i g _ _ _ hx
    split at h1
    ·rename_i off
     cases hb:Nat.beq off 0 with
     | true=>rw [hb] at h1; rw [Nat.eq_of_beq_eq_true hb] at hx; exact HQ hΓ hT hop ha h2 hd hx h1 hn
     | false=>rw [hb] at h1; exact bi hΓ hT hop h2 hd h1 hn
    ·exact IQ hΓ hT hop ha h2 hd hx h1 hn
    ·exact bi hΓ hT hop h2 hd h1 hn
   ·exact bi hΓ hT hop h2 hd h1 hn
  ·exact bi hΓ hT hop hI hd h hn
 ·split at h
  ·rename_i hx
   rcases h with h | h
   ·obtain ⟨s',h1,h2⟩:=cX _ _ h hI
    exact bi hΓ hT hop h2 hd h1 hn
   ·exact Bs hΓ hT hop hI hd hx h hn
  ·obtain ⟨s',h1,h2⟩:=cX _ _ h hI
   exact bi hΓ hT hop h2 hd h1 hn
 ·obtain ⟨s',h1,h2⟩:=cX _ _ h hI
  exact bi hΓ hT hop h2 hd h1 hn
end
end Go.AI
namespace Go.AI
open Go
open Go.RowKit (Below)
def bR (c:Ctx) (N I:List Nat) (b:Nat):Prop:=(∃ k∈N,∃ o,c.x k=some (b,o))∨∃ j∈I,aU c j=some b
open Classical in
noncomputable def je (w:World) (B:Nat→Prop):World:={ w with heap:=w.heap.mapIdx fun i o=>if B i then .deferred none else o }
theorem mV (w:World) (B:Nat→Prop):(je w B).heap.size=w.heap.size:=by simp [je]
theorem oV {w:World} {B:Nat→Prop} {k:Nat} (h:¬ B k):(je w B).heap[k]?=w.heap[k]?:=by
 simp only [je,Array.getElem?_mapIdx,h,if_false]
 cases w.heap[k]? <;> rfl
theorem ru {w:World} {B:Nat→Prop} {k:Nat} (h:B k) (hk:k<w.heap.size):(je w B).heap[k]?=some (.deferred none):=by
 simp only [je,Array.getElem?_mapIdx,h,if_true,Array.getElem?_eq_getElem hk,Option.map_some]
theorem jQ {w:World} {B:Nat→Prop} {k:Nat} (h:free (je w B) k):w.heap.size≤k∨B k∨w.heap[k]?=some (.deferred none):=by
 rcases h with h | h
 ·exact .inl (by rwa [mV] at h)
 ·by_cases hb:B k
  ·exact .inr (.inl hb)
  ·rw [oV hb] at h; exact .inr (.inr h)
def Ctx.only (c:Ctx) (N I:List Nat):Ctx:={ c with x:=fun k=>if k∈N then c.x k else none,τ:=fun j=>if j∈I then c.τ j else .slice none 0 0 }
theorem kL {c:Ctx} {N I:List Nat} {j:Nat} (h:j∈I):aU (c.only N I) j=aU c j:=by simp only [aU,Ctx.only,if_pos h]
theorem qh {c:Ctx} {N I:List Nat} {j:Nat} (h:j ∉ I):aU (c.only N I) j=none:=by simp only [aU,Ctx.only,if_neg h,iC]
theorem fL {c:Ctx} {N I:List Nat} {j b:Nat} (h:aU (c.only N I) j=some b):j∈I∧aU c j=some b:=by
 by_cases hj:j∈I
 ·exact ⟨hj,by rw [← kL (N:=N) hj]; exact h⟩
 ·rw [qh hj] at h; cases h
theorem At {c:Ctx} {N I:List Nat} {k b:Nat} {o:Obj} (h:(c.only N I).x k=some (b,o)):k∈N∧c.x k=some (b,o):=by
 simp only [Ctx.only] at h
 split at h
 ·exact ⟨‹_›,h⟩
 ·cases h
theorem mW {c:Ctx} {N I:List Nat} {b:Nat}:bR (c.only N I) N I b↔bR c N I b:=by
 constructor
 ·rintro (⟨k,hk,o,h⟩ | ⟨j,hj,h⟩)
  ·exact .inl ⟨k,hk,o,(At h).2⟩
  ·exact .inr ⟨j,hj,(fL h).2⟩
 ·rintro (⟨k,hk,o,h⟩ | ⟨j,hj,h⟩)
  ·exact .inl ⟨k,hk,o,by simp only [Ctx.only,if_pos hk]; exact h⟩
  ·exact .inr ⟨j,hj,by rw [kL hj]; exact h⟩
section
variable {Γ Γ':aH} {c:Ctx} {bx:List (Nat×List AV)} {w:World} {N I:List Nat}
theorem WI.lent_free (hW:WI Γ c bx w) {b:Nat} (h:bR c N I b):free Γ.w0 b∧b<w.heap.size:=by
 rcases h with ⟨k,_,o,h⟩ | ⟨j,_,h⟩
 ·exact ⟨(hW.xo k b o h).new,hW.lt_x h⟩
 ·obtain ⟨_,_,_,_,_,_,_,_,h5⟩:=(hW.own j).blk b h
  exact ⟨h5.free,hW.lt_own h⟩
theorem WI.lent_box (hW:WI Γ c bx w) {b d:Nat} {cs:List AV} (h:bR c N I b) (hd:get bx d=some cs) (hne:cs≠[]):c.ρ d≠b:=by
 rcases h with ⟨k,_,o,h⟩ | ⟨j,_,h⟩
 ·exact (hW.xo k b o h).box d cs hd hne
 ·exact (hW.own j).box b d cs h hd hne
theorem WI.lent_own (hW:WI Γ c bx w) {b j:Nat} (h:bR c N I b) (hj:aU c j=some b):j∈I:=by
 rcases h with ⟨k,_,o,h⟩ | ⟨i,hi,h⟩
 ·exact absurd hj ((hW.xo k b o h).own j)
 ·rw [(hW.own i).apart b j h hj]; exact hi
theorem WI.lent_x (hW:WI Γ c bx w) {b k:Nat} {o:Obj} (h:bR c N I b) (hk:c.x k=some (b,o)):k∈N:=by
 rcases h with ⟨i,hi,o',h⟩ | ⟨j,_,h⟩
 ·rw [(hW.xo i b o' h).inj k o hk]; exact hi
 ·exact absurd h ((hW.xo k b o hk).own j)
theorem WI.lend (hW:WI Γ c bx w) (hI:∀ j∈I,5000000≤j) (hw:Γ'.w0=je w (bR (c.only N I) N I)) (hm:Γ'.m0=c.m):WI Γ' (c.only N I) [] w where
 ext:=by
  rw [hw]
  refine ⟨rfl,rfl,rfl,by rw [mV]; exact Nat.le_refl _,fun k hk=>?_⟩
  refine (oV fun hB=>hk (.inr (ru hB ?_))).symm
  exact (hW.lent_free (mW.1 hB)).2
 sub:=hW.sub
 le0:=by rw [hm]; exact .refl _
 new:=by rw [hm]; exact ⟨fun _ _ _ h => .inl h,fun _ _ h => .inl h⟩
 box:=fun d cs h=>by simp [get] at h
 inj:=fun d d' cs cs' h=>by simp [get] at h
 own:=fun k=>by
  refine ⟨fun g hg=>?_,?_,fun g d cs _ h=>by simp [get] at h,fun g j h1 h2=>(hW.own k).apart g j (fL h1).2 (fL h2).2⟩
  ·obtain ⟨hk,hg'⟩:=fL hg
   obtain ⟨len,cap,T,cells,h1,h2,h3,h4,_⟩:=(hW.own k).blk g hg'
   refine ⟨len,cap,T,cells,by simp only [Ctx.only,if_pos hk]; exact h1,h2,h3,h4,.inr ⟨hI k hk,?_⟩⟩
   rw [hw]
   exact ru (.inr ⟨k,hk,hg⟩) (Array.getElem?_eq_some_iff.1 h2).1
  ·by_cases hk:k∈I
   ·simp only [Ctx.only,if_pos hk]
    refine (hW.own k).shape.imp id ?_
    rintro ⟨base,len,cap,h1,h2,h3⟩
    exact ⟨base,len,cap,h1,h2,fun a ha hl=>⟨(h3 a ha hl).1,.inr (hI k hk)⟩⟩
   ·simp only [Ctx.only,if_neg hk]; exact .inl rfl
 xo:=fun k b o h=>by
  obtain ⟨hk,h'⟩:=At h
  have hq:=hW.xo k b o h'
  refine ⟨.inr ?_,hq.obj,hq.kept,hq.mem,hq.map,fun d cs h=>by simp [get] at h,fun j hj=>hq.own j (fL hj).2,fun j o' hj=>hq.inj j o' (At hj).2⟩
  rw [hw]
  exact ru (.inl ⟨k,hk,o,h⟩) (hW.lt_x h')
end
structure GR (P:Program) (c:Ctx) (N I:List Nat) (L:List (Nat×AV)) (w:World):Prop where
 wi:WI ⟨P,Fence.wide,0,je w (bR c N I),c.m,0⟩ c [] w
 ent:∀ p∈L,∀ u,RC1 c p.2 u
 shape:∀ p∈L,p.1∈N∧∃ g n xs,p.2 = .me g p.1 n xs∧ep g=true
 ids:∀ j∈lT L,j∈I
 xN:∀ k,k ∉ N→c.x k=none
 tI:∀ j,j ∉ I→c.τ j = .slice none 0 0
 big:∀ j∈I,5000000≤j
structure Bn (B:Nat→Prop) (w w':World):Prop where
 os:w'.os=w.os
 tape:w'.tape=w.tape
 output:w'.output=w.output
 size:w.heap.size≤w'.heap.size
 block:∀ k,k<w.heap.size→¬ B k→w'.heap[k]?=w.heap[k]?
def RR (c:Ctx) (N:List Nat) (r:AV) (v:Value):Prop:=match r with
 | .me .sl k n xs=>k∈N∧RX c .sl k n xs v
 | r=>RD c.m r v
def sR (x x':Nat→Option (Nat×Obj)) (n n':Nat→Nat×Nat) (k:Nat):Prop:=n' k=n k∧∀ b cells T,x k=some (b,.cells cells T (0,0))→∃ cells' T',x' k=some (b,.cells cells' T' (0,0))
structure ECQ (P:Program) (f:FuncId) (N I:List Nat) (args:List AV) (L:List (Nat×AV)) (Q:AV→List (Nat×AV)→Prop):Prop where
 enters:∀ (args:Array Value) (w:World),(callFunc f args).run P w = .ok (.enter f args) w
 runs:∀ (c:Ctx) (w:World) (vs:List Value),GR P c N I L w→args.length=vs.length→(∀ (i:Nat) (x:AV) (v:Value),args[i]?=some x→vs[i]?=some v→RC c x v) →
  Calls P f vs.toArray w fun e w'=>∃ r L' v c',Q r L'∧e = .returned v∧RR c' N r v∧GR P c' N I L' w'∧c.m.le c'.m∧Bn (bR c N I) w w' ∧
   (∀ b,bR c' N I b→bR c N I b∨w.heap.size≤b)∧c.m.News (fun b=>bR c N I b∨w.heap.size≤b) c'.m w'∧NC w w'∧∀ k∈N,7000000≤k→sR c.x c'.x c.xn c'.xn k
def bD (P:Program):zT:=fun f N I args L r L'=>ECQ P f N I args L (fun a b=>a=r∧b=L')
def Ctx.back (c c':Ctx) (N I:List Nat):Ctx:={ c with m:=c'.m,x:=fun k=>if k∈N then c'.x k else c.x k,xn:=fun k=>if k∈N then c'.xn k else c.xn k,τ:=fun j=>if j∈I then c'.τ j else c.τ j,σ:=fun j=>if j∈I then c'.σ j else c.σ j }
theorem d9 {c c':Ctx} {N I:List Nat} {j:Nat} (h:j∈I):aU (c.back c' N I) j=aU c' j:=by simp only [aU,Ctx.back,if_pos h]
theorem dF {c c':Ctx} {N I:List Nat} {j:Nat} (h:j ∉ I):aU (c.back c' N I) j=aU c j:=by simp only [aU,Ctx.back,if_neg h]
def AV.demMany (x:AV):List Nat→AV
 | []=>x
 | k::r=>(x.dem k).demMany r
def AV.demMany1 (x:AV):List Nat→AV
 | []=>x
 | k::r=>(x.dem1 k).demMany1 r
theorem iQ:∀ (I:List Nat) (s:St) (d:Nat),get (s.demMany I).t d=(get s.t d).map fun x=>x.demMany I
 | [],s,d=>by simp [St.demMany,AV.demMany]
 | k::r,s,d=>by
  rw [St.demMany,iQ r,jj,Option.map_map]; rfl
theorem iR:∀ (I:List Nat) (s:St) (d:Nat),get (s.demMany I).b d=(get s.b d).map fun cs=>cs.map fun x=>x.demMany1 I
 | [],s,d=>by simp [St.demMany,AV.demMany1]
 | k::r,s,d=>by
  rw [St.demMany,iR r,o5,Option.map_map]
  congr 1
  funext cs
  simp [AV.demMany1,List.map_map,Function.comp_def]
theorem AV.demMany1_cell:∀ (I:List Nat) {x:AV},x.isCell=true→(x.demMany1 I).isCell=true
 | [],_,h=>h
 | k::r,_,h=>AV.demMany1_cell r (AV.dem1_cell k h)
def Ctx.owns (c:Ctx) (u:Nat→Value) (z:Nat→Nat):List Nat→Ctx
 | []=>c
 | k::r=>(c.own k (u k) (z k)).owns u z r
theorem Ctx.owns_eq (u:Nat→Value) (z:Nat→Nat):∀ (I:List Nat) (c:Ctx),c.owns u z I={ c with τ:=fun j=>if j∈I then u j else c.τ j,σ:=fun j=>if j∈I then z j else c.σ j }
 | [],c=>by simp [Ctx.owns]
 | k::r,c=>by
  rw [Ctx.owns,Ctx.owns_eq u z r]
  simp only [Ctx.own]
  congr 1
  ·funext j
   by_cases h1:j=k
   ·subst h1; simp
   ·simp [h1]
  ·funext j
   by_cases h1:j=k
   ·subst h1; simp
   ·simp [h1]
theorem RC.owns (u:Nat→Value) (z:Nat→Nat):∀ (I:List Nat) {c:Ctx} {x:AV} {v:Value},RC c x v→RC (c.owns u z I) (x.demMany I) v
 | [],_,_,_,h=>h
 | k::r,_,_,_,h=>RC.owns u z r (h.own (k:=k) (u:=u k) (sz:=z k))
theorem RC1.owns (u:Nat→Value) (z:Nat→Nat):∀ (I:List Nat) {c:Ctx} {x:AV} {v:Value},RC1 c x v→RC1 (c.owns u z I) (x.demMany1 I) v
 | [],_,_,_,h=>h
 | k::r,_,_,_,h=>RC1.owns u z r (h.own (k:=k) (u:=u k) (sz:=z k))
theorem RC1.xs_cell {c:Ctx} {x:AV} {v:Value} (f:Nat→Option (Nat×Obj)) (g:Nat→Nat×Nat) (h:RC1 c x v) (hx:x.isCell=true):RC1 { c with x:=f,xn:=g } x v:=by
 cases x with
 | me _ j n xs=>simp [AV.isCell] at hx
 | loc d off=>simp [AV.isCell] at hx
 | sl o sz xs=>cases o <;> exact h
 | _=>exact h
def setXs (c:Ctx) (f:Nat→Option (Nat×Obj)) (g:Nat→Nat×Nat):List Nat→Ctx
 | []=>c
 | k::r=>setXs { c with x:=fun j=>if j=k then f k else c.x j,xn:=fun j=>if j=k then g k else c.xn j } f g r
theorem xc (f:Nat→Option (Nat×Obj)) (g:Nat→Nat×Nat):∀ (N:List Nat) (c:Ctx),setXs c f g N={ c with x:=fun j=>if j∈N then f j else c.x j,xn:=fun j=>if j∈N then g j else c.xn j }
 | [],c=>by simp [setXs]
 | k::r,c=>by
  rw [setXs,xc f g r]
  congr 1
  ·funext j
   by_cases h1:j=k
   ·subst h1; simp
   ·simp [h1]
  ·funext j
   by_cases h1:j=k
   ·subst h1; simp
   ·simp [h1]
theorem RC.setXs (f:Nat→Option (Nat×Obj)) (g:Nat→Nat×Nat):∀ (N:List Nat) {c:Ctx} {x:AV} {v:Value},(∀ k∈N,7000000≤k→sR c.x f c.xn g k)→RC c x v→RC (Go.AI.setXs c f g N) (x.unmeMany N) v
 | [],_,_,_,_,h=>h
 | k::r,c,x,v,hk,h=>by
  have hk':∀ j∈r,7000000≤j→sR (fun j=>if j=k then f k else c.x j) f (fun j=>if j=k then g k else c.xn j) g j:=fun j hj h7=>by
   by_cases e:j=k
   ·subst e
    refine ⟨by simp only [if_pos],fun b cells T h=>⟨cells,T,by simpa only [if_pos] using h⟩⟩
   ·obtain ⟨h1,h2⟩:=hk j (List.mem_cons_of_mem _ hj) h7
    refine ⟨by simp only [if_neg e]; exact h1,fun b cells T h=>h2 b cells T (by simpa only [if_neg e] using h)⟩
  have hu:=RC.leX (k:=k) (c:=c) (c':={ c with x:=fun j=>if j=k then f k else c.x j,xn:=fun j=>if j=k then g k else c.xn j }) ⟨.refl _,rfl,rfl,rfl,fun j hj=>⟨if_neg hj,if_neg hj⟩⟩ h
  refine RC.setXs f g r hk' ?_
  cases hb:(Nat.ble 7000000 k&&x.isRefX) with
  | false=>rw [cond_false]; exact hu
  | true=>
   rw [cond_true]
   simp only [Bool.and_eq_true] at hb
   cases x with
   | me t j n xs=>
    by_cases e:k=j
    ·subst e
     obtain ⟨q1,q2⟩:=hk k List.mem_cons_self (Nat.le_of_ble_eq_true hb.1)
     cases t with
     | sl=>
      obtain ⟨b,cells,T,cap,r1,r2,r3,r4⟩:=(show RX c .sl k n xs v from h)
      obtain ⟨cells',T',q3⟩:=q2 b cells T r1
      exact ⟨b,cells',T',cap,by simp only [if_pos]; exact q3,r2,by simp only [if_pos]; rw [q1]; exact r3,r4⟩
     | ptr sz i=>
      obtain ⟨b,cells,T,r1,r2⟩:=(show RX c (.ptr sz i) k n xs v from h)
      obtain ⟨cells',T',q3⟩:=q2 b cells T r1
      exact ⟨b,cells',T',by simp only [if_pos]; exact q3,r2⟩
     | _=>cases hb.2
    ·have e2:Nat.beq k j=false:=by rw [← Bool.not_eq_true]; exact fun hh=>e (Nat.eq_of_beq_eq_true hh)
     simpa only [AV.unme,e2,cond_false] using hu
   | _=>cases hb.2
theorem HJ (c c':Ctx) (N I:List Nat):c.back c' N I=setXs ((c.mem c'.m).owns c'.τ c'.σ I) c'.x c'.xn N:=by
 rw [xc,Ctx.owns_eq]; rfl
theorem RC.back {c c':Ctx} (hle:c.m.le c'.m) (N I:List Nat) {x:AV} {v:Value} (hk:∀ k∈N,7000000≤k→sR c.x c'.x c.xn c'.xn k) (h:RC c x v):RC (c.back c' N I) ((x.demMany I).unmeMany N) v:=by
 rw [HJ]
 refine RC.setXs _ _ N (fun k h1 h2=>?_) ((h.mono (c':=c.mem c'.m) ⟨hle,rfl,rfl,rfl,rfl,rfl⟩).owns _ _ I)
 rw [Ctx.owns_eq]
 exact hk k h1 h2
theorem RC1.back_cell {c c':Ctx} (hle:c.m.le c'.m) (N I:List Nat) {x:AV} {v:Value} (h:RC1 c x v) (hx:x.isCell=true):RC1 (c.back c' N I) (x.demMany1 I) v:=by
 have h1:=(h.mono (c':=c.mem c'.m) ⟨hle,rfl,rfl,rfl,rfl,rfl⟩).owns c'.τ c'.σ I
 rw [Ctx.owns_eq] at h1
 exact h1.xs_cell (fun k=>if k∈N then c'.x k else c.x k) (fun k=>if k∈N then c'.xn k else c.xn k) (AV.demMany1_cell I hx)
theorem RR.back {c c':Ctx} (N I:List Nat) {r:AV} {v:Value} (h:RR c' N r v):RC (c.back c' N I) r v:=by
 cases r with
 | me g k n xs=>
  cases g with
  | sl=>
   obtain ⟨hk,b,cells,T,cap,h1,h2,h3,h4⟩:=h
   refine ⟨b,cells,T,cap,?_,h2,?_,h4⟩
   ·show (if k∈N then c'.x k else c.x k)=_; rw [if_pos hk]; exact h1
   ·show n=(if k∈N then c'.xn k else c.xn k).1∧cap=(if k∈N then c'.xn k else c.xn k).2; rw [if_pos hk]; exact h3
  | _=>exact nomatch (show RD c'.m _ v from h)
 | _=>exact RC.of_RD (c:=c.back c' N I) h
theorem RO.ids {c c':Ctx} (hm:c'.m=c.m) {y:AV} {v:Value} (h:RO c y v) (hi:∀ j∈qk [y],c'.τ j=c.τ j∧c'.σ j=c.σ j):RO c' y v:=by
 cases y with
 | sl o sz xs=>
  cases o with
  | id k=>
   obtain ⟨h1,h2⟩:=hi k (by simp [qk])
   obtain ⟨r1,r2,r3⟩:=(show RO c (.sl (.id k) sz xs) v from h)
   exact ⟨by rw [h1]; exact r1,by rw [h2]; exact r2,by rw [hm]; exact r3⟩
  | no=>show RD c'.m _ _; rw [hm]; exact h
  | full=>show RD c'.m _ _; rw [hm]; exact h
 | _=>show RD c'.m _ _; rw [hm]; exact h
theorem Fn {y:AV} {l:List AV} (h:y∈l) {j:Nat} (hj:j∈qk [y]):j∈qk l:=by
 induction l with
 | nil=>cases h
 | cons z r ih=>
  have key:∀ {a:AV} {r:List AV} {j:Nat},j∈qk (a::r)↔j∈qk [a]∨j∈qk r:=by
   intro a r j
   cases a with
   | sl o sz xs=>cases o <;> simp [qk]
   | _=>simp [qk]
  rw [key]
  rcases List.mem_cons.1 h with rfl | h
  ·exact .inl hj
  ·exact .inr (ih h)
theorem RX.ids {c c':Ctx} (hm:c'.m=c.m) {g:qo} {k n:Nat} {xs:List (List AV)} {v:Value} (hg:ep g=true) (h:RX c g k n xs v) (hx:c'.x k=c.x k) (hxn:c'.xn k=c.xn k)
  (hi:∀ j∈lT [(k,.me g k n xs)],c'.τ j=c.τ j∧c'.σ j=c.σ j):RX c' g k n xs v:=by
 cases g with
 | box=>
  obtain ⟨cells,T,own,r1,rfl,r3,r4,r5⟩:=h
  refine ⟨cells,T,own,by rw [hx]; exact r1,rfl,r3,r4,fun i y u h1 h2=>(r5 i y u h1 h2).ids hm fun j hj=>hi j ?_⟩
  simp only [lT,Hw,List.append_nil]
  exact Fn (List.mem_of_getElem? h1) hj
 | arr=>
  obtain ⟨b,cells,T,r1,r0,r2,r3,r4⟩:=h
  exact ⟨b,cells,T,by rw [hx]; exact r1,by rw [hxn]; exact r0,r2,r3,fun i r j y h1 h2=>let ⟨u,q1,q2⟩:=r4 i r j y h1 h2; ⟨u,q1,by rw [hm]; exact q2⟩⟩
 | ents=>
  obtain ⟨es,clock,r1,r2,r3,r4,r5,r6⟩:=h
  exact ⟨es,clock,by rw [hx]; exact r1,r2,r3,r4,fun i x e y h1 h2 h3=>by rw [hm]; exact r5 i x e y h1 h2 h3,fun i x e y h1 h2 h3=>by rw [hm]; exact r6 i x e y h1 h2 h3⟩
 | _=>cases hg
theorem nR {p:Nat×AV} {L:List (Nat×AV)} (h:p∈L) {j:Nat} (hj:j∈lT [p]):j∈lT L:=by
 have key:∀ {a:Nat×AV} {r:List (Nat×AV)} {j:Nat},j∈lT (a::r)↔j∈lT [a]∨j∈lT r:=by
  intro a r j
  simp [lT]
 induction L with
 | nil=>cases h
 | cons q r ih=>
  rw [key]
  rcases List.mem_cons.1 h with rfl | h
  ·exact .inl hj
  ·exact .inr (ih h)
section
variable {Γ:aH} {c c':Ctx} {bx bx':List (Nat×List AV)} {w w':World} {N I:List Nat} {P:Program} {L L':List (Nat×AV)}
theorem WI.back (hW:WI Γ c bx w) (hL:GR P c' N I L' w') (hle:c.m.le c'.m) (hF:Bn (bR c N I) w w') (hnew:∀ b,bR c' N I b→bR c N I b∨w.heap.size≤b)
  (hN:c.m.News (fun b=>bR c N I b∨w.heap.size≤b) c'.m w') (hC:NC w w') (hbx:∀ d cs,get bx' d=some cs→∃ ds,get bx d=some ds∧cs=ds.map fun x=>x.demMany1 I):WI Γ (c.back c' N I) bx' w':=by
 have hB:=hW.ext.size
 have hmn:∀ b o,b<w.heap.size→¬ bR c N I b→c.m b o=none→c'.m b o=none:=fun b o hb hnb h=>by
  cases hm:c'.m b o with
  | none=>rfl
  | some v=>
   rcases hN.cell b o v hm with h' | ⟨h' | h',_⟩
   ·rw [h] at h'; cases h'
   ·exact absurd h' hnb
   ·omega
 have hmm:∀ b,b<w.heap.size→¬ bR c N I b→c.m.maps b=none→c'.m.maps b=none:=fun b hb hnb h=>by
  cases hm:c'.m.maps b with
  | none=>rfl
  | some v=>
   rcases hN.map b v hm with h' | h' | h'
   ·rw [h] at h'; cases h'
   ·exact absurd h' hnb
   ·omega
 have hfr:∀ b,bR c N I b∨w.heap.size≤b→free Γ.w0 b:=fun b h=>by
  rcases h with h | h
  ·exact (hW.lent_free h).1
  ·exact dD (Nat.le_trans hB h)
 refine ⟨hW.ext.trans ⟨hF.os,hF.tape,hF.output,hF.size,fun k hk=>hF.block k (Nat.lt_of_lt_of_le (not_free hk) hB) fun h=>hk (hW.lent_free h).1⟩,hL.wi.sub,hW.le0.trans hle,⟨fun b o v h=>?_,fun b x h=>?_⟩,fun d cs h hne=>?_,fun d1 d2 c1 c2 g1 g2 n1 n2 hρ=>?_,fun k=>?_,fun k b o h=>?_⟩
 ·rcases hN.cell b o v h with h | h
  ·exact (hW.new.cell b o v h).imp id fun ⟨h1,h2⟩=>⟨h1,hC.soft b h2⟩
  ·exact .inr ⟨hfr b h.1,h.2⟩
 ·rcases hN.map b x h with h | h
  ·exact hW.new.map b x h
  ·exact .inr (hfr b h)
 ·obtain ⟨ds,hd,rfl⟩:=hbx d cs h
  have hne':ds≠[]:=fun e=>hne (by rw [e]; rfl)
  obtain ⟨q1,q2,q3,vs,T,q4,q5,q6⟩:=hW.box d ds hd hne'
  have hlt:=hW.lt_box hd hne'
  have hnb:¬ bR c N I (c.ρ d):=fun h=>hW.lent_box h hd hne' rfl
  refine ⟨q1,fun o=>hmn _ o hlt hnb (q2 o),fun x hx=>?_,vs,T,(hF.block _ hlt hnb).trans q4,by simpa using q5,fun i x v g1 g2=>?_⟩
  ·obtain ⟨y,hy,rfl⟩:=List.mem_map.1 hx
   exact AV.demMany1_cell I (q3 y hy)
  ·rw [List.getElem?_map] at g1
   obtain ⟨y,hy,rfl⟩:=Option.map_eq_some_iff.1 g1
   exact (q6 i y v hy g2).back_cell hle N I (q3 y (List.mem_of_getElem? hy))
 ·obtain ⟨e1,q1,rfl⟩:=hbx d1 c1 g1
  obtain ⟨e2,q2,rfl⟩:=hbx d2 c2 g2
  exact hW.inj d1 d2 e1 e2 q1 q2 (fun e=>n1 (by rw [e]; rfl)) (fun e=>n2 (by rw [e]; rfl)) hρ
 ·by_cases hk:k∈I
  ·have hq:=hL.wi.own k
   have hτ:(c.back c' N I).τ k=c'.τ k:=if_pos hk
   have hσ:(c.back c' N I).σ k=c'.σ k:=if_pos hk
   refine ⟨fun g hg=>?_,?_,fun g d cs hg h hne=>?_,fun g j hg hj=>?_⟩
   ·rw [d9 hk] at hg
    obtain ⟨len,cap,T,cells,h1,h2,h3,h4,_⟩:=hq.blk g hg
    refine ⟨len,cap,T,cells,by rw [hτ]; exact h1,h2,by rw [hσ]; exact h3,fun o ho=>h4 o (by rw [← hσ]; exact ho),?_⟩
    rcases hnew g (.inr ⟨k,hk,hg⟩) with h | h
    ·exact (hW.lent_free h).1.imp id fun m=>⟨hL.big k hk,m⟩
    ·exact .inl (Nat.le_trans hB h)
   ·rw [hτ]
    refine hq.shape.imp id ?_
    rintro ⟨base,len,cap,h1,h2,h3⟩
    exact ⟨base,len,cap,h1,h2,fun a ha hl=>⟨(h3 a ha hl).1,.inr (hL.big k hk)⟩⟩
   ·rw [d9 hk] at hg
    obtain ⟨ds,hd,rfl⟩:=hbx d cs h
    have hne':ds≠[]:=fun e=>hne (by rw [e]; rfl)
    rcases hnew g (.inr ⟨k,hk,hg⟩) with h | h
    ·exact hW.lent_box h hd hne'
    ·have:=hW.lt_box hd hne'
     show c.ρ d≠g
     omega
   ·rw [d9 hk] at hg
    by_cases hji:j∈I
    ·rw [d9 hji] at hj
     exact hq.apart g j hg hj
    ·rw [dF hji] at hj
     rcases hnew g (.inr ⟨k,hk,hg⟩) with h | h
     ·exact absurd (hW.lent_own h hj) hji
     ·have:=hW.lt_own hj; omega
  ·have hq:=hW.own k
   have hτ:(c.back c' N I).τ k=c.τ k:=if_neg hk
   have hσ:(c.back c' N I).σ k=c.σ k:=if_neg hk
   refine ⟨fun g hg=>?_,?_,fun g d cs hg h hne=>?_,fun g j hg hj=>?_⟩
   ·rw [dF hk] at hg
    have hlt:=hW.lt_own hg
    have hnb:¬ bR c N I g:=fun h=>hk (hW.lent_own h hg)
    obtain ⟨len,cap,T,cells,h1,h2,h3,h4,h5⟩:=hq.blk g hg
    exact ⟨len,cap,T,cells,by rw [hτ]; exact h1,(hF.block g hlt hnb).trans h2,by rw [hσ]; exact h3,fun o ho=>hmn g o hlt hnb (h4 o (by rw [← hσ]; exact ho)),h5⟩
   ·rw [hτ]; exact hq.shape
   ·rw [dF hk] at hg
    obtain ⟨ds,hd,rfl⟩:=hbx d cs h
    exact hq.box g d ds hg hd fun e=>hne (by rw [e]; rfl)
   ·rw [dF hk] at hg
    by_cases hji:j∈I
    ·rw [d9 hji] at hj
     rcases hnew g (.inr ⟨j,hji,hj⟩) with h | h
     ·exact absurd (hW.lent_own h hg) hk
     ·have:=hW.lt_own hg; omega
    ·rw [dF hji] at hj
     exact hq.apart g j hg hj
 ·by_cases hk:k∈N
  ·have hx:c'.x k=some (b,o):=by rw [← h]; exact (if_pos hk).symm
   have hq:=hL.wi.xo k b o hx
   have hnb:=hnew b (.inl ⟨k,hk,o,hx⟩)
   refine ⟨hfr b hnb,hq.obj,hq.kept,hq.mem,hq.map,fun d cs h hne=>?_,fun j hj=>?_,fun j o' hj=>?_⟩
   ·obtain ⟨ds,hd,rfl⟩:=hbx d cs h
    have hne':ds≠[]:=fun e=>hne (by rw [e]; rfl)
    rcases hnb with h | h
    ·exact hW.lent_box h hd hne'
    ·have:=hW.lt_box hd hne'
     show c.ρ d≠b
     omega
   ·by_cases hji:j∈I
    ·rw [d9 hji] at hj; exact hq.own j hj
    ·rw [dF hji] at hj
     rcases hnb with h | h
     ·exact hji (hW.lent_own h hj)
     ·have:=hW.lt_own hj; omega
   ·by_cases hjn:j∈N
    ·exact hq.inj j o' (by rw [← hj]; exact (if_pos hjn).symm)
    ·have hj':c.x j=some (b,o'):=by rw [← hj]; exact (if_neg hjn).symm
     rcases hnb with h | h
     ·exact absurd (hW.lent_x h hj') hjn
     ·have:=hW.lt_x hj'; omega
  ·have hx:c.x k=some (b,o):=by rw [← h]; exact (if_neg hk).symm
   have hq:=hW.xo k b o hx
   have hlt:=hW.lt_x hx
   have hnb:¬ bR c N I b:=fun h=>hk (hW.lent_x h hx)
   refine ⟨hq.new,(hF.block b hlt hnb).trans hq.obj,hq.kept,fun i hi=>hmn b i hlt hnb (hq.mem i hi),hmm b hlt hnb hq.map,fun d cs h hne=>?_,fun j hj=>?_,fun j o' hj=>?_⟩
   ·obtain ⟨ds,hd,rfl⟩:=hbx d cs h
    exact hq.box d ds hd fun e=>hne (by rw [e]; rfl)
   ·by_cases hji:j∈I
    ·rw [d9 hji] at hj
     rcases hnew b (.inr ⟨j,hji,hj⟩) with h | h
     ·exact hnb h
     ·omega
    ·rw [dF hji] at hj; exact hq.own j hj
   ·by_cases hjn:j∈N
    ·have hj':c'.x j=some (b,o'):=by rw [← hj]; exact (if_pos hjn).symm
     rcases hnew b (.inl ⟨j,hjn,o',hj'⟩) with h | h
     ·exact absurd h hnb
     ·omega
    ·exact hq.inj j o' (by rw [← hj]; exact (if_neg hjn).symm)
end
theorem e7 {s:St}:∀ {N0:List Nat} {L:List (Nat×AV)},dE s N0=some L→∀ p∈L,p.1∈N0∧get s.t (xk p.1)=some p.2∧∃ g n xs,p.2 = .me g p.1 n xs∧ep g=true
 | [],L,h,p,hp=>by simp only [dE,Option.some.injEq] at h; subst h; cases hp
 | k::r,L,h,p,hp=>by
  simp only [dE] at h
  split at h
  ·rename_i g j n xs l h1 h2
   cases hb:(Nat.beq j k&&ep g) with
   | false=>rw [hb] at h; cases h
   | true=>
    rw [hb] at h
    simp only [cond_true,Option.some.injEq] at h
    subst h
    simp only [Bool.and_eq_true] at hb
    have:=Nat.eq_of_beq_eq_true hb.1
    subst this
    rcases List.mem_cons.1 hp with rfl | hp
    ·exact ⟨List.mem_cons_self,h1,g,n,xs,rfl,hb.2⟩
    ·obtain ⟨q1,q2⟩:=e7 h2 p hp
     exact ⟨List.mem_cons_of_mem _ q1,q2⟩
  ·cases h
theorem bU {α:Type}:∀ (l r:List (Nat×α)) (x:Nat),get (l++r) x=(get l x).or (get r x)
 | [],r,x=>rfl
 |(y,v)::l,r,x=>by
  rw [List.cons_append,ak,ak,bU l r x]
  split <;> rfl
theorem u7 {v:AV} {d:Nat}:∀ {L:List (Nat×AV)},get (xkL L) d=some v→∃ p∈L,d=xk p.1∧v=p.2
 | [],h=>by simp [xkL,get] at h
 |(k,u)::r,h=>by
  simp only [xkL] at h
  rw [ak] at h
  split at h
  ·rename_i he; simp only [Option.some.injEq] at h; exact ⟨(k,u),List.mem_cons_self,he,h.symm⟩
  ·obtain ⟨p,hp,h⟩:=u7 h
   exact ⟨p,List.mem_cons_of_mem _ hp,h⟩
theorem RX.any {c:Ctx} {g:qo} {k n:Nat} {xs:List (List AV)} {u v:Value} (hg:ep g=true) (h:RX c g k n xs u):RX c g k n xs v:=by
 cases g with
 | box=>exact h
 | arr=>exact h
 | ents=>exact h
 | _=>cases hg
section
variable {Γ:aH} (hΓ:Γ.OK) {s:St} {a:Act} {w:World} {o:Oper} {next:Act→World→Prop} {Q:Exit→Act→World→Prop}
theorem RX.only {c:Ctx} {N I:List Nat} {g:qo} {k n:Nat} {xs:List (List AV)} {v:Value} (hk:k∈N) (hi:∀ j∈lT [(k,.me g k n xs)],j∈I) (h:RX c g k n xs v):RX (c.only N I) g k n xs v:=by
 have hx:(c.only N I).x k=c.x k:=if_pos hk
 have hxn:(c.only N I).xn k=c.xn k:=rfl
 cases g with
 | box=>exact RX.ids (c:=c) (c':=c.only N I) rfl rfl h hx hxn fun j hj=>⟨if_pos (hi j hj),rfl⟩
 | arr=>exact RX.ids (c:=c) (c':=c.only N I) rfl rfl h hx hxn fun j hj=>⟨if_pos (hi j hj),rfl⟩
 | ents=>exact RX.ids (c:=c) (c':=c.only N I) rfl rfl h hx hxn fun j hj=>⟨if_pos (hi j hj),rfl⟩
 | sl=>simp only [RX,hx,hxn] at h ⊢; exact h
 | ptr sz q=>simp only [RX,hx] at h ⊢; exact h
 | mp=>simp only [RX,hx] at h ⊢; exact h
 | sub sz l=>simp only [RX,hx,hxn] at h ⊢; exact h
theorem mT {p:Nat×AV} {L:List (Nat×AV)} (hp:p∈L):p.1∈fy L:=by
 induction L with
 | nil=>cases hp
 | cons q r ih=>
  obtain ⟨k,v⟩:=q
  rcases List.mem_cons.1 hp with rfl | hp
  ·exact List.mem_cons_self
  ·exact List.mem_cons_of_mem _ (ih hp)
theorem fN {l:List Nat} {k:Nat} (h:bX l k=true):k∈l:=by
 induction l with
 | nil=>cases h
 | cons d r ih=>
  simp only [bX] at h
  cases hb:Nat.beq d k with
  | true=>rw [Nat.eq_of_beq_eq_true hb]; exact List.mem_cons_self
  | false=>rw [hb] at h; exact List.mem_cons_of_mem _ (ih h)
theorem RC.pubE {c:Ctx} {N I:List Nat} {x:AV} {v:Value} (hx:HW N x=true) (h:RC c x v):RC (c.only N I) x.pubE v:=by
 cases x with
 | me g k n xs=>
  have hk:k∈N:=by
   cases g <;> first | cases hx | exact fN hx
  show RX (c.only N I) g k n xs v
  refine RX.only hk (fun j hj=>?_) (show RX c g k n xs v from h)
  cases g <;> first | cases hx | (simp [lT,Hw] at hj)
 | _=>exact RC.of_RD (c:=c.only N I) (show RD (c.only N I).m _ _ from h.pub)
def Ep (s:St) (N I:List Nat) (d:Nat) (r:AV) (L':List (Nat×AV)):St:=⟨(d,r)::(xkL L'++((s.demMany I).unmeMany N).t),(s.demMany I).b⟩
include hΓ in
theorem AN {K:St→Prop} {g:FuncId} {call:Call} {fo:Operand} {cap:List AV} {N I:List Nat} {L:List (Nat×AV)} {R:AV→List (Nat×AV)→Prop} (hI:Inv Γ s a w) (hop:o.op = .call call) (hcal:call.callee = .value fo)
  (hf:ev s fo = .clo g cap∨ev s fo = .fn g∧cap=[]) (hC:ECQ Γ.P g N I ((call.args.toList.map fun x=>(ev s x).pubE)++cap) L R) (he:dE s (fy L)=some L) (hchk:FE N I L (call.args.toList.map (ev s))=true)
  {d:Nat} (hdst:o.dst=some d) (hd:d<Γ.nt) (hK:∀ r L',R r L'→K (Ep s N I d r L')) (hn:bJ Γ a o.dst w K next):o.wpIn Γ.F Γ.n Γ.P a w next Q:=by
 obtain ⟨c,hW,ht⟩:=hI.ex
 simp only [FE,Bool.and_eq_true,List.all_eq_true] at hchk
 obtain ⟨k1,k2,k3,k4⟩:=hchk
 have hbig:∀ j∈I,5000000≤j:=fun j hj=>Nat.le_of_ble_eq_true (List.all_eq_true.1 k3 j hj)
 have hBeq:bR (c.only N I) N I=bR c N I:=funext fun b=>propext mW
 have hids:∀ j∈lT L,j∈I:=fun j hj=>fN (k2 j hj)
 have hnames:∀ p∈L,p.1∈N:=fun p hp=>fN (k1 p.1 (mT hp))
 have hLent:GR Γ.P (c.only N I) N I L w:=by
  refine ⟨hW.lend hbig rfl rfl,fun p hp u=>?_,fun p hp=>?_,hids,fun k hk=>if_neg hk,fun j hj=>if_neg hj,hbig⟩
  ·obtain ⟨_,e2,gg,n,xs,e3,e4⟩:=e7 he p hp
   have hr:=ht _ _ e2
   obtain ⟨pk,pv⟩:=p
   simp only at e3
   subst e3
   refine RX.any e4 (RX.only (hnames _ hp) (fun j hj=>hids j (nR hp hj)) (show RX c gg pk n xs _ from hr))
  ·obtain ⟨_,_,e3⟩:=e7 he p hp
   exact ⟨hnames p hp,e3⟩
 obtain ⟨vs,hfv,hcl,hcr⟩:∃ vs:Array Value,a.eval fo = .func (.func g) #[] vs∧cap.length=vs.size∧∀ (i:Nat) (x:AV) (v:Value),cap[i]?=some x→vs[i]?=some v→RD c.m x v:=by
  have hr:=aB ht fo
  rcases hf with hf | ⟨hf,rfl⟩
  ·rw [hf] at hr
   have hr:RD c.m (.clo g cap) (a.eval fo):=hr
   generalize a.eval fo=u at hr
   cases hr with | clo _ _ vs hl h=>exact ⟨vs,rfl,hl,h⟩
  ·rw [hf] at hr
   exact ⟨#[],hr.fn,rfl,by simp⟩
 have hrun:=hC.runs (c.only N I) w (call.args.toList.map a.eval++vs.toList) hLent (by simp [hcl]) (fun i x v h1 h2=>by
  by_cases hi:i<call.args.toList.length
  ·rw [List.getElem?_append_left (by simpa using hi),List.getElem?_map] at h1 h2
   obtain ⟨q,hq,rfl⟩:=Option.map_eq_some_iff.1 h1
   rw [hq] at h2
   simp only [Option.map_some,Option.some.injEq] at h2
   subst h2
   exact RC.pubE (k4 _ (List.mem_map_of_mem (List.mem_of_getElem? hq))) (aB ht q)
  ·rw [List.getElem?_append_right (by simpa using hi)] at h1 h2
   simp only [List.length_map] at h1 h2
   exact RC.of_RD (c:=c.only N I) (hcr _ x v h1 (by simpa using h2)))
 have hexe:(execOp a.eval o).run Γ.P w = .ok (.enter g (call.args.toList.map a.eval++vs.toList).toArray) w:=by
  have hres:(resolve a.eval call o.type).run Γ.P w = .ok { target := .fn (.func g) vs,args:=#[]++call.args.map a.eval } w:=by
   simp only [resolve,hcal,hfv,Deferred.ofValue,Sem.run_pure]
  simp only [execOp,hop,Sem.run_bind,hres,Result.andThen_ok,invoke,hC.enters _ w]
  congr 2
  apply Array.ext'
  simp
 refine ⟨fun f _=>hΓ.fn f,?_⟩
 rw [Oper.semAt_eq _ _ _ (by rw [hop]; intro c hc; cases hc),hexe,Oper.uponIn_enter]
 refine ⟨fun h=>(by rw [hΓ.depth] at h; cases h),(ck hΓ hrun _).mono ?_⟩
 rintro e w' ⟨r,L',v,c',q1,rfl,q2,q3,q4,q5,q6,q7,q8,q9⟩
 rw [hBeq] at q5 q6 q7
 have W:=hW.back q3 q4 q5 q6 q7 q8 (bx':=(s.demMany I).b) (fun e cs hcs=>by
  rw [iR] at hcs
  obtain ⟨ds,h1,h2⟩:=Option.map_eq_some_iff.1 hcs
  exact ⟨ds,h1,h2.symm⟩)
 rw [hdst]
 have hts:∀ e z,get (xkL L'++((s.demMany I).unmeMany N).t) e=some z→RC (c.back c' N I) z (a.tmps.getD e Go.undef):=fun e z hz=>by
  rw [bU] at hz
  cases hx:get (xkL L') e with
  | some y=>
   rw [hx] at hz
   cases hz
   obtain ⟨p,hp,rfl,rfl⟩:=u7 hx
   obtain ⟨hpN,gg,n,xs,e3,e4⟩:=q3.shape p hp
   have hr:=q3.ent p hp (a.tmps.getD (xk p.1) Go.undef)
   obtain ⟨pk,pv⟩:=p
   simp only at e3
   subst e3
   exact RX.ids (c:=c') (c':=c.back c' N I) rfl e4 (show RX c' gg pk n xs _ from hr) (if_pos hpN) (if_pos hpN) fun j hj=>⟨if_pos (q3.ids j (nR hp hj)),if_pos (q3.ids j (nR hp hj))⟩
  | none=>
   rw [hx] at hz
   have hz:get ((s.demMany I).unmeMany N).t e=some z:=hz
   simp only [St.unmeMany] at hz
   rw [bY,iQ] at hz
   obtain ⟨y,hy,rfl⟩:=Option.map_eq_some_iff.1 hz
   obtain ⟨y',hy',rfl⟩:=Option.map_eq_some_iff.1 hy
   exact RC.back (c:=c) q4 N I (fun k h1 h2=>by have:=q9 k h1 h2; simpa only [sR,Ctx.only,if_pos h1] using this) (ht e y' hy')
 exact hn _ _ _ (hK r L' q1) (hI.next q8 W (d:=some d) (v:=v) (by intro k hk; cases hk; exact hd) (bV hts (by rw [hI.size]; exact hd) (RR.back N I q2))) q8 (by rw [hdst]; exact ⟨v,rfl⟩)
include hΓ in
theorem B9 {K:List Nat→List Nat→List (Nat×AV)→AV→List (Nat×AV)→Prop} (hI:Inv Γ s a w) {d:Nat} (hdst:o.dst=some d) (hd:d<Γ.nt) (h:uf (bD Γ.P) s o K)
  (hn:bJ Γ a o.dst w (fun s'=>∃ N I L r L',K N I L r L'∧s'=Ep s N I d r L') next):o.wpIn Γ.F Γ.n Γ.P a w next Q:=by
 unfold uf at h
 split at h
 ·rename_i call hop
  split at h
  ·rename_i fo hcal
   split at h
   ·rename_i g hg
    obtain ⟨N,I,L,r,L',⟨h1,h2,h3⟩,hK⟩:=h
    exact AN hΓ hI hop hcal (cap:=[]) (.inr ⟨hg,rfl⟩) h3 h1 h2 hdst hd (fun r2 L2 ⟨e1,e2⟩=>⟨N,I,L,r,L',hK,by rw [e1,e2]⟩) hn
   ·rename_i g cap hg
    obtain ⟨N,I,L,r,L',⟨h1,h2,h3⟩,hK⟩:=h
    exact AN hΓ hI hop hcal (cap:=cap) (.inl hg) h3 h1 h2 hdst hd (fun r2 L2 ⟨e1,e2⟩=>⟨N,I,L,r,L',hK,by rw [e1,e2]⟩) hn
   ·exact h.elim
  ·exact h.elim
 ·exact h.elim
end
end Go.AI
namespace Go.AI
open Go
open Go.RowKit (Below)
section
variable {Γ:aH} (hΓ:Γ.OK) {T:Tab} (hT:T.OK Γ.P) {s:St} {K:St→Prop} {a:Act} {w:World} {Q:Exit→Act→World→Prop}
structure St.le (s s':St):Prop where
 t:∀ d x,get s'.t d=some x→get s.t d=some x
 b:∀ d cs,get s'.b d=some cs→cs≠[]→get s.b d=some cs
theorem St.le.refl (s:St):s.le s:=⟨fun _ _ h=>h,fun _ _ h _=>h⟩
theorem WI.less {c:Ctx} {bx bx':List (Nat×List AV)} (hW:WI Γ c bx w) (h:∀ d cs,get bx' d=some cs→cs≠[]→get bx d=some cs):WI Γ c bx' w:=
  ⟨hW.ext,hW.sub,hW.le0,hW.new,fun d cs hd hne=>hW.box d cs (h d cs hd hne) hne,fun d d' cs cs' g1 g2 n1 n2 hρ=>hW.inj d d' cs cs' (h d cs g1 n1) (h d' cs' g2 n2) n1 n2 hρ,
   fun k=>⟨(hW.own k).blk,(hW.own k).shape,fun g d cs hg hd hne=>(hW.own k).box g d cs hg (h d cs hd hne) hne,(hW.own k).apart⟩,
   fun k b o hx=>⟨(hW.xo k b o hx).new,(hW.xo k b o hx).obj,(hW.xo k b o hx).kept,(hW.xo k b o hx).mem,(hW.xo k b o hx).map,fun d cs hd hne=>(hW.xo k b o hx).box d cs (h d cs hd hne) hne,(hW.xo k b o hx).own,(hW.xo k b o hx).inj⟩⟩
theorem Inv.less (hI:Inv Γ s a w) {s':St} (h:s.le s'):Inv Γ s' a w:=by
 obtain ⟨⟨c,hW,ht⟩,h2,h3,h4⟩:=hI
 exact ⟨⟨c,hW.less h.b,fun d x hx=>ht d x (h.t d x hx)⟩,h2,h3,h4⟩
theorem fR {guards:List Nat} {dst:Option Nat} (h:gW guards dst s K):∃ s',K s'∧s.le s':=by
 unfold gW at h
 split at h
 ·rename_i d
  cases hm:bX guards d with
  | false=>rw [hm,cond_false,HB] at h; exact ⟨s,h,.refl s⟩
  | true=>
   rw [hm] at h
   simp only [cond_true] at h
   obtain ⟨t,b⟩:=s
   simp only at h
   split at h
   ·rename_i v hv
    refine ⟨⟨(d,.bool v)::t,b⟩,?_,fun k x hx=>?_,fun _ _ h _=>h⟩
    ·cases v with
     | true=>exact h.1 rfl
     | false=>exact h.2 rfl
    ·rw [ak] at hx
     split at hx
     ·rename_i hk; subst hk; cases hx; exact hv
     ·exact hx
   ·exact ⟨_,h,.refl _⟩
 ·rw [IC] at h; exact ⟨s,h,.refl s⟩
theorem e9 (ops:List Oper) (j:Nat):gX ops j=(ops[j]?).bind (·.dst):=by
 unfold gX
 rw [d6]
 cases ops[j]? <;> rfl
def IJ:Value→Option Bool
 | .bool b=>some b
 | _=>none
theorem db {ops:List Oper} {o:Oper} (hsz:∀ j d,gX ops j=some d→d<Γ.nt) (hI:Inv Γ s a w) (n:Nat) (h:j5 ops s o=n) (hn:n<2):Region.wanted o (yielded ops.toArray a.tmps)=(n==0):=by
 unfold j5 at h
 unfold Region.wanted
 split at h
 ·rename_i hg; subst h; rw [hg]; rfl
 ·rename_i j want hg
  rw [hg]
  simp only
  split at h
  ·omega
  ·rename_i d hd
   obtain ⟨c,hW,ht⟩:=hI.ex
   have hdlt:=hsz j d hd
   have hy:yielded ops.toArray a.tmps j=IJ (a.tmps.getD d Go.undef):=by
    unfold yielded
    rw [e9] at hd
    have hget:a.tmps[d]?=some (a.tmps.getD d Go.undef):=by
     rw [Array.getD_eq_getD_getElem?,Array.getElem?_eq_getElem (by rw [hI.size]; exact hdlt)]; rfl
    simp only [List.getElem?_toArray,hd,Option.bind_some,hget]
    generalize a.tmps.getD d Go.undef=u
    cases u <;> rfl
   rw [hy]
   split at h
   ·rename_i b hb
    rw [(ht d _ hb).bool]
    cases b <;> cases want <;> simp at h <;> subst h <;> rfl
   ·rename_i hb
    have hu:RD c.m .undef (a.tmps.getD d Go.undef):=ht d _ hb
    have:a.tmps.getD d Go.undef=Go.undef:=by
     generalize a.tmps.getD d Go.undef=u at hu
     cases hu; rfl
    rw [this]
    subst h
    rfl
   ·omega
theorem gN (hI:Inv Γ s a w) {o:Oper} (hd:∀ d,o.dst=some d→d<Γ.nt) (h:ef s o.dst .undef K):∃ s',K s'∧Inv Γ s' (a.put o.dst Go.undef) w:=by
 obtain ⟨c,hW,ht⟩:=hI.ex
 obtain ⟨t,b⟩:=s
 cases hdst:o.dst with
 | none=>
  rw [hdst] at h
  exact ⟨_,h,hI.next (.refl w) hW (d:=none) (v:=Go.undef) (by intro k hk; cases hk) ht⟩
 | some d=>
  rw [hdst] at h
  have hdlt:=hd d hdst
  exact ⟨_,h,hI.next (.refl w) hW (d:=some d) (v:=Go.undef) (by intro k hk; cases hk; exact hdlt) (bV ht (by rw [hI.size]; exact hdlt) RD.undef)⟩
theorem Inv.drew (hI:Inv Γ s a w):Inv Γ s a w.drew:=by
 obtain ⟨⟨c,hW,ht⟩,h2,h3,h4⟩:=hI
 exact ⟨⟨c,hW.drew,ht⟩,h2,h3,h4⟩
theorem rW {guards:List Nat} {o:Oper} (h:rX guards o=true):∃ d,o.dst=some d:=by
 unfold rX at h
 split at h
 ·rename_i d _ hd; exact ⟨d,hd⟩
 ·cases h
include hΓ hT in
theorem CV {guards:List Nat} {o:Oper} {next:Act→World→Prop} (hI:Inv Γ s a w) (hd:∀ d,o.dst=some d→d<Γ.nt) (h:opG T (ae Γ.P) (bD Γ.P) guards s o K) (hn:bJ Γ a o.dst w K next):o.wpIn Γ.F Γ.n Γ.P a w next Q:=by
 unfold opG at h
 cases hnm:qv guards o with
 | true=>
  rw [hnm,cond_true] at h
  exact IP hΓ (uV hnm) hI hd h hn
 | false=>
  rw [hnm,cond_false] at h
  cases hem:rX guards o with
  | true=>
   rw [hem,cond_true] at h
   obtain ⟨d,hdst⟩:=rW hem
   refine B9 hΓ hI hdst (hd d hdst) h ?_
   rintro s' a' w' ⟨N,I,L,r,L',hK,rfl⟩ hI' hN hP
   have hK:(⟨xkL L'++((s.demMany I).unmeMany N).t,(s.demMany I).b⟩:St).go fun s=>r.go fun r=>ef s o.dst r fun s=>gW guards o.dst s K:=hK
   rw [St.go_eq,AV.go_eq,hdst] at hK
   have hK:gW guards (some d) (Ep s N I d r L') K:=hK
   obtain ⟨s2,hK2,hle⟩:=fR hK
   exact hn s2 a' w' hK2 (hI'.less hle) hN hP
  | false=>
   rw [hem,cond_false] at h
   have fin:bJ Γ a o.dst w (fun s=>x4 o.op s fun s=>gW guards o.dst s K) next:=by
    intro s' a' w' hK hI' hN hP
    rw [qy] at hK
    obtain ⟨s2,hK2,hle⟩:=fR hK
    exact hn s2 a' w' hK2 (hI'.less hle) hN hP
   cases hmm:H1 guards o with
   | true=>rw [hmm,cond_true] at h; exact Ig hΓ hT hI hd h fin
   | false=>rw [hmm,cond_false] at h; exact oR hΓ hT rfl hI hd h fin
include hΓ hT in
theorem dP {all:List Oper} {guards:List Nat} (n:Nat) (hall:∀ j d,gX all j=some d→d<Γ.nt):∀ (l:List Oper) (k:Nat) (s:St) (a:Act) (w:World) (K:St→Prop),(∀ j o,l[j]?=some o→all[k+j]?=some o)→fB T (ae Γ.P) (bD Γ.P) all guards l s K→Inv Γ s a w →
  (∀ s' a' w',K s'→Inv Γ s' a' w'→NC w w'→FT (dc l) a a'→wpOpsIn Γ.F Γ.n Γ.P all.toArray Q (List.range' (k+l.length) n) a' w')→wpOpsIn Γ.F Γ.n Γ.P all.toArray Q (List.range' k (l.length+n)) a w
 | [],k,s,a,w,K,_,h,hI,hQ=>by simpa using hQ s a w h hI (.refl w) (.refl _ a)
 | o::rest,k,s,a,w,K,hk,h,hI,hQ=>by
  have h0:all.toArray[k]?=some o:=by simpa using hk 0 o rfl
  have hk':∀ j p,rest[j]?=some p→all[k+1+j]?=some p:=fun j p hp=>by have:=hk (j+1) p (by simpa using hp); simpa [Nat.add_assoc,Nat.add_comm 1 j] using this
  have hdst:∀ d,o.dst=some d→d<Γ.nt:=fun d hd=>hall k d (by rw [e9]; rw [show all[k]?=some o from by simpa using h0]; exact hd)
  have hlen:(o::rest).length+n=(rest.length+n)+1:=by simp only [List.length_cons]; omega
  have hlen2:k+(o::rest).length=k+1+rest.length:=by simp only [List.length_cons]; omega
  rw [hlen2] at hQ
  rw [hlen]
  simp only [List.range'_succ,wpOpsIn,h0]
  simp only [fB] at h
  split at h
  ·rename_i hw
   rw [db hall hI 0 hw (by omega)]
   simp only [beq_self_eq_true,if_true]
   refine CV hΓ hT hI hdst h ?_
   intro s' a' w' hK hI' hN hP
   exact dP n hall rest (k+1) s' a' w' K hk' hK hI' (fun s3 a3 w3 h1 h2 h3 h4=>hQ s3 a3 w3 h1 h2 (hN.trans h3) (((FT.put hP).mono fun d hd=>List.mem_append_left _ hd).trans (h4.mono fun d hd=>List.mem_append_right _ hd)))
  ·rename_i hw
   rw [db hall hI 1 hw (by omega)]
   simp only [Nat.reduceBEq,Bool.false_eq_true,if_false]
   obtain ⟨s2,hK2,hI2⟩:=gN hI hdst h
   exact ⟨fun f _=>hΓ.fn f,dP n hall rest (k+1) s2 _ w K hk' hK2 hI2 fun s3 a3 w3 h1 h2 h3 h4=>hQ s3 a3 w3 h1 h2 h3 (((FT.put ⟨_,rfl⟩).mono fun d hd=>List.mem_append_left _ hd).trans (h4.mono fun d hd=>List.mem_append_right _ hd))⟩
  ·exact h.elim
include hΓ hT in
theorem gt {all:List Oper} {guards:List Nat} (hall:∀ j d,gX all j=some d→d<Γ.nt) (l:List Oper) (k:Nat) (s:St) (a:Act) (w:World) (K:St→Prop) (hk:∀ j,l[j]?=all[k+j]?) (h:fB T (ae Γ.P) (bD Γ.P) all guards l s K) (hI:Inv Γ s a w)
  (hQ:∀ s' a' w',K s'→Inv Γ s' a' w'→NC w w'→FT (dc l) a a'→Q .normal a' w'):wpOpsIn Γ.F Γ.n Γ.P all.toArray Q (List.range' k l.length) a w:=by
 have:=dP (Q:=Q) hΓ hT 0 hall l k s a w K (fun j o hj=>by rw [← hk j]; exact hj) h hI (fun s' a' w' h1 h2 h3 h4=>hQ s' a' w' h1 h2 h3 h4)
 simpa using this
end
end Go.AI
