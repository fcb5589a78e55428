/- The abstract interpreter for the code, part 2: what it reckons of a piece of code holds of every run. No condition but those typed. -/
import Derived.Test.YtehdegggapeihaaGreatYAiA
import Derived.RangeFuncNested
set_option linter.unusedSectionVars false
set_option linter.unusedVariables false
set_option linter.unusedSimpArgs false
namespace Go.AI
open Go
open Go.RowKit (Below)
theorem aN {c:Ctx} {s:St} {a:Act} (ht:∀ d x,get s.t d=some x→RC c x (a.tmps.getD d Go.undef)) (x:Operand):RC c (ev s x) (a.eval x):=by
 cases x with
 | tmp t=>
  simp only [ev,St.tmp,Act.eval]
  cases hg:get s.t t with
  | none=>exact RD.junk _
  | some v=>exact ht t v hg
 | const v=>exact RC.of_RD (RD.cst _ _)
 | global g=>exact RD.junk _
 | func f=>exact RD.fn f
section
variable {Γ:aO} (hΓ:Γ.OK) {T:Tab} (hT:T.OK Γ.P) {s:St} {K:St→Prop} {o:Oper} {a:Act} {w:World}
 {next:Act→World→Prop} {Q:Exit→Act→World→Prop}
def dH (Γ:aO) (a:Act) (dst:Option Nat) (w:World) (K:St→Prop) (next:Act→World→Prop):Prop:=∀ s' a' w',K s'→Inv Γ s' a' w'→NC w w'→(∃ v,a'=a.put dst v)→next a' w'
theorem ek {a:Act} {d:Nat} {v:Value} {dst:Option Nat} (h:dst=some d):∃ u,a.put (some d) v=a.put dst u:=⟨v,by rw [h]⟩
theorem jo {a:Act} {dst:Option Nat} (h:dst=none):∃ u,a=a.put dst u:=⟨Go.undef,by rw [h]; rfl⟩
include hΓ hT in
theorem Ac (hI:Inv Γ s a w) (hd:∀ d,o.dst=some d→d<Γ.nt)
  (h:opV T (ae Γ.P) s.b (ev s) o.type o.op fun v=>v.go fun v=>fV s o.dst v K) (hn:dH Γ a o.dst w K next):o.wpIn Γ.F Γ.n Γ.P a w next Q:=by
 obtain ⟨c,hW,ht⟩:=hI.ex
 refine Ba hΓ hT h rfl hW (fun x _=>aN ht x) ?_
 intro x v w' c' hK hle hW' hN hx
 rw [AV.go_eq] at hK
 obtain ⟨t,b⟩:=s
 cases hdst:o.dst with
 | none=>
  rw [hdst] at hK
  exact hn _ _ _ hK (hI.next hN hW' (d:=none) (v:=v) (by intro k hk; cases hk) (fun k y hy=>(ht k y hy).mono hle)) hN (jo hdst)
 | some d=>
  rw [hdst] at hK
  have hdlt:=hd d hdst
  exact hn _ _ _ hK (hI.next hN hW' (d:=some d) (v:=v) (by intro k hk; cases hk; exact hdlt) (db (fun k y hy=>(ht k y hy).mono hle) (by rw [hI.size]; exact hdlt) hx)) hN (ek hdst)
theorem CV (hI:Inv Γ s a w) {d k sz:Nat} (hd:d<Γ.nt) {c:Ctx} (ht:∀ k x,get s.t k=some x→RC c x (a.tmps.getD k Go.undef)) {w':World} {m':Mem} (hle:c.m.le m') {r:Value} (hN:NC w w')
  (hW:WI Γ ((c.mem m').own k r sz) (vE k s.b) w') {x:AV} (hx:RC ((c.mem m').own k r sz) x r):Inv Γ ⟨(d,x)::(s.dem k).t,(s.dem k).b⟩ (a.put (some d) r) w':=by
 refine hI.next hN (c:=(c.mem m').own k r sz) hW (d:=some d) (v:=r) (by intro k hk; cases hk; exact hd) (db (fun j y hy=>?_) (by rw [hI.size]; exact hd) hx)
 rw [li] at hy
 obtain ⟨z,hz,rfl⟩:=Option.map_eq_some_iff.1 hy
 exact (ht j z hz).reown hle
include hΓ hT in
theorem wD {args:Array Operand} {ts:Array TypeId} (ho:o.op = .call { callee := .builtin .append,args:=args,argTypes:=ts }) (hI:Inv Γ s a w) (hd:∀ d,o.dst=some d→d<Γ.nt)
  (h:opS T (ae Γ.P) s o.dst o.type (.call { callee := .builtin .append,args:=args,argTypes:=ts }) K) (hn:dH Γ a o.dst w K next):o.wpIn Γ.F Γ.n Γ.P a w next Q:=by
 obtain ⟨c,hW,ht⟩:=hI.ex
 simp only [opS] at h
 split at h
 ·rename_i x y t t' d hx hts hdst
  have hdlt:=hd d hdst
  split at h
  ·rename_i i hi
   split at h
   ·rename_i j hj
    split at h
    ·rename_i ow sz xs ow' sz' ys hxs hys
     cases hb:(Nat.beq i.kind 3&&Nat.beq t t'&&rB j&&Nat.blt 0 j.size&&wM ow j.size sz) with
     | false=>simp only [hb,cond_false] at h
     | true=>
      simp only [hb,cond_true] at h
      simp only [Bool.and_eq_true] at hb
      obtain ⟨⟨⟨⟨b1,b2⟩,b3⟩,b4⟩,b5⟩:=hb
      have hk3:=Nat.eq_of_beq_eq_true b1
      have htt:=Nat.eq_of_beq_eq_true b2
      subst htt
      obtain ⟨h,hsx⟩:=hZ h
      obtain ⟨h,hsy⟩:=hZ h
      obtain ⟨hroom,hmax,h⟩:=h
      have hpos:0<j.size:=Nat.le_of_ble_eq_true b4
      unfold rB at b3
      split at b3
      ·rename_i zs hz
       have hzl:=Nat.eq_of_beq_eq_true b3
       have hrx:=aN ht x
       rw [hxs] at hrx
       have hry:=aN ht y
       rw [hys] at hry
       have hrx1:=(RC.iff (by intro cs hc; cases hc)).1 hrx
       have hry1:=(RC.iff (by intro cs hc; cases hc)).1 hry
       obtain ⟨args⟩:=args
       obtain ⟨ts⟩:=ts
       simp only at hx hts
       subst hx
       subst hts
       have hrun:∀ r w',(Builtin.append_ #[t,t] o.type #[a.eval x,a.eval y]).run Γ.P w = .ok r w'→(execOp a.eval o).run Γ.P w = .ok (.value r) w':=by
        intro r w' hr
        simp only [execOp,ho,Sem.run_bind,cg,Result.andThen_ok,invoke,builtin,List.map_toArray,List.map_cons,List.map_nil,hr,Sem.run_pure]
       have fin:∀ k,((ow = .full∧nF xs ys=true)∨(ow = .id k∧(j.size=sz∨sz=0)))→K ⟨(d,.sl (.id k) j.size (xs++ys))::(s.dem k).t,(s.dem k).b⟩→o.wpIn Γ.F Γ.n Γ.P a w next Q:=by
        intro k hok hK
        obtain ⟨r,w',m',r1,r2,r3,r4,r5⟩:=zq hT hW hi hk3 hj hz hzl hpos hrx1 hry1 hsx hsy hroom hmax hok o.type
        refine aR hΓ (by rw [ho]; intro c hc; cases hc) (hrun r w' r1) ?_
        rw [hdst]
        exact hn _ _ _ hK (CV hI hdlt ht r2 r4 r3 ((RC.iff (by intro cs hc; cases hc)).2 r5)) r4 (ek hdst)
       cases ow with
       | full=>
        cases ha:nF xs ys with
        | true=>simp only [ha,cond_true] at h; exact fin d (.inl ⟨rfl,ha⟩) h
        | false=>
         simp only [ha,cond_false] at h
         cases hy0:kH ys with
         | true=>rw [hy0] at h; exact h.elim
         | false=>
          rw [hy0,cond_false] at h
          have hKK:K ⟨(d,.sl .full sz xs)::s.t,s.b⟩:=h
          cases ys with
          | cons y r=>cases hy0
          | nil=>
           have hr:=s5 (w:=w) hT hi hk3 hj hz hzl hrx1 hry1 o.type
           refine aR hΓ (by rw [ho]; intro c hc; cases hc) (hrun _ _ hr) ?_
           rw [hdst]
           exact hn _ _ _ hKK (hI.next (.refl w) hW (d:=some d) (v:=a.eval x) (by intro k hk; cases hk; exact hdlt) (db (fun k y hy=>ht k y hy) (by rw [hI.size]; exact hdlt) hrx) ) (.refl w) (ek hdst)
       | id k=>
        refine fin k (.inr ⟨rfl,?_⟩) h
        simp only [wM,Bool.or_eq_true] at b5
        rcases b5 with b | b
        ·exact .inl (Nat.eq_of_beq_eq_true b)
        ·exact .inr (Nat.eq_of_beq_eq_true b)
       | no=>exact h.elim
      ·cases b3
    ·exact h.elim
   ·exact h.elim
  ·exact h.elim
 ·exact h.elim
end
end Go.AI
namespace Go.AI
open Go
open Go.RowKit (Below)
section
variable {Γ:aO} (hΓ:Γ.OK) {T:Tab} (hT:T.OK Γ.P) {s:St} {K:St→Prop} {o:Oper} {a:Act} {w:World}
 {next:Act→World→Prop} {Q:Exit→Act→World→Prop}
include hT in
theorem lU {t:TypeId} {i:TI} (g:get T t=some i) {cs:List AV} (hz:i.zero.cells?=some cs):∃ z,(zeroValue t).run Γ.P w = .ok z w∧cs.length=z.cells.size∧∀ (m:Mem) (n:Nat) (x:AV) (u:Value),cs[n]?=some x→z.cells[n]?=some u→RD m x u:=by
 obtain ⟨j,d,h1,h2,h3⟩:=bS hT g
 simp only [TI.of,h1,h2,Option.some.injEq] at h3
 have hzero:=(congrArg TI.zero h3).symm
 simp only at hzero
 clear h3
 cases hj:j.zero with
 | none=>rw [hj] at hzero; simp only at hzero; rw [hzero] at hz; cases hz
 | some z=>
  rw [hj] at hzero
  simp only at hzero
  refine ⟨z,by simp only [zeroValue,typeInfo,Sem.run_bind,run_program,Result.andThen_ok,h1,Sem.run_pure,hj],?_⟩
  rw [hzero] at hz
  have one:∀ z:Value,(cst z).cells?=some cs→cs.length=z.cells.size∧∀ (m:Mem) (n:Nat) (x:AV) (u:Value),cs[n]?=some x→z.cells[n]?=some u→RD m x u:=by
   intro z hz
   have hc:(cst z).isCell=true∧cs=[cst z]:=by
    unfold cst at hz ⊢
    split <;> simp_all [AV.cells?,AV.isCell]
   obtain ⟨hc1,rfl⟩:=hc
   have h1:=RD.one (RD.cst ⟨fun _ _=>none,fun _=>none⟩ z) hc1
   rw [h1.2]
   refine ⟨rfl,fun m n x u g1 g2=>?_⟩
   cases n with
   | zero=>simp at g1 g2; subst g1; subst g2; exact RD.cst m _
   | succ n=>simp at g1
  cases z with
  | agg vs=>
   simp only [DV,AV.cells?,Option.some.injEq] at hz
   subst hz
   refine ⟨by simp [Value.cells],fun m n x u g1 g2=>?_⟩
   rw [List.getElem?_map] at g1
   obtain ⟨v,hv,rfl⟩:=Option.map_eq_some_iff.1 g1
   have:vs[n]?=some v:=by simpa using hv
   simp only [Value.cells] at g2
   rw [this] at g2
   cases g2
   exact RD.cst _ _
  | _=>exact one _ hz
theorem Ae (l news:List Value) (off n:Nat) (h:off+news.length≤l.length):(l.take off++news++l.drop (off+news.length)).toArray[n]?=if off≤n∧n<off+news.length then news[n - off]? else l[n]?:=by
 have hl1:(l.take off).length=off:=by simp; omega
 rw [List.getElem?_toArray]
 by_cases c1:n<off
 ·rw [if_neg (by omega),List.append_assoc,List.getElem?_append_left (by omega),List.getElem?_take,if_pos c1]
 ·by_cases c2:n<off+news.length
  ·rw [if_pos ⟨by omega,c2⟩,List.append_assoc,List.getElem?_append_right (by omega),hl1,List.getElem?_append_left (by omega)]
  ·rw [if_neg (by omega),List.getElem?_append_right (by simp; omega),List.getElem?_drop]
   simp only [List.length_append,hl1]
   rw [show off+news.length+(n - (off+news.length))=n by omega]
theorem pB (d:Nat):∀ (cs:List AV) (vs:List Value) (j0:Nat) (c:Ctx) (s:St),WI Γ c s.b w→(∀ k x,get s.t k=some x→RC c x (a.tmps.getD k Go.undef))→cs.length=vs.length →
  (∀ (i:Nat) (x:AV) (v:Value),cs[i]?=some x→vs[i]?=some v→RD c.m x v) →
  ∃ c',c'.m=c.m∧c'.ρ=c.ρ∧WI Γ c' (s.demMany (jR d j0 cs)).b w∧(∀ k x,get (s.demMany (jR d j0 cs)).t k=some x→RC c' x (a.tmps.getD k Go.undef))∧(bV d j0 cs).length=cs.length ∧
   (∀ (i:Nat) (x:AV) (v:Value),(bV d j0 cs)[i]?=some x→vs[i]?=some v→RC1 c' x v)∧∀ k,(∀ j,j0≤j→k≠m5 d j)→c'.τ k=c.τ k∧c'.σ k=c.σ k
 | [],vs,j0,c,s,hW,ht,_,_=>⟨c,rfl,rfl,hW,ht,rfl,by simp [bV],fun k _=>⟨rfl,rfl⟩⟩
 | x::r,vs,j0,c,s,hW,ht,hl,hr=>by
  cases vs with
  | nil=>cases hl
  | cons v vs=>
   have hx:=hr 0 x v rfl rfl
   have other:jR d j0 (x::r)=jR d (j0+1) r→bV d j0 (x::r)=x::bV d (j0+1) r→∃ c',c'.m=c.m∧c'.ρ=c.ρ∧WI Γ c' (s.demMany (jR d j0 (x::r))).b w ∧
     (∀ k x',get (s.demMany (jR d j0 (x::r))).t k=some x'→RC c' x' (a.tmps.getD k Go.undef))∧(bV d j0 (x::r)).length=(x::r).length ∧
     (∀ (i:Nat) (x':AV) (v':Value),(bV d j0 (x::r))[i]?=some x'→(v::vs)[i]?=some v'→RC1 c' x' v')∧∀ k,(∀ j,j0≤j→k≠m5 d j)→c'.τ k=c.τ k∧c'.σ k=c.σ k:=by
    intro e1 e2
    obtain ⟨c',g1,g2,g3,g4,g5,g6,g7⟩:=pB d r vs (j0+1) c s hW ht (by simpa using hl) (fun i y u h1 h2=>hr (i+1) y u h1 h2)
    rw [e1,e2]
    refine ⟨c',g1,g2,g3,g4,by simp [g5],fun i y u h1 h2=>?_,fun k hk=>g7 k (fun j hj=>hk j (by omega))⟩
    cases i with
    | zero=>simp at h1 h2; subst h1; subst h2; exact RC1.of_RD (by rw [g1]; exact hx)
    | succ i=>exact g6 i y u h1 h2
   cases x with
   | sl ow sz xs=>
    cases ow with
    | full=>
     cases sz with
     | zero=>
      cases xs with
      | nil=>
       have hsp:kw v=false∧jC Γ.w0.heap.size v:=by
        cases hx with
        | sl _ _ _ base len cap ho hf hl' hc=>
         have:=hf rfl
         exact ⟨by simp [kw,this],.inr ⟨_,_,_,rfl,fun _=>this.symm,fun a _ h0=>by simp at hl'; omega⟩⟩
       have hW1:=hW.own_none (m5 d j0) 0 v hsp.2 hsp.1
       obtain ⟨c',g1,g2,g3,g4,g5,g6,g7⟩:=pB d r vs (j0+1) ((c.mem c.m).own (m5 d j0) v 0) (s.dem (m5 d j0)) hW1 (fun k y hy=>by
        rw [li] at hy
        obtain ⟨z,hz,rfl⟩:=Option.map_eq_some_iff.1 hy
        exact (ht k z hz).reown (.refl _)) (by simpa using hl) (fun i y u h1 h2=>hr (i+1) y u h1 h2)
       refine ⟨c',g1,g2,g3,g4,by simp [bV,g5],fun i y u h1 h2=>?_,fun k hk=>?_⟩
       ·cases i with
        | zero=>
         simp only [bV,List.getElem?_cons_zero,Option.some.injEq] at h1 h2
         subst h1
         subst h2
         have:=g7 (m5 d j0) (fun j hj e=>by unfold m5 at e; omega)
         refine ⟨by rw [this.1]; simp [Ctx.own],fun h=>(by rw [hsp.1] at h; cases h),?_⟩
         rw [g1]
         exact hx.no
        | succ i=>exact g6 i y u h1 h2
       ·have h1:=g7 k (fun j hj=>hk j (by omega))
        have h2:=hk j0 (Nat.le_refl _)
        rw [h1.1,h1.2]
        simp [Ctx.own,Ctx.mem,h2]
      | cons y ys=>exact other rfl rfl
     | succ n=>exact other rfl rfl
    | no=>exact other rfl rfl
    | id k=>exact other rfl rfl
   | _=>exact other rfl rfl
theorem kD {c:Ctx} {t:List (Nat×AV)} (ht:∀ k x,get t k=some x→RC c x (a.tmps.getD k Go.undef)) {d:Nat} (hd:d<a.tmps.size) (b:Nat) :
  ∀ k y,get ((d,.loc d 0)::unloc d t) k=some y→RC (c.at d b) y ((a.put (some d) (.pointer (some ⟨b,0,none⟩))).tmps.getD k Go.undef):=by
 refine db (c:=c.at d b) (fun k y hy=>?_) hd ?_
 ·rw [Bw] at hy
  obtain ⟨z,hz,rfl⟩:=Option.map_eq_some_iff.1 hy
  exact (ht k z hz).unloc d b
 ·show _=_
  simp [Ctx.at]
include hΓ hT in
theorem Fm {t:TypeId} (ho:o.op = .alloc t) (hI:Inv Γ s a w) (hd:∀ d,o.dst=some d→d<Γ.nt) (h:opS T (ae Γ.P) s o.dst o.type (.alloc t) K) (hn:dH Γ a o.dst w K next):o.wpIn Γ.F Γ.n Γ.P a w next Q:=by
 obtain ⟨c,hW,ht⟩:=hI.ex
 simp only [opS] at h
 split at h
 ·rename_i d i hdst hi
  have hdlt:=hd d hdst
  split at h
  ·rename_i cs hcs
   cases hb:Nat.beq cs.length i.size&&cs.all (fun c=>c.isCell) with
   | false=>rw [hb] at h; exact h.elim
   | true=>
    rw [hb] at h
    simp only [cond_true] at h
    simp only [Bool.and_eq_true,List.all_eq_true] at hb
    obtain ⟨z,z1,z2,z3⟩:=lU hT (w:=w) hi hcs
    obtain ⟨c',g1,g2,g3,g4,g5,g6,g7⟩:=pB (a:=a) d cs z.cells.toList 0 c s hW ht (by simpa using z2) (fun i x v h1 h2=>z3 _ i x v h1 (by simpa using h2))
    have hcell:∀ x∈bV d 0 cs,x.isCell=true:=by
     have:∀ (cs:List AV) (j:Nat),(∀ x∈cs,x.isCell=true)→∀ x∈bV d j cs,x.isCell=true:=by
      intro cs
      induction cs with
      | nil=>intro j _ x hx; simp [bV] at hx
      | cons y r ih=>
       intro j hall x hx
       have ih':=ih (j+1) (fun z hz=>hall z (List.mem_cons_of_mem _ hz))
       unfold bV at hx
       split at hx
       ·rename_i heq; cases heq
       ·rename_i heq
        cases heq
        rcases List.mem_cons.1 hx with rfl | hx
        ·rfl
        ·exact ih' x hx
       ·rename_i heq
        cases heq
        rcases List.mem_cons.1 hx with rfl | hx
        ·exact hall _ (List.mem_cons_self ..)
        ·exact ih' x hx
     exact this cs 0 hb.2
    have hnb:=g3.newBox d t (cs:=bV d 0 cs) (vs:=z.cells) (by rw [g5,z2]) hcell (fun i x v h1 h2=>g6 i x v h1 (by simpa using h2))
    refine aR hΓ (by rw [ho]; intro c hc; cases hc) (v := .pointer (some ⟨w.heap.size,0,none⟩)) (w':=w.alloc (.cells z.cells t)) ?_ ?_
    ·simp only [execOp,ho,Instr.alloc,Sem.run_bind,z1,Result.andThen_ok,newVar,newRow,run_newObj,Sem.run_pure,World.alloc_eq]
    ·rw [hdst]
     exact hn _ _ _ h (hI.next (gy _ (bT _ _)) hnb (d:=some d) (by intro k hk; cases hk; exact hdlt) (kD g4 (by rw [hI.size]; exact hdlt) _)) (gy _ (bT _ _)) (ek hdst)
  ·exact h.elim
 ·exact h.elim
include hΓ hT in
theorem CW {t:TypeId} {d:Nat} {i:TI} {cs:List AV} (ho:o.op = .alloc t) (hI:Inv Γ s a w) (hd:∀ d,o.dst=some d→d<Γ.nt) (hdst:o.dst=some d) (hi:get T t=some i) (hcs:i.zero.cells?=some cs) (hcell:∀ x∈cs,x.isCell=true) (K:St→Prop)
  (h:K ⟨(d,.loc d 0)::unloc d s.t,(d,cs)::s.b⟩) (hn:dH Γ a (some d) w K next):o.wpIn Γ.F Γ.n Γ.P a w next Q:=by
 obtain ⟨c,hW,ht⟩:=hI.ex
 have hdlt:=hd d hdst
 obtain ⟨z,z1,z2,z3⟩:=lU hT (w:=w) hi hcs
 have hnb:=hW.newBox d t (cs:=cs) (vs:=z.cells) (by rw [z2]) hcell (fun i x v h1 h2 => .of_RD (z3 _ i x v h1 h2))
 refine aR hΓ (by rw [ho]; intro c hc; cases hc) (v := .pointer (some ⟨w.heap.size,0,none⟩)) (w':=w.alloc (.cells z.cells t)) ?_ ?_
 ·simp only [execOp,ho,Instr.alloc,Sem.run_bind,z1,Result.andThen_ok,newVar,newRow,run_newObj,Sem.run_pure,World.alloc_eq]
 ·rw [hdst]
  exact hn _ _ _ h (hI.next (gy _ (bT _ _)) hnb (d:=some d) (by intro k hk; cases hk; exact hdlt) (kD ht (by rw [hI.size]; exact hdlt) _)) (gy _ (bT _ _)) (ek rfl)
include hΓ hT in
theorem G0 {t:TypeId} {x:Operand} (ho:o.op = .box t x) (hI:Inv Γ s a w) (hd:∀ d,o.dst=some d→d<Γ.nt) (h:opS T (ae Γ.P) s o.dst o.type (.box t x) K) (hn:dH Γ a o.dst w K next):o.wpIn Γ.F Γ.n Γ.P a w next Q:=by
 obtain ⟨c,hW,ht⟩:=hI.ex
 simp only [opS] at h
 split at h
 ·rename_i d i cs hdst hi hcs
  have hdlt:=hd d hdst
  cases hb:Nat.beq cs.length i.size&&cs.all (fun c=>c.isCell) with
  | false=>rw [hb] at h; exact h.elim
  | true=>
   rw [hb] at h
   simp only [cond_true] at h
   simp only [Bool.and_eq_true,List.all_eq_true] at hb
   obtain ⟨g1,g2⟩:=(aN ht x).cells0 hcs
   have hnb:=hW.newBox d t g1 hb.2 g2
   refine aR hΓ (by rw [ho]; intro c hc; cases hc) (v := .pointer (some ⟨w.heap.size,0,none⟩)) (w':=w.alloc (.cells (a.eval x).cells t)) ?_ ?_
   ·simp only [execOp,ho,Instr.box,Sem.run_bind,newVar,newRow,run_newObj,Result.andThen_ok,Sem.run_pure,World.alloc_eq]
   ·rw [hdst]
    exact hn _ _ _ h (hI.next (gy _ (bT _ _)) hnb (d:=some d) (by intro k hk; cases hk; exact hdlt) (kD ht (by rw [hI.size]; exact hdlt) _)) (gy _ (bT _ _)) (ek hdst)
 ·exact h.elim
include hΓ hT in
theorem Ad {t:TypeId} {x y:Operand} (ho:o.op = .store t x y) (hI:Inv Γ s a w) (h:opS T (ae Γ.P) s o.dst o.type (.store t x y) K) (hn:dH Γ a o.dst w K next):o.wpIn Γ.F Γ.n Γ.P a w next Q:=by
 obtain ⟨c,hW,ht⟩:=hI.ex
 simp only [opS] at h
 split at h
 ·rename_i i d off cs hdst hi hx hcs
  cases hb:Nat.beq cs.length i.size&&cs.all (fun c=>c.isCell) with
  | false=>rw [hb] at h; exact h.elim
  | true=>
   rw [hb] at h
   simp only [cond_true] at h
   simp only [Bool.and_eq_true,List.all_eq_true] at hb
   split at h
   ·rename_i b hsb
    unfold lY at hsb
    simp only [jN] at hsb
    split at hsb
    ·cases hsb
    rename_i ds hds
    cases hb2:Nat.ble (off+cs.length) ds.length&&Nat.blt 0 cs.length with
    | false=>rw [hb2] at hsb; cases hsb
    | true=>
     rw [hb2] at hsb
     simp only [cond_true,Option.some.injEq] at hsb
     subst hsb
     simp only [Bool.and_eq_true] at hb2
     have hle:=Nat.le_of_ble_eq_true hb2.1
     have hpos:1≤cs.length:=Nat.le_of_ble_eq_true hb2.2
     have hne:ds≠[]:=by rintro rfl; rw [List.length_nil] at hle; omega
     obtain ⟨q1,q2,q3,vs,U,q4,q5,q6⟩:=hW.box d ds hds hne
     obtain ⟨g1,g2⟩:=(aN ht y).cells0 hcs
     have hp:=aN ht x
     rw [hx] at hp
     have hone:∀ v∈(a.eval y).cells.toList,v.oneCell'=true:=by
      intro v hv
      obtain ⟨n,hn',hv'⟩:=List.getElem_of_mem hv
      have hlt:n<cs.length:=by rw [g1]; simpa using hn'
      have h1:(a.eval y).cells[n]?=some v:=by
       rw [← hv',← Array.getElem?_toList]; exact List.getElem?_eq_getElem hn'
      exact ((g2 n _ v (List.getElem?_eq_getElem hlt) h1).one (hb.2 _ (List.getElem_mem hlt))).1
     have hst:=run_storeCells_at Γ.P (c.ρ d) off U (a.eval y).cells.toList 0 vs w q4 (by simp only [Nat.add_zero,Array.length_toList]; omega) hone
     have hrow:gF c (setMany ds off cs) (vs.toList.take (off+0)++(a.eval y).cells.toList++vs.toList.drop (off+0+(a.eval y).cells.toList.length)).toArray:=by
      have h1:=gF.setMany (c:=c) (ds:=cs) (us:=(a.eval y).cells.toList) (cs:=ds) (vs:=vs) ⟨q5,q6⟩ (by simpa using g1) (fun i x v h1 h2=>g2 i x v h1 (by simpa using h2)) off
      have h2:=pL (a.eval y).cells.toList off vs
      refine ⟨by rw [h1.1,h2.1]; simp; omega,fun n x v e1 e2=>h1.2 n x v e1 ?_⟩
      rw [h2.2,← e2,Ae _ _ _ _ (by simp only [Array.length_toList]; omega),Nat.add_zero]
      by_cases c1:off≤n∧n<off+(a.eval y).cells.toList.length
      ·rw [if_pos ⟨c1.1,c1.2,by simp at c1; omega⟩,if_pos c1]
      ·rw [if_neg (fun hh=>c1 ⟨hh.1,hh.2.1⟩),if_neg c1]; simp
     obtain ⟨W1,W2⟩:=hW.storeBox hds hne hrow.1 (fun z hz=>by rcases kA cs ds off z hz with h | h; exact hb.2 z h; exact q3 z h) hrow.2
     refine jF hΓ (by rw [ho]; intro c hc; cases hc) (w':=w.setRow (c.ρ d) (vs.toList.take (off+0)++(a.eval y).cells.toList++vs.toList.drop (off+0+(a.eval y).cells.toList.length)).toArray) ?_ ?_
     ·have hsz:(a.eval y).cells.size=i.size:=by rw [← g1]; exact Nat.eq_of_beq_eq_true hb.1
      simp only [execOp,ho,hp.loc,Instr.storeAt,Instr.sureAddr,Sem.run_bind,Sem.run_pure,Result.andThen_ok,storeVar,bR hT hi,hsz,ne_eq,not_true_eq_false,if_false,hst]
     ·rw [hdst]
      exact hn _ _ _ h (hI.next W2 W1 (d:=none) (v:=Go.undef) (by intro k hk; cases hk) ht) W2 (jo hdst)
   ·exact h.elim
 ·exact h.elim
end
end Go.AI
namespace Go.AI
open Go
open Go.RowKit (Below)
section
variable {Γ:aO} (hΓ:Γ.OK) {T:Tab} (hT:T.OK Γ.P) {s:St} {K:St→Prop} {o:Oper} {a:Act} {w:World}
 {next:Act→World→Prop} {Q:Exit→Act→World→Prop}
theorem Bz (s:St) (d:Nat) (cs:List AV) (k:Nat):get (s.frz d cs).t k=(get s.t k).map (AV.frz d cs):=by unfold St.frz; rw [jT]; exact gL (fun (_:Nat) (v:AV)=>v.frz d cs) s.t k
theorem mB:∀ (xs:List Operand) (s:St) (K:St→List AV→Prop) (c:Ctx),BI xs s K→WI Γ c s.b w→(∀ k x,get s.t k=some x→RC c x (a.tmps.getD k Go.undef)) →
  ∃ s' l c',K s' l∧c.m.le c'.m∧WI Γ c' s'.b w∧(∀ k x,get s'.t k=some x→RC c' x (a.tmps.getD k Go.undef))∧l.length=xs.length∧∀ (i:Nat) (x:AV) (p:Operand),l[i]?=some x→xs[i]?=some p→RD c'.m x (a.eval p)
 | [],s,K,c,h,hW,ht=>⟨s,[],c,h,.refl _,hW,ht,rfl,by simp⟩
 | p::r,s,K,c,h,hW,ht=>by
  have hp:=aN ht p
  have plain:∀ v,ev s p=v→(bif v.isCell then BI r s (fun s l=>K s (v.pub1::l)) else False)→∃ s' l c',K s' l∧c.m.le c'.m∧WI Γ c' s'.b w∧(∀ k x,get s'.t k=some x→RC c' x (a.tmps.getD k Go.undef))∧l.length=(p::r).length ∧
    ∀ (i:Nat) (x:AV) (q:Operand),l[i]?=some x→(p::r)[i]?=some q→RD c'.m x (a.eval q):=by
   intro v hv h
   cases hc:v.isCell with
   | false=>rw [hc] at h; exact h.elim
   | true=>
    rw [hc] at h
    obtain ⟨s',l,c',g1,g2,g3,g4,g5,g6⟩:=mB r s _ c h hW ht
    refine ⟨s',_,c',g1,g2,g3,g4,by simp [g5],fun i x q h1 h2=>?_⟩
    cases i with
    | zero=>
     simp only [List.getElem?_cons_zero,Option.some.injEq] at h1 h2
     subst h1
     subst h2
     rw [hv] at hp
     have:RC1 c v (a.eval p):=(RC.iff (by rintro cs rfl; simp [AV.isCell] at hc)).1 hp
     exact this.pub.mono g2
    | succ i=>exact g6 i x q h1 h2
  unfold BI at h
  split at h
  ·rename_i d hev
   split at h
   ·rename_i y ys hb
    obtain ⟨m',m1,m2,m3⟩:=hW.freeze hb (by simp)
    have ht2:∀ k x,get (s.frz d ((y::ys).map AV.pub1)).t k=some x→RC (c.mem m') x (a.tmps.getD k Go.undef):=by
     intro k x hk
     rw [Bz] at hk
     obtain ⟨z,hz,rfl⟩:=Option.map_eq_some_iff.1 hk
     exact (ht k z hz).frz m1 m3
    obtain ⟨s',l,c',g1,g2,g3,g4,g5,g6⟩:=mB r (s.frz d ((y::ys).map AV.pub1)) _ (c.mem m') h m2 ht2
    refine ⟨s',_,c',g1,m1.trans g2,g3,g4,by simp [g5],fun i x q h1 h2=>?_⟩
    cases i with
    | zero=>
     simp only [List.getElem?_cons_zero,Option.some.injEq] at h1 h2
     subst h1
     subst h2
     rw [hev] at hp
     rw [show a.eval p=_ from hp.loc]
     exact m3.mono g2
    | succ i=>exact g6 i x q h1 h2
   ·exact h.elim
  ·exact plain _ rfl h
include hΓ in
theorem yR {f:FuncId} {first captured:Array Operand} (ho:o.op = .makeFunc (.func f) first captured) (hI:Inv Γ s a w) (hd:∀ d,o.dst=some d→d<Γ.nt)
  (h:opS T (ae Γ.P) s o.dst o.type (.makeFunc (.func f) first captured) K) (hn:dH Γ a o.dst w K next):o.wpIn Γ.F Γ.n Γ.P a w next Q:=by
 obtain ⟨c,hW,ht⟩:=hI.ex
 simp only [opS] at h
 cases hf:first.toList.isEmpty with
 | false=>rw [hf] at h; exact h.elim
 | true=>
  rw [hf] at h
  simp only [cond_true] at h
  obtain ⟨s',l,c',g1,g2,g3,g4,g5,g6⟩:=mB _ s _ c h hW ht
  have hfirst:first=#[]:=by
   obtain ⟨fl⟩:=first
   cases fl with
   | nil=>rfl
   | cons _ _=>cases hf
  have hrd:RD c'.m (.clo f l) (.func (.func f) #[] (captured.map a.eval)):=by
   refine .clo _ _ _ (by simpa using g5) (fun i x v h1 h2=>?_)
   rw [Array.getElem?_map] at h2
   obtain ⟨q,hq,rfl⟩:=Option.map_eq_some_iff.1 h2
   exact g6 i x q h1 (by simpa using hq)
  refine aR hΓ (by rw [ho]; intro c hc; cases hc) (v := .func (.func f) #[] (captured.map a.eval)) (w':=w) (by simp only [execOp,ho,Instr.makeFunc,hfirst,Sem.run_bind,Sem.run_pure,Result.andThen_ok,List.map_toArray,List.map_nil]) ?_
  obtain ⟨t,b⟩:=s'
  cases hdst:o.dst with
  | none=>
   rw [hdst] at g1
   exact hn _ _ _ g1 (hI.next (.refl w) g3 (d:=none) (v:=Go.undef) (by intro k hk; cases hk) g4) (.refl w) (jo hdst)
  | some d=>
   rw [hdst] at g1
   have hdlt:=hd d hdst
   exact hn _ _ _ g1 (hI.next (.refl w) g3 (d:=some d) (by intro k hk; cases hk; exact hdlt) (db g4 (by rw [hI.size]; exact hdlt) (RC.of_RD hrd))) (.refl w) (ek hdst)
include hΓ in
theorem F6 {x:Operand} (hx:x = .const (.slice none 0 0)) (ho:o.op = .assign x∨o.op = .move x) (hI:Inv Γ s a w) (hd:∀ d,o.dst=some d→d<Γ.nt)
  (h:match o.dst,get T o.type with
   | some d,some i=>match get T i.elem with
    | some j=>bif Nat.beq i.kind 3 then match s.dem d with | ⟨t,b⟩=>K ⟨(d,.sl (.id d) j.size [])::t,b⟩ else False
    | none=>False
   | _,_=>False) (hn:dH Γ a o.dst w K next):o.wpIn Γ.F Γ.n Γ.P a w next Q:=by
 obtain ⟨c,hW,ht⟩:=hI.ex
 split at h
 ·rename_i d i hdst hi
  have hdlt:=hd d hdst
  split at h
  ·rename_i j hj
   cases hk:Nat.beq i.kind 3 with
   | false=>rw [hk] at h; exact h.elim
   | true=>
    rw [hk] at h
    have hW1:=hW.own_none d j.size (.slice none 0 0) (.inl rfl) rfl
    have hrun:(execOp a.eval o).run Γ.P w = .ok (.value (.slice none 0 0)) w:=by
     subst hx
     rcases ho with ho | ho <;> (simp only [execOp,ho]; rfl)
    refine aR hΓ (by rcases ho with ho | ho <;> (rw [ho]; intro c hc; cases hc)) hrun ?_
    rw [hdst]
    refine hn _ _ _ h (CV hI hdlt ht (.refl _) (.refl w) hW1 ((RC.iff (by intro cs hc; cases hc)).2 ⟨by simp [Ctx.own],fun hh=>(by cases hh),?_⟩)) (.refl w) (ek hdst)
    exact .sl _ _ _ _ _ _ (by intro k hk; cases hk) (by intro hk; cases hk) rfl (Nat.le_refl _) (by simp) (by simp) 0 0 (by omega) (fun _ _=>Go.undef) (by simp) (by simp)
  ·exact h.elim
 ·exact h.elim
theorem tM (zs:Array Value) (n k:Nat) (hz:0<zs.size) (hk:k<n):(madeCells zs n)[k]?=zs[k % zs.size]?:=by
 have hm:k % zs.size<zs.size:=Nat.mod_lt _ hz
 simp [madeCells,hk,hm]
include hΓ hT in
theorem wC {t:TypeId} {p q:Operand} (ho:o.op = .makeSlice t p q) (hI:Inv Γ s a w) (hd:∀ d,o.dst=some d→d<Γ.nt)
  (h:opS T (ae Γ.P) s o.dst o.type (.makeSlice t p q) K) (hn:dH Γ a o.dst w K next):o.wpIn Γ.F Γ.n Γ.P a w next Q:=by
 obtain ⟨c,hW,ht⟩:=hI.ex
 simp only [opS] at h
 split at h
 ·rename_i d i hdst hi
  have hdlt:=hd d hdst
  split at h
  ·rename_i j hj
   split at h
   ·rename_i k1 l k2 n hl hc
    split at h
    ·rename_i zs hzs
     cases hb:Nat.beq i.kind 3&&Nat.beq zs.length j.size&&zs.all (fun c=>c.isCell)&&Nat.blt 0 j.size with
     | false=>rw [hb] at h; exact h.elim
     | true=>
      rw [hb] at h
      simp only [cond_true] at h
      simp only [Bool.and_eq_true,List.all_eq_true] at hb
      obtain ⟨⟨⟨b1,b2⟩,b3⟩,b4⟩:=hb
      obtain ⟨h0,hlc,hroom,hmax,hK⟩:=h
      have hpos:0<j.size:=Nat.le_of_ble_eq_true b4
      have hu:=bY hT hi (Nat.eq_of_beq_eq_true b1)
      have hzl:=Nat.eq_of_beq_eq_true b2
      obtain ⟨q',z,q1,q2,q3,q4,q5,_⟩:=ju (c:=c) w hT hj hzs hzl
      obtain ⟨z',z1,z2,z3⟩:=lU hT (w:=w) hj hzs
      have hzz:z'=z:=by
       simp only [zeroValue,typeInfo,Sem.run_bind,run_program,Result.andThen_ok,q1,Sem.run_pure,q4,Result.ok.injEq,and_true] at z1
       exact z1.symm
      subst hzz
      have hp:=aN ht p
      rw [hl] at hp
      have hq:=aN ht q
      rw [hc] at hq
      have hbytes:(q'.bytes:Int)*n≤281474976710656:=by
       unfold ir at hroom
       have:((n.toNat*j.bytes:Nat):Int)≤70368744177664:=by omega
       rw [q3,Int.mul_comm]
       rw [Int.natCast_mul,Int.toNat_of_nonneg (by omega)] at this
       omega
      have hrun:=run_make (P:=Γ.P) w t i.elem q' z' hu q1 q4 k1 k2 l n h0 hlc hbytes (by omega)
      rw [q2] at hrun
      have hsz:(madeCells z'.cells (n.toNat*j.size)).size=n.toNat*j.size:=by simp [madeCells]
      obtain ⟨W1,W2,W3⟩:=hW.own_new d j.size l.toNat n.toNat (madeCells z'.cells (n.toNat*j.size)) i.elem hsz (by omega)
      refine aR hΓ (by rw [ho]; intro c hc; cases hc) (v := .slice (some ⟨w.heap.size,0,none⟩) l.toNat n.toNat) (w':=w.alloc (.cells (madeCells z'.cells (n.toNat*j.size)) i.elem)) ?_ ?_
      ·simp only [execOp,ho,hp.int,hq.int,Sem.run_bind,hrun,Result.andThen_ok,Sem.run_pure]
      ·rw [hdst]
       refine hn _ _ _ hK (CV hI hdlt ht W2 W3 W1 ((RC.iff (by intro cs hc; cases hc)).2 ⟨by simp [Ctx.own],fun _=>⟨by simp [Ctx.own],hpos⟩,?_⟩)) W3 (ek hdst)
       have hrep:∀ (i:Nat) (x:List AV),(List.replicate l.toNat zs)[i]?=some x→i<l.toNat∧x=zs:=by
        intro i x hx
        rw [List.getElem?_replicate] at hx
        split at hx
        ·cases hx; exact ⟨‹_›,rfl⟩
        ·cases hx
       refine RD.of_flat (l:=(madeCells z'.cells (n.toNat*j.size)).toList) (by intro k hk; cases hk) (by intro hk; cases hk) (by simp) (by omega) (fun x hx=>by rw [List.eq_of_mem_replicate hx]; exact hzl) (fun x hx=>by rw [List.eq_of_mem_replicate hx]; exact b3)
        (fun i x p c' h1 h2=>?_) (fun p v hp' hlt=>?_)
       ·obtain ⟨hi',hxz⟩:=hrep i x h1
        rw [hxz] at h2
        have hpl:p<zs.length:=(List.getElem?_eq_some_iff.1 h2).1
        have hpz:p<z'.cells.size:=by omega
        have hlt:i*j.size+p<n.toNat*j.size:=by
         have:(i+1)*j.size≤n.toNat*j.size:=Nat.mul_le_mul_right _ (by omega)
         rw [Nat.succ_mul] at this; omega
        refine ⟨z'.cells[p],?_,z3 _ p c' _ h2 (Array.getElem?_eq_getElem hpz)⟩
        rw [Array.getElem?_toList,tM _ _ _ (by omega) hlt]
        rw [show (i*j.size+p) % z'.cells.size=p by rw [q5,Nat.mul_comm,Nat.mul_add_mod]; exact Nat.mod_eq_of_lt (by omega)]
        exact Array.getElem?_eq_getElem hpz
       ·simp only [Ctx.own,Ctx.mem,Mem.with,Nat.zero_add,if_true]
        rw [if_pos hlt]
        simpa using hp'
    ·exact h.elim
   ·exact h.elim
  ·exact h.elim
 ·exact h.elim
include hΓ hT in
theorem bL {op:Op} (hop:o.op=op) (hI:Inv Γ s a w) (hd:∀ d,o.dst=some d→d<Γ.nt) (h:opS T (ae Γ.P) s o.dst o.type op K) (hn:dH Γ a o.dst w K next):o.wpIn Γ.F Γ.n Γ.P a w next Q:=by
 unfold opS at h
 split at h
 ·exact G0 hΓ hT hop hI hd (by simpa only [opS] using h) hn
 ·exact Fm hΓ hT hop hI hd (by simpa only [opS] using h) hn
 ·exact Ad hΓ hT hop hI (by simpa only [opS] using h) hn
 ·exact yR (T:=T) hΓ hop hI hd (by simpa only [opS] using h) hn
 ·exact F6 hΓ rfl (.inl hop) hI hd h hn
 ·exact F6 hΓ rfl (.inr hop) hI hd h hn
 ·exact wC hΓ hT hop hI hd (by simpa only [opS] using h) hn
 ·exact wD hΓ hT hop hI hd (by simpa only [opS] using h) hn
 ·rw [← hop] at h
  exact Ac hΓ hT hI hd h hn
end
end Go.AI
namespace Go.AI
open Go
open Go.RowKit (Below)
structure Ctx.leX (k:Nat) (c c':Ctx):Prop where
 m:c.m.le c'.m
 ρ:c'.ρ=c.ρ
 τ:c'.τ=c.τ
 σ:c'.σ=c.σ
 x:∀ j,j≠k→c'.x j=c.x j∧c'.xn j=c.xn j
theorem RC1.leX_cell {k:Nat} {c c':Ctx} (h:c.leX k c') {x:AV} {v:Value} (r:RC1 c x v) (hx:x.isCell=true):RC1 c' x v:=by
 cases x with
 | me g j n xs=>simp [AV.isCell] at hx
 | loc d off=>simp [AV.isCell] at hx
 | sl o sz xs=>
  cases o with
  | id k=>obtain ⟨r1,r2,r3⟩:=r; exact ⟨by rw [h.τ]; exact r1,by rw [h.σ]; exact r2,r3.mono h.m⟩
  | no=>exact RD.mono h.m (show RD c.m _ v from r)
  | full=>exact RD.mono h.m (show RD c.m _ v from r)
 | _=>exact RD.mono h.m (show RD c.m _ v from r)
theorem RX.leX {k:Nat} {c c':Ctx} (h:c.leX k c') {g:zt} {j n:Nat} {xs:List (List AV)} {v:Value} (r:RX c g j n xs v) (hj:j≠k):RX c' g j n xs v:=by
 obtain ⟨h1,h2⟩:=h.x j hj
 cases g with
 | sl=>simp only [RX,h1,h2] at r ⊢; exact r
 | ptr sz q=>simp only [RX,h1] at r ⊢; exact r
 | arr=>
  obtain ⟨b,cells,T,r1,r0,r2,r3,r4⟩:=r
  exact ⟨b,cells,T,by rw [h1]; exact r1,by rw [h2]; exact r0,r2,r3,fun i r j y h1 h2=>let ⟨u,q1,q2⟩:=r4 i r j y h1 h2; ⟨u,q1,q2.mono h.m⟩⟩
 | mp=>simp only [RX,h1] at r ⊢; exact r
 | sub sz l=>simp only [RX,h1,h2] at r ⊢; exact r
 | ents=>
  obtain ⟨es,clock,r1,r2,r3,r4,r5,r6⟩:=r
  exact ⟨es,clock,by rw [h1]; exact r1,r2,r3,r4,fun i x e y h1 h2 h3=>(r5 i x e y h1 h2 h3).mono h.m,fun i x e y h1 h2 h3=>(r6 i x e y h1 h2 h3).mono h.m⟩
theorem RC.leX {k:Nat} {c c':Ctx} (h:c.leX k c') {x:AV} {v:Value} (r:RC c x v):RC c' (x.unme k) v:=by
 cases x with
 | me g j n xs=>
  simp only [AV.unme]
  cases hb:Nat.beq k j with
  | true=>exact RD.junk v
  | false=>exact RX.leX h (show RX c g j n xs v from r) (Ne.symm (Nat.ne_of_beq_eq_false hb))
 | agg cs=>obtain ⟨vs,r1,r2,r3,r4⟩:=r; exact ⟨vs,r1,r2,r3,fun i x u h1 h2=>(r4 i x u h1 h2).leX_cell h (r3 x (List.mem_of_getElem? h1))⟩
 | loc d off=>show v=_; rw [show c'.ρ=c.ρ from h.ρ]; exact r
 | sl o sz xs=>exact (RC.iff (by intro cs hc; cases hc)).2 (((RC.iff (by intro cs hc; cases hc)).1 r).leX_cell h rfl)
 | _=>exact RD.mono h.m (show RD c.m _ v from r)
theorem ec (f:AV→AV) (t:List (Nat×AV)) (k:Nat):get (iB f t) k=(get t k).map f:=by rw [jT]; exact gL (fun (_:Nat) (v:AV)=>f v) t k
section
variable {Γ:aO} {c:Ctx} {bx:List (Nat×List AV)} {w:World}
theorem WI.freezeX (hW:WI Γ c bx w) {k b:Nat} {cells:Array Value} {T:TypeId} (hx:c.x k=some (b,.cells cells T (0,0))) :
  let c':Ctx:={ c with m:=c.m.with fun b' o=>if b'=b then cells[o]? else c.m b' o,x:=fun j=>if j=k then none else c.x j }
  WI Γ c' bx w∧c.leX k c':=by
 intro c'
 have hq:=hW.xo k b _ hx
 have hle:c.m.le c'.m:=⟨fun b' o v hm=>by
  show (if _ then _ else _)=_
  rw [if_neg (fun e=>by subst e; rw [hq.mem o] at hm; cases hm)]; exact hm,fun _ _ h=>h⟩
 have hL:c.leX k c':=⟨hle,rfl,rfl,rfl,fun j hj=>⟨if_neg hj,rfl⟩⟩
 refine ⟨⟨hW.ext,⟨fun b' o v hm=>?_,hW.sub.map⟩,hW.le0.trans hle,⟨fun b' o v hm=>?_,hW.new.map⟩,fun d cs h hne=>?_,hW.inj,fun j=>?_,fun j b' o h=>?_⟩,hL⟩
 ·simp only [c',Mem.with] at hm
  split at hm
  ·rename_i hb; subst hb; simpa [World.cell?,hq.obj] using hm
  ·exact hW.sub.cell b' o v hm
 ·simp only [c',Mem.with] at hm
  split at hm
  ·rename_i hb; exact .inr (by rw [hb]; exact ⟨hq.new,cells,T,hq.obj⟩)
  ·exact hW.new.cell b' o v hm
 ·obtain ⟨g1,g2,g3,us,U,g4,g5,g6⟩:=hW.box d cs h hne
  refine ⟨g1,fun o=>?_,g3,us,U,g4,g5,fun i x v q1 q2=>(g6 i x v q1 q2).leX_cell hL (g3 x (List.mem_of_getElem? q1))⟩
  show (if c.ρ d=b then _ else _)=_
  rw [if_neg (hq.box d cs h hne)]; exact g2 o
 ·have ho:=hW.own j
  refine ⟨fun g hg=>?_,ho.shape,ho.box,ho.apart⟩
  obtain ⟨len,cap,U,cells',q1,q2,q3,q4,q5⟩:=ho.blk g hg
  refine ⟨len,cap,U,cells',q1,q2,q3,fun o ho'=>?_,q5⟩
  show (if g=b then _ else _)=_
  rw [if_neg (fun e=>by subst e; exact hq.own j hg)]; exact q4 o ho'
 ·simp only [c'] at h
  split at h
  ·cases h
  ·rename_i hj
   have hr:=hW.xo j b' o h
   refine ⟨hr.new,hr.obj,hr.kept,fun i=>?_,hr.map,hr.box,hr.own,fun j' o' h'=>?_⟩
   ·show (if b'=b then _ else _)=_
    rw [if_neg (fun e=>by subst e; exact hj (hq.inj j _ h))]; exact hr.mem i
   ·simp only [c'] at h'
    split at h'
    ·cases h'
    ·exact hr.inj j' o' h'
theorem WI.newX (hW:WI Γ c bx w) (k:Nat) (n:Nat×Nat) (o:Obj) (hk:pC o=true) (hso:mO o) :
  let c':Ctx:={ c with x:=fun j=>if j=k then some (w.heap.size,o) else c.x j,xn:=fun j=>if j=k then n else c.xn j }
  WI Γ c' bx (w.alloc o)∧c.leX k c'∧NC w (w.alloc o):=by
 intro c'
 have hL:c.leX k c':=⟨.refl _,rfl,rfl,rfl,fun j hj=>⟨if_neg hj,if_neg hj⟩⟩
 obtain ⟨g1,_,g3⟩:=hW.grow (m':=c.m) (w':=w.alloc o) ((Below.refl _ w).alloc (Nat.le_refl _) _) (.alloc w hso) (.refl _) ⟨fun b i v h=>by
  rw [World.cell?_alloc_lt _ _ _ (show (⟨b,i,none⟩:Addr).block<_ from hW.lt_m h)]; exact hW.sub.cell b i v h,fun b x h=>(Below.heap_alloc _ _ _ (hW.lt_map h)).trans (hW.sub.map b x h)⟩ ⟨fun b i v h => .inl h,fun b x h => .inl h⟩
 have hB:=hW.ext.size
 refine ⟨⟨g1.ext,g1.sub,g1.le0,g1.new,fun d cs h hne=>?_,g1.inj,fun j=>⟨(g1.own j).blk,(g1.own j).shape,(g1.own j).box,(g1.own j).apart⟩,fun j b p h=>?_⟩,hL,g3⟩
 ·obtain ⟨q1,q2,q3,us,U,q4,q5,q6⟩:=g1.box d cs h hne
  exact ⟨q1,q2,q3,us,U,q4,q5,fun i x v e1 e2=>(q6 i x v e1 e2).leX_cell (c:=c) hL (q3 x (List.mem_of_getElem? e1))⟩
 ·simp only [c'] at h
  split at h
  ·rename_i hj
   cases h
   refine ⟨hB,World.alloc_heap_new _ _,hk,fun i=>?_,?_,fun d cs h hne e=>?_,fun j' hj'=>?_,fun j' o' h'=>?_⟩
   ·show c.m w.heap.size i=none
    cases hm:c.m w.heap.size i with
    | none=>rfl
    | some v=>have:=hW.lt_m hm; omega
   ·show c.m.maps w.heap.size=none
    cases hm:c.m.maps w.heap.size with
    | none=>rfl
    | some v=>have:=hW.lt_map hm; omega
   ·have:=hW.lt_box h hne
    simp only [c'] at e
    omega
   ·have:=hW.lt_own (k:=j') (g:=w.heap.size) hj'
    omega
   ·simp only [c'] at h'
    split at h'
    ·rename_i e; rw [e,hj]
    ·have:=hW.lt_x h'; omega
  ·rename_i hj
   have hr:=g1.xo j b p h
   have hlt:=hW.lt_x h
   refine ⟨hr.new,hr.obj,hr.kept,hr.mem,hr.map,hr.box,hr.own,fun j' o' h'=>?_⟩
   simp only [c'] at h'
   split at h'
   ·cases h'; omega
   ·exact hr.inj j' o' h'
theorem WI.storeX (hW:WI Γ c bx w) {k b:Nat} {cells:Array Value} {T:TypeId} (hx:c.x k=some (b,.cells cells T (0,0))) (cells':Array Value) :
  let c':Ctx:={ c with x:=fun j=>if j=k then some (b,.cells cells' T (0,0)) else c.x j }
  WI Γ c' bx (w.setRow b cells')∧c.leX k c'∧NC w (w.setRow b cells'):=by
 intro c'
 have hq:=hW.xo k b _ hx
 have hB:=hW.ext.size
 have hn:=hq.new
 have hL:c.leX k c':=⟨.refl _,rfl,rfl,rfl,fun j hj=>⟨if_neg hj,rfl⟩⟩
 refine ⟨⟨hW.ext.trans ⟨rfl,rfl,rfl,by simp,fun q hq'=>setRow_other _ _ _ _ (by omega)⟩,⟨fun b' o v hm=>?_,fun b' x hm=>by
  have hm:=hW.sub.map b' x hm
  have hqo:=hq.obj
  rw [setRow_other _ _ _ _ (fun e=>by rw [e,hqo] at hm; cases hm)]; exact hm⟩,hW.le0,hW.new.keep (fun _ h=>jJ h _ _),fun d cs h hne=>?_,hW.inj,fun j=>?_,fun j b' o h=>?_⟩,hL,ly hq.obj _⟩
 ·by_cases hb:b'=b
  ·subst hb
   have:=hq.mem o
   rw [show c.m b' o=some v from hm] at this; cases this
  ·rw [cell_setRow_other _ _ _ _ hb]; exact hW.sub.cell b' o v hm
 ·obtain ⟨g1,g2,g3,us,U,g4,g5,g6⟩:=hW.box d cs h hne
  refine ⟨g1,g2,g3,us,U,?_,g5,fun i x v q1 q2=>(g6 i x v q1 q2).leX_cell hL (g3 x (List.mem_of_getElem? q1))⟩
  rw [setRow_other _ _ _ _ (hq.box d cs h hne)]; exact g4
 ·have ho:=hW.own j
  refine ⟨fun g hg=>?_,ho.shape,ho.box,ho.apart⟩
  obtain ⟨len,cap,U,cells'',q1,q2,q3⟩:=ho.blk g hg
  refine ⟨len,cap,U,cells'',q1,?_,q3⟩
  rw [setRow_other _ _ _ _ (fun e=>by subst e; exact hq.own j hg)]; exact q2
 ·simp only [c'] at h
  split at h
  ·rename_i hj
   subst hj
   cases h
   refine ⟨hq.new,setRow_heap _ _ _ _ _ _ hq.obj,rfl,hq.mem,hq.map,hq.box,hq.own,fun j' o' h'=>?_⟩
   simp only [c'] at h'
   split at h'
   ·assumption
   ·exact hq.inj j' o' h'
  ·rename_i hj
   have hr:=hW.xo j b' o h
   have hne:b'≠b:=fun e=>by subst e; exact hj (hq.inj j _ h)
   refine ⟨hr.new,?_,hr.kept,hr.mem,hr.map,hr.box,hr.own,fun j' o' h'=>?_⟩
   ·rw [setRow_other _ _ _ _ hne]; exact hr.obj
   ·simp only [c'] at h'
    split at h'
    ·cases h'; exact absurd rfl hne
    ·exact hr.inj j' o' h'
end
end Go.AI
namespace Go.AI
open Go
open Go.RowKit (Below)
section
variable {Γ:aO} (hΓ:Γ.OK) {T:Tab} (hT:T.OK Γ.P) {s:St} {K:St→Prop} {o:Oper} {a:Act} {w:World}
 {next:Act→World→Prop} {Q:Exit→Act→World→Prop}
theorem yG {k sz:Nat} {xs:List (List AV)} (h:fz s k=some (sz,xs)):get s.t (xk k)=some (.me .arr k sz xs):=by
 unfold fz at h
 split at h
 ·rename_i k' sz' xs' hg
  cases hb:Nat.beq k' k with
  | false=>rw [hb] at h; cases h
  | true=>rw [hb] at h; cases h; rw [hg,Nat.eq_of_beq_eq_true hb]
 ·cases h
theorem mD {c:Ctx} {k sz:Nat} {xs:List (List AV)} (ht:∀ d x,get s.t d=some x→RC c x (a.tmps.getD d Go.undef)) (h:fz s k=some (sz,xs)) :
  ∃ b cells T,c.x k=some (b,.cells cells T (0,0))∧(xs.length=(c.xn k).1∧(c.xn k).2*sz≤cells.size)∧xs.length*sz≤cells.size∧(∀ r∈xs,r.length=sz∧∀ y∈r,y.isCell=true) ∧
   ∀ (i:Nat) (r:List AV) (j:Nat) (y:AV),xs[i]?=some r→r[j]?=some y→∃ u,cells[i*sz+j]?=some u∧RD c.m y u:=ht _ _ (yG h)
theorem dR:∀ (l:List Operand) (s:St),je s l K→Inv Γ s a w→∃ s',K s'∧Inv Γ s' a w
 | [],s,h,hI=>⟨s,h,hI⟩
 | x::r,s,h,hI=>by
  unfold je at h
  split at h
  ·rename_i k n ys hx
   split at h
   ·rename_i sz xs hc
    rw [St.go_eq] at h
    refine dR r _ h ?_
    obtain ⟨⟨c,hW,ht⟩,h2,h3,h4⟩:=hI
    obtain ⟨b,cells,U,e1,e2,e3,e4,e5⟩:=mD ht hc
    obtain ⟨g1,g2⟩:=hW.freezeX e1
    refine ⟨⟨_,g1,fun d y hy=>?_⟩,h2,h3,h4⟩
    rw [ec] at hy
    obtain ⟨z,hz,rfl⟩:=Option.map_eq_some_iff.1 hy
    have hr:=ht d z hz
    have hun:=hr.leX g2
    have key:∀ n,RX c .sl k n [] (a.tmps.getD d Go.undef)→RD (c.m.with fun b' o=>if b'=b then cells[o]? else c.m b' o) (.sl .no sz xs) (a.tmps.getD d Go.undef):=fun n hz=>by
     obtain ⟨b',cells',U',cap,f1,f2,f3,f4⟩:=hz
     rw [e1] at f1
     cases f1
     rw [f2]
     have hm:c.m.le (c.m.with fun b' o=>if b'=b then cells[o]? else c.m b' o):=g2.m
     refine .sl _ _ _ _ _ _ (by intro k hk; cases hk) (by intro hk; cases hk) (by omega) f4 (fun r hr=>(e4 r hr).1) (fun r hr=>(e4 r hr).2) b 0 (fun _=>rfl) (fun i j=>(cells[i*sz+j]?).getD Go.undef) (fun i r j y h1 h2=>?_) (fun i r j y h1 h2=>?_)
     ·obtain ⟨u,q1,q2⟩:=e5 i r j y h1 h2
      show (if _ then _ else _)=_; rw [if_pos rfl,Nat.zero_add,q1]; rfl
     ·obtain ⟨u,q1,q2⟩:=e5 i r j y h1 h2
      rw [q1]; exact q2.mono hm
    cases z with
    | me g k' n' zs=>
     simp only [AV.frzx,AV.unme] at hun ⊢
     cases hb:Nat.beq k k' with
     | false=>rw [hb] at hun; exact hun
     | true=>
      have hk:=Nat.eq_of_beq_eq_true hb
      subst hk
      cases g with
      | sl=>exact key n' (by obtain ⟨b',cells',U',cap,f⟩:=(show RX c .sl k n' zs _ from hr); exact ⟨b',cells',U',cap,f⟩)
      | _=>exact RD.junk _
    | _=>exact hun
   ·exact h.elim
  ·exact dR r s h hI
include hΓ in
theorem qh {c:Ctx} (hI:Inv Γ s a w) (hd:∀ d,o.dst=some d→d<Γ.nt) (hW:WI Γ c s.b w) (ht:∀ d x,get s.t d=some x→RC c x (a.tmps.getD d Go.undef)) (hnd:∀ c,o.op≠.defer c)
  {x:AV} {v:Value} (hx:RC c x v) (hrun:(execOp a.eval o).run Γ.P w = .ok (.value v) w) (h:fV s o.dst x K) (hn:dH Γ a o.dst w K next):o.wpIn Γ.F Γ.n Γ.P a w next Q:=by
 refine aR hΓ hnd hrun ?_
 obtain ⟨t,b⟩:=s
 cases hdst:o.dst with
 | none=>
  rw [hdst] at h
  exact hn _ _ _ h (hI.next (.refl w) hW (d:=none) (v:=Go.undef) (by intro k hk; cases hk) ht) (.refl w) (by rw [hdst]; exact ⟨Go.undef,rfl⟩)
 | some d=>
  rw [hdst] at h
  have hdlt:=hd d hdst
  exact hn _ _ _ h (hI.next (.refl w) hW (d:=some d) (v:=v) (by intro k hk; cases hk; exact hdlt) (db ht (by rw [hI.size]; exact hdlt) hx)) (.refl w) (ek hdst)
include hΓ hT in
theorem p8 {t:TypeId} {x y:Operand} {k len:Nat} {zs:List (List AV)} {q:IntKind} {i:Int} (hop:o.op = .indexAddr t x y) (hI:Inv Γ s a w) (hd:∀ d,o.dst=some d→d<Γ.nt) (hx:ev s x = .me .sl k len zs) (hy:ev s y = .int q i)
  (h:jD T s o.dst t k len i K) (hn:dH Γ a o.dst w K next):o.wpIn Γ.F Γ.n Γ.P a w next Q:=by
 obtain ⟨c,hW,ht⟩:=hI.ex
 unfold jD at h
 split at h
 ·exact h.elim
 rename_i ti hi
 split at h
 ·exact h.elim
 rename_i j hj
 split at h
 ·exact h.elim
 rename_i sz xs hc
 cases hb:(Nat.beq ti.kind 3&&Nat.beq j.size sz) with
 | false=>rw [hb] at h; exact h.elim
 | true=>
  rw [hb] at h
  obtain ⟨h0,h1,h⟩:=h
  simp only [Bool.and_eq_true] at hb
  have hu:=bY hT hi (Nat.eq_of_beq_eq_true hb.1)
  have hsz:=Nat.eq_of_beq_eq_true hb.2
  have hrx:=aN ht x
  rw [hx] at hrx
  obtain ⟨b,cells,U,cap,e1,e2,e3,e4⟩:=(show RX c .sl k len zs (a.eval x) from hrx)
  have hry:=aN ht y
  rw [hy] at hry
  refine qh hΓ hI hd hW ht (by rw [hop]; intro c hc; cases hc) (x := .me (.ptr sz 0) k i.toNat []) (v := .pointer (some ⟨b,i.toNat*sz+0,none⟩)) ⟨b,cells,U,e1,rfl⟩ ?_ h hn
  simp only [execOp,hop,e2,hry.int,Instr.indexAt,asIntOf,Sem.run_bind,Sem.run_pure,Result.andThen_ok,run_underlying hu]
  rw [if_pos ⟨h0,by omega⟩]
  simp only [Sem.run_bind,bR hT hj,Result.andThen_ok,Sem.run_pure,hsz,c6,Nat.zero_add,Nat.add_zero]
include hΓ hT in
theorem p9 {t:TypeId} {x:Operand} {f sz j k i:Nat} {zs:List (List AV)} (hop:o.op = .fieldAddr t x f) (hI:Inv Γ s a w) (hd:∀ d,o.dst=some d→d<Γ.nt) (hx:ev s x = .me (.ptr sz j) k i zs)
  (h:jE T s o.dst t f sz j k i K) (hn:dH Γ a o.dst w K next):o.wpIn Γ.F Γ.n Γ.P a w next Q:=by
 obtain ⟨c,hW,ht⟩:=hI.ex
 unfold jE at h
 split at h
 ·exact h.elim
 rename_i ti hi
 cases hk:Nat.beq ti.kind 1 with
 | false=>rw [hk] at h; exact h.elim
 | true=>
  rw [hk] at h
  simp only [cond_true] at h
  obtain ⟨fs,hu,hfl⟩:=jI hT hi (Nat.eq_of_beq_eq_true hk)
  split at h
  ·exact h.elim
  rename_i off ft hn'
  rw [fq,hfl,List.getElem?_map] at hn'
  obtain ⟨fd,hfd,hfd2⟩:=Option.map_eq_some_iff.1 hn'
  simp only [Prod.mk.injEq] at hfd2
  obtain ⟨rfl,rfl⟩:=hfd2
  have hfd':fs[f]?=some fd:=by simpa using hfd
  split at h
  ·exact h.elim
  rename_i u hj
  cases hj0:Nat.beq u.size 0 with
  | true=>rw [hj0] at h; exact h.elim
  | false=>
   rw [hj0] at h
   simp only [cond_false] at h
   have hrx:=aN ht x
   rw [hx] at hrx
   obtain ⟨b,cells,U,e1,e2⟩:=(show RX c (.ptr sz j) k i zs (a.eval x) from hrx)
   refine qh hΓ hI hd hW ht (by rw [hop]; intro c hc; cases hc) (x := .me (.ptr sz (j+fd.offset)) k i []) (v := .pointer (some ⟨b,i*sz+(j+fd.offset),none⟩)) ⟨b,cells,U,e1,rfl⟩ ?_ h hn
   simp only [execOp,hop,e2,Instr.fieldAt,Sem.run_bind,run_underlying hu,Result.andThen_ok,hfd',Instr.sureAddr,Sem.run_pure,io hT hj hj0 rfl,Nat.add_assoc]
include hΓ hT in
theorem CD {t:TypeId} {x:Operand} {sz j k i:Nat} {zs:List (List AV)} (hop:o.op = .load t x) (hI:Inv Γ s a w) (hd:∀ d,o.dst=some d→d<Γ.nt) (hx:ev s x = .me (.ptr sz j) k i zs)
  (h:zU T s o.dst t sz j k i K) (hn:dH Γ a o.dst w K next):o.wpIn Γ.F Γ.n Γ.P a w next Q:=by
 obtain ⟨c,hW,ht⟩:=hI.ex
 unfold zU at h
 split at h
 ·exact h.elim
 rename_i ti hi
 split at h
 ·exact h.elim
 rename_i sz' xs hc
 cases hb:Nat.beq sz' sz with
 | false=>rw [hb] at h; exact h.elim
 | true=>
  rw [hb] at h
  have:=Nat.eq_of_beq_eq_true hb
  subst this
  obtain ⟨r,hr,h⟩:=h
  split at h
  ·rename_i v hv
   rw [AV.go_eq] at h
   obtain ⟨b,cells,U,e1,e2,e3,e4,e5⟩:=mD ht hc
   have hq:=hW.xo k b _ e1
   have hrx:=aN ht x
   rw [hx] at hrx
   obtain ⟨b',cells',U',f1,f2⟩:=(show RX c (.ptr sz' j) k i zs (a.eval x) from hrx)
   rw [e1] at f1
   cases f1
   have hrl:=(e4 r (List.mem_of_getElem? hr)).1
   have hmul:(i+1)*sz'≤xs.length*sz':=Nat.mul_le_mul_right _ (List.getElem?_eq_some_iff.1 hr).1
   rw [Nat.add_mul,Nat.one_mul] at hmul
   have hA:∀ (p:Nat) (y:AV) (v:Value),(r.drop j)[p]?=some y→((cells.toList.drop (i*sz'+j)).take (sz' - j))[p]?=some v→RC1 c y v:=fun p y v g1 g2=>by
    rw [List.getElem?_drop] at g1
    rw [List.getElem?_take] at g2
    split at g2
    ·rw [List.getElem?_drop] at g2
     obtain ⟨u,q1,q2⟩:=e5 i r _ y hr g1
     have:cells[i*sz'+(j+p)]?=some v:=by rw [← Nat.add_assoc]; simpa using g2
     rw [q1] at this
     cases this
     exact RC1.of_RD q2
    ·cases g2
   have hB:∀ (p:Nat) (v:Value),((cells.toList.drop (i*sz'+j)).take (sz' - j))[p]?=some v→w.cell? ⟨b,i*sz'+j+p,none⟩=some v:=fun p v g=>by
    rw [List.getElem?_take] at g
    split at g
    ·rw [List.getElem?_drop] at g
     simp only [World.cell?,hq.obj]
     simpa using g
    ·cases g
   obtain ⟨u,hu1,hu2⟩:=jU (c:=c) (w:=w) hT hi (b:=b) (off:=i*sz'+j) (cells:=r.drop j) (vals:=(cells.toList.drop (i*sz'+j)).take (sz' - j)) (by simp [hrl]; omega)
    (fun y hy=>(e4 r (List.mem_of_getElem? hr)).2 y (List.mem_of_mem_drop hy)) hA hB hv
   refine qh hΓ hI hd hW ht (by rw [hop]; intro c hc; cases hc) hu2 ?_ h hn
   simp only [execOp,hop,f2,Sem.run_bind,Instr.loadAt,Instr.sureAddr,Sem.run_pure,Result.andThen_ok,hu1]
  ·exact h.elim
end
end Go.AI
namespace Go.AI
open Go
open Go.RowKit (Below)
theorem eB {α:Type}:∀ (l:List α) (n:Nat) (v:α),(bZ l n v).length=l.length
 | [],_,_=>rfl
 | _::_,0,_=>rfl
 | _::r,n+1,v=>by simp [bZ,eB r n v]
theorem qg {α:Type}:∀ (ds l:List α) (off p:Nat),(setMany l off ds)[p]?=if off≤p∧p<off+ds.length∧p<l.length then ds[p - off]? else l[p]?
 | [],l,off,p=>by rw [if_neg (by simp; omega)]; rfl
 | d::ds,l,off,p=>by
  rw [setMany,qg ds,eB,da]
  by_cases h1:off=p
  ·subst h1
   rw [if_neg (by omega)]
   by_cases h2:off<l.length
   ·rw [if_pos ⟨rfl,h2⟩,if_pos ⟨Nat.le_refl _,by simp,h2⟩]; simp
   ·rw [if_neg (by omega),if_neg (by omega)]
  ·by_cases h2:off+1≤p∧p<off+1+ds.length∧p<l.length
   ·rw [if_pos h2,if_pos ⟨by omega,by simp; omega,h2.2.2⟩,show p - off=(p - (off+1))+1 by omega]; simp
   ·rw [if_neg h2,if_neg (by omega),if_neg (by simp; omega)]
theorem qf {α:Type}:∀ (ds l:List α) (off:Nat),(setMany l off ds).length=l.length
 | [],_,_=>rfl
 | _::ds,l,off=>by rw [setMany,qf ds,eB]
theorem ix {k:Nat} {g:zt} (hg:sy g=true):∀ {t:List (Nat×AV)},lJ k t=true→∀ {d n:Nat} {xs:List (List AV)},get t d=some (.me g k n xs)→d=xk k
 | [],_,d,n,xs,h=>by simp [get] at h
 |(e,v)::r,hb,d,n,xs,h=>by
  rw [aq] at h
  split at h
  ·rename_i hd
   cases h
   simp only [lJ,Nat.beq_refl,Bool.not_true,Bool.or_false,hg,Bool.false_or,Bool.and_eq_true] at hb
   rw [hd]; exact Nat.eq_of_beq_eq_true hb.1
  ·refine ix (t:=r) hg ?_ h
   unfold lJ at hb
   split at hb
   ·rename_i heq; cases heq
   ·rename_i heq; simp only [List.cons.injEq] at heq; rw [heq.2]; simp only [Bool.and_eq_true] at hb; exact hb.2
   ·rename_i heq; simp only [List.cons.injEq] at heq; rw [heq.2]; exact hb
section
variable {Γ:aO} (hΓ:Γ.OK) {T:Tab} (hT:T.OK Γ.P) {s:St} {K:St→Prop} {o:Oper} {a:Act} {w:World}
 {next:Act→World→Prop} {Q:Exit→Act→World→Prop}
include hΓ hT in
theorem wn {t:TypeId} {x y:Operand} {sz j k i:Nat} {zs:List (List AV)} (hop:o.op = .store t x y) (hI:Inv Γ s a w) (hx:ev s x = .me (.ptr sz j) k i zs)
  (harr:∀ d n xs,get s.t d=some (.me .arr k n xs)→d=xk k) (h:rl T s o.dst t sz j k i (ev s y) K) (hn:dH Γ a o.dst w K next):o.wpIn Γ.F Γ.n Γ.P a w next Q:=by
 obtain ⟨c,hW,ht⟩:=hI.ex
 unfold rl at h
 split at h
 ·rename_i ti cs hdst hi hcs
  split at h
  ·exact h.elim
  rename_i sz' xs hc
  cases hb:(Nat.beq sz' sz&&(Nat.beq cs.length ti.size&&(cs.all (fun c=>c.isCell)&&(Nat.ble (j+cs.length) sz&&Nat.blt 0 cs.length)))) with
  | false=>rw [hb] at h; exact h.elim
  | true=>
   rw [hb] at h
   simp only [Bool.and_eq_true,List.all_eq_true] at hb
   obtain ⟨b1,b2,b3,b4,b5⟩:=hb
   have:=Nat.eq_of_beq_eq_true b1
   subst this
   have hle:=Nat.le_of_ble_eq_true b4
   have hpos:1≤cs.length:=Nat.le_of_ble_eq_true b5
   obtain ⟨r,hr,h⟩:=h
   obtain ⟨b,cells,U,e1,e2,e3,e4,e5⟩:=mD ht hc
   have hq:=hW.xo k b _ e1
   have hrx:=aN ht x
   rw [hx] at hrx
   obtain ⟨b',cells',U',f1,f2⟩:=(show RX c (.ptr sz' j) k i zs (a.eval x) from hrx)
   rw [e1] at f1
   cases f1
   have hil:=(List.getElem?_eq_some_iff.1 hr).1
   have hrl:=(e4 r (List.mem_of_getElem? hr)).1
   have hmul:(i+1)*sz'≤xs.length*sz':=Nat.mul_le_mul_right _ hil
   rw [Nat.add_mul,Nat.one_mul] at hmul
   obtain ⟨g1,g2⟩:=(aN ht y).cells0 hcs
   have hone:∀ v∈(a.eval y).cells.toList,v.oneCell'=true:=by
    intro v hv
    obtain ⟨n,hn',hv'⟩:=List.getElem_of_mem hv
    have hlt:n<cs.length:=by rw [g1]; simpa using hn'
    have h1:(a.eval y).cells[n]?=some v:=by
     rw [← hv',← Array.getElem?_toList]; exact List.getElem?_eq_getElem hn'
    exact ((g2 n _ v (List.getElem?_eq_getElem hlt) h1).one (b3 _ (List.getElem_mem hlt))).1
   have hnl:(a.eval y).cells.toList.length=cs.length:=by simp [g1]
   generalize hnews:(a.eval y).cells.toList=news at *
   have hst:=run_storeCells_at Γ.P b (i*sz'+j) U news 0 cells w hq.obj (by simp only [Nat.add_zero,Array.length_toList]; omega) hone
   simp only [Nat.add_zero] at hst
   obtain ⟨W1,W2,W3⟩:=hW.storeX e1 (cells.toList.take (i*sz'+j)++news++cells.toList.drop (i*sz'+j+news.length)).toArray
   have hrow:=fun n=>Ae cells.toList news (i*sz'+j) n (by simp only [Array.length_toList]; omega)
   refine jF hΓ (by rw [hop]; intro c hc; cases hc) (w':=w.setRow b (cells.toList.take (i*sz'+j)++news++cells.toList.drop (i*sz'+j+news.length)).toArray) ?_ ?_
   ·have hsz:(a.eval y).cells.size=ti.size:=by rw [← g1]; exact Nat.eq_of_beq_eq_true b2
    simp only [execOp,hop,f2,Instr.storeAt,Instr.sureAddr,Sem.run_bind,Sem.run_pure,Result.andThen_ok,storeVar,bR hT hi,hsz,ne_eq,not_true_eq_false,if_false,hnews,hst]
   ·rw [hdst]
    refine hn _ _ _ h (hI.next W3 W1 (d:=none) (v:=Go.undef) (by intro k hk; cases hk) (fun d z hz=>?_)) W3 (jo hdst)
    rw [aq] at hz
    split at hz
    ·rename_i hd
     cases hz
     refine ⟨b,_,U,if_pos rfl,⟨by rw [eB]; exact e2.1,by
      have h22:=e2.2
      simp only [List.size_toArray,List.length_append,List.length_take,List.length_drop,Array.length_toList]
      omega⟩,?_,fun r' hr'=>?_,fun i' r' j' z' h1 h2=>?_⟩
     ·rw [eB]
      simp only [List.size_toArray,List.length_append,List.length_take,List.length_drop,Array.length_toList]
      omega
     ·obtain ⟨p,hp⟩:=List.getElem?_of_mem hr'
      rw [da] at hp
      split at hp
      ·cases hp
       rw [jN]
       refine ⟨by rw [qf]; exact hrl,fun z hz=>?_⟩
       rcases kA _ _ _ _ hz with h | h
       ·obtain ⟨u,hu,rfl⟩:=List.mem_map.1 h
        exact AV.pub1_cell (b3 u hu)
       ·exact (e4 r (List.mem_of_getElem? hr)).2 z h
      ·exact e4 r' (List.mem_of_getElem? hp)
     ·have hil':i'<xs.length:=by have:=(List.getElem?_eq_some_iff.1 h1).1; rwa [eB] at this
      rw [hrow]
      rw [da] at h1
      split at h1
      ·rename_i hi'
       obtain ⟨rfl,_⟩:=hi'
       cases h1
       rw [jN,qg,List.length_map] at h2
       split at h2
       ·rename_i hc2
        rw [if_pos ⟨by omega,by omega⟩,show i*sz'+j' - (i*sz'+j)=j' - j by omega]
        rw [List.getElem?_map] at h2
        obtain ⟨z0,hz0,rfl⟩:=Option.map_eq_some_iff.1 h2
        have hlt:j' - j<news.length:=by omega
        refine ⟨news[j' - j],List.getElem?_eq_getElem hlt,?_⟩
        refine (g2 _ z0 _ hz0 ?_).pub
        rw [← Array.getElem?_toList,hnews]; exact List.getElem?_eq_getElem hlt
       ·rename_i hc2
        have hj':j'<r.length:=(List.getElem?_eq_some_iff.1 h2).1
        rw [if_neg (by omega)]
        simpa using e5 i r j' z' hr h2
      ·rename_i hi'
       have hne:i≠i':=fun e=>hi' ⟨e,hil'⟩
       have hj':j'<sz':=by rw [← (e4 r' (List.mem_of_getElem? h1)).1]; exact (List.getElem?_eq_some_iff.1 h2).1
       rw [if_neg ?_]
       ·simpa using e5 i' r' j' z' h1 h2
       ·intro hc2
        rcases Nat.lt_or_gt_of_ne hne with g | g
        ·have:(i+1)*sz'≤i'*sz':=Nat.mul_le_mul_right _ g
         rw [Nat.add_mul,Nat.one_mul] at this; omega
        ·have:(i'+1)*sz'≤i*sz':=Nat.mul_le_mul_right _ g
         rw [Nat.add_mul,Nat.one_mul] at this; omega
    ·have hz':=ht d z hz
     -- heads and pointers under the same name stay
     cases z with
     | me g k' n' zs'=>
      by_cases hk:k'=k
      ·subst hk
       cases g with
       | sl=>
        obtain ⟨p1,p2,p3,p4,p5⟩:=(show RX c .sl k' n' zs' _ from hz')
        exact ⟨p1,_,U,p4,by rw [show c.x k'=_ from e1] at p5; simp only [Option.some.injEq,Prod.mk.injEq] at p5; rw [← p5.1.1]; exact if_pos rfl,p5.2⟩
       | ptr sz2 j2=>
        obtain ⟨p1,p2,p3,p5⟩:=(show RX c (.ptr sz2 j2) k' n' zs' _ from hz')
        exact ⟨p1,_,U,by rw [show c.x k'=_ from e1] at p5; simp only [Option.some.injEq,Prod.mk.injEq] at p5; rw [← p5.1.1]; exact if_pos rfl,p5.2⟩
       | arr=>exact absurd (harr _ _ _ hz) (by assumption)
       | mp=>
        obtain ⟨p1,p2,p3,p5,_⟩:=(show RX c .mp k' n' zs' _ from hz')
        rw [show c.x k'=_ from e1] at p5; cases p5
       | ents=>
        obtain ⟨p2,p3,p5,_⟩:=(show RX c .ents k' n' zs' Go.undef from hz')
        rw [show c.x k'=_ from e1] at p5; cases p5
       | sub sz2 l2=>
        obtain ⟨p1,p2,p3,p4,p6,p5,p7⟩:=(show RX c (.sub sz2 l2) k' n' zs' _ from hz')
        exact ⟨p1,_,U,p4,p6,by rw [show c.x k'=_ from e1] at p5; simp only [Option.some.injEq,Prod.mk.injEq] at p5; rw [← p5.1]; exact if_pos rfl,p7⟩
      ·have:=hz'.leX W2
       simp only [AV.unme,show Nat.beq k k'=false from by cases hb:Nat.beq k k' with | false=>rfl | true=>exact absurd (Nat.eq_of_beq_eq_true hb).symm hk] at this
       exact this
     | _=>exact hz'.leX W2
 ·exact h.elim
include hΓ hT in
theorem Fb {t:TypeId} {x y:Operand} {sz j k i:Nat} {zs:List (List AV)} (hop:o.op = .store t x y) (hI:Inv Γ s a w) (hx:ev s x = .me (.ptr sz j) k i zs)
  (h:yI T s o.dst t sz j k i (ev s y) K) (hn:dH Γ a o.dst w K next):o.wpIn Γ.F Γ.n Γ.P a w next Q:=by
 unfold yI at h
 cases hb:lJ k s.t with
 | false=>rw [hb] at h; exact h.elim
 | true=>rw [hb] at h; exact wn hΓ hT hop hI hx (fun d n xs=>ix rfl hb) h hn
end
end Go.AI
namespace Go.AI
open Go
open Go.RowKit (Below)
section
variable {Γ:aO} (hΓ:Γ.OK) {T:Tab} (hT:T.OK Γ.P) {s:St} {K:St→Prop} {o:Oper} {a:Act} {w:World}
 {next:Act→World→Prop} {Q:Exit→Act→World→Prop}
include hT in
theorem BF {c:Ctx} {bx:List (Nat×List AV)} (hW:WI Γ c bx w) {t:Nat} {i j:TI} {o':Own} {sz sz':Nat} {ys:List (List AV)} {u v:Value} {zs:List AV} (hi:get T t=some i) (hk3:i.kind=3) (hj:get T i.elem=some j)
  (hz:j.zero.cells?=some zs) (hzl:zs.length=j.size) (hpos:0<j.size) (hx:RC1 c (.sl .full sz []) u) (hy:RC1 c (.sl o' sz' ys) v) (hsy:j.size=sz'∨ys=[]) (hroom:ir ys.length j.bytes)
  (hmax:ys.length≤4611686018427387904) (hn:0<ys.length) (ty:TypeId) :
  ∃ cap cells,(Builtin.append_ #[t,t] ty #[u,v]).run Γ.P w = .ok (.slice (some ⟨w.heap.size,0,none⟩) ys.length cap) (w.drew.alloc (.cells cells i.elem))∧ys.length≤cap∧cap*j.size≤cells.size ∧
   (∀ r∈ys,r.length=j.size∧∀ y∈r,y.isCell=true)∧∀ (p:Nat) (r:List AV) (q:Nat) (y:AV),ys[p]?=some r→r[q]?=some y→∃ u,cells[p*j.size+q]?=some u∧RD c.m y u:=by
 have hu:=bY hT hi hk3
 obtain ⟨q,z,q1,q2,q3,q4,q5,_⟩:=ju (c:=c) w hT hj hz hzl
 have hy':RD c.m (.sl .no sz' ys) v:=hy.sl_no
 obtain ⟨base',n,cap',rfl,_,_⟩:=hy'.elem
 obtain ⟨k2,k1,k2',k3,k4,k5,k6,k7,k8⟩:=hy'.flat
 subst k4
 have hsz:j.size=sz':=by
  rcases hsy with h | h
  ·exact h
  ·subst h; simp at hn
 subst hsz
 have hx':RD c.m (.sl .full sz []) u:=hx
 have hu0:∃ base,u = .slice base 0 0:=by
  generalize hav:u=av at hx'
  cases hx' with
  | sl _ _ _ base len cap ho hf hl hc=>
   have:=hf rfl
   simp at hl
   subst hl
   subst this
   exact ⟨base,rfl⟩
 obtain ⟨base,rfl⟩:=hu0
 obtain ⟨b',off',rfl,hkm⟩:=k8 hn
 have hnews:∀ p v,k2[p]?=some v→w.cell? ((⟨b',off',none⟩:Addr).add p)=some v:=fun p v h=>by rw [c6]; exact hW.sub.cell _ _ _ (hkm p v h)
 have hr47:ys.length*j.bytes≤140737488355328:=by unfold ir at hroom; omega
 have hfits:=growslice_fits (need:=ys.length) (old:=0) (bytes:=q.bytes) (by omega) (by rw [q3]; exact hr47)
 have hge:=grownCap_ge w ys.length 0 i.elem
 obtain ⟨cells,hcells⟩:∃ cells,cells=k2.toArray++Builtin.zeroCells z.cells (grownCap w ys.length 0 i.elem - ys.length):=⟨_,rfl⟩
 have hrun:(Builtin.append_ #[t,t] ty #[.slice base 0 0,.slice (some ⟨b',off',none⟩) ys.length cap']).run Γ.P w = .ok (.slice (some ⟨w.heap.size,0,none⟩) ys.length (grownCap w ys.length 0 i.elem)) (w.drew.alloc (.cells cells i.elem)):=by
  cases base with
  | none=>
   have:=run_append_nil (P:=Γ.P) w t ty i.elem q z hu q1 q4 ⟨b',off',none⟩ ys.length cap' k2 (by rw [k1,q2]) hnews hn (by omega) (by rw [q3]; omega)
   rw [this,hcells]
  | some a0=>
   have:=run_append_grow (P:=Γ.P) w t ty i.elem q z hu q1 q4 a0 0 0 [] (by simp) (by simp) ⟨b',off',none⟩ ys.length cap' k2 (by rw [k1,q2]) hnews (by omega) (by omega) (by simpa using hfits)
   simp only [Nat.zero_add] at this
   rw [this,hcells]; simp
 refine ⟨_,cells,hrun,hge,?_,fun r hr=>⟨k6 r hr,k7 r hr⟩,fun p r q y h1 h2=>?_⟩
 ·rw [hcells]; simp only [Array.size_append,List.size_toArray,size_zeroCells,q5,k1]; rw [← Nat.add_mul]; exact Nat.mul_le_mul_right _ (by omega)
 ·obtain ⟨v,g1,g2⟩:=k2' p r q y h1 h2
  refine ⟨v,?_,g2⟩
  rw [hcells,Array.getElem?_append_left (by simpa using (List.getElem?_eq_some_iff.1 g1).1)]
  simpa using g1
include hΓ hT in
theorem Fc {args:Array Operand} {ts:Array TypeId} {x y:Operand} {sz:Nat} (hop:o.op = .call { callee := .builtin .append,args:=args,argTypes:=ts }) (ha:args.toList=[x,y]) (hI:Inv Γ s a w) (hd:∀ d,o.dst=some d→d<Γ.nt)
  (hx:ev s x = .sl .full sz []) (h:yJ T s o.dst ts.toList (ev s y) K) (hn:dH Γ a o.dst w K next):o.wpIn Γ.F Γ.n Γ.P a w next Q:=by
 obtain ⟨c,hW,ht⟩:=hI.ex
 unfold yJ at h
 split at h
 ·rename_i d t t' hdst hts
  have hdlt:=hd d hdst
  split at h
  ·exact h.elim
  rename_i ti hi
  split at h
  ·exact h.elim
  rename_i j hj
  split at h
  ·rename_i ow sz' ys hys
   cases hb:(Nat.beq ti.kind 3&&(Nat.beq t t'&&(rB j&&Nat.blt 0 j.size))) with
   | false=>rw [hb] at h; exact h.elim
   | true=>
    rw [hb] at h
    simp only [Bool.and_eq_true] at hb
    obtain ⟨b1,b2,b3,b4⟩:=hb
    have htt:=Nat.eq_of_beq_eq_true b2
    subst htt
    obtain ⟨⟨h0,hroom,hmax,h⟩,hsy⟩:=hZ h
    have hpos:0<j.size:=Nat.le_of_ble_eq_true b4
    unfold rB at b3
    split at b3
    ·rename_i zs hz
     have hzl:=Nat.eq_of_beq_eq_true b3
     have hrx:=aN ht x
     rw [hx] at hrx
     have hry:=aN ht y
     rw [hys] at hry
     obtain ⟨cap,cells,r1,r2,r3,r4,r5⟩:=BF (o':=ow) hT hW hi (Nat.eq_of_beq_eq_true b1) hj hz hzl hpos ((RC.iff (by intro cs hc; cases hc)).1 hrx) ((RC.iff (by intro cs hc; cases hc)).1 hry) hsy hroom hmax h0 o.type
     obtain ⟨args⟩:=args
     obtain ⟨ts⟩:=ts
     simp only at ha hts
     subst ha
     subst hts
     obtain ⟨W1,W2,W3⟩:=hW.drew.newX d (ys.length,cap) (.cells cells ti.elem (0,0)) rfl (bT _ _)
     refine aR hΓ (by rw [hop]; intro c hc; cases hc) (v := .slice (some ⟨w.heap.size,0,none⟩) ys.length cap) (w':=w.drew.alloc (.cells cells ti.elem)) ?_ ?_
     ·simp only [execOp,hop,Sem.run_bind,cg,Result.andThen_ok,invoke,builtin,List.map_toArray,List.map_cons,List.map_nil,r1,Sem.run_pure]
     ·have hN:NC w (w.drew.alloc (.cells cells ti.elem (0,0))):=NC.trans (show NC w w.drew from ⟨Nat.le_refl _,fun _ _ h _=>h,.drew _,fun _ h=>h⟩) W3
      rw [hdst]
      refine hn _ _ _ h (hI.next hN W1 (d:=some d) (by intro k hk; cases hk; exact hdlt) (db (fun e z hz=>?_) (by rw [hI.size]; exact hdlt) ?_)) hN (ek hdst)
      ·rw [aq] at hz
       split at hz
       ·cases hz
        exact ⟨_,cells,ti.elem,if_pos rfl,⟨by simp,by simpa using r3⟩,Nat.le_trans (Nat.mul_le_mul_right _ r2) r3,r4,r5⟩
       ·rw [ec] at hz
        obtain ⟨z',hz',rfl⟩:=Option.map_eq_some_iff.1 hz
        exact (ht e z' hz').leX W2
      ·exact ⟨_,cells,ti.elem,cap,if_pos rfl,by rw [World.size_drew],⟨by simp,by simp⟩,r2⟩
    ·cases b3
  ·exact h.elim
 ·exact h.elim
include hΓ hT in
theorem F1 {args:Array Operand} {ts:Array TypeId} {x:Operand} {t:TypeId} {k n:Nat} {zs:List (List AV)} {i:TI} (hop:o.op = .call { callee := .builtin .len,args:=args,argTypes:=ts }) (ha:args.toList=[x]) (hts:ts.toList=[t]) (hI:Inv Γ s a w)
  (hd:∀ d,o.dst=some d→d<Γ.nt) (hx:ev s x = .me .sl k n zs) (hi:get T t=some i) (hk:i.kind=3) (h:fV s o.dst (.int .i64 n) K) (hn:dH Γ a o.dst w K next):o.wpIn Γ.F Γ.n Γ.P a w next Q:=by
 obtain ⟨c,hW,ht⟩:=hI.ex
 have hrx:=aN ht x
 rw [hx] at hrx
 obtain ⟨b,cells,U,cap,e1,e2,e3,e4⟩:=(show RX c .sl k n zs (a.eval x) from hrx)
 obtain ⟨args⟩:=args
 obtain ⟨ts⟩:=ts
 simp only at ha hts
 subst ha
 subst hts
 have hu:=bY hT hi hk
 refine qh hΓ hI hd hW ht (by rw [hop]; intro c hc; cases hc) (x := .int .i64 n) (v := .int .i64 n) (RC.of_int _ _) ?_ h hn
 have:(Builtin.len_ #[t] o.type #[a.eval x]).run Γ.P w = .ok (.int .i64 n) w:=by rw [e2]; simp [Builtin.len_,run_underlying hu,goInt]
 simp only [execOp,hop,Sem.run_bind,cg,Result.andThen_ok,invoke,builtin,List.map_toArray,List.map_cons,List.map_nil,this,Sem.run_pure]
end
end Go.AI
namespace Go.AI
open Go
open Go.RowKit (Below)
section
variable {Γ:aO} {c:Ctx} {bx:List (Nat×List AV)} {w:World}
theorem WI.putX (hW:WI Γ c bx w) {k b:Nat} {es:Array MapEntry} {clock:Nat} (hx:c.x k=some (b,.map es clock)) (p':Obj) (hk':pC p'=true) (hso:mO p') :
  let c':Ctx:={ c with x:=fun j=>if j=k then some (b,p') else c.x j }
  WI Γ c' bx (w.putObj b p')∧c.leX k c'∧NC w (w.putObj b p'):=by
 intro c'
 have hq:=hW.xo k b _ hx
 have hB:=hW.ext.size
 have hn:=hq.new
 have hlt:=hW.lt_x hx
 have hL:c.leX k c':=⟨.refl _,rfl,rfl,rfl,fun j hj=>⟨if_neg hj,rfl⟩⟩
 have ho:∀ b',b'≠b→(w.putObj b p').heap[b']?=w.heap[b']?:=fun b' h=>World.putObj_heap_other h
 refine ⟨⟨hW.ext.trans ⟨rfl,rfl,rfl,by simp [World.putObj],fun q hq'=>ho q (by omega)⟩,⟨fun b' o v hm=>?_,fun b' x hm=>?_⟩,hW.le0,hW.new.keep (fun _ h=>jK h hq.obj (fun _ _ h=>nomatch h) _),fun d cs h hne=>?_,hW.inj,fun j=>?_,fun j b' o h=>?_⟩,hL,⟨by simp [World.putObj],fun b' o hb ho'=>?_,.putObj w b hso,fun _ h=>jK h hq.obj (fun _ _ h=>nomatch h) _⟩⟩
 ·have hne:b'≠b:=by
   rintro rfl
   have:=hq.mem o
   rw [show c.m b' o=some v from hm] at this; cases this
  have h1:=hW.sub.cell b' o v hm
  simp only [World.cell?] at h1 ⊢
  rw [ho b' hne]; exact h1
 ·have hne:b'≠b:=by
   rintro rfl
   have:=hq.map
   rw [show c.m.maps b'=some x from hm] at this; cases this
  rw [ho b' hne]; exact hW.sub.map b' x hm
 ·obtain ⟨g1,g2,g3,us,U,g4,g5,g6⟩:=hW.box d cs h hne
  refine ⟨g1,g2,g3,us,U,?_,g5,fun i x v q1 q2=>(g6 i x v q1 q2).leX_cell hL (g3 x (List.mem_of_getElem? q1))⟩
  rw [ho _ (hq.box d cs h hne)]; exact g4
 ·have hw:=hW.own j
  refine ⟨fun g hg=>?_,hw.shape,hw.box,hw.apart⟩
  obtain ⟨len,cap,U,cells'',q1,q2,q3⟩:=hw.blk g hg
  refine ⟨len,cap,U,cells'',q1,?_,q3⟩
  rw [ho _ (fun e=>by subst e; exact hq.own j hg)]; exact q2
 ·simp only [c'] at h
  split at h
  ·rename_i hj
   subst hj
   cases h
   refine ⟨hq.new,World.putObj_heap_same hlt,hk',hq.mem,hq.map,hq.box,hq.own,fun j' o' h'=>?_⟩
   simp only [c'] at h'
   split at h'
   ·assumption
   ·exact hq.inj j' o' h'
  ·rename_i hj
   have hr:=hW.xo j b' o h
   have hne:b'≠b:=fun e=>by subst e; exact hj (hq.inj j _ h)
   refine ⟨hr.new,?_,hr.kept,hr.mem,hr.map,hr.box,hr.own,fun j' o' h'=>?_⟩
   ·rw [ho _ hne]; exact hr.obj
   ·simp only [c'] at h'
    split at h'
    ·cases h'; exact absurd rfl hne
    ·exact hr.inj j' o' h'
 ·have hne:b'≠b:=by
   rintro rfl
   rw [hq.obj] at hb
   cases hb
   rw [hq.kept] at ho'; cases ho'
  rw [ho _ hne]; exact hb
theorem WI.freezeMap (hW:WI Γ c bx w) {k b:Nat} {es:Array MapEntry} {clock:Nat} (hx:c.x k=some (b,.map es clock)) :
  let c':Ctx:={ c with m:=⟨c.m.cells,fun b'=>if b'=b then some (es,clock) else c.m.maps b'⟩,x:=fun j=>if j=k then none else c.x j }
  WI Γ c' bx w∧c.leX k c':=by
 intro c'
 have hq:=hW.xo k b _ hx
 have hle:c.m.le c'.m:=⟨fun _ _ _ h=>h,fun b' x hm=>by
  show (if _ then _ else _)=_
  rw [if_neg (fun e=>by subst e; rw [hq.map] at hm; cases hm)]; exact hm⟩
 have hL:c.leX k c':=⟨hle,rfl,rfl,rfl,fun j hj=>⟨if_neg hj,rfl⟩⟩
 refine ⟨⟨hW.ext,⟨hW.sub.cell,fun b' x hm=>?_⟩,hW.le0.trans hle,⟨hW.new.cell,fun b' x hm=>?_⟩,fun d cs h hne=>?_,hW.inj,fun j=>⟨(hW.own j).blk,(hW.own j).shape,(hW.own j).box,(hW.own j).apart⟩,fun j b' o h=>?_⟩,hL⟩
 ·simp only [c'] at hm
  split at hm
  ·rename_i hb; subst hb; cases hm; exact hq.obj
  ·exact hW.sub.map b' x hm
 ·simp only [c'] at hm
  split at hm
  ·rename_i hb; exact .inr (by rw [hb]; exact hq.new)
  ·exact hW.new.map b' x hm
 ·obtain ⟨g1,g2,g3,us,U,g4,g5,g6⟩:=hW.box d cs h hne
  exact ⟨g1,g2,g3,us,U,g4,g5,fun i x v q1 q2=>(g6 i x v q1 q2).leX_cell hL (g3 x (List.mem_of_getElem? q1))⟩
 ·simp only [c'] at h
  split at h
  ·cases h
  ·rename_i hj
   have hr:=hW.xo j b' o h
   refine ⟨hr.new,hr.obj,hr.kept,hr.mem,?_,hr.box,hr.own,fun j' o' h'=>?_⟩
   ·show (if _ then _ else _)=_
    rw [if_neg (fun e=>by subst e; exact hj (hq.inj j o h))]; exact hr.map
   ·simp only [c'] at h'
    split at h'
    ·cases h'
    ·exact hr.inj j' o' h'
theorem RX.mapv {k n:Nat} {rows:List (List AV)} {u:Value} (h2:RX c .ents k n rows u) {m':Mem} (hle:c.m.le m') (hm:∀ es clock,c.x k=some (n,.map es clock)→m'.maps n=some (es,clock)):RD m' (.mapv rows) (.map (some n)):=by
 obtain ⟨es,clock,e1,q1,q2,q3,q4,q5⟩:=h2
 exact .mapv rows n es clock (hm es clock e1) q1 q2 q3 (fun i x e y g1 g2 g3=>(q4 i x e y g1 g2 g3).mono hle) (fun i x e y g1 g2 g3=>(q5 i x e y g1 g2 g3).mono hle)
theorem WI.newMap (hW:WI Γ c bx w) (k:Nat) :
  let c':Ctx:={ c with x:=fun j=>if j=k then some (w.heap.size,.map #[] 0) else c.x j,xn:=fun j=>if j=k then (0,0) else c.xn j }
  WI Γ c' bx (w.alloc (.map #[] 0))∧c.leX k c'∧NC w (w.alloc (.map #[] 0))∧∀ u,RX c' .ents k w.heap.size [] u:=by
 intro c'
 obtain ⟨h1,h2,h3⟩:=hW.newX k (0,0) (.map #[] 0) rfl (fun _ _ _ h=>nomatch h)
 refine ⟨h1,h2,h3,fun u=>⟨#[],0,if_pos rfl,⟨by simp,by simp,by simp⟩,rfl,by simp,by simp,by simp⟩⟩
end
end Go.AI
namespace Go.AI
open Go
open Go.RowKit (Below)
theorem lc {l:List (List Int×AV)} {i:Nat} {x:List AV} (h:(ej l)[i]?=some x):∃ p,l[i]?=some p∧x=[keyA p.1,p.2]:=by
 simp only [ej,List.getElem?_map,Option.map_eq_some_iff] at h
 obtain ⟨p,h1,h2⟩:=h
 exact ⟨p,h1,h2.symm⟩
theorem RD.int_eq {m:Mem} {k:IntKind} {n:Int}:∀ {v:Value},RD m (.int k n) v→v = .int k n
 | _,.int _ _=>rfl
theorem RD.keyA {m:Mem} {k:List Int} {v:Value} (h:RD m (Go.AI.keyA k) v):v=bC k:=by
 unfold Go.AI.keyA at h
 cases h with
 | agg _ vs hl hc hr=>
  unfold bC
  congr 1
  apply Array.ext'
  apply List.ext_getElem?
  intro i
  simp only [List.length_map] at hl
  simp only [List.getElem?_map]
  by_cases hi:i<k.length
  ·have h1:(k.map (AV.int .i64))[i]?=some (.int .i64 k[i]):=by simp [hi]
   have hv:vs[i]?=some (vs[i]'(by omega)):=Array.getElem?_eq_getElem _
   rw [Array.getElem?_toList,hv,(hr i _ _ h1 hv).int_eq,List.getElem?_eq_getElem hi,Option.map_some]
  ·rw [Array.getElem?_toList,Array.getElem?_eq_none (by omega),List.getElem?_eq_none (by omega)]; rfl
theorem t7 {k:List Int} {v:AV}:∀ {l:List (List Int×AV)},(∀ p∈l,p.1≠k)→mK k v l=l++[(k,v)]
 | [],_=>rfl
 |(k',v')::r,h=>by
  rw [mK,if_neg (h (k',v') List.mem_cons_self),t7 fun p hp=>h p (List.mem_cons_of_mem _ hp)]; rfl
theorem t6 {k:List Int} {v:AV}:∀ {l:List (List Int×AV)} {j:Nat} {p:List Int×AV},l[j]?=some p→p.1=k→(∀ (i i':Nat) (q q':List Int×AV),l[i]?=some q→l[i']?=some q'→q.1=q'.1→i=i')→mK k v l=l.set j (k,v)
 | [],j,p,h,_,_=>by simp at h
 |(k',v')::r,0,p,h,hp,_=>by
  simp only [List.getElem?_cons_zero,Option.some.injEq] at h
  subst h
  rw [mK,if_pos hp]; rfl
 |(k',v')::r,j+1,p,h,hp,hu=>by
  simp only [List.getElem?_cons_succ] at h
  have hne:k'≠k:=fun e=>by
   have:=hu 0 (j+1) (k',v') p rfl h (by rw [e,hp])
   omega
  rw [mK,if_neg hne,t6 h hp fun i i' q q' h1 h2 e=>by
   have:=hu (i+1) (i'+1) q q' (by simpa using h1) (by simpa using h2) e
   omega]
  rfl
section
variable {Γ:aO} (hΓ:Γ.OK) {T:Tab} (hT:T.OK Γ.P) {s:St} {o:Oper} {a:Act} {w:World}
 {next:Act→World→Prop} {Q:Exit→Act→World→Prop}
include hΓ in
theorem AU {K:St→Prop} {t:TypeId} {d:Nat} (hop:o.op = .makeMap t none) (hI:Inv Γ s a w) (hd:∀ d,o.dst=some d→d<Γ.nt) (hdst:o.dst=some d)
  (h:∀ b,K ⟨(d,.lit (.map (some b)))::(xk d,.me .ents d b [])::iB (AV.unme d) s.t,s.b⟩) (hn:dH Γ a o.dst w K next):o.wpIn Γ.F Γ.n Γ.P a w next Q:=by
 obtain ⟨c,hW,ht⟩:=hI.ex
 have hdlt:=hd d hdst
 obtain ⟨W1,W2,W3,W4⟩:=hW.newMap d
 refine aR hΓ (by rw [hop]; intro c hc; cases hc) (v := .map (some w.heap.size)) (w':=w.alloc (.map #[] 0)) ?_ ?_
 ·simp only [execOp,hop,Instr.makeMap,Sem.run_bind,Option.map_none,run_newObj,Result.andThen_ok,Sem.run_pure]
  rfl
 ·rw [hdst]
  refine hn _ _ _ (h w.heap.size) (hI.next W3 W1 (d:=some d) (by intro k hk; cases hk; exact hdlt) (db (fun e z hz=>?_) (by rw [hI.size]; exact hdlt) (RD.lit _ rfl rfl))) W3 (ek hdst)
  rw [aq] at hz
  split at hz
  ·cases hz; exact W4 Go.undef
  ·rw [ec] at hz
   obtain ⟨z',hz',rfl⟩:=Option.map_eq_some_iff.1 hz
   exact (ht e z' hz').leX W2
include hT in
theorem Fg {t:TypeId} {i:TI} {kt z:Nat} (h:get T t=some i) (hk:i.kind=9) (hf:i.flds=[(z,kt)]):∃ et,Γ.P.underlying t=some (.map kt et):=by
 obtain ⟨q,d,h1,h2,h3⟩:=bS hT h
 simp only [TI.of,h1,h2,Option.some.injEq] at h3
 subst h3
 cases d <;> simp at hk
 rename_i k e
 simp only [List.cons.injEq,Prod.mk.injEq] at hf
 exact ⟨e,by rw [h2,hf.1.2]⟩
include hΓ hT in
theorem pZ {K:Nat→AV→Prop} {t:TypeId} {x y z:Operand} {b:Nat} (hop:o.op = .mapUpdate t x y z) (hI:Inv Γ s a w) (hx:ev s x = .lit (.map (some b)))
  (h:yH T s o.dst t b (ev s y) (ev s z) K) (hn:∀ k v,K k v→(∀ d n xs,get s.t d=some (.me .ents k n xs)→d=xk k)→dH Γ a o.dst w (fun s'=>s'=⟨(xk k,v)::s.t,s.b⟩) next)
  (harr:∀ k v,K k v→∀ d n xs,get s.t d=some (.me .ents k n xs)→d=xk k):o.wpIn Γ.F Γ.n Γ.P a w next Q:=by
 obtain ⟨c,hW,ht⟩:=hI.ex
 unfold yH at h
 split at h
 ·rename_i im hdst him
  split at h
  ·rename_i kz kt hfl
   split at h
   ·rename_i i hi
    cases hb:(Nat.beq im.kind 9&&kL i) with
    | false=>rw [hb] at h; exact h.elim
    | true=>
     rw [hb] at h
     simp only [Bool.and_eq_true] at hb
     obtain ⟨k,l,key,⟨hk,hkey,hlen,hall⟩,hK⟩:=h
     have hcl:=harr k _ hK
     obtain ⟨et,hm⟩:=Fg hT him (Nat.eq_of_beq_eq_true hb.1) hfl
     obtain ⟨es,clock,e1,q1,q2,q3,q4,q5⟩:=(show RX c .ents k b (ej l) (a.tmps.getD (xk k) Go.undef) from ht _ _ hk)
     have hq:=hW.xo k b _ e1
     have hrx:RD c.m (.lit (.map (some b))) (a.eval x):=by have:=aN ht x; rwa [hx] at this
     have hvx:a.eval x = .map (some b):=by generalize a.eval x=u at hrx; cases hrx; rfl
     have hry:=aN ht y
     rw [hkey] at hry
     have hry':RD c.m (keyA key) (a.eval y):=by
      obtain ⟨vs,r1,r2,r3,r4⟩:=(show RC c (.agg (key.map (AV.int .i64))) (a.eval y) from hry)
      rw [r1]
      refine .agg _ vs r2 r3 fun i x u h1 h2=>?_
      have h3:=r4 i x u h1 h2
      simp only [List.getElem?_map,Option.map_eq_some_iff] at h1
      obtain ⟨n,_,rfl⟩:=h1
      exact h3
     have hvy:=hry'.keyA
     have hrz:RD c.m (ev s z).pub (a.eval z):=(aN ht z).pub
     have hll:l.length=es.size:=by simpa [ej] using q2
     have hkeys:∀ (j:Nat) (e:MapEntry),es[j]?=some e→∃ p,l[j]?=some p∧e.key=bC p.1∧RD c.m p.2 e.val:=fun j e he=>by
      have hj:j<l.length:=by rw [hll]; exact (Array.getElem?_eq_some_iff.1 he).1
      have hp:(ej l)[j]?=some [keyA l[j].1,l[j].2]:=by simp [ej,hj]
      exact ⟨l[j],List.getElem?_eq_getElem hj,(q4 j _ e _ hp he rfl).keyA,q5 j _ e _ hp he rfl⟩
     have hes:∀ e∈es.toList,∃ y:List Int,e.key=bC y∧y.length=i.size:=fun e he=>by
      obtain ⟨j,hj,rfl⟩:=List.getElem_of_mem he
      obtain ⟨p,p1,p2,_⟩:=hkeys j _ (by rw [← Array.getElem?_toList]; exact List.getElem?_eq_getElem hj)
      exact ⟨p.1,p2,hall p (List.mem_of_getElem? p1)⟩
     have hex:∀ (u:Unit) (w':World),(Instr.mapUpdate t (.map (some b)) (bC key) (a.eval z)).run Γ.P w = .ok u w'→(execOp a.eval o).run Γ.P w = .ok .skip w':=fun u w' hr=>by
      simp only [execOp,hop,Sem.run_bind,hvx,hvy,hr,Result.andThen_ok,Sem.run_pure]
     -- the new content
     have fin:∀ (es':Array MapEntry) (clock':Nat),(Instr.mapUpdate t (.map (some b)) (bC key) (a.eval z)).run Γ.P w = .ok () (w.putObj b (.map es' clock'))→iK es' clock'→(mK key (ev s z).pub l).length=es'.size →
       (∀ (j:Nat) (p:List Int×AV) (e:MapEntry),(mK key (ev s z).pub l)[j]?=some p→es'[j]?=some e→e.key=bC p.1∧RD c.m p.2 e.val)→o.wpIn Γ.F Γ.n Γ.P a w next Q:=by
      intro es' clock' hrun hborn hsz hrel
      obtain ⟨W1,W2,W3⟩:=hW.putX e1 (.map es' clock') rfl (fun _ _ _ h=>nomatch h)
      refine jF hΓ (by rw [hop]; intro c hc; cases hc) (hex _ _ hrun) ?_
      rw [hdst]
      refine hn k _ hK hcl _ _ _ rfl (hI.next W3 W1 (d:=none) (v:=Go.undef) (by intro k hk; cases hk) (fun d z' hz=>?_)) W3 (jo hdst)
      rw [aq] at hz
      split at hz
      ·cases hz
       refine ⟨es',clock',if_pos rfl,hborn,by simpa [ej] using hsz,?_,?_,?_⟩
       ·intro r hr
        obtain ⟨p,_,rfl⟩:=List.mem_map.1 hr
        rfl
       ·intro j r e y' h1 h2 h3
        obtain ⟨p,p1,rfl⟩:=lc h1
        simp only [List.getElem?_cons_zero,Option.some.injEq] at h3
        subst h3
        rw [(hrel j p e p1 h2).1]
        refine .agg _ _ (by simp) (fun x hx=>?_) (fun i x u h1 h2=>?_)
        ·obtain ⟨n,_,rfl⟩:=List.mem_map.1 hx; rfl
        ·simp only [List.getElem?_map,Option.map_eq_some_iff,List.getElem?_toArray] at h1 h2
         obtain ⟨n,hn',rfl⟩:=h1
         obtain ⟨n',hn'',rfl⟩:=h2
         rw [hn'] at hn''; cases hn''
         exact .int _ _
       ·intro j r e y' h1 h2 h3
        obtain ⟨p,p1,rfl⟩:=lc h1
        simp only [List.getElem?_cons_succ,List.getElem?_cons_zero,Option.some.injEq] at h3
        subst h3
        exact (hrel j p e p1 h2).2
      ·rename_i hd
       have hz':=ht d z' hz
       cases z' with
       | me g k' n' zs'=>
        by_cases hk':k'=k
        ·subst hk'
         cases g with
         | sl=>obtain ⟨p1,p2,p3,p4,p5,_⟩:=(show RX c .sl k' n' zs' (a.tmps.getD d Go.undef) from hz'); rw [e1] at p5; cases p5
         | ptr sz2 j2=>obtain ⟨p1,p2,p3,p5,_⟩:=(show RX c (.ptr sz2 j2) k' n' zs' (a.tmps.getD d Go.undef) from hz'); rw [e1] at p5; cases p5
         | arr=>obtain ⟨p1,p2,p3,p5,_⟩:=(show RX c .arr k' n' zs' (a.tmps.getD d Go.undef) from hz'); rw [e1] at p5; cases p5
         | mp=>
          obtain ⟨p1,p2,p3,p5,p6⟩:=(show RX c .mp k' n' zs' (a.tmps.getD d Go.undef) from hz')
          rw [e1] at p5; cases p5
          exact ⟨b,es',clock',if_pos rfl,p6⟩
         | ents=>exact absurd (hcl _ _ _ hz) hd
         | sub sz2 l2=>obtain ⟨p1,p2,p3,p4,p6,p5,_⟩:=(show RX c (.sub sz2 l2) k' n' zs' (a.tmps.getD d Go.undef) from hz'); rw [e1] at p5; cases p5
        ·have:=hz'.leX W2
         simp only [AV.unme,show Nat.beq k k'=false from by cases hb:Nat.beq k k' with | false=>rfl | true=>exact absurd (Nat.eq_of_beq_eq_true hb).symm hk'] at this
         exact this
       | _=>exact hz'.leX W2
     rcases mV (w:=w) hT hm hi hb.2 key hlen (a.eval z) hq.obj hes with ⟨h1,h2⟩ | ⟨j,e,h1,h2,h3⟩
     ·have hup:mK key (ev s z).pub l=l++[(key,(ev s z).pub)]:=t7 fun p hp hc=>by
       obtain ⟨j,hj,rfl⟩:=List.getElem_of_mem hp
       have hj':j<es.size:=by omega
       have hje:=Array.getElem?_eq_getElem hj'
       obtain ⟨p',p1,p2,_⟩:=hkeys j _ hje
       rw [List.getElem?_eq_getElem hj] at p1
       cases p1
       exact h2 es[j] (by simp) (by rw [p2,hc])
      refine fin _ _ h1 ⟨fun i e he=>?_,fun i i' e e' h4 h5 h6=>?_,fun i i' e e' h4 h5 h6=>?_⟩ (by rw [hup]; simp [hll]) (fun i p e h4 h5=>?_)
      ·rw [Array.getElem?_push] at he
       split at he
       ·cases he; simp
       ·have:=q1.1 i e he; omega
      ·rw [Array.getElem?_push] at h4 h5
       split at h4 <;> split at h5
       ·omega
       ·cases h4; have:=q1.1 _ _ h5; simp only at h6; omega
       ·cases h5; have:=q1.1 _ _ h4; simp only at h6; omega
       ·exact q1.2.1 i i' e e' h4 h5 h6
      ·rw [Array.getElem?_push] at h4 h5
       have hmem:∀ (n:Nat) (f:MapEntry),es[n]?=some f→f∈es.toList:=fun n f hf=>by rw [← Array.getElem?_toList] at hf; exact List.mem_of_getElem? hf
       split at h4 <;> split at h5
       ·omega
       ·cases h4; exact absurd h6.symm (h2 _ (hmem _ _ h5))
       ·cases h5; exact absurd h6 (h2 _ (hmem _ _ h4))
       ·exact q1.2.2 i i' e e' h4 h5 h6
      ·rw [hup] at h4
       rw [Array.getElem?_push] at h5
       by_cases hil:i<l.length
       ·rw [List.getElem?_append_left hil] at h4
        rw [if_neg (by omega)] at h5
        obtain ⟨p',p1,p2,p3⟩:=hkeys i e h5
        rw [h4] at p1; cases p1
        exact ⟨p2,p3⟩
       ·rw [List.getElem?_append_right (by omega)] at h4
        have hi0:i=l.length:=by
         have:=(List.getElem?_eq_some_iff.1 h4).1
         simp at this; omega
        subst hi0
        simp at h4
        subst h4
        rw [if_pos hll] at h5
        cases h5
        exact ⟨rfl,hrz⟩
     ·obtain ⟨p,p1,p2,p3⟩:=hkeys j e h2
      have hpk:p.1=key:=by rw [h3] at p2; exact sm p2.symm ▸ rfl
      have huniq:∀ (i i':Nat) (q q':List Int×AV),l[i]?=some q→l[i']?=some q'→q.1=q'.1→i=i':=fun i i' q q' h4 h5 h6=>by
       have hi1:i<es.size:=by rw [← hll]; exact (List.getElem?_eq_some_iff.1 h4).1
       have hi2:i'<es.size:=by rw [← hll]; exact (List.getElem?_eq_some_iff.1 h5).1
       obtain ⟨r,r1,r2,_⟩:=hkeys i _ (Array.getElem?_eq_getElem hi1)
       obtain ⟨r',r1',r2',_⟩:=hkeys i' _ (Array.getElem?_eq_getElem hi2)
       rw [h4] at r1; cases r1
       rw [h5] at r1'; cases r1'
       exact q1.2.2 i i' _ _ (Array.getElem?_eq_getElem hi1) (Array.getElem?_eq_getElem hi2) (by rw [r2,r2',h6])
      have hup:mK key (ev s z).pub l=l.set j (key,(ev s z).pub):=t6 p1 hpk huniq
      have hget:∀ n,(es.modify j fun e=>{ e with key:=bC key,val:=a.eval z })[n]?=if j=n then (es[n]?).map (fun e=>{ e with key:=bC key,val:=a.eval z }) else es[n]?:=fun n=>by
       rw [Array.getElem?_modify]
      have hborn:∀ (n:Nat) (f:MapEntry),(es.modify j fun e=>{ e with key:=bC key,val:=a.eval z })[n]?=some f→∃ f0,es[n]?=some f0∧f0.born=f.born∧f0.key=f.key:=fun n f hf=>by
       rw [hget] at hf
       split at hf
       ·rename_i hjn
        subst hjn
        rw [h2] at hf
        simp only [Option.map_some,Option.some.injEq] at hf
        subst hf
        exact ⟨e,h2,rfl,h3⟩
       ·exact ⟨f,hf,rfl,rfl⟩
      refine fin _ _ h1 ⟨fun i e he=>?_,fun i i' e e' h4 h5 h6=>?_,fun i i' e e' h4 h5 h6=>?_⟩ (by rw [hup]; simp [hll]) (fun i p e h4 h5=>?_)
      ·obtain ⟨f0,g1,g2,_⟩:=hborn i e he
       rw [← g2]; exact q1.1 i f0 g1
      ·obtain ⟨f0,g1,g2,_⟩:=hborn i e h4
       obtain ⟨f1,g1',g2',_⟩:=hborn i' e' h5
       exact q1.2.1 i i' f0 f1 g1 g1' (by rw [g2,g2',h6])
      ·obtain ⟨f0,g1,_,g2⟩:=hborn i e h4
       obtain ⟨f1,g1',_,g2'⟩:=hborn i' e' h5
       exact q1.2.2 i i' f0 f1 g1 g1' (by rw [g2,g2',h6])
      ·rw [hup] at h4
       rw [hget] at h5
       by_cases hji:j=i
       ·subst hji
        rw [if_pos rfl,h2] at h5
        simp only [Option.map_some,Option.some.injEq] at h5
        rw [List.getElem?_set_self (by rw [hll]; exact (Array.getElem?_eq_some_iff.1 h2).1)] at h4
        cases h4
        subst h5
        exact ⟨rfl,hrz⟩
       ·rw [if_neg hji] at h5
        rw [List.getElem?_set_ne hji] at h4
        obtain ⟨p',p1',p2',p3'⟩:=hkeys i e h5
        rw [h4] at p1'; cases p1'
        exact ⟨p2',p3'⟩
   ·exact h.elim
  ·exact h.elim
 ·exact h.elim
end
end Go.AI
namespace Go.AI
open Go
open Go.RowKit (Below)
section
variable {Γ:aO} (hΓ:Γ.OK) {T:Tab} (hT:T.OK Γ.P) {s:St} {K:St→Prop} {o:Oper} {a:Act} {w:World}
 {next:Act→World→Prop} {Q:Exit→Act→World→Prop}
include hΓ hT in
theorem zT {t:TypeId} {x:Operand} {lo hi mx:Option Operand} {k n:Nat} {zs:List (List AV)} (hop:o.op = .slice t x lo hi mx) (hI:Inv Γ s a w) (hd:∀ d,o.dst=some d→d<Γ.nt) (hx:ev s x = .me .sl k n zs)
  (h:vb T s o.dst t k n (lo.map (ev s)) (hi.map (ev s)) (mx.map (ev s)) K) (hn:dH Γ a o.dst w K next):o.wpIn Γ.F Γ.n Γ.P a w next Q:=by
 obtain ⟨c,hW,ht⟩:=hI.ex
 unfold vb at h
 split at h
 ·exact h.elim
 rename_i i hi'
 split at h
 ·exact h.elim
 rename_i j hj
 split at h
 ·exact h.elim
 rename_i sz xs hc
 cases hb:(Nat.beq i.kind 3&&(Nat.beq j.size sz&&(mx.map (ev s)).isNone)) with
 | false=>rw [hb] at h; exact h.elim
 | true=>
  rw [hb] at h
  simp only [cond_true] at h
  simp only [Bool.and_eq_true] at hb
  obtain ⟨b1,b2,b3⟩:=hb
  have hmx:mx=none:=by cases mx with | none=>rfl | some _=>simp at b3
  subst hmx
  have hu:=bY hT hi' (Nat.eq_of_beq_eq_true b1)
  have hsz:=Nat.eq_of_beq_eq_true b2
  have hrx:=aN ht x
  rw [hx] at hrx
  obtain ⟨b,cells,U,cap,e1,e2,e3,e4⟩:=(show RX c .sl k n zs (a.eval x) from hrx)
  have bnd:∀ (bo:Option Operand) (d:Nat) (K':Nat→Prop),fx (bo.map (ev s)) d K' →
    ∃ n,K' n∧(∀ (y:Nat) (code:BoundsCode),n≤y→∀ v,bo.map a.eval=some v→(Instr.sliceBound v y code).run Γ.P w = .ok n w)∧(bo.map a.eval=none→n=d):=by
   intro bo d K' hb
   cases bo with
   | none=>exact ⟨d,hb,by simp,fun _=>rfl⟩
   | some y=>
    simp only [Option.map_some,fx] at hb
    split at hb
    ·cases ‹some (ev s y)=none›
    ·rename_i q n hy
     simp only [Option.some.injEq] at hy
     have:=aN ht y
     rw [hy] at this
     refine ⟨n.toNat,hb.2,fun z code hz v hv=>?_,by simp⟩
     simp only [Option.map_some,Option.some.injEq] at hv
     exact pQ (hv ▸ this.int) hb.1 hz
    ·exact hb.elim
  obtain ⟨l,h,hl1,hl2⟩:=bnd lo 0 _ h
  obtain ⟨r,h,hr1,hr2⟩:=bnd hi n _ h
  obtain ⟨g1,g2,h⟩:=h
  have hrun:(Instr.sliceBounds true n cap (lo.map a.eval) (hi.map a.eval) none).run Γ.P w = .ok (l,r,cap) w:=by
   refine qw ?_ ?_
   ·cases hi with
    | none=>exact hr2 rfl
    | some z=>exact fun code=>hr1 _ code (by omega) _ rfl
   ·cases lo with
    | none=>exact hl2 rfl
    | some y=>exact fun code=>hl1 _ code g1 _ rfl
  refine qh hΓ hI hd hW ht (by rw [hop]; intro c hc; cases hc) (x := .me (.sub sz l) k (r - l) []) (v := .slice (if cap=l then some ⟨b,0,none⟩ else (some (⟨b,0,none⟩:Addr)).map (·.add (l*j.size))) (r - l) (cap - l)) ?_ ?_ h hn
  ·refine ⟨b,cells,U,if cap=l then 0 else l*sz,cap - l,e1,?_,?_,by omega,by omega⟩
   ·split
    ·rfl
    ·rw [hsz]; simp only [Option.map_some,c6,Nat.zero_add]
   ·split
    ·exact Or.inr ⟨by omega,rfl⟩
    ·exact Or.inl rfl
  ·simp only [execOp,hop,e2,Instr.sliceAt,Sem.run_bind,run_underlying hu,Result.andThen_ok,Instr.slice,hrun,bR hT hj,Sem.run_pure,Option.map_none]
include hΓ hT in
theorem F2 {args:Array Operand} {ts:Array TypeId} {x y:Operand} {sz k h0:Nat} {zs:List (List AV)} (hop:o.op = .call { callee := .builtin .append,args:=args,argTypes:=ts }) (ha:args.toList=[x,y]) (hI:Inv Γ s a w) (hd:∀ d,o.dst=some d→d<Γ.nt)
  (hx:ev s x = .me (.sub sz 0) k h0 zs) (h:Fd T s o.dst ts.toList sz k h0 (ev s y) K) (hn:dH Γ a o.dst w K next):o.wpIn Γ.F Γ.n Γ.P a w next Q:=by
 obtain ⟨c,hW,ht⟩:=hI.ex
 unfold Fd at h
 split at h
 ·rename_i d t t' hdst hts
  have hdlt:=hd d hdst
  split at h
  ·exact h.elim
  rename_i i hi
  split at h
  ·exact h.elim
  rename_i j hj
  split at h
  ·rename_i sz' l k' m ys hys
   split at h
   ·exact h.elim
   rename_i sz2 xs hc
   cases hb:(Nat.beq i.kind 3&&(Nat.beq t t'&&(Nat.beq sz sz2&&(Nat.beq sz' sz2&&(Nat.beq k k'&&(Nat.beq j.size sz2&&Nat.blt 0 sz2)))))) with
   | false=>rw [hb] at h; exact h.elim
   | true=>
    rw [hb] at h
    simp only [Bool.and_eq_true] at hb
    obtain ⟨b1,b2,b3,b4,b5,b6,b7⟩:=hb
    have q1:=Nat.eq_of_beq_eq_true b2
    have q2:=Nat.eq_of_beq_eq_true b3
    have q3:=Nat.eq_of_beq_eq_true b4
    have q4:=Nat.eq_of_beq_eq_true b5
    have q5:=Nat.eq_of_beq_eq_true b6
    subst q1; subst q2; subst q3; subst q4
    obtain ⟨hle,h⟩:=h
    have hpos:0<sz':=Nat.le_of_ble_eq_true b7
    obtain ⟨b,cells,U,e1,e2,e3,e4,e5⟩:=mD ht hc
    have hq:=hW.xo k b _ e1
    have hrx:=aN ht x
    rw [hx] at hrx
    obtain ⟨b',cells',U',off,cap,f1,f2,f3,f4,f5⟩:=(show RX c (.sub sz' 0) k h0 zs (a.eval x) from hrx)
    rw [e1] at f1
    cases f1
    have hoff:off=0:=f3.elim (fun h=>by rw [h,Nat.zero_mul]) (fun h=>h.2)
    subst hoff
    have hry:=aN ht y
    rw [hys] at hry
    obtain ⟨b'',cells'',U'',off2,cap2,g1,g2,g3,g4,g5⟩:=(show RX c (.sub sz' l) k m ys (a.eval y) from hry)
    rw [e1] at g1
    cases g1
    obtain ⟨q,hq1,hq2⟩:∃ q,Γ.P.info? i.elem=some q∧q.size=sz':=by
     obtain ⟨q,d,h1,h2,h3⟩:=bS hT hj
     simp only [TI.of,h1,h2,Option.some.injEq] at h3
     exact ⟨q,h1,by rw [← q5,← h3]⟩
    have hu:=bY hT hi (Nat.eq_of_beq_eq_true b1)
    obtain ⟨news,hnews⟩:∃ news,news=(cells.toList.drop (l*sz')).take (m*sz'):=⟨_,rfl⟩
    have hlm:(l+m)*sz'≤cells.size:=Nat.le_trans (Nat.mul_le_mul_right _ (by omega)) e3
    rw [Nat.add_mul] at hlm
    have hnl:news.length=m*sz':=by rw [hnews]; simp; omega
    have hng:∀ p,news[p]?=if p<m*sz' then cells[l*sz'+p]? else none:=fun p=>by
     rw [hnews,List.getElem?_take]
     split
     ·rw [List.getElem?_drop]; simp
     ·rfl
    have hone:∀ v∈news,v.oneCell'=true:=by
     intro v hv
     obtain ⟨p,hp⟩:=List.getElem?_of_mem hv
     rw [hng] at hp
     split at hp
     ·rename_i hlt
      obtain ⟨r0,hr0⟩:∃ r0,xs[l+p / sz']?=some r0:=by
       have:p / sz'<m:=Nat.div_lt_of_lt_mul (by rw [Nat.mul_comm]; exact hlt)
       exact ⟨_,List.getElem?_eq_getElem (by omega)⟩
      have hrl:=(e4 r0 (List.mem_of_getElem? hr0)).1
      have hmod:=Nat.mod_lt p hpos
      obtain ⟨y0,hy0⟩:∃ y0,r0[p % sz']?=some y0:=⟨_,List.getElem?_eq_getElem (by omega)⟩
      obtain ⟨u,hu1,hu2⟩:=e5 _ r0 _ y0 hr0 hy0
      have hidx:(l+p / sz')*sz'+p % sz'=l*sz'+p:=by
       rw [Nat.add_mul,Nat.add_assoc,Nat.mul_comm (p / sz') sz',Nat.div_add_mod]
      rw [hidx,hp] at hu1
      cases hu1
      exact (hu2.one ((e4 r0 (List.mem_of_getElem? hr0)).2 y0 (List.mem_of_getElem? hy0))).1
     ·cases hp
    have hcell:∀ p u,news[p]?=some u→w.cell? ((⟨b,off2,none⟩:Addr).add p)=some u:=by
     intro p u hp
     rw [hng] at hp
     split at hp
     ·rename_i hlt
      have:off2=l*sz':=by
       rcases g3 with h | h
       ·exact h
       ·rw [h.1,Nat.zero_mul] at hlt; omega
      rw [c6,this]
      simp only [World.cell?,hq.obj]
      simpa using hp
     ·cases hp
    have hfit:(h0+m)*sz'≤cells.size:=Nat.le_trans (Nat.mul_le_mul_right _ hle) e3
    rw [Nat.add_mul] at hfit
    have hrun:=gd hu hq1 (w:=w) (T:=U) (cur:=cells) (g:=b) (sLen:=h0) (sCap:=cap) hq.obj ⟨b,off2,none⟩ m cap2 news (by rw [hnl,hq2]) hcell hone (by omega) (by rw [hnl,hq2]; omega) o.type
    rw [hq2,hnl] at hrun
    obtain ⟨cells2,hcells2⟩:∃ cells2,cells2=(cells.toList.take (h0*sz')++news++cells.toList.drop (h0*sz'+m*sz')).toArray:=⟨_,rfl⟩
    rw [← hcells2] at hrun
    have hc2:∀ p,cells2[p]?=if p<h0*sz' then cells[p]? else if p<h0*sz'+m*sz' then cells[l*sz'+(p - h0*sz')]? else cells[p]?:=fun p=>by
     have hl1:(cells.toList.take (h0*sz')).length=h0*sz':=by simp; omega
     have he:cells2[p]?=(cells.toList.take (h0*sz')++news++cells.toList.drop (h0*sz'+m*sz'))[p]?:=by rw [hcells2]; simp
     rw [he]
     by_cases hp1:p<h0*sz'
     ·rw [if_pos hp1,List.append_assoc,List.getElem?_append_left (by omega),List.getElem?_take,if_pos hp1]; simp
     ·rw [if_neg hp1]
      by_cases hp2:p<h0*sz'+m*sz'
      ·rw [if_pos hp2,List.append_assoc,List.getElem?_append_right (by omega),hl1,List.getElem?_append_left (by omega),hng,if_pos (by omega)]
      ·rw [if_neg hp2,List.getElem?_append_right (by rw [List.length_append]; omega),List.getElem?_drop,List.length_append,hl1,hnl,show h0*sz'+m*sz'+(p - (h0*sz'+m*sz'))=p by omega]; simp
    have hsize2:cells2.size=cells.size:=by rw [hcells2]; simp [hnl]; omega
    obtain ⟨W1,W2,W3⟩:=hW.storeX e1 cells2
    obtain ⟨c2,hc2d⟩:∃ c2:Ctx,c2={ c with x:=fun j=>if j=k then some (b,.cells cells2 U (0,0)) else c.x j,xn:=fun j=>if j=k then (h0+m,cap) else c.xn j }:=⟨_,rfl⟩
    have W1':WI Γ c2 s.b (w.setRow b cells2):=by
     rw [hc2d]
     exact ⟨W1.ext,W1.sub,W1.le0,W1.new,fun d cs h hne=>by
      obtain ⟨p1,p2,p3,us,V,p4,p5,p6⟩:=W1.box d cs h hne
      exact ⟨p1,p2,p3,us,V,p4,p5,fun i x v z1 z2=>RC1.leX_cell (k:=k) (c:={ c with x:=fun j=>if j=k then some (b,.cells cells2 U (0,0)) else c.x j }) (c':={ c with x:=fun j=>if j=k then some (b,.cells cells2 U (0,0)) else c.x j,xn:=fun j=>if j=k then (h0+m,cap) else c.xn j }) ⟨.refl _,rfl,rfl,rfl,fun j hj=>⟨rfl,if_neg hj⟩⟩ (p6 i x v z1 z2) (p3 x (List.mem_of_getElem? z1))⟩,
      W1.inj,fun j=>⟨(W1.own j).blk,(W1.own j).shape,(W1.own j).box,(W1.own j).apart⟩,fun j b' o' h=>⟨(W1.xo j b' o' h).new,(W1.xo j b' o' h).obj,(W1.xo j b' o' h).kept,(W1.xo j b' o' h).mem,(W1.xo j b' o' h).map,(W1.xo j b' o' h).box,(W1.xo j b' o' h).own,(W1.xo j b' o' h).inj⟩⟩
    have L2:c.leX k c2:=by rw [hc2d]; exact ⟨.refl _,rfl,rfl,rfl,fun j hj=>⟨if_neg hj,if_neg hj⟩⟩
    have hx2:c2.x k=some (b,.cells cells2 U (0,0)):=by rw [hc2d]; exact if_pos rfl
    have hn2:c2.xn k=(h0+m,cap):=by rw [hc2d]; exact if_pos rfl
    have hm2:c2.m=c.m:=by rw [hc2d]
    obtain ⟨args⟩:=args
    obtain ⟨ts⟩:=ts
    simp only at ha hts
    subst ha
    subst hts
    refine aR hΓ (by rw [hop]; intro c hc; cases hc) (v := .slice (some ⟨b,0,none⟩) (h0+m) cap) (w':=w.setRow b cells2) ?_ ?_
    ·simp only [execOp,hop,Sem.run_bind,cg,Result.andThen_ok,invoke,builtin,List.map_toArray,List.map_cons,List.map_nil,f2,g2,hrun,Sem.run_pure]
    ·rw [hdst]
     refine hn _ _ _ h (hI.next W3 W1' (d:=some d) (by intro k hk; cases hk; exact hdlt) (db (fun e z hz=>?_) (by rw [hI.size]; exact hdlt) ?_)) W3 (ek hdst)
     ·rw [aq] at hz
      split at hz
      ·cases hz
       have htk:∀ (p:Nat) (r:List AV),(xs.take h0++(xs.drop l).take m)[p]?=some r→if p<h0 then xs[p]?=some r else p<h0+m∧xs[l+(p - h0)]?=some r:=fun p r hp=>by
        have hl1:(xs.take h0).length=h0:=by simp; omega
        by_cases hp1:p<h0
        ·rw [if_pos hp1]
         rw [List.getElem?_append_left (by omega),List.getElem?_take,if_pos hp1] at hp; exact hp
        ·rw [if_neg hp1]
         rw [List.getElem?_append_right (by omega),hl1,List.getElem?_take] at hp
         split at hp
         ·rw [List.getElem?_drop] at hp; exact ⟨by omega,hp⟩
         ·cases hp
       refine ⟨b,cells2,U,hx2,?_,?_,fun r hr=>?_,fun p r p' z1 h1 h2=>?_⟩
       ·rw [hn2]; exact ⟨by simp; omega,by rw [hsize2]; exact Nat.le_trans (Nat.mul_le_mul_right _ (by omega)) e2.2⟩
       ·rw [hsize2]
        have:(xs.take h0++(xs.drop l).take m).length=h0+m:=by simp; omega
        rw [this,Nat.add_mul]; omega
       ·obtain ⟨p,hp⟩:=List.getElem?_of_mem hr
        have:=htk p r hp
        split at this
        ·exact e4 r (List.mem_of_getElem? this)
        ·exact e4 r (List.mem_of_getElem? this.2)
       ·have:=htk p r h1
        rw [hc2,hm2]
        split at this
        ·rename_i hp1
         have hrl:=(e4 r (List.mem_of_getElem? this)).1
         have hpl:p'<sz':=by rw [← hrl]; exact (List.getElem?_eq_some_iff.1 h2).1
         have hmul:(p+1)*sz'≤h0*sz':=Nat.mul_le_mul_right _ hp1
         rw [Nat.add_mul,Nat.one_mul] at hmul
         rw [if_pos (by omega)]
         exact e5 p r p' z1 this h2
        ·rename_i hp1
         obtain ⟨hp2,this⟩:=this
         have hrl:=(e4 r (List.mem_of_getElem? this)).1
         have hpl:p'<sz':=by rw [← hrl]; exact (List.getElem?_eq_some_iff.1 h2).1
         have hmul:h0*sz'≤p*sz':=Nat.mul_le_mul_right _ (by omega)
         have hmul2:(p+1)*sz'≤(h0+m)*sz':=Nat.mul_le_mul_right _ hp2
         rw [Nat.add_mul,Nat.one_mul,Nat.add_mul] at hmul2
         rw [if_neg (by omega),if_pos (by omega)]
         obtain ⟨u,u1,u2⟩:=e5 _ r p' z1 this h2
         refine ⟨u,?_,u2⟩
         rw [← u1]
         congr 1
         have:(p - h0)*sz'=p*sz' - h0*sz':=Nat.sub_mul _ _ _
         rw [Nat.add_mul]; omega
      ·rw [ec] at hz
       obtain ⟨z',hz',rfl⟩:=Option.map_eq_some_iff.1 hz
       exact (ht e z' hz').leX L2
     ·exact ⟨b,cells2,U,cap,hx2,rfl,by rw [hn2]; exact ⟨rfl,rfl⟩,by omega⟩
  ·exact h.elim
 ·exact h.elim
end
end Go.AI
namespace Go.AI
open Go
open Go.RowKit (Below)
section
variable {Γ:aO} (hΓ:Γ.OK) {T:Tab} (hT:T.OK Γ.P) {s:St} {K:St→Prop} {o:Oper} {a:Act} {w:World}
 {next:Act→World→Prop} {Q:Exit→Act→World→Prop}
theorem WI.rename {c:Ctx} {bx:List (Nat×List AV)} (hW:WI Γ c bx w) (k:Nat) (p:Nat×Nat):WI Γ { c with xn:=fun j=>if j=k then p else c.xn j } bx w∧c.leX k { c with xn:=fun j=>if j=k then p else c.xn j }:=by
 have L:c.leX k { c with xn:=fun j=>if j=k then p else c.xn j }:=⟨.refl _,rfl,rfl,rfl,fun j hj=>⟨rfl,if_neg hj⟩⟩
 refine ⟨⟨hW.ext,hW.sub,hW.le0,hW.new,fun d cs h hne=>?_,hW.inj,fun j=>⟨(hW.own j).blk,(hW.own j).shape,(hW.own j).box,(hW.own j).apart⟩,fun j b o h=>⟨(hW.xo j b o h).new,(hW.xo j b o h).obj,(hW.xo j b o h).kept,(hW.xo j b o h).mem,(hW.xo j b o h).map,(hW.xo j b o h).box,(hW.xo j b o h).own,(hW.xo j b o h).inj⟩⟩,L⟩
 obtain ⟨p1,p2,p3,us,V,p4,p5,p6⟩:=hW.box d cs h hne
 exact ⟨p1,p2,p3,us,V,p4,p5,fun i x v z1 z2=>(p6 i x v z1 z2).leX_cell L (p3 x (List.mem_of_getElem? z1))⟩
theorem Ctx.leX.trans {k:Nat} {a b c:Ctx} (h:a.leX k b) (g:b.leX k c):a.leX k c:=
 ⟨h.m.trans g.m,g.ρ.trans h.ρ,g.τ.trans h.τ,g.σ.trans h.σ,fun j hj=>⟨(g.x j hj).1.trans (h.x j hj).1,(g.x j hj).2.trans (h.x j hj).2⟩⟩
include hΓ hT in
theorem GT {args:Array Operand} {ts:Array TypeId} {x y:Operand} {k n:Nat} {zs:List (List AV)} (hop:o.op = .call { callee := .builtin .append,args:=args,argTypes:=ts }) (ha:args.toList=[x,y]) (hI:Inv Γ s a w) (hd:∀ d,o.dst=some d→d<Γ.nt)
  (hx:ev s x = .me .sl k n zs) (h:Gm T s o.dst ts.toList k n (ev s y) K) (hn:dH Γ a o.dst w K next):o.wpIn Γ.F Γ.n Γ.P a w next Q:=by
 obtain ⟨c,hW,ht⟩:=hI.ex
 unfold Gm at h
 split at h
 ·rename_i d t t' hdst hts
  have hdlt:=hd d hdst
  split at h
  ·exact h.elim
  rename_i i hi
  split at h
  ·exact h.elim
  rename_i j hj
  split at h
  ·exact h.elim
  rename_i sz xs hc
  split at h
  ·rename_i ow sz' ys hys
   cases hb:(Nat.beq i.kind 3&&(Nat.beq t t'&&(rB j&&(Nat.blt 0 j.size&&Nat.beq j.size sz)))) with
   | false=>rw [hb] at h; exact h.elim
   | true=>
    rw [hb] at h
    simp only [Bool.and_eq_true] at hb
    obtain ⟨b1,b2,b3,b4,b5⟩:=hb
    have htt:=Nat.eq_of_beq_eq_true b2
    subst htt
    have hjs:=Nat.eq_of_beq_eq_true b5
    subst hjs
    obtain ⟨⟨hn0,hroom,hmax,h⟩,hsy⟩:=hZ h
    have hpos:0<j.size:=Nat.le_of_ble_eq_true b4
    unfold rB at b3
    split at b3
    ·rename_i zs' hz
     have hzl:=Nat.eq_of_beq_eq_true b3
     obtain ⟨b,cells,U,e1,⟨e2,e2'⟩,e3,e4,e5⟩:=mD ht hc
     have hq:=hW.xo k b _ e1
     have hrx:=aN ht x
     rw [hx] at hrx
     obtain ⟨b',cells',U',cap,f1,f2,⟨f3,f4⟩,f5⟩:=(show RX c .sl k n zs (a.eval x) from hrx)
     rw [e1] at f1
     cases f1
     rw [← f4] at e2'
     have hxn:xs.length=n:=by omega
     have hry:=aN ht y
     rw [hys] at hry
     have hry1:=(RC.iff (by intro cs hc; cases hc)).1 hry
     have hu:=bY hT hi (Nat.eq_of_beq_eq_true b1)
     obtain ⟨q,z,q1,q2,q3,q4,q5,_⟩:=ju (c:=c) w hT hj hz hzl
     have hy':RD c.m (.sl .no sz' ys) (a.eval y):=hry1.sl_no
     obtain ⟨v,hv⟩:∃ v,v=a.eval y:=⟨_,rfl⟩
     rw [← hv] at hy'
     obtain ⟨base',n',cap',rfl,_,_⟩:=hy'.elem
     obtain ⟨k2,k1,k2',k3,k4,k5,k6,k7,k8⟩:=hy'.flat
     subst k4
     have hy6:∀ r∈ys,r.length=j.size:=by
      rcases hsy with h | h
      ·rw [h]; exact k6
      ·subst h; simp
     have hkl:k2.length=ys.length*j.size:=by
      rcases hsy with h | h
      ·rw [h]; exact k1
      ·subst h; simpa using k1
     have hk2:∀ (i:Nat) (x:List AV) (p:Nat) (c':AV),ys[i]?=some x→x[p]?=some c'→∃ v,k2[i*j.size+p]?=some v∧RD c.m c' v:=by
      rcases hsy with h | h
      ·rw [h]; exact k2'
      ·subst h; simp
     obtain ⟨args⟩:=args
     obtain ⟨ts⟩:=ts
     simp only at ha hts
     subst ha
     subst hts
     -- the rows,flat
     obtain ⟨l,hl⟩:∃ l,l=cells.toList.take (n*j.size):=⟨_,rfl⟩
     have hll:l.length=xs.length*j.size:=by rw [hl,hxn]; simp; rw [hxn] at e3; omega
     have hlg:∀ p,p<n*j.size→l[p]?=cells[p]?:=fun p hp=>by rw [hl,List.getElem?_take,if_pos hp]; simp
     have hl2:∀ (i:Nat) (x:List AV) (p:Nat) (c':AV),xs[i]?=some x→x[p]?=some c'→∃ v,l[i*j.size+p]?=some v∧RD c.m c' v:=fun i r p c' h1 h2=>by
      obtain ⟨u,u1,u2⟩:=e5 i r p c' h1 h2
      refine ⟨u,?_,u2⟩
      rw [hlg]
      ·exact u1
      ·have hrl:=(e4 r (List.mem_of_getElem? h1)).1
       have hpl:p<j.size:=by rw [← hrl]; exact (List.getElem?_eq_some_iff.1 h2).1
       have hmul:(i+1)*j.size≤n*j.size:=Nat.mul_le_mul_right _ (by have:=(List.getElem?_eq_some_iff.1 h1).1; omega)
       rw [Nat.add_mul,Nat.one_mul] at hmul
       omega
     have hall:∀ r∈xs++ys,r.length=j.size∧∀ y∈r,y.isCell=true:=fun r hr=>by
      rcases List.mem_append.1 hr with h | h
      ·exact e4 r h
      ·exact ⟨hy6 r h,k7 r h⟩
     have hlen2:(xs++ys).length=n+ys.length:=by rw [List.length_append,hxn]
     -- what is to be shown of the new row
     have fin:∀ (c2:Ctx) (b2:Nat) (cells2:Array Value) (U2:TypeId) (cap2:Nat) (w2:World),(Builtin.append_ #[t,t] o.type #[.slice (some ⟨b,0,none⟩) n cap,.slice base' ys.length cap']).run Γ.P w = .ok (.slice (some ⟨b2,0,none⟩) (n+ys.length) cap2) w2 →
       WI Γ c2 s.b w2→c.leX k c2→NC w w2→c2.x k=some (b2,.cells cells2 U2 (0,0))→c2.xn k=(n+ys.length,cap2)→n+ys.length≤cap2→cap2*j.size≤cells2.size →
       (∀ (p:Nat) (v:Value),(l++k2)[p]?=some v→cells2[p]?=some v)→o.wpIn Γ.F Γ.n Γ.P a w next Q:=by
      intro c2 b2 cells2 U2 cap2 w2 hrun W1 L2 W3 hx2 hn2 hcap hsz2 hcells
      refine aR hΓ (by rw [hop]; intro c hc; cases hc) (v := .slice (some ⟨b2,0,none⟩) (n+ys.length) cap2) (w':=w2) ?_ ?_
      ·simp only [execOp,hop,Sem.run_bind,cg,Result.andThen_ok,invoke,builtin,List.map_toArray,List.map_cons,List.map_nil,f2,← hv,hrun,Sem.run_pure]
      ·rw [hdst]
       refine hn _ _ _ h (hI.next W3 W1 (d:=some d) (by intro k hk; cases hk; exact hdlt) (db (fun e z hz=>?_) (by rw [hI.size]; exact hdlt) ?_)) W3 (ek hdst)
       ·rw [aq] at hz
        split at hz
        ·cases hz
         refine ⟨b2,cells2,U2,hx2,⟨by rw [hn2]; exact hlen2,by rw [hn2]; exact hsz2⟩,?_,hall,fun p r p' z1 h1 h2=>?_⟩
         ·rw [hlen2]; exact Nat.le_trans (Nat.mul_le_mul_right _ hcap) hsz2
         ·obtain ⟨v,h3,h4⟩:=kN (m:=c.m) hll hl2 hk2 p r p' z1 h1 h2
          exact ⟨v,hcells _ _ h3,h4.mono L2.m⟩
        ·rw [ec] at hz
         obtain ⟨z',hz',rfl⟩:=Option.map_eq_some_iff.1 hz
         exact (ht e z' hz').leX L2
       ·exact ⟨b2,cells2,U2,cap2,hx2,rfl,by rw [hn2]; exact ⟨rfl,rfl⟩,hcap⟩
     obtain ⟨bb,off',rfl,hkm⟩:=k8 hn0
     have hnews:∀ p v,k2[p]?=some v→w.cell? ((⟨bb,off',none⟩:Addr).add p)=some v:=fun p v h=>by rw [c6]; exact hW.sub.cell _ _ _ (hkm p v h)
     have hr47:(xs.length+ys.length)*j.bytes≤140737488355328:=by unfold ir at hroom; omega
     by_cases hfit:n+ys.length≤cap
     ·-- in its place
      have hmul:=Nat.mul_le_mul_right j.size hfit
      rw [Nat.add_mul] at hmul
      have hrun:=gd hu q1 (w:=w) (T:=U) (cur:=cells) (g:=b) (sLen:=n) (sCap:=cap) hq.obj ⟨bb,off',none⟩ ys.length cap' k2 (by rw [hkl,q2]) hnews k3 hfit (by rw [hkl,q2]; omega) o.type
      rw [q2,hkl] at hrun
      obtain ⟨cells2,hcells2⟩:∃ cells2,cells2=(cells.toList.take (n*j.size)++k2++cells.toList.drop (n*j.size+ys.length*j.size)).toArray:=⟨_,rfl⟩
      rw [← hcells2] at hrun
      have hsize2:cells2.size=cells.size:=by rw [hcells2]; simp [hkl]; omega
      obtain ⟨W1,L1,W3⟩:=hW.storeX e1 cells2
      obtain ⟨W1',L2⟩:=W1.rename k (n+ys.length,cap)
      refine fin _ b cells2 U cap _ hrun W1' (L1.trans L2) W3 (if_pos rfl) (if_pos rfl) hfit (by rw [hsize2]; exact e2') (fun p v hp=>?_)
      rw [hcells2,List.getElem?_toArray,List.getElem?_append_left (by have:=(List.getElem?_eq_some_iff.1 hp).1; rw [hl] at this; exact this)]
      rw [← hl]; exact hp
     ·-- elsewhere
      have hfits:=growslice_fits (need:=n+ys.length) (old:=cap) (bytes:=q.bytes) (by omega) (by rw [q3,← hxn]; exact hr47)
      have hge:=grownCap_ge w (n+ys.length) cap i.elem
      obtain ⟨cells2,hcells2⟩:∃ cells2,cells2=l.toArray++k2.toArray++Builtin.zeroCells z.cells (grownCap w (n+ys.length) cap i.elem - (n+ys.length)):=⟨_,rfl⟩
      have holds:∀ p v,l[p]?=some v→w.cell? ((⟨b,0,none⟩:Addr).add p)=some v:=fun p v hp=>by
       have hpl:=(List.getElem?_eq_some_iff.1 hp).1
       rw [hll,hxn] at hpl
       rw [hlg p hpl] at hp
       rw [c6,Nat.zero_add]
       simp only [World.cell?,hq.obj]
       exact hp
      have hrun:=run_append_grow (P:=Γ.P) w t o.type i.elem q z hu q1 q4 ⟨b,0,none⟩ n cap l (by rw [hll,q2,hxn]) holds ⟨bb,off',none⟩ ys.length cap' k2 (by rw [hkl,q2]) hnews (by omega) (by omega) hfits
      rw [← hcells2] at hrun
      have hsz:cells2.size=grownCap w (n+ys.length) cap i.elem*j.size:=by
       rw [hcells2]
       simp only [Array.size_append,List.size_toArray,size_zeroCells,q5,hll,hkl,hxn]
       rw [← Nat.add_mul,← Nat.add_mul]
       congr 1
       omega
      obtain ⟨W1,L1,W3⟩:=hW.drew.newX k (n+ys.length,grownCap w (n+ys.length) cap i.elem) (.cells cells2 i.elem (0,0)) rfl (bT _ _)
      have hN:NC w (w.drew.alloc (.cells cells2 i.elem (0,0))):=NC.trans (show NC w w.drew from ⟨Nat.le_refl _,fun _ _ h _=>h,.drew _,fun _ h=>h⟩) W3
      refine fin _ w.heap.size cells2 i.elem _ _ hrun W1 L1 hN (by rw [World.size_drew]; exact if_pos rfl) (if_pos rfl) hge (by rw [hsz]; exact Nat.le_refl _) (fun p v hp=>?_)
      rw [hcells2,Array.getElem?_append_left (by have:=(List.getElem?_eq_some_iff.1 hp).1; simpa using this)]
      have:(l++k2).toArray[p]?=some v:=by simpa using hp
      simpa using this
    ·cases b3
  ·exact h.elim
 ·exact h.elim
end
end Go.AI
namespace Go.AI
open Go
open Go.RowKit (Below)
section
variable {Γ:aO} (hΓ:Γ.OK) {T:Tab} (hT:T.OK Γ.P) {s:St} {K:St→Prop} {o:Oper} {a:Act} {w:World}
 {next:Act→World→Prop} {Q:Exit→Act→World→Prop}
theorem m9 {guards:List Nat} {o:Oper} (h:na guards o=true):o.op = .assign (.const (.slice none 0 0)):=by
 unfold na at h
 split at h
 ·assumption
 ·cases h
include hΓ in
theorem F0 (hop:o.op = .assign (.const (.slice none 0 0))) (hI:Inv Γ s a w) (hd:∀ d,o.dst=some d→d<Γ.nt) (h:fV s o.dst (.sl .full 0 []) K) (hn:dH Γ a o.dst w K next):o.wpIn Γ.F Γ.n Γ.P a w next Q:=by
 obtain ⟨c,hW,ht⟩:=hI.ex
 refine qh hΓ hI hd hW ht (by rw [hop]; intro c hc; cases hc) (x := .sl .full 0 []) (v := .slice none 0 0) ?_ (by simp only [execOp,hop]; rfl) h hn
 exact RC.of_RD (.sl _ _ _ _ _ _ (by intro k hk; cases hk) (fun _=>rfl) rfl (Nat.le_refl _) (by simp) (by simp) 0 0 (by omega) (fun _ _=>Go.undef) (by simp) (by simp))
include hΓ hT in
theorem ld {op:Op} (hop:o.op=op) (hI:Inv Γ s a w) (hd:∀ d,o.dst=some d→d<Γ.nt) (h:opX T (ae Γ.P) s o.dst o.type op K) (hn:dH Γ a o.dst w K next):o.wpIn Γ.F Γ.n Γ.P a w next Q:=by
 unfold opX at h
 split at h
 ·split at h
  ·rename_i hx hy; exact p8 hΓ hT hop hI hd hx hy h hn
  ·exact bL hΓ hT hop hI hd h hn
 ·split at h
  ·rename_i hx; exact p9 hΓ hT hop hI hd hx h hn
  ·exact bL hΓ hT hop hI hd h hn
 ·split at h
  ·rename_i hx; exact CD hΓ hT hop hI hd hx h hn
  ·exact bL hΓ hT hop hI hd h hn
 ·split at h
  ·rename_i hx; exact Fb hΓ hT hop hI hx h hn
  ·obtain ⟨s',h1,h2⟩:=dR _ _ h hI
   exact bL hΓ hT hop h2 hd h1 hn
 ·exact bL hΓ hT hop hI hd h hn
 ·exact bL hΓ hT hop hI hd h hn
 ·split at h
  ·rename_i d hd'
   exact AU hΓ hop hI hd hd' h hn
  ·exact h.elim
 ·split at h
  ·rename_i b hx
   exact pZ hΓ hT hop hI hx h (fun k v hK _ s' a' w' h1 h2 h3 h4=>hn s' a' w' (by rw [h1]; exact hK.2) h2 h3 h4) (fun k v hK d n xs=>ix rfl hK.1)
  ·exact h.elim
 ·split at h
  ·rename_i ha hts
   split at h
   ·rename_i hx
    split at h
    ·rename_i i hi
     cases hb:Nat.beq i.kind 3 with
     | false=>rw [hb] at h; exact h.elim
     | true=>rw [hb] at h; exact F1 hΓ hT hop ha hts hI hd hx hi (Nat.eq_of_beq_eq_true hb) h hn
    ·exact h.elim
   ·exact bL hΓ hT hop hI hd h hn
  ·exact bL hΓ hT hop hI hd h hn
 ·split at h
  ·rename_i ha
   obtain ⟨s',h1,h2⟩:=dR _ _ h hI
   split at h1
   ·rename_i hx
    rcases h1 with h1 | ⟨hnil,h1⟩
    ·exact bL hΓ hT hop h2 hd h1 hn
    ·subst hnil; exact Fc hΓ hT hop ha h2 hd hx h1 hn
   ·rename_i hx; exact F2 hΓ hT hop ha h2 hd hx h1 hn
   ·rename_i hx; exact GT hΓ hT hop ha h2 hd hx h1 hn
   ·exact bL hΓ hT hop h2 hd h1 hn
  ·exact bL hΓ hT hop hI hd h hn
 ·split at h
  ·rename_i hx
   rcases h with h | h
   ·obtain ⟨s',h1,h2⟩:=dR _ _ h hI
    exact bL hΓ hT hop h2 hd h1 hn
   ·exact zT hΓ hT hop hI hd hx h hn
  ·obtain ⟨s',h1,h2⟩:=dR _ _ h hI
   exact bL hΓ hT hop h2 hd h1 hn
 ·obtain ⟨s',h1,h2⟩:=dR _ _ h hI
  exact bL hΓ hT hop h2 hd h1 hn
end
end Go.AI
namespace Go.AI
open Go
open Go.RowKit (Below)
section
variable {Γ:aO} (hΓ:Γ.OK) {T:Tab} (hT:T.OK Γ.P) {s:St} {K:St→Prop} {a:Act} {w:World} {Q:Exit→Act→World→Prop}
structure St.le (s s':St):Prop where
 t:∀ d x,get s'.t d=some x→get s.t d=some x
 b:∀ d cs,get s'.b d=some cs→cs≠[]→get s.b d=some cs
theorem St.le.refl (s:St):s.le s:=⟨fun _ _ h=>h,fun _ _ h _=>h⟩
theorem WI.less {c:Ctx} {bx bx':List (Nat×List AV)} (hW:WI Γ c bx w) (h:∀ d cs,get bx' d=some cs→cs≠[]→get bx d=some cs):WI Γ c bx' w:=
  ⟨hW.ext,hW.sub,hW.le0,hW.new,fun d cs hd hne=>hW.box d cs (h d cs hd hne) hne,fun d d' cs cs' g1 g2 n1 n2 hρ=>hW.inj d d' cs cs' (h d cs g1 n1) (h d' cs' g2 n2) n1 n2 hρ,
   fun k=>⟨(hW.own k).blk,(hW.own k).shape,fun g d cs hg hd hne=>(hW.own k).box g d cs hg (h d cs hd hne) hne,(hW.own k).apart⟩,
   fun k b o hx=>⟨(hW.xo k b o hx).new,(hW.xo k b o hx).obj,(hW.xo k b o hx).kept,(hW.xo k b o hx).mem,(hW.xo k b o hx).map,fun d cs hd hne=>(hW.xo k b o hx).box d cs (h d cs hd hne) hne,(hW.xo k b o hx).own,(hW.xo k b o hx).inj⟩⟩
theorem Inv.less (hI:Inv Γ s a w) {s':St} (h:s.le s'):Inv Γ s' a w:=by
 obtain ⟨⟨c,hW,ht⟩,h2,h3,h4⟩:=hI
 exact ⟨⟨c,hW.less h.b,fun d x hx=>ht d x (h.t d x hx)⟩,h2,h3,h4⟩
theorem gu {guards:List Nat} {dst:Option Nat} (h:pK guards dst s K):∃ s',K s'∧s.le s':=by
 unfold pK at h
 split at h
 ·rename_i d
  cases hm:eo guards d with
  | false=>rw [hm,cond_false,FL] at h; exact ⟨s,h,.refl s⟩
  | true=>
   rw [hm] at h
   simp only [cond_true] at h
   obtain ⟨t,b⟩:=s
   simp only at h
   split at h
   ·rename_i v hv
    refine ⟨⟨(d,.bool v)::t,b⟩,?_,fun k x hx=>?_,fun _ _ h _=>h⟩
    ·cases v with
     | true=>exact h.1 rfl
     | false=>exact h.2 rfl
    ·rw [aq] at hx
     split at hx
     ·rename_i hk; subst hk; cases hx; exact hv
     ·exact hx
   ·exact ⟨_,h,.refl _⟩
 ·rw [GI] at h; exact ⟨s,h,.refl s⟩
theorem ff (ops:List Oper) (j:Nat):iF ops j=(ops[j]?).bind (·.dst):=by
 unfold iF
 rw [fq]
 cases ops[j]? <;> rfl
def GO:Value→Option Bool
 | .bool b=>some b
 | _=>none
theorem ce {ops:List Oper} {o:Oper} (hsz:∀ j d,iF ops j=some d→d<Γ.nt) (hI:Inv Γ s a w) (n:Nat) (h:j8 ops s o=n) (hn:n<2):Region.wanted o (yielded ops.toArray a.tmps)=(n==0):=by
 unfold j8 at h
 unfold Region.wanted
 split at h
 ·rename_i hg; subst h; rw [hg]; rfl
 ·rename_i j want hg
  rw [hg]
  simp only
  split at h
  ·omega
  ·rename_i d hd
   obtain ⟨c,hW,ht⟩:=hI.ex
   have hdlt:=hsz j d hd
   have hy:yielded ops.toArray a.tmps j=GO (a.tmps.getD d Go.undef):=by
    unfold yielded
    rw [ff] at hd
    have hget:a.tmps[d]?=some (a.tmps.getD d Go.undef):=by
     rw [Array.getD_eq_getD_getElem?,Array.getElem?_eq_getElem (by rw [hI.size]; exact hdlt)]; rfl
    simp only [List.getElem?_toArray,hd,Option.bind_some,hget]
    generalize a.tmps.getD d Go.undef=u
    cases u <;> rfl
   rw [hy]
   split at h
   ·rename_i b hb
    rw [(ht d _ hb).bool]
    cases b <;> cases want <;> simp at h <;> subst h <;> rfl
   ·rename_i hb
    have hu:RD c.m .undef (a.tmps.getD d Go.undef):=ht d _ hb
    have:a.tmps.getD d Go.undef=Go.undef:=by
     generalize a.tmps.getD d Go.undef=u at hu
     cases hu; rfl
    rw [this]
    subst h
    rfl
   ·omega
theorem ge (hI:Inv Γ s a w) {o:Oper} (hd:∀ d,o.dst=some d→d<Γ.nt) (h:fV s o.dst .undef K):∃ s',K s'∧Inv Γ s' (a.put o.dst Go.undef) w:=by
 obtain ⟨c,hW,ht⟩:=hI.ex
 obtain ⟨t,b⟩:=s
 cases hdst:o.dst with
 | none=>
  rw [hdst] at h
  exact ⟨_,h,hI.next (.refl w) hW (d:=none) (v:=Go.undef) (by intro k hk; cases hk) ht⟩
 | some d=>
  rw [hdst] at h
  have hdlt:=hd d hdst
  exact ⟨_,h,hI.next (.refl w) hW (d:=some d) (v:=Go.undef) (by intro k hk; cases hk; exact hdlt) (db ht (by rw [hI.size]; exact hdlt) RD.undef)⟩
theorem Inv.drew (hI:Inv Γ s a w):Inv Γ s a w.drew:=by
 obtain ⟨⟨c,hW,ht⟩,h2,h3,h4⟩:=hI
 exact ⟨⟨c,hW.drew,ht⟩,h2,h3,h4⟩
include hΓ hT in
theorem eG {all:List Oper} {guards:List Nat} (hall:∀ j d,iF all j=some d→d<Γ.nt):∀ (l:List Oper) (k:Nat) (s:St) (a:Act) (w:World) (K:St→Prop),(∀ j,l[j]?=all[k+j]?)→gg T (ae Γ.P) all guards l s K→Inv Γ s a w →
  (∀ s' a' w',K s'→Inv Γ s' a' w'→NC w w'→FT (dE l) a a'→Q .normal a' w')→wpOpsIn Γ.F Γ.n Γ.P all.toArray Q (List.range' k l.length) a w
 | [],k,s,a,w,K,_,h,hI,hQ=>hQ s a w h hI (.refl w) (.refl _ a)
 | o::rest,k,s,a,w,K,hk,h,hI,hQ=>by
  have h0:all.toArray[k]?=some o:=by simpa using (hk 0).symm
  have hk':∀ j,rest[j]?=all[k+1+j]?:=fun j=>by have:=hk (j+1); simpa [Nat.add_assoc,Nat.add_comm 1 j] using this
  have hdst:∀ d,o.dst=some d→d<Γ.nt:=fun d hd=>hall k d (by rw [ff]; rw [show all[k]?=some o from by simpa using h0]; exact hd)
  simp only [List.length_cons,List.range'_succ,wpOpsIn,h0]
  simp only [gg] at h
  split at h
  ·rename_i hw
   rw [ce hall hI 0 hw (by omega)]
   simp only [beq_self_eq_true,if_true]
   cases hnm:na guards o with
   | true=>
    rw [hnm,cond_true] at h
    refine F0 hΓ (m9 hnm) hI hdst h ?_
    intro s' a' w' hK hI' hN hP
    exact eG hall rest (k+1) s' a' w' K hk' hK hI' (fun s3 a3 w3 h1 h2 h3 h4=>hQ s3 a3 w3 h1 h2 (hN.trans h3) (((FT.put hP).mono fun d hd=>List.mem_append_left _ hd).trans (h4.mono fun d hd=>List.mem_append_right _ hd)))
   | false=>
    rw [hnm,cond_false] at h
    refine ld hΓ hT rfl hI hdst h ?_
    intro s' a' w' hK hI' hN hP
    rw [nh] at hK
    obtain ⟨s2,hK2,hle⟩:=gu hK
    exact eG hall rest (k+1) s2 a' w' K hk' hK2 (hI'.less hle) (fun s3 a3 w3 h1 h2 h3 h4=>hQ s3 a3 w3 h1 h2 (hN.trans h3) (((FT.put hP).mono fun d hd=>List.mem_append_left _ hd).trans (h4.mono fun d hd=>List.mem_append_right _ hd)))
  ·rename_i hw
   rw [ce hall hI 1 hw (by omega)]
   simp only [Nat.reduceBEq,Bool.false_eq_true,if_false]
   obtain ⟨s2,hK2,hI2⟩:=ge hI hdst h
   exact ⟨fun f _=>hΓ.fn f,eG hall rest (k+1) s2 _ w K hk' hK2 hI2 fun s3 a3 w3 h1 h2 h3 h4=>hQ s3 a3 w3 h1 h2 h3 (((FT.put ⟨_,rfl⟩).mono fun d hd=>List.mem_append_left _ hd).trans (h4.mono fun d hd=>List.mem_append_right _ hd))⟩
  ·exact h.elim
end
end Go.AI
