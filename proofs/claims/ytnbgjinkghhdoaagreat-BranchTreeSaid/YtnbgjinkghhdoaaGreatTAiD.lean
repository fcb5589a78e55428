/- The abstract interpreter for the code, part 4: what it reckons of a piece of code holds of every run. No condition but those typed. -/
import Derived.Test.YtnbgjinkghhdoaaGreatTAiC
import Derived.ProofKit
import Derived.KernelRfl
import Derived.OpenShut
import Derived.Below
import Derived.Carry
import Derived.ChangeCalls
import Derived.MapKept
import Derived.Shelf.SlSortCmp.WholeK
import Derived.Shelf.SlSortCmp.NoneTotal
import Derived.Shelf.Slices.In.SortNone
import Derived.Shelf.Slices.In.CompactI
import Derived.Sort.EveryDepth
import Derived.Sort.OwnSortedInts
import Derived.Lib.SliceRun
set_option linter.unusedSectionVars false
set_option linter.unusedVariables false
set_option linter.unusedSimpArgs false
namespace Go.AI
theorem anF {A B:Prop} (h:B):(false=true→A)∧(false=false→B):=And.intro (fun g=>Bool.noConfusion g) (fun _=>h)
theorem anK {A B:Prop} (h:B) (k:A:=by kernel_rfl):A∧B:=And.intro k h
theorem anT {A B:Prop} (h:A):(true=true→A)∧(true=false→B):=And.intro (fun _=>h) (fun g=>Bool.noConfusion g)
end Go.AI
namespace Go.AI
open Go
open Go.RowKit (Below)
def oa:List AV→Option (List Value)
 | []=>some []
 | .int k n::r=>match oa r with
  | some l=>some (.int k n::l)
  | none=>none
 | _=>none
def vf:AV→Option Value
 | .int k n=>some (.int k n)
 | .bool b=>some (.bool b)
 | .agg cs=>match oa cs with
  | some l=>some (.agg l.toArray)
  | none=>none
 | _=>none
theorem n9 {c:Ctx}:∀ {cs:List AV} {l vs:List Value},oa cs=some l→cs.length=vs.length→(∀ (i:Nat) (x:AV) (u:Value),cs[i]?=some x→vs[i]?=some u→RC1 c x u)→vs=l
 | [],l,vs,h,hl,_=>by
  simp only [oa,Option.some.injEq] at h
  subst h
  exact List.eq_nil_of_length_eq_zero (by simpa using hl.symm)
 | x::r,l,[],h,hl,_=>by simp at hl
 | x::r,l,v::vs,h,hl,hr=>by
  unfold oa at h
  split at h
  ·rename_i heq; cases heq
  ·rename_i k n r' heq
   cases heq
   split at h
   ·rename_i l' hl'
    cases h
    have h0:=hr 0 (.int k n) v rfl rfl
    rw [RC.int (c:=c) h0,n9 (c:=c) (vs:=vs) hl' (by simpa using hl) fun i x u h1 h2=>hr (i+1) x u (by simpa using h1) (by simpa using h2)]
   ·cases h
  ·cases h
theorem ve {c:Ctx} {x:AV} {v u:Value} (h:vf x=some v) (hr:RC c x u):u=v:=by
 cases x <;> simp only [vf] at h <;> first | cases h | skip
 ·exact RC.int hr
 ·exact RC.bool hr
 ·split at h
  ·rename_i l hl
   cases h
   obtain ⟨vs,rfl,h1,_,h2⟩:=hr
   congr 1
   apply Array.ext'
   simpa using n9 (c:=c) (vs:=vs.toList) hl (by simpa using h1) fun i x u g1 g2=>h2 i x u g1 (by simpa using g2)
  ·cases h
def fH:List (Nat×AV)→List (Nat×AV)
 | []=>[]
 |(d,.int k n)::r=>(d,.int k n)::fH r
 |(d,.bool b)::r=>(d,.bool b)::fH r
 |(d,_)::r=>(d,.junk)::fH r
theorem yr {m:Mem} {c:Ctx} {t:List (Nat×AV)} {d:Nat} {x:AV} (h:get (fH t) d=some x) {v:Value} (hr:∀ y,get t d=some y→RC c y v):RD m x v:=by
 induction t with
 | nil=>simp [fH,get] at h
 | cons p r ih=>
  obtain ⟨k,y⟩:=p
  by_cases hk:d=k
  ·subst hk
   have hy:=hr y (by rw [ak,if_pos rfl])
   cases y <;> simp only [fH,ak,if_true,Option.some.injEq] at h <;> subst h <;> first | exact RD.junk v | (rw [hy.int]; exact RD.int _ _) | (rw [hy.bool]; exact RD.bool _)
  ·have hr':∀ y,get r d=some y→RC c y v:=fun z hz=>hr z (by rw [ak,if_neg hk]; exact hz)
   cases y <;> simp only [fH,ak,if_neg hk] at h <;> exact ih h hr'
def n8:List AV→Option (List Value)
 | []=>some []
 | x::r=>match vf x,n8 r with
  | some v,some l=>some (v::l)
  | _,_=>none
theorem n7 {c:Ctx} {e:Operand→AV} {ρ:Operand→Value}:∀ {xs:List Operand} {vs:List Value},(∀ x∈xs,RC c (e x) (ρ x))→n8 (xs.map e)=some vs→xs.map ρ=vs
 | [],vs,_,h=>by simp only [List.map_nil,n8,Option.some.injEq] at h; exact h
 | x::r,vs,hr,h=>by
  simp only [List.map_cons,n8] at h
  split at h
  ·rename_i v l hv hl
   cases h
   rw [List.map_cons,n7 (fun y hy=>hr y (List.mem_cons_of_mem _ hy)) hl,ve hv (hr x List.mem_cons_self)]
  ·cases h
structure YB (ι α:Type) where
 P:Program
 F:Fence
 n:Nat
 nt:Nat
 m:Mem
 l:Nat
 J:ι→World→Prop
 Jx:ι→World→Prop
 ok:ι→α→Prop
 nxt:ι→α→ι
 vals:α→Array Value
 tm:List (Nat×AV)
def YB.base {ι α:Type} (Y:YB ι α) (W:World):aH:=⟨Y.P,Y.F,Y.n,W,Y.m,Y.nt⟩
structure YB.OK {ι α:Type} (Y:YB ι α):Prop where
 base:∀ W,(Y.base W).OK
 round:Y.F.round=none
 ab:∀ k W W',Y.J k W→Gr W W'→Y.J k W'
 abx:∀ k W W',Y.Jx k W→Gr W W'→Y.Jx k W'
 yld:∀ k x W1,Y.ok k x→Y.J k W1→Y.m.sub W1→YieldAt Y.F (Y.n - 1) Y.P Y.l (Y.vals x) W1 fun e W'=>
    (e = .returned (.bool true)∧Y.J (Y.nxt k x) W'∧Y.m.sub W')∨(e = .returned (.bool false)∧Y.Jx (Y.nxt k x) W'∧Y.m.sub W')
abbrev Far (ι:Type):=Bool×ι
structure YI {ι α:Type} (Y:YB ι α) (g:Far ι) (s:St) (a:Act) (w:World):Prop where
 ex:∃ W0,(bif g.1 then Y.Jx g.2 W0 else Y.J g.2 W0)∧bZ (Y.base W0) s a w∧NC W0 w
 tm:∀ d x,get Y.tm d=some x→RD Y.m x (a.tmps.getD d Go.undef)
 df:a.defers=[]
def YP {ι α:Type} (Y:YB ι α) (g:Far ι) (s:St) (c:Code) (K:Exit→Far ι→St→Prop):Prop:=
 ∀ a w,YI Y g s a w→c.wpIn Y.F Y.n Y.P (fun e a' w'=>∃ g' s',YI Y g' s' a' w'∧K e g' s') a w
section
variable {ι α:Type} {Y:YB ι α} (hY:Y.OK)
theorem YI.less {g:Far ι} {s s':St} {a:Act} {w:World} (h:YI Y g s a w) (hle:s.le s'):YI Y g s' a w:=
 ⟨let ⟨W0,h1,h2,h3⟩:=h.ex; ⟨W0,h1,h2.less hle,h3⟩,h.tm,h.df⟩
def qI (tm:List (Nat×AV)) (ds:List Nat):Bool:=f8 (1000000000::de tm) ds&&f8 [1000000000] (de tm)
theorem YP.seq {g:Far ι} {s:St} {x y:Code} {K K1:Exit→Far ι→St→Prop} (h:YP Y g s x K1) (hn:∀ g s,K1 .normal g s→YP Y g s y K) (he:∀ e g s,e≠.normal→K1 e g s→K e g s):YP Y g s (.seq x y) K:=by
 intro a w hI
 refine wpIn_seq (wpIn_mono (h a w hI) fun e a' w' hq=>?_)
 obtain ⟨g',s',hI',hK⟩:=hq
 cases e with
 | normal=>exact hn g' s' hK a' w' hI'
 | exit id=>exact ⟨g',s',hI',he _ _ _ (by intro h; cases h) hK⟩
 | goto l=>exact ⟨g',s',hI',he _ _ _ (by intro h; cases h) hK⟩
 | ret=>exact ⟨g',s',hI',he _ _ _ (by intro h; cases h) hK⟩
 | panic c=>exact ⟨g',s',hI',he _ _ _ (by intro h; cases h) hK⟩
 | outgrown=>exact ⟨g',s',hI',he _ _ _ (by intro h; cases h) hK⟩
theorem YP.block {g:Far ι} {s:St} {id:Nat} {c:Code} {K:Exit→Far ι→St→Prop} (h:YP Y g s c fun e g s=>match e with | .exit j=>bif Nat.beq j id then K .normal g s else K (.exit j) g s | e=>K e g s):YP Y g s (.block id c) K:=by
 intro a w hI
 refine wpIn_block (wpIn_mono (h a w hI) fun e a' w' hq=>?_)
 obtain ⟨g',s',hI',hK⟩:=hq
 cases e with
 | exit j=>
  simp only at hK
  unfold Exit.inBlock
  cases hb:Nat.beq j id with
  | true=>rw [hb] at hK; simp only [Nat.eq_of_beq_eq_true hb,if_true]; exact ⟨g',s',hI',hK⟩
  | false=>rw [hb] at hK; simp only [Nat.ne_of_beq_eq_false hb,if_false]; exact ⟨g',s',hI',hK⟩
 | normal=>exact ⟨g',s',hI',hK⟩
 | goto l=>exact ⟨g',s',hI',hK⟩
 | ret=>exact ⟨g',s',hI',hK⟩
 | panic c=>exact ⟨g',s',hI',hK⟩
 | outgrown=>exact ⟨g',s',hI',hK⟩
theorem YP.loop {g:Far ι} {s:St} {c:Code} {K:Exit→Far ι→St→Prop} {X:Type} (sh:X→Far ι×St) (I:X→Prop) (μ:X→Nat) (x0:X) (h0:I x0) (hg:(sh x0).1=g) (hle:s.le (sh x0).2)
  (body:∀ x,I x→YP Y (sh x).1 (sh x).2 c fun e g' s'=>match e with | .normal=>∃ x',I x'∧μ x'<μ x∧(sh x').1=g'∧s'.le (sh x').2 | e=>K e g' s'):YP Y g s (.loop c) K:=by
 intro a0 w hI
 have key:∀ (m:Nat) (x:X) (a:Act) (w1:World),I x→μ x<m→YI Y (sh x).1 (sh x).2 a w1 →
   Code.roundsIn Y.F Y.n Y.P c (fun e a' w'=>∃ g' s',YI Y g' s' a' w'∧K e g' s') m a w1:=by
  intro m
  induction m with
  | zero=>intro x a w1 _ hm; omega
  | succ m ih=>
   intro x a w1 hx hm hI1
   rw [roundsIn_succ]
   refine wpIn_mono (body x hx a w1 hI1) fun e a' w' hq=>?_
   obtain ⟨g',s',hI',hK⟩:=hq
   cases e with
   | normal=>
    obtain ⟨x',g1,g2,g3,g4⟩:=hK
    exact ih x' a' w' g1 (by omega) (by rw [g3]; exact hI'.less g4)
   | exit id=>exact ⟨g',s',hI',hK⟩
   | goto l=>exact ⟨g',s',hI',hK⟩
   | ret=>exact ⟨g',s',hI',hK⟩
   | panic c=>exact ⟨g',s',hI',hK⟩
   | outgrown=>exact ⟨g',s',hI',hK⟩
 exact wpIn_loop_rounds (μ x0+1) (key _ x0 a0 w h0 (by omega) (by rw [hg]; exact hI.less hle))
theorem YP.pure {g:Far ι} {s:St} {c:Code} {K:Exit→Far ι→St→Prop} {e:Exit} (hc:∀ {F:Fence} {n:Nat} {P:Program} {Q:Exit→Act→World→Prop} {a:Act} {w:World},Q e a w→c.wpIn F n P Q a w) (h:K e g s):YP Y g s c K:=
 fun _ _ hI=>hc ⟨g,s,hI,h⟩
end
end Go.AI
namespace Go.AI
open Go
open Go.RowKit (Below)
def qx (s:St) (o:Oper):Bool:=match o.op with
 | .call c=>match c.callee with
  | .value f=>match ev s f with
   | .lit (.func (.yield _) _ _)=>true
   | _=>false
  | _=>false
 | _=>false
section
variable {ι α:Type} (Y:YB ι α) (T:Tab) (keep:List Nat)
def zW (g:Far ι) (s:St) (o:Oper) (K:Far ι→St→Prop):Prop:=match o.op,o.dst with
 | .call c,some d=>match c.callee with
  | .value f=>match g,n8 (c.args.toList.map (ev s)) with
   |(false,k),some vs=>ev s f = .lit (.func (.yield Y.l) #[] #[])∧∃ x,Y.ok k x∧vs.toArray=Y.vals x ∧
     K (false,Y.nxt k x) ⟨(d,.bool true)::(Y.tm++fH s.t),[]⟩∧K (true,Y.nxt k x) ⟨(d,.bool false)::(Y.tm++fH s.t),[]⟩
   | _,_=>False
  | _=>False
 | _,_=>False
def lH (all:List Oper) (guards:List Nat):List Oper→Far ι→St→(Far ι→St→Prop)→Prop
 | [],g,s,K=>K g s
 | o::rest,g,s,K=>match j5 all s o with
  | 0=>bif qx s o then zW Y g s o fun g s=>lH all guards rest g s K
   else opS T (ae Y.P) s o.dst o.type o.op fun s=>x4 o.op s fun s=>gW guards o.dst s fun s=>lH all guards rest g s K
  | 1=>ef s o.dst .undef fun s=>lH all guards rest g s K
  | _=>False
def yw:Code→Far ι→St→(Exit→Far ι→St→Prop)→Prop
 | .skip,g,s,K=>K .normal g s
 | .label _,g,s,K=>K .normal g s
 | .ret,g,s,K=>K .ret g s
 | .exit j,g,s,K=>K (.exit j) g s
 | .seq a b,g,s,K=>yw a g s fun e g s=>match e with
  | .normal=>yw b g s K
  | e=>K e g s
 | .cond c a b,g,s,K=>match ev s c with
  | .bool t=>(t=true→yw a g s K)∧(t=false→yw b g s K)
  | _=>False
 | .block id c,g,s,K=>yw c g s fun e g s=>match e with
  | .exit j=>bif Nat.beq j id then K .normal g s else K (.exit j) g s
  | e=>K e g s
 | .region _ ops false,g,s,K=>lH Y T ops.toList (bI ops.toList ops.toList) ops.toList g s fun g s=>fQ keep s (K .normal g)
 | c,g,s,K=>YP Y g s c K
end
section
variable {ι α:Type} {Y:YB ι α} (hY:Y.OK) {T:Tab} (hT:T.OK Y.P) {keep:List Nat} {Q:Exit→Act→World→Prop} {next:Act→World→Prop}
theorem YI.inv {g:Far ι} {s:St} {a:Act} {w:World} (h:YI Y g s a w) (hrd:Y.F.round=none):∃ W0,(bif g.1 then Y.Jx g.2 W0 else Y.J g.2 W0)∧Inv (Y.base W0) s a w∧NC W0 w:=by
 obtain ⟨⟨W0,h1,h2,h3⟩,_,h4⟩:=h
 exact ⟨W0,h1,⟨h2.ex,h2.size,⟨[],by simpa [kc] using h4,List.nodup_nil,by simp⟩,fun _ e=>nomatch (show none=some _ from hrd ▸ e)⟩,h3⟩
theorem YI.put {g:Far ι} {s s':St} {a a':Act} {w w' W0:World} (h:YI Y g s a w) (hJ:(bif g.1 then Y.Jx g.2 W0 else Y.J g.2 W0)) (hI:Inv (Y.base W0) s' a' w') {dst:Option Nat} (hp:∃ v,a'=a.put dst v) (hdr:NC W0 w') (hd:qI Y.tm dst.toList=true):YI Y g s' a' w':=by
 simp only [qI,Bool.and_eq_true] at hd
 have hF:=FT.put hp
 refine ⟨⟨W0,hJ,hI.toT,hdr⟩,fun d x hx=>?_,?_⟩
 ·have hk:d∈de Y.tm:=bW.2 (by rw [hx]; simp)
  rw [hF.tmps (fun hc=>aM hd.1 (List.mem_cons_of_mem _ hk) hc) (fun hc=>aM hd.2 (by simp) (hc ▸ hk))]
  exact h.tm d x hx
 ·rw [hF.defers fun hc=>aM hd.1 List.mem_cons_self hc]; exact h.df
theorem ko {tm:List (Nat×AV)} {ds es:List Nat} (h:qI tm ds=true) (hs:∀ d∈es,d∈ds):qI tm es=true:=by
 simp only [qI,Bool.and_eq_true] at h ⊢
 refine ⟨List.all_eq_true.2 fun x hx=>?_,h.2⟩
 cases hm:bX es x with
 | false=>rfl
 | true=>exact (aM h.1 hx (hs x (ba.1 hm))).elim
include hY in
theorem uD {g:Far ι} {s:St} {o:Oper} {a:Act} {w:World} {K:Far ι→St→Prop} (hI:YI Y g s a w) (hdst:∀ d,o.dst=some d→d<Y.nt) (htm:qI Y.tm o.dst.toList=true) (h:zW Y g s o K)
  (hn:∀ g' s' a' w',K g' s'→YI Y g' s' a' w'→next a' w'):o.wpIn Y.F Y.n Y.P a w next Q:=by
 obtain ⟨W0,hJ,hInv,hdr⟩:=hI.inv hY.round
 have hG:=hY.base W0
 unfold zW at h
 split at h
 ·rename_i c d hop hd
  split at h
  ·rename_i f hcal
   split at h
   ·rename_i k vs hvs
    obtain ⟨hf,x,hx,hxv,hK1,hK2⟩:=h
    obtain ⟨⟨cx,hW,ht⟩,hsz,hdf⟩:=hInv
    have hfv:a.eval f = .func (.yield Y.l) #[] #[]:=by
     have:=aB ht f
     rw [hf] at this
     have this:RD cx.m _ _:=this
     generalize a.eval f=u at this
     cases this
     rfl
    have hav:=n7 (c:=cx) (ρ:=a.eval) (fun y _=>aB ht y) hvs
    have hJw:Y.J k w:=hY.ab k W0 w hJ ⟨hW.ext.toBelow hdr,hdr.more⟩
    have hmw:Y.m.sub w:=⟨fun b o v hb=>hW.sub.cell b o v (hW.le0.cell b o v hb),fun b x hb=>hW.sub.map b x (hW.le0.map b x hb)⟩
    obtain ⟨fn,tmps,assign,body,hy,hR⟩:=hY.yld k x w hx hJw hmw
    have hargs:c.args.map a.eval=Y.vals x:=by
     rw [← hxv,← hav]
     apply Array.ext'
     simp
    have hrun:(execOp a.eval o).run Y.P w = .ok (.round Y.l fn tmps assign body) w:=by
     simp only [execOp,hop,Sem.run_bind,resolve,hcal,hfv,Deferred.ofValue,Sem.run_pure,Result.andThen_ok,invoke,hargs]
     simpa using hy
    refine ⟨fun f _=>hG.fn f,?_⟩
    rw [Oper.semAt_eq _ _ _ (by rw [hop]; intro c hc; cases hc),hrun,Oper.uponIn_round]
    refine ⟨fun h=>(by rw [show Y.F.depth=none from hG.depth] at h; cases h),hR.mono ?_⟩
    have fin:∀ (b:Bool) (w':World),Y.m.sub w'→(bif !b then Y.Jx (Y.nxt k x) w' else Y.J (Y.nxt k x) w')→YI Y (!b,Y.nxt k x) ⟨(d,.bool b)::(Y.tm++fH s.t),[]⟩ (a.put o.dst (.bool b)) w':=by
     intro b w' hm hj
     have hdl:d<a.tmps.size:=by rw [hsz]; exact hdst d hd
     have hF:FT o.dst.toList a (a.put o.dst (.bool b)):=FT.put ⟨_,rfl⟩
     simp only [qI,Bool.and_eq_true] at htm
     have htm':∀ (d:Nat) (x:AV),get Y.tm d=some x→RD Y.m x ((a.put o.dst (.bool b)).tmps.getD d Go.undef):=fun e y hy=>by
      have hk:e∈de Y.tm:=bW.2 (by rw [hy]; simp)
      rw [hF.tmps (fun hc=>aM htm.1 (List.mem_cons_of_mem _ hk) hc) (fun hc=>aM htm.2 (by simp) (hc ▸ hk))]
      exact hI.tm e y hy
     refine ⟨⟨w',hj,⟨⟨_,WI.init (Γ:=Y.base w') hm rfl,fun e y hy=>?_⟩,by rw [bL]; exact hsz⟩,.refl _⟩,htm',by rw [bv]; exact hI.df⟩
     refine RC.of_RD (c:=⟨_,_,_,Y.m,_,_⟩) ?_
     simp only [ak] at hy
     split at hy
     ·rename_i hed
      cases hy
      rw [hd,bO _ _ _ _ hdl,if_pos hed]
      exact RD.bool b
     ·rename_i hed
      rw [bU] at hy
      cases hg:get Y.tm e with
      | some z=>rw [hg] at hy; cases hy; exact htm' e _ hg
      | none=>
       rw [hg] at hy
       rw [hd,bO _ _ _ _ hdl,if_neg hed]
       exact yr hy fun z hz=>ht e z hz
    rintro e w' (⟨rfl,hj,hm⟩ | ⟨rfl,hj,hm⟩)
    ·exact hn _ _ _ _ hK1 (fin true w' hm hj)
    ·exact hn _ _ _ _ hK2 (fin false w' hm hj)
   ·exact h.elim
  ·exact h.elim
 ·exact h.elim
end
end Go.AI
namespace Go.AI
open Go
open Go.RowKit (Below)
section
variable {ι α:Type} {Y:YB ι α} (hY:Y.OK) {T:Tab} (hT:T.OK Y.P) {keep:List Nat} {Q:Exit→Act→World→Prop} {next:Act→World→Prop}
include hY hT in
theorem eu {all:List Oper} {guards:List Nat} (hall:∀ j d,gX all j=some d→d<Y.nt) (htm:qI Y.tm (dc all)=true):∀ (l:List Oper) (k:Nat) (g:Far ι) (s:St) (a:Act) (w:World) (K:Far ι→St→Prop),
  (∀ j,l[j]?=all[k+j]?)→lH Y T all guards l g s K→YI Y g s a w→(∀ g' s' a' w',K g' s'→YI Y g' s' a' w'→Q .normal a' w')→wpOpsIn Y.F Y.n Y.P all.toArray Q (List.range' k l.length) a w
 | [],k,g,s,a,w,K,_,h,hI,hQ=>hQ g s a w h hI
 | o::rest,k,g,s,a,w,K,hk,h,hI,hQ=>by
  have h0:all.toArray[k]?=some o:=by simpa using (hk 0).symm
  have h0':all[k]?=some o:=by simpa using h0
  have hk':∀ j,rest[j]?=all[k+1+j]?:=fun j=>by have:=hk (j+1); simpa [Nat.add_assoc,Nat.add_comm 1 j] using this
  have hdst:∀ d,o.dst=some d→d<Y.nt:=fun d hd=>hall k d (by rw [e9,h0']; exact hd)
  have htd:qI Y.tm o.dst.toList=true:=ko htm fun d hd=>rq h0' hd
  obtain ⟨W0,hJ,hInv,hdr⟩:=hI.inv hY.round
  have hG:=hY.base W0
  simp only [List.length_cons,List.range'_succ,wpOpsIn,h0]
  simp only [lH] at h
  split at h
  ·rename_i hw
   rw [db (Γ:=Y.base W0) hall hInv 0 hw (by omega)]
   simp only [beq_self_eq_true,if_true]
   cases hy:qx s o with
   | true=>
    rw [hy,cond_true] at h
    exact uD hY hI hdst htd h fun g' s' a' w' hK hI'=>eu hall htm rest (k+1) g' s' a' w' K hk' hK hI' hQ
   | false=>
    rw [hy,cond_false] at h
    refine bi (Γ:=Y.base W0) hG hT rfl hInv hdst h ?_
    intro s' a' w' hK hI' hN hP
    rw [qy] at hK
    obtain ⟨s2,hK2,hle⟩:=fR hK
    exact eu hall htm rest (k+1) g s2 a' w' K hk' hK2 ((hI.put hJ hI' hP (hdr.trans hN) htd).less hle) hQ
  ·rename_i hw
   rw [db (Γ:=Y.base W0) hall hInv 1 hw (by omega)]
   simp only [Nat.reduceBEq,Bool.false_eq_true,if_false]
   obtain ⟨s2,hK2,hI2⟩:=gN hInv hdst h
   exact ⟨fun f _=>hG.fn f,eu hall htm rest (k+1) g s2 _ w K hk' hK2 (hI.put hJ hI2 ⟨_,rfl⟩ hdr htd) hQ⟩
  ·exact h.elim
include hY hT in
theorem cu:∀ (c:Code) (g:Far ι) (s:St) (K:Exit→Far ι→St→Prop),bt Y.nt c=true→qI Y.tm (wrs c)=true→yw Y T keep c g s K→YP Y g s c K
 | .skip,g,s,K,_,_,h=>YP.pure wpIn_skip h
 | .label _,g,s,K,_,_,h=>YP.pure wpIn_label h
 | .ret,g,s,K,_,_,h=>YP.pure wpIn_ret h
 | .exit j,g,s,K,_,_,h=>YP.pure wpIn_exit h
 | .seq a b,g,s,K,ho,ht,h=>by
  simp only [bt,Bool.and_eq_true] at ho
  refine YP.seq (cu a g s _ ho.1 (ko ht fun d hd=>List.mem_append_left _ hd) h) (fun g' s' h'=>cu b g' s' K ho.2 (ko ht fun d hd=>List.mem_append_right _ hd) h') (fun e g' s' he h'=>?_)
  cases e <;> first | exact absurd rfl he | exact h'
 | .cond c x y,g,s,K,ho,htm,h=>by
  simp only [bt,Bool.and_eq_true] at ho
  intro a w hI
  simp only [yw] at h
  split at h
  ·rename_i t ht
   obtain ⟨W0,hJ,⟨⟨cx,hW,htt⟩,_⟩,_⟩:=hI.inv hY.round
   have he:RC cx (.bool t) (a.eval c):=by
    have:=aB htt c
    rwa [ht] at this
   exact wpIn_cond_split he.bool (fun g1=>cu x g s K ho.1 (ko htm fun d hd=>List.mem_append_left _ hd) (h.1 g1) a w hI) (fun g1=>cu y g s K ho.2 (ko htm fun d hd=>List.mem_append_right _ hd) (h.2 g1) a w hI)
  ·exact h.elim
 | .block id c,g,s,K,ho,ht,h=>YP.block (cu c g s _ (by simpa [bt] using ho) (by simpa [wrs] using ht) h)
 | .region id ops false,g,s,K,ho,ht,h=>by
  intro a w hI
  obtain ⟨l⟩:=ops
  refine wpIn_region ?_
  rw [show (⟨l⟩:Array Oper).size=l.length from rfl,List.range_eq_range']
  refine eu hY hT (di ho) ht l 0 g s a w _ (fun j=>by simp) h hI ?_
  intro g' s' a' w' hK hI'
  obtain ⟨s2,h2,hle⟩:=dA hK
  exact ⟨g',s2,hI'.less hle,h2⟩
 | .region _ _ true,g,s,K,_,_,h=>h
 | .loop c,g,s,K,_,_,h=>h
 | .rangeFunc _ _ _ _,g,s,K,_,_,h=>h
 | .scope c,g,s,K,_,_,h=>h
 | .goto _,g,s,K,_,_,h=>h
 | .refuse _,g,s,K,_,_,h=>h
end
structure fp (n:Nat) (e:Exit) (g:Far Nat) (s:St):Prop where
 ex:e = .ret∨e = .normal
 all:g=(false,n)∨g.1=true
theorem Bq.of {P:Program} {T:Tab} (hT:T.OK P) {α:Type} {vals:α→Array Value} {f:FuncId} {fn:Func} {body:Code} {cap:List AV} {items:List α} (keep:List Nat) (hf:P.funcs[f]?=some fn) (hb:fn.body=some body)
  (hname:(fn.name == "runtime.NumGoroutine")=false) (hm:P.follows .mixedOrders=true) (hok:bt fn.ntmps body=true) (hn:cap.length+1≤fn.ntmps) (hres:fn.results=#[])
  (htm:∀ l:Nat,qI (params 0 (.lit (.func (.yield l) #[] #[])::cap)) (wrs body)=true)
  (h:∀ (F:Fence) (n:Nat) (m:Mem) (l:Nat) (J Jx:Nat→World→Prop),YB.OK ⟨P,F,n,fn.ntmps,m,l,J,Jx,fun k x=>items[k]?=some x,fun k _=>k+1,vals,params 0 (.lit (.func (.yield l) #[] #[])::cap)⟩ →
   yw ⟨P,F,n,fn.ntmps,m,l,J,Jx,fun k x=>items[k]?=some x,fun k _=>k+1,vals,params 0 (.lit (.func (.yield l) #[] #[])::cap)⟩ T keep body (false,0) ⟨params 0 (.lit (.func (.yield l) #[] #[])::cap),[]⟩ fun e g s=>fp items.length e g s):Bq P vals f cap items:=by
 refine ⟨Go.Proofs.enters_of hf hname hb,fun m lb hl hr F n hfn hdep hal hro l J Jx W hs hab habx hyld hJ0=>?_⟩
 let Y:YB Nat α:=⟨P,F,n,fn.ntmps,m,l,fun k=>J (items.take k),fun _=>Jx,fun k x=>items[k]?=some x,fun k _=>k+1,vals,params 0 (.lit (.func (.yield l) #[] #[])::cap)⟩
 have hY:Y.OK:=⟨fun W=>⟨hfn,hdep,hal,hm⟩,hro,fun k W1 W2 h1 h2=>hab _ W1 W2 h1 h2.toI,fun _ W1 W2 h1 h2=>habx W1 W2 h1 h2.toI,fun k x W1 hx hJ hm=>by
  have hlt:=(List.getElem?_eq_some_iff.1 hx).1
  have hxx:=(List.getElem?_eq_some_iff.1 hx).2
  have htk:items.take (k+1)=items.take k++[x]:=by rw [List.take_add_one,hx]; rfl
  have hz:=hyld _ x W1 ⟨items.drop (k+1),by rw [← hxx,← List.drop_eq_getElem_cons hlt,List.take_append_drop]⟩ hJ hm
  rw [← htk] at hz
  obtain ⟨fn,tmps,asg,bd,q1,q2⟩:=hz
  exact ⟨fn,tmps,asg,bd,q1,q2.mono fun e W' h=>h.imp (fun ⟨h1,h2,h3,_⟩=>⟨h1,h2,h3⟩) id⟩⟩
 have hp:=cu hY hT body _ _ _ hok (htm l) (h F n m l _ _ hY)
 have htv:∀ (d:Nat) (x:AV),get (params 0 (.lit (.func (.yield l) #[] #[])::cap)) d=some x→RD m x ((#[Value.func (.yield l) #[] #[]]++lb++Array.replicate (fn.ntmps - (#[Value.func (.yield l) #[] #[]]++lb).size) Go.undef).getD d Go.undef):=by
  intro d x hx
  obtain ⟨_,h2⟩:=eG _ _ _ _ hx
  simp only [Nat.sub_zero] at h2
  have hdl:=(List.getElem?_eq_some_iff.1 h2).1
  simp only [List.length_cons] at hdl
  rw [Array.getD_eq_getD_getElem?,Array.getElem?_append_left (by simp; omega)]
  cases d with
  | zero=>
   simp at h2
   subst h2
   rw [Array.getElem?_append_left (by simp)]
   exact .lit (.func (.yield l) #[] #[]) rfl rfl
  | succ d=>
   simp at h2
   rw [Array.getElem?_append_right (by simp)]
   simp only [List.size_toArray,List.length_cons,List.length_nil,Nat.zero_add,Nat.add_sub_cancel]
   rw [Array.getElem?_eq_getElem (by omega)]
   exact hr d x _ h2 (Array.getElem?_eq_getElem (by omega))
 refine callsIn_of_wp hf hb (hfn f) (wpIn_mono (hp _ W ⟨⟨W,hJ0,⟨⟨_,WI.init (Γ:=Y.base W) hs rfl,fun d x hx=>RC.of_RD (c:=⟨_,_,_,m,_,_⟩) (htv d x hx)⟩,?_⟩,.refl _⟩,htv,rfl⟩) ?_) hro
 ·simp only [YB.base,Array.size_append,Array.size_replicate,List.size_toArray,List.length_cons,List.length_nil]
  show _=fn.ntmps
  omega
 ·rintro e a' w' ⟨g',s',hI,⟨he,hall⟩⟩
  have hpost:a'.defers=[]∧∃ v,(results fn a'.tmps).run P w' = .ok v w'∧((∃ u,Ending.returned v = .returned u)∧((∃ p,p=items∧J p w')∨Jx w')):=by
   refine ⟨hI.df,.tuple #[],by simp [results,hres],⟨_,rfl⟩,?_⟩
   obtain ⟨W0,hJ,hT0,hdr⟩:=hI.ex
   obtain ⟨⟨c,hW,_⟩,_⟩:=hT0
   rcases hall with rfl | hg
   ·exact .inl ⟨items,rfl,hab _ _ _ (by have hJ:J (items.take items.length) W0:=hJ; rwa [List.take_length] at hJ) (Gr.toI ⟨hW.ext.toBelow hdr,hdr.more⟩)⟩
   ·rw [hg] at hJ
    exact .inr (habx _ _ hJ (Gr.toI ⟨hW.ext.toBelow hdr,hdr.more⟩))
  rcases he with rfl | rfl <;> exact hpost
end Go.AI
namespace Go.AI
open Go
def leT {α:Type} (t:List (Nat×α)):List (Nat×α)→Prop
 | []=>True
 |(d,v)::r=>get t d=some v∧leT t r
theorem rB {α:Type} {t:List (Nat×α)}:∀ {t':List (Nat×α)},leT t t'→∀ d x,get t' d=some x→get t d=some x
 | [],_,d,x,h=>by simp [get] at h
 |(e,v)::r,h,d,x,hx=>by
  rw [ak] at hx
  split at hx
  ·rename_i hd; subst hd; cases hx; exact h.1
  ·exact rB h.2 d x hx
theorem ai {s s':St} (ht:leT s.t s'.t) (hb:leT s.b s'.b):s.le s':=⟨rB ht,fun d cs h _=>rB hb d cs h⟩
end Go.AI
namespace Go.AI
open Go
theorem ae.args {P:Program} {f:FuncId} {us bs:List AV} {r:AV} (h:ae P f bs r) (hl:us.length=bs.length) (hw:∀ (i:Nat) (a b:AV),us[i]?=some a→bs[i]?=some b→a.weak b):ae P f us r:=by
 refine ⟨h.1,fun m w vs hs hlen hr=>h.2 m w vs hs (hl ▸ hlen) fun i x v h1 h2=>?_⟩
 have hi:i<us.length:=by rw [hl]; exact (List.getElem?_eq_some_iff.1 h1).1
 exact hw i _ x (List.getElem?_eq_getElem hi) h1 m v (hr i _ v (List.getElem?_eq_getElem hi) h2)
theorem AV.weak.sl {o:Own} {sz:Nat} {xs:List (List AV)}:(AV.sl o sz xs).weak (.sl .no sz xs):=fun _ _ h=>h.no
inductive iD:List AV→List AV→Prop
 | nil:iD [] []
 | cons {a b:AV} {us bs:List AV} (h:a.weak b) (t:iD us bs):iD (a::us) (b::bs)
theorem iD.refl:∀ l:List AV,iD l l
 | [] => .nil
 | a::l => .cons (.refl a) (iD.refl l)
theorem iD.spec {us bs:List AV} (h:iD us bs):us.length=bs.length∧∀ (i:Nat) (a b:AV),us[i]?=some a→bs[i]?=some b→a.weak b:=by
 induction h with
 | nil=>exact ⟨rfl,by simp⟩
 | cons h t ih=>
  refine ⟨by simp [ih.1],fun i a b h1 h2=>?_⟩
  cases i with
  | zero=>simp at h1 h2; subst h1; subst h2; exact h
  | succ i=>exact ih.2 i a b (by simpa using h1) (by simpa using h2)
theorem ae.weak {P:Program} {f:FuncId} {us bs:List AV} {r:AV} (h:ae P f bs r) (hw:iD us bs):ae P f us r:=h.args hw.spec.1 hw.spec.2
theorem ae.sl0 {P:Program} {f:FuncId} {o:Own} {sz:Nat} {xs:List (List AV)} {us:List AV} {r:AV} (h:ae P f (.sl .no sz xs::us) r):ae P f (.sl o sz xs::us) r:=h.weak (.cons .sl (.refl _))
theorem ae.sl1 {P:Program} {f:FuncId} {o:Own} {sz:Nat} {xs:List (List AV)} {a:AV} {us:List AV} {r:AV} (h:ae P f (a :: .sl .no sz xs::us) r):ae P f (a :: .sl o sz xs::us) r:=h.weak (.cons (.refl _) (.cons .sl (.refl _)))
end Go.AI
namespace Go.AI
open Go Go.ChangeShapes Go.WideShapes Go.RowKit
inductive Sh where
 | int (k:IntKind) | bool | str | sl (e:List Sh)
def Fa {α β:Type} (R:α→β→Prop):List α→List β→Prop
 | [],[]=>True
 | a::l,b::r=>R a b∧Fa R l r
 | _,_=>False
theorem Fa.mono {α β:Type} {R S:α→β→Prop} (h:∀ a b,R a b→S a b):∀ {l:List α} {r:List β},Fa R l r→Fa S l r
 | [],[],_=>trivial
 | _::_,_::_,g=>⟨h _ _ g.1,Fa.mono h g.2⟩
 | [],_::_,g=>g
 | _::_,[],g=>g
theorem Fa.length {α β:Type} {R:α→β→Prop}:∀ {l:List α} {r:List β},Fa R l r→l.length=r.length
 | [],[],_=>rfl
 | _::_,_::_,g=>by simp [Fa.length g.2]
 | [],_::_,g=>g.elim
 | _::_,[],g=>g.elim
theorem Fa.append {α β:Type} {R:α→β→Prop}:∀ {l l2:List α} {r r2:List β},Fa R l r→Fa R l2 r2→Fa R (l++l2) (r++r2)
 | [],_,[],_,_,h=>h
 | _::_,_,_::_,_,g,h=>⟨g.1,Fa.append g.2 h⟩
 | [],_,_::_,_,g,_=>g.elim
 | _::_,_,[],_,g,_=>g.elim
theorem Fa.mem {α β:Type} {R:α→β→Prop}:∀ {l:List α} {r:List β},Fa R l r→∀ b∈r,∃ a,R a b
 | [],[],_,_,h=>nomatch h
 | a::_,b::_,g,c,h=>by
  rcases List.mem_cons.1 h with rfl | h
  ·exact ⟨a,g.1⟩
  ·exact Fa.mem g.2 c h
 | [],_::_,g,_,_=>g.elim
 | _::_,[],g,_,_=>g.elim
def fh:Nat→Sh→AV→Prop
 | 0,_,_=>False
 | _+1,.int k,a=>∃ z,a = .int k z∧k.min≤z∧z≤k.max
 | _+1,.bool,a=>∃ b,a = .bool b
 | _+1,.str,a=>∃ s,a = .str s
 | n+1,.sl e,a=>∃ xs,a = .sl .no e.length xs∧∀ x∈xs,Fa (fh n) e x
theorem fh.mono:∀ {n:Nat} {s:Sh} {a:AV},fh n s a→fh (n+1) s a
 | 0,_,_,h=>h.elim
 | _+1,.int _,_,h=>h
 | _+1,.bool,_,h=>h
 | _+1,.str,_,h=>h
 | n+1,.sl e,a,h=>by
  obtain ⟨xs,h1,h2⟩:=h
  exact ⟨xs,h1,fun x hx=>(h2 x hx).mono fun _ _=>fh.mono⟩
theorem fh.cell:∀ {n:Nat} {s:Sh} {a:AV},fh n s a→a.isCell=true
 | 0,_,_,h=>h.elim
 | _+1,.int _,_,⟨_,h,_⟩=>by rw [h]; rfl
 | _+1,.bool,_,⟨_,h⟩=>by rw [h]; rfl
 | _+1,.str,_,⟨_,h⟩=>by rw [h]; rfl
 | _+1,.sl _,_,⟨_,h,_⟩=>by rw [h]; rfl
def kA (P:Program) (g:TypeId→Option (List Sh)):List Field→Nat→Option (List Sh)
 | [],_=>some []
 | f::r,off=>match g f.type with
  | some l=>bif Nat.beq f.offset off&&Nat.beq l.length (P.cellsOf f.type) then (match kA P g r (off+l.length) with | some l2=>some (l++l2) | none=>none) else none
  | none=>none
def Io {α:Type}:Nat→List α→List α
 | 0,_=>[]
 | n+1,l=>l++Io n l
def wZ (P:Program):Nat→TypeId→Option (List Sh)
 | 0,_=>none
 | n+1,t=>match P.underlying t with
  | some .bool=>some [.bool]
  | some (.int k)=>some [.int k]
  | some .string=>some [.str]
  | some (.slice e)=>match wZ P n e with
   | some (a::l)=>bif Nat.beq (P.cellsOf e) (l.length+1) then some [.sl (a::l)] else none
   | _=>none
  | some (.struct fs)=>match kA P (wZ P n) fs.toList 0 with
   | some l=>bif Nat.beq (P.cellsOf t) l.length then some l else none
   | none=>none
  | some (.array m e)=>match wZ P n e with
   | some l=>bif Nat.beq l.length (P.cellsOf e)&&Nat.beq (P.cellsOf t) (m*l.length) then some (Io m l) else none
   | none=>none
  | _=>none
def gS (w:World):Mem:=⟨fun b o=>w.cell? ⟨b,o,none⟩,fun b=>match w.heap[b]? with | some (.map es k)=>some (es,k) | _=>none⟩
theorem C2 (w:World):(gS w).sub w:=⟨fun _ _ _ h=>h,fun b x h=>by
 simp only [gS] at h
 split at h
 ·cases h; assumption
 ·cases h⟩
def fg (m:Mem) (n:Nat) (L:List Sh) (cs:List Value):Prop:=∃ avs:List AV,Fa (fh n) L avs∧avs.length=cs.length∧∀ (i:Nat) (a:AV) (v:Value),avs[i]?=some a→cs[i]?=some v→RD m a v
theorem fg.mono {m:Mem} {n:Nat} {L:List Sh} {cs:List Value} (h:fg m n L cs):fg m (n+1) L cs:=by
 obtain ⟨avs,h1,h2⟩:=h
 exact ⟨avs,h1.mono fun _ _=>fh.mono,h2⟩
theorem fg.nil {m:Mem} {n:Nat}:fg m n [] []:=⟨[],trivial,rfl,by simp⟩
theorem fg.append {m:Mem} {n:Nat} {L L2:List Sh} {cs cs2:List Value} (h:fg m n L cs) (g:fg m n L2 cs2):fg m n (L++L2) (cs++cs2):=by
 obtain ⟨avs,h1,h2,h3⟩:=h
 obtain ⟨avs2,g1,g2,g3⟩:=g
 refine ⟨avs++avs2,h1.append g1,by simp [h2,g2],fun i a v e1 e2=>?_⟩
 by_cases hi:i<avs.length
 ·rw [List.getElem?_append_left hi] at e1
  rw [List.getElem?_append_left (by omega)] at e2
  exact h3 i a v e1 e2
 ·rw [List.getElem?_append_right (by omega)] at e1
  rw [List.getElem?_append_right (by omega),← h2] at e2
  exact g3 _ a v e1 e2
theorem fg.one {m:Mem} {n:Nat} {s:Sh} {a:AV} {v:Value} (h:fh n s a) (hr:RD m a v):fg m n [s] [v]:=
 ⟨[a],⟨h,trivial⟩,rfl,fun i x u h1 h2=>by
  cases i with
  | zero=>simp at h1 h2; subst h1; subst h2; exact hr
  | succ i=>simp at h1⟩
section
variable {H:Type} {enc:TypeId×Value→H} {P:Program} {w:World} {sp:Nat→Bool} {held:Bool}
theorem nH {n:Nat} {g:TypeId→Option (List Sh)} {fuel:Nat} (hg:∀ t L cs x,g t=some L→DataW.trod enc P w 0 sp held fuel t cs=some x→fg (gS w) n L cs) :
  ∀ (fs:List Field) (off:Nat) (L:List Sh) (cs:List Value),kA P g fs off=some L→cs.length=off+L.length→(∀ f∈fs,∃ x,DataW.trod enc P w 0 sp held fuel f.type ((cs.drop f.offset).take (P.cellsOf f.type))=some x) →
  fg (gS w) n L (cs.drop off)
 | [],off,L,cs,h,hl,_=>by
  simp only [kA,Option.some.injEq] at h
  subst h
  rw [List.drop_of_length_le (by simp at hl; omega)]
  exact .nil
 | f::r,off,L,cs,h,hl,hx=>by
  simp only [kA] at h
  split at h
  ·rename_i l hl1
   cases hb:(Nat.beq f.offset off&&Nat.beq l.length (P.cellsOf f.type)) with
   | false=>rw [hb] at h; cases h
   | true=>
    rw [hb,cond_true] at h
    have hb1:=Nat.eq_of_beq_eq_true (Bool.and_eq_true_iff.1 hb).1
    have hb2:=Nat.eq_of_beq_eq_true (Bool.and_eq_true_iff.1 hb).2
    split at h
    ·rename_i l2 hl2
     simp only [Option.some.injEq] at h
     subst h
     obtain ⟨x,hx1⟩:=hx f List.mem_cons_self
     have h1:=hg _ _ _ _ hl1 hx1
     rw [hb1,← hb2] at h1
     have h2:=nH hg r _ _ cs hl2 (by simp at hl; omega) (fun f hf=>hx f (List.mem_cons_of_mem _ hf))
     have:=h1.append h2
     rw [← List.drop_drop] at this
     rwa [List.take_append_drop] at this
    ·cases h
  ·cases h
theorem tT {n:Nat} {l:List Sh} {fuel:Nat} {e:TypeId} (hg:∀ cs x,DataW.trod enc P w 0 sp held fuel e cs=some x→fg (gS w) n l cs) (hc:l.length=P.cellsOf e) :
  ∀ (k:Nat) (cs:List Value),cs.length=k*l.length→(∀ i,i<k→∃ x,DataW.trod enc P w 0 sp held fuel e ((cs.drop (i*P.cellsOf e)).take (P.cellsOf e))=some x)→fg (gS w) n (Io k l) cs
 | 0,cs,hl,_=>by
  have:cs=[]:=List.length_eq_zero_iff.1 (by simpa using hl)
  subst this
  exact .nil
 | k+1,cs,hl,hx=>by
  obtain ⟨x,hx1⟩:=hx 0 (by omega)
  simp only [Nat.zero_mul,List.drop_zero] at hx1
  have h1:=hg _ _ hx1
  have h2:=tT hg hc k (cs.drop (P.cellsOf e)) (by rw [List.length_drop,hl,← hc,Nat.add_mul]; omega) (fun i hi=>by
   obtain ⟨x,hx2⟩:=hx (i+1) (by omega)
   refine ⟨x,?_⟩
   rw [List.drop_drop,← hx2]
   congr 3
   rw [Nat.add_mul,Nat.one_mul,Nat.add_comm])
  have:=h1.append h2
  rwa [List.take_append_drop] at this
theorem un {a:Addr} (h:a.spot=none) (n:Nat):a.add n=⟨a.block,a.off+n,none⟩:=by
 obtain ⟨b,o,s⟩:=a
 simp only at h
 subst h
 unfold Addr.add
 split
 ·rename_i h; subst h; rfl
 ·rfl
theorem kM:∀ (n:Nat) (t:TypeId) (L:List Sh),wZ P n t=some L→∀ (fuel:Nat) (cs:List Value) (x:DataW H×List MemPlace),DataW.trod enc P w 0 sp held fuel t cs=some x→fg (gS w) n L cs
 | 0,_,_,h=>by cases h
 | n+1,t,L,h=>by
  intro fuel cs x hx
  simp only [wZ] at h
  split at h
  ·rename_i ht
   cases h
   obtain ⟨b,rfl,_⟩:=DataW.trod_bool ht hx
   exact .one (a := .bool b) ⟨b,rfl⟩ (.bool b)
  ·rename_i k ht
   cases h
   obtain ⟨z,rfl,_,hw⟩:=DataW.trod_int ht hx
   simp only [Lit.wf,Bool.and_eq_true,decide_eq_true_eq] at hw
   exact .one (a := .int k z) ⟨z,rfl,hw.1,hw.2⟩ (.int k z)
  ·rename_i ht
   cases h
   obtain ⟨s,rfl,_⟩:=DataW.trod_string ht hx
   exact .one (a := .str s) ⟨s,rfl⟩ (.str s)
  ·rename_i e ht
   split at h
   ·rename_i a l hl
    cases hb:Nat.beq (P.cellsOf e) (l.length+1) with
    | false=>rw [hb] at h; cases h
    | true=>
     rw [hb,cond_true] at h
     cases h
     have hb:=Nat.eq_of_beq_eq_true hb
     rcases DataW.trod_slice ht hx with ⟨rfl,_⟩ | ⟨ad,len,cap,elems,rest,m,rfl,rfl,_,_,hlc,_,hel,hget,_,_⟩
     ·refine .one (a := .sl .no (a::l).length []) ⟨[],rfl,by simp⟩ ?_
      exact .sl _ _ _ _ _ _ (by intro k hk; cases hk) (by intro hk; cases hk) rfl (Nat.le_refl _) (by simp) (by simp) 0 0 (by omega) (fun _ _=>Go.undef) (by simp) (by simp)
     ·have each:∀ i,i<len→∃ ci,w.cells? 0 (ad.add (i*P.cellsOf e)) (P.cellsOf e)=some ci∧fg (gS w) n (a::l) ci:=by
       intro i hi
       have:=hget i hi
       rw [List.getElem?_eq_getElem (by omega)] at this
       obtain ⟨ci,h1,h2⟩:=Option.bind_eq_some_iff.1 this
       exact ⟨ci,h1,kM n e _ hl _ _ _ h2⟩
      let f:Nat→List AV:=fun i=>if h:i<len then Classical.choose (Classical.choose_spec (each i h)).2 else []
      have hf:∀ i,i<len→∃ ci,w.cells? 0 (ad.add (i*P.cellsOf e)) (P.cellsOf e)=some ci∧Fa (fh n) (a::l) (f i)∧(f i).length=ci.length∧∀ (j:Nat) (c:AV) (v:Value),(f i)[j]?=some c→ci[j]?=some v→RD (gS w) c v:=by
       intro i hi
       refine ⟨_,(Classical.choose_spec (each i hi)).1,?_⟩
       simp only [f,hi,dif_pos]
       exact Classical.choose_spec (Classical.choose_spec (each i hi)).2
      have hlen:∀ i,i<len→(f i).length=l.length+1:=fun i hi=>by
       obtain ⟨ci,_,h2,_⟩:=hf i hi
       have:=h2.length
       simpa using this.symm
      have hspot:0<len→ad=⟨ad.block,ad.off,none⟩:=by
       intro hpos
       obtain ⟨ci,h1,_⟩:=hf 0 hpos
       have h3:=(World.cells?_some h1).2.2 0 (by omega)
       have hcl:=(World.cells?_some h1).2.1
       rw [List.getElem?_eq_getElem (by omega)] at h3
       have:ad.spot=none:=by
        simp only [Nat.zero_mul,Addr.add,if_true] at h3
        simp only [World.cell?] at h3
        split at h3
        ·cases hs:ad.spot with
         | none=>rfl
         | some q=>rw [hs] at h3; simp at h3
        ·cases h3
       obtain ⟨b,o,s⟩:=ad
       simp only at this
       subst this
       rfl
      have hcell:∀ i j,i<len→j<P.cellsOf e→∀ ci,w.cells? 0 (ad.add (i*P.cellsOf e)) (P.cellsOf e)=some ci→w.cell? ⟨ad.block,ad.off+i*P.cellsOf e+j,none⟩=ci[j]?:=by
       intro i j hi hj ci h1
       have h3:=(World.cells?_some h1).2.2 j hj
       have hs:ad.spot=none:=by rw [hspot (by omega)]
       rw [un hs,un rfl] at h3
       exact h3
      have hxs:∀ (i:Nat) (x:List AV),((List.range len).map f)[i]?=some x→i<len∧x=f i:=by
       intro i x h
       rw [List.getElem?_map] at h
       obtain ⟨k,h1,h2⟩:=Option.map_eq_some_iff.1 h
       obtain ⟨h3,h4⟩:=List.getElem?_eq_some_iff.1 h1
       simp only [List.length_range] at h3
       simp only [List.getElem_range] at h4
       subst h4
       exact ⟨h3,h2.symm⟩
      have hmem:∀ x∈(List.range len).map f,∃ i,i<len∧x=f i:=by
       intro x hx
       obtain ⟨i,h1,h2⟩:=List.mem_map.1 hx
       exact ⟨i,List.mem_range.1 h1,h2.symm⟩
      refine .one (a := .sl .no (a::l).length ((List.range len).map f)) ⟨_,rfl,fun x hx=>?_⟩ ?_
      ·obtain ⟨i,hi,rfl⟩:=hmem x hx
       obtain ⟨ci,_,h2,_⟩:=hf i hi
       exact h2
      ·refine .sl _ _ _ _ len cap (by intro k hk; cases hk) (by intro hk; cases hk) (by simp) hlc (fun x hx=>?_) (fun x hx c hc=>?_) ad.block ad.off (fun h=>by rw [← hspot h]) (fun i j=>(w.cell? ⟨ad.block,ad.off+i*P.cellsOf e+j,none⟩).getD Go.undef) ?_ ?_
       ·obtain ⟨i,hi,rfl⟩:=hmem x hx
        rw [hlen i hi]; rfl
       ·obtain ⟨i,hi,rfl⟩:=hmem x hx
        obtain ⟨ci,_,h2,_⟩:=hf i hi
        obtain ⟨s,hs⟩:=h2.mem c hc
        exact hs.cell
       ·intro i x j c h1 h2
        obtain ⟨hi,rfl⟩:=hxs i x h1
        have hj:j<P.cellsOf e:=by have:=(List.getElem?_eq_some_iff.1 h2).1; rw [hlen i hi] at this; omega
        obtain ⟨ci,g1,_,g3,_⟩:=hf i hi
        have:=hcell i j hi hj ci g1
        rw [List.getElem?_eq_getElem (by have:=(World.cells?_some g1).2.1; omega)] at this
        show w.cell? ⟨ad.block,ad.off+i*(l.length+1)+j,none⟩=_
        rw [← hb,this]; rfl
       ·intro i x j c h1 h2
        obtain ⟨hi,rfl⟩:=hxs i x h1
        have hj:j<P.cellsOf e:=by have:=(List.getElem?_eq_some_iff.1 h2).1; rw [hlen i hi] at this; omega
        obtain ⟨ci,g1,_,g3,g4⟩:=hf i hi
        have:=hcell i j hi hj ci g1
        rw [List.getElem?_eq_getElem (by have:=(World.cells?_some g1).2.1; omega)] at this
        refine g4 j c _ h2 ?_
        simp only [this,Option.getD_some]
        exact List.getElem?_eq_getElem _
   ·cases h
  ·rename_i fs ht
   split at h
   ·rename_i l hl
    cases hb:Nat.beq (P.cellsOf t) l.length with
    | false=>rw [hb] at h; cases h
    | true=>
     rw [hb,cond_true] at h
     cases h
     have hb:=Nat.eq_of_beq_eq_true hb
     obtain ⟨xs,m,rfl,_,hlen,hxl,hf⟩:=DataW.trod_struct ht hx
     have:=nH (fuel:=m) (fun t L cs x h1 h2=>kM n t L h1 m cs x h2) fs.toList 0 _ cs hl (by omega) (fun f hf2=>by
      obtain ⟨i,hi1,hi2⟩:=List.getElem_of_mem hf2
      have:=hf i f (by simp at hi1 hi2; simp [Array.getElem?_eq_getElem hi1,hi2])
      rw [this]
      exact ⟨xs[i]'(by simp at hi1; omega),List.getElem?_eq_getElem _⟩)
     exact fg.mono (by simpa using this)
   ·cases h
  ·rename_i m e ht
   split at h
   ·rename_i l hl
    cases hb:(Nat.beq l.length (P.cellsOf e)&&Nat.beq (P.cellsOf t) (m*l.length)) with
    | false=>rw [hb] at h; cases h
    | true=>
     rw [hb,cond_true] at h
     cases h
     have hb1:=Nat.eq_of_beq_eq_true (Bool.and_eq_true_iff.1 hb).1
     have hb2:=Nat.eq_of_beq_eq_true (Bool.and_eq_true_iff.1 hb).2
     obtain ⟨xs,q,rfl,_,hlen,hxl,hf⟩:=DataW.trod_array ht hx
     refine fg.mono (tT (fun cs x h2=>kM n e l hl q cs x h2) hb1 m cs (by omega) (fun i hi=>?_))
     rw [hf i hi]
     exact ⟨xs[i]'(by omega),List.getElem?_eq_getElem _⟩
   ·cases h
  ·cases h
end
end Go.AI
namespace Go.AI
open Go Go.ChangeShapes Go.WideShapes Go.RowKit
def jr (n:Nat):List (Bool×List Sh)→List AV→Prop
 | [],[]=>True
 |(b,L)::r,a::q=>(bif b then ∃ cs,a = .agg cs∧Fa (fh n) L cs else ∃ s,L=[s]∧fh n s a)∧jr n r q
 | _,_=>False
def jG (P:Program) (n:Nat):List TypeId→Option (List (Bool×List Sh))
 | []=>some []
 | t::r=>match P.underlying t,wZ P n t,jG P n r with
  | some (.struct _),some l,some q=>some ((true,l)::q)
  | some (.array _ _),some l,some q=>some ((true,l)::q)
  | some .bool,some [s],some q=>some ((false,[s])::q)
  | some (.int _),some [s],some q=>some ((false,[s])::q)
  | some .string,some [s],some q=>some ((false,[s])::q)
  | some (.slice _),some [s],some q=>some ((false,[s])::q)
  | _,_,_=>none
section
variable {H:Type} {enc:TypeId×Value→H} {P:Program} {w:World} {sp:Nat→Bool} {held:Bool} {r:Reach} {b0:Nat}
theorem Cl {n:Nat} {t:TypeId} {L:List Sh} {v:Value} {d:DataW H} {ps:List MemPlace} (hs:wZ P n t=some L) (hv:∃ cs,v = .agg cs∧cs.size=P.cellsOf t∧Row.okWide P w r b0 t cs) (h:DataW.Trod enc P w 0 sp held t v d ps) :
  ∃ a,(∃ cs,a = .agg cs∧Fa (fh n) L cs)∧RD (gS w) a v:=by
 obtain ⟨cs,rfl,_,_⟩:=hv
 obtain ⟨fuel,hf⟩:=h
 obtain ⟨avs,h1,h2,h3⟩:=kM n t L hs fuel _ _ hf
 simp only [Value.cells] at h2 h3
 refine ⟨.agg avs,⟨avs,rfl,h1⟩,.agg avs cs (by simpa using h2) (fun x hx=>?_) (fun i x v g1 g2=>h3 i x v g1 (by simpa using g2))⟩
 obtain ⟨s,hs⟩:=h1.mem x hx
 exact hs.cell
theorem qB {n:Nat} {t:TypeId} {s:Sh} {v:Value} {d:DataW H} {ps:List MemPlace} (hs:wZ P n t=some [s]) (hv:v.cells=#[v]) (h:DataW.Trod enc P w 0 sp held t v d ps) :
  ∃ a,(∃ s',[s]=[s']∧fh n s' a)∧RD (gS w) a v:=by
 obtain ⟨fuel,hf⟩:=h
 obtain ⟨avs,h1,h2,h3⟩:=kM n t [s] hs fuel _ _ hf
 rw [hv] at h2 h3
 match avs,h1 with
 | [a],h1=>exact ⟨a,⟨s,rfl,h1.1⟩,h3 0 a v rfl rfl⟩
 | [],h1=>exact h1.elim
 | _::_::_,h1=>exact h1.2.elim
theorem Ck {n:Nat}:∀ (ts:List TypeId) (sh:List (Bool×List Sh)),jG P n ts=some sh→∀ (vs:List Value) (ds:List (DataW H)) (ps:List MemPlace),DataW.TrodAll enc P w 0 sp held ts vs ds ps →
  (∀ (j:Nat) (t:TypeId) (v:Value),ts[j]?=some t→vs[j]?=some v→Value.okWide P w r b0 t v) →
  ∃ avs,jr n sh avs∧avs.length=vs.length∧∀ (i:Nat) (a:AV) (v:Value),avs[i]?=some a→vs[i]?=some v→RD (gS w) a v
 | [],sh,h,vs,ds,ps,ht,_=>by
  simp only [jG,Option.some.injEq] at h
  subst h
  obtain ⟨rfl,rfl,rfl⟩:=trodAll_nil ht
  exact ⟨[],trivial,rfl,by simp⟩
 | t::ts,sh,h,vs,ds,ps,ht,hv=>by
  obtain ⟨v,vs,d,ds',p,q,rfl,rfl,rfl,hd,hrest⟩:=trodAll_cons ht
  have hv0:=hv 0 t v rfl rfl
  have key:∀ (b:Bool) (L:List Sh) (rest:List (Bool×List Sh)),jG P n ts=some rest→sh=(b,L)::rest→(∃ a,(bif b then ∃ cs,a = .agg cs∧Fa (fh n) L cs else ∃ s,L=[s]∧fh n s a)∧RD (gS w) a v) →
    ∃ avs,jr n sh avs∧avs.length=(v::vs).length∧∀ (i:Nat) (a:AV) (u:Value),avs[i]?=some a→(v::vs)[i]?=some u→RD (gS w) a u:=by
   rintro b L rest hr rfl ⟨a,ha,hra⟩
   obtain ⟨avs,h1,h2,h3⟩:=Ck ts rest hr vs ds' q hrest (fun j t v g1 g2=>hv (j+1) t v g1 g2)
   refine ⟨a::avs,⟨ha,h1⟩,by simp [h2],fun i x u g1 g2=>?_⟩
   cases i with
   | zero=>simp at g1 g2; subst g1; subst g2; exact hra
   | succ i=>exact h3 i x u (by simpa using g1) (by simpa using g2)
  simp only [jG] at h
  split at h
  ·rename_i hu hs hq; cases h
   exact key _ _ _ hq rfl (by simpa using Cl hs (by simpa [Value.okWide,hu] using hv0) hd)
  ·rename_i hu hs hq; cases h
   exact key _ _ _ hq rfl (by simpa using Cl hs (by simpa [Value.okWide,hu] using hv0) hd)
  ·rename_i hu hs hq; cases h
   exact key _ _ _ hq rfl (by obtain ⟨b,rfl⟩:=okWide_bool hu hv0; simpa using qB hs rfl hd)
  ·rename_i hu hs hq; cases h
   exact key _ _ _ hq rfl (by obtain ⟨b,rfl⟩:=okWide_int hu hv0; simpa using qB hs rfl hd)
  ·rename_i hu hs hq; cases h
   exact key _ _ _ hq rfl (by obtain ⟨b,rfl⟩:=okWide_string hu hv0; simpa using qB hs rfl hd)
  ·rename_i hu hs hq; cases h
   exact key _ _ _ hq rfl (by obtain ⟨a,l,c,rfl⟩:=okWide_slice hu hv0; simpa using qB hs rfl hd)
  ·cases h
end
theorem ul {H:Type} {enc:TypeId×Value→H} {P:Program} (hl:laidOutB P=true) {w w':World} (hb:Below w.heap.size w w') {sp:Nat→Bool} :
  ∀ {ts:List TypeId} {vs:List Value} {ds:List (DataW H)} {ps:List MemPlace},(∀ t∈ts,P.readableRec t=true∧t<P.types.size)→DataW.TrodAll enc P w 0 (fun _=>true) true ts vs ds ps→(∀ x∈ps,x.block<w.heap.size)→(∀ x∈ps,sp x.block=true) →
   DataW.TrodAll enc P w' 0 sp true ts vs ds ps
 | [],_,_,_,_,h,_,_=>by obtain ⟨rfl,rfl,rfl⟩:=trodAll_nil h; rfl
 | t::ts,vs,ds,ps,hr,h,hlt,hsp=>by
  obtain ⟨v,vs',d,ds',p,q,rfl,rfl,rfl,hd,hrest⟩:=trodAll_cons h
  refine ⟨p,q,WideElems.Trod_stays hl (hr t List.mem_cons_self).1 (hr t List.mem_cons_self).2 hd (fun x hx=>hb.same (hlt x (List.mem_append_left _ hx))) (fun x hx=>hsp x (List.mem_append_left _ hx)),
   ul hl hb (fun t ht=>hr t (List.mem_cons_of_mem _ ht)) hrest (fun x hx=>hlt x (List.mem_append_right _ hx)) (fun x hx=>hsp x (List.mem_append_right _ hx)),rfl⟩
theorem AD {H:Type} {enc:TypeId×Value→H} {C:Checked} {os:Os} {f:FuncId} {fn:Func} {s:ChangeSpec} {conds:List PathCond} {fresh handsOn again:Bool} {n:Nat} {sh:List (Bool×List Sh)} {tb:TypeId}
  (own:ownKnob C.prog.godebug=none) (started:os.Started) (noInit:C.prog.inits.idxOf? f=none) (hfn:C.prog.funcs[f]?=some fn)
  (witness:∃ (w:World) (tape:Tape) (i:Input),w.os=os∧(w.forCall tape i).Shaped C.prog∧i.vars=[]∧Input.okWide C.prog (w.forCall tape i) .any w.heap.size f i ∧
   s.pre6 enc C.prog fn conds false (w.forCall tape i).memory i.args∧({}:Assume).holds C.prog (lone (Frame.enter C.prog f i.args .normal) [] (w.forCall tape i)))
  (hvars:s.vars=[]) (hres:fn.resultTypes=#[tb]) (htb:C.prog.underlying tb=some .bool)
  (hspec:∀ ds:List (DataW H),ds.length=fn.params.size→s.fn H ds={ results:=[.lit (.bool true)],args:=ds })
  (hsh:jG C.prog n fn.params.toList=some sh) (hl:laidOutB C.prog=true) (hread:∀ t∈fn.params.toList,C.prog.readableRec t=true∧t<C.prog.types.size)
  (law:∀ avs,jr n sh avs→ae C.prog f avs (.bool true)) :
  ReturnsInHanded {} C os f .any (s.pre6 enc C.prog fn conds false) (s.post enc C.prog fn false fresh handsOn again):=by
 refine returnsInHanded_of_change own started noInit hfn witness ?_
 intro W base args ds gs before hval hW _ _
 have hW':=hW
 have hlt:=hW.lt
 obtain ⟨p,q,hA,hV,rfl,hfz,hnd⟩:=hW
 rw [hvars] at hV
 obtain ⟨rfl,rfl⟩:=trodVars_none hV
 simp only [List.append_nil] at hW' hlt hfz
 obtain ⟨avs,h1,h2,h3⟩:=Ck fn.params.toList sh hsh args.toList ds p hA (fun j t v g1 g2=>hval j t v (by simpa using g1) (by simpa using g2))
 have hc:=(law avs h1).2 (gS W) W args.toList (C2 W) h2 h3
 refine hc.mono ?_
 rintro e W' ⟨v,m',rfl,hrd,_,_,hbel,_⟩
 have hv:v = .bool true:=by cases hrd; rfl
 subst hv
 refine ⟨_,rfl,?_⟩
 have hds:ds.length=fn.params.size:=by have:=(Go.trodAll_length hA).2; simpa using this
 have hsp:=hspec ds hds
 have hres':∀ (b:Nat) (sp:Nat→Bool) (hd:Bool),DataW.TrodAll enc C.prog W' b sp hd fn.resultTypes.toList ((Value.bool true).resultList fn.resultTypes.size) [.lit (.bool true)] []:=fun b sp hd=>by
  rw [hres]; exact trodAll_mk1 (shut_bool htb true)
 have hargs:∀ sp:Nat→Bool,(∀ x∈p,sp x.block=true)→DataW.TrodAll enc C.prog W' 0 sp true fn.params.toList args.toList ds p:=fun sp hs=>ul hl hbel hread hA hlt hs
 have hok:∀ (j:Nat) (t:TypeId) (r:Value),fn.resultTypes[j]?=some t→((Value.bool true).resultList fn.resultTypes.size)[j]?=some r→Value.okWide C.prog W' .any 0 t r:=ok_one hres rfl (okWide_bool_mk htb true)
 refine ⟨ds,[],p,[],p,[],hW',?_,?_,?_,World.keptBut_mono (fun x hx=>⟨hx,.inr (.inl hx)⟩) (hbel.frame (·∈p)),fun _=>⟨hok,.lit (.bool true)::ds,[],p,⟨p,[],?_,?_,by simp,?_,fun hc=>Bool.noConfusion hc⟩,fun x hx _=>hx⟩⟩
 ·rw [List.append_nil,hsp]; exact hres' _ _ _
 ·rw [List.append_nil,hsp]; exact hargs _ fun x hx=>decide_eq_true (hlt x hx)
 ·rw [List.append_nil,hsp,hvars]; rfl
 ·have:=trodAll_append (hargs (fun _=>true) fun _ _=>rfl) (hres' 0 (fun _=>true) true)
  simpa using this
 ·rw [hvars]; rfl
 ·intro b off hp
  rw [hbel.frozen (hlt _ hp)]
  exact hfz b off hp
end Go.AI
namespace Go.AI
open Go
inductive SPB (Γ:aH) (s:St) (c:Code) (K:Exit→St→Prop):Prop
 | mk (h:SP Γ s c K)
section
variable {Γ:aH} {T:Tab} {s:St} {K:Exit→St→Prop}
theorem SPB.out {c:Code} (h:SPB Γ s c K):SP Γ s c K:=by cases h; assumption
theorem SPB.of_awp (hΓ:Γ.OK) (hT:T.OK Γ.P) (keep:List Nat) {c:Code} (ho:bt Γ.nt c=true) (h:awp Γ T keep c s K):SPB Γ s c K:=⟨gF hΓ hT c s K ho h⟩
theorem Q5 (hΓ:Γ.OK) (hT:T.OK Γ.P) (h:K .normal s):SPB Γ s .skip K:=SPB.of_awp hΓ hT [] rfl h
theorem Q7 (hΓ:Γ.OK) (hT:T.OK Γ.P) (h:K .ret s):SPB Γ s .ret K:=SPB.of_awp hΓ hT [] rfl h
theorem Q8 (hΓ:Γ.OK) (hT:T.OK Γ.P) {j:Nat} (h:K (.exit j) s):SPB Γ s (.exit j) K:=SPB.of_awp hΓ hT [] rfl h
theorem Q1 {a b:Code} (h:SPB Γ s a fun e s'=>match e with | .normal=>SPB Γ s' b K | e=>K e s'):SPB Γ s (.seq a b) K:=
 ⟨SP.seq h.out (fun _ h=>h.out) (fun e s' he h=>by cases e <;> first | exact absurd rfl he | exact h)⟩
theorem Q2 {id:Nat} {c:Code} (h:SPB Γ s c fun e s'=>match e with
  | .exit j=>bif Nat.beq j id then K .normal s' else K (.exit j) s'
  | e=>K e s'):SPB Γ s (.block id c) K:=by
 refine ⟨fun a w hI=>wpIn_block (wpIn_mono (h.out a w hI) fun e a' w' hq=>?_)⟩
 obtain ⟨hN,hp,s',hI',hK⟩:=hq
 cases e with
 | exit j=>
  simp only at hK
  unfold Exit.inBlock
  cases hb:Nat.beq j id with
  | true=>rw [hb] at hK; simp only [Nat.eq_of_beq_eq_true hb,if_true]; exact ⟨hN,hp,s',hI',hK⟩
  | false=>rw [hb] at hK; simp only [Nat.ne_of_beq_eq_false hb,if_false]; exact ⟨hN,hp,s',hI',hK⟩
 | normal=>exact ⟨hN,hp,s',hI',hK⟩
 | goto l=>exact ⟨hN,hp,s',hI',hK⟩
 | ret=>exact ⟨hN,hp,s',hI',hK⟩
 | panic c=>exact ⟨hN,hp,s',hI',hK⟩
 | outgrown=>exact ⟨hN,hp,s',hI',hK⟩
theorem QC {c:Operand} {x y:Code} {t:Bool} (ht:ev s c = .bool t) (h:(t=true→SPB Γ s x K)∧(t=false→SPB Γ s y K)):SPB Γ s (.cond c x y) K:=by
 refine ⟨fun a w hI=>?_⟩
 obtain ⟨cx,hW,htm⟩:=hI.ex
 have he:RC cx (.bool t) (a.eval c):=by
  have:=aB htm c
  rwa [ht] at this
 exact wpIn_cond_split he.bool (fun g=>wpIn_mono ((h.1 g).out a w hI) fun _ _ _ ⟨h1,h2,h3⟩=>⟨h1,h2.mono fun d hd=>List.mem_append_left _ hd,h3⟩)
  (fun g=>wpIn_mono ((h.2 g).out a w hI) fun _ _ _ ⟨h1,h2,h3⟩=>⟨h1,h2.mono fun d hd=>List.mem_append_right _ hd,h3⟩)
theorem Q9 {c:Operand} {x y:Code} (ht:ev s c = .bool true) (h:SPB Γ s x K):SPB Γ s (.cond c x y) K:=QC ht ⟨fun _=>h,fun h=>Bool.noConfusion h⟩
theorem QF {c:Operand} {x y:Code} (ht:ev s c = .bool false) (h:SPB Γ s y K):SPB Γ s (.cond c x y) K:=QC ht ⟨fun h=>Bool.noConfusion h,fun _=>h⟩
theorem Q3 (hΓ:Γ.OK) (hT:T.OK Γ.P) (keep:List Nat) {id:Nat} {ops:Array Oper} (ho:bt Γ.nt (.region id ops true)=true) (h:lK T (ae Γ.P) (bD Γ.P) [] keep ops.toList s (K .normal)):SPB Γ s (.region id ops true) K:=
 SPB.of_awp hΓ hT keep ho h
theorem Q4 (hΓ:Γ.OK) (hT:T.OK Γ.P) (keep:List Nat) {id:Nat} {ops:Array Oper} (ho:bt Γ.nt (.region id ops false)=true)
  (h:fB T (ae Γ.P) (bD Γ.P) ops.toList (bI ops.toList ops.toList) ops.toList s fun s'=>fQ keep s' (K .normal)):SPB Γ s (.region id ops false) K:=SPB.of_awp hΓ hT keep ho h
theorem SPB.regN (hΓ:Γ.OK) (hT:T.OK Γ.P) (keep nils:List Nat) {id:Nat} {ops:Array Oper} (ho:bt Γ.nt (.region id ops false)=true)
  (h:fB T (ae Γ.P) (bD Γ.P) ops.toList (nils.map (1000000000+·)++bI ops.toList ops.toList) ops.toList s fun s'=>fQ keep s' (K .normal)):SPB Γ s (.region id ops false) K:=by
 refine ⟨fun a w hI=>?_⟩
 obtain ⟨l⟩:=ops
 refine wpIn_region ?_
 rw [show (⟨l⟩:Array Oper).size=l.length from rfl,List.range_eq_range']
 refine gt hΓ hT (di ho) l 0 s a w _ (fun j=>by simp) h hI ?_
 intro s' a' w' hK hI' hN hF
 obtain ⟨s2,h2,hle⟩:=dA hK
 exact ⟨hN,hF,s2,hI'.less hle,h2⟩
theorem ar {c:Code} {X:Type} (sh:X→St) (I:X→Prop) (μ:X→Nat) (x0:X) (h0:I x0) (hle:s.le (sh x0))
  (body:∀ x,I x→SPB Γ (sh x) c fun e s'=>match e with | .normal=>∃ x',I x'∧μ x'<μ x∧s'.le (sh x') | e=>K e s'):SPB Γ s (.loop c) K:=
 ⟨SP.loop sh I μ x0 h0 hle fun x hx=>(body x hx).out⟩
end
theorem ah {P:Program} {T:Tab} (hT:T.OK P) {f:FuncId} {fn:Func} {body:Code} {args:List AV} {r:AV} (hf:P.funcs[f]?=some fn) (hb:fn.body=some body)
  (hname:(fn.name == "runtime.NumGoroutine")=false) (hm:P.follows .mixedOrders=true) (hn:args.length≤fn.ntmps)
  (h:∀ (F:Fence) (n:Nat) (w0:World) (m0:Mem),aH.OK ⟨P,F,n,w0,m0,fn.ntmps⟩→F.round=none→1≤n→SPB ⟨P,F,n,w0,m0,fn.ntmps⟩ ⟨params 0 args,[]⟩ body (Ends T fn.results.toList r)):ae P f args r:=
 ae.ofSP hT hf hb hname hm hn fun F n w0 m0 hG hr h1=>(h F n w0 m0 hG hr h1).out
end Go.AI
namespace Go.AI
open Go
theorem AV.weak.slnil {o:Own} {sz sz':Nat}:(AV.sl o sz []).weak (.sl .no sz' []):=fun m v h=>by
 cases h with
 | sl _ _ _ base len cap ho hf hl hc hsz hcell b off hb g hm hr=>
  exact .sl _ _ _ _ _ _ (by intro k hk; cases hk) (by intro hk; cases hk) hl hc (by simp) (by simp) b off hb g (by simp) (by simp)
end Go.AI
namespace Go.AI
open Go
section
variable {Γ:aH} {T:Tab} {s:St} {K:Exit→St→Prop}
theorem SPB.cut {c:Code} {X:Type} (sh:X→St) (P:X→Prop) (h:SPB Γ s c fun e s'=>e = .normal∧∃ x,P x∧s'.le (sh x)) (k:∀ x,P x→K .normal (sh x)):SPB Γ s c K:=by
 refine ⟨fun a w hI=>wpIn_mono (h.out a w hI) ?_⟩
 rintro e a' w' ⟨hN,hF,s',hI',rfl,x,hx,hle⟩
 exact ⟨hN,hF,sh x,hI'.less hle,k x hx⟩
theorem SPB.frz {c:Code} (l:List Operand) (h:gV s l fun s'=>SPB Γ s' c K):SPB Γ s c K:=by
 refine ⟨fun a w hI=>?_⟩
 obtain ⟨s',h1,h2⟩:=cX _ _ h hI
 exact h1.out a w h2
end
end Go.AI
namespace Go.AI
open Go
section
variable {Γ:aH} {c:Ctx} {bx:List (Nat×List AV)} {w:World}
theorem WI.rebox (hW:WI Γ c bx w) {d:Nat} {cs cs':List AV} (h:get bx d=some cs) (hne:cs≠[]) (hl:cs'.length=cs.length) (hc:∀ x∈cs',x.isCell=true)
  (hr:∀ (vs:Array Value),(∀ (i:Nat) (x:AV) (v:Value),cs[i]?=some x→vs[i]?=some v→RC1 c x v)→∀ (i:Nat) (x:AV) (v:Value),cs'[i]?=some x→vs[i]?=some v→RC1 c x v):WI Γ c ((d,cs')::bx) w:=by
 obtain ⟨h1,h2,h3,vs,T,h4,h5,h6⟩:=hW.box d cs h hne
 refine ⟨hW.ext,hW.sub,hW.le0,hW.new,fun d' ds hd' hne'=>?_,fun d1 d2 c1 c2 g1 g2 n1 n2 hρ=>?_,fun k=>?_,fun k b o hx=>?_⟩
 ·rw [ak] at hd'
  split at hd'
  ·rename_i hdd
   subst hdd
   cases hd'
   exact ⟨h1,h2,hc,vs,T,h4,hl.trans h5,hr vs h6⟩
  ·exact hW.box d' ds hd' hne'
 ·rw [ak] at g1 g2
  split at g1
  ·rename_i e1
   split at g2
   ·rename_i e2; rw [e1,e2]
   ·rename_i e2
    rw [e1] at hρ ⊢
    exact hW.inj d d2 cs c2 h g2 hne n2 hρ
  ·rename_i e1
   split at g2
   ·rename_i e2
    rw [e2] at hρ ⊢
    exact hW.inj d1 d c1 cs g1 h n1 hne hρ
   ·exact hW.inj d1 d2 c1 c2 g1 g2 n1 n2 hρ
 ·have ho:=hW.own k
  refine ⟨ho.blk,ho.shape,fun g d' ds hg hd' hne'=>?_,ho.apart⟩
  rw [ak] at hd'
  split at hd'
  ·rename_i e; rw [e]; exact ho.box g d cs hg h hne
  ·exact ho.box g d' ds hg hd' hne'
 ·have hq:=hW.xo k b o hx
  refine ⟨hq.new,hq.obj,hq.kept,hq.mem,hq.map,fun d' ds hd' hne'=>?_,hq.own,hq.inj⟩
  rw [ak] at hd'
  split at hd'
  ·rename_i e; rw [e]; exact hq.box d cs h hne
  ·exact hq.box d' ds hd' hne'
end
section
variable {Γ:aH} {T:Tab} {s:St} {K:Exit→St→Prop}
theorem SPB.frzMap {c:Code} (k d:Nat) {b:Nat} {rows:List (List AV)} (h1:get s.t (xk k)=some (.me .ents k b rows)) (h2:get s.b d=some [.lit (.map (some b))]) (h:SPB Γ ⟨fY (AV.unme k) s.t,(d,[.mapv rows])::s.b⟩ c K):SPB Γ s c K:=by
 refine ⟨fun a w hI=>h.out a w ?_⟩
 obtain ⟨⟨cx,hW,ht⟩,hs,hd,hrn⟩:=hI
 have hx:=(show RX cx .ents k b rows (a.tmps.getD (xk k) Go.undef) from ht _ _ h1)
 have hx2:=hx
 obtain ⟨es,clock,e1,_⟩:=hx2
 obtain ⟨W1,W2⟩:=hW.freezeMap e1
 refine ⟨⟨_,W1.rebox h2 (by simp) rfl (by simp [AV.isCell]) (fun vs hvs i x v q1 q2=>?_),fun e z hz=>?_⟩,hs,hd,hrn⟩
 ·cases i with
  | succ i=>simp at q1
  | zero=>
   simp only [List.getElem?_cons_zero,Option.some.injEq] at q1
   subst q1
   have h3:=(show RD _ (.lit (.map (some b))) v from hvs 0 _ v rfl q2)
   cases h3
   exact hx.mapv W2.m fun es' clock' he=>by
    rw [e1] at he
    cases he
    exact if_pos rfl
 ·rw [bY] at hz
  obtain ⟨z',hz',rfl⟩:=Option.map_eq_some_iff.1 hz
  exact (ht e z' hz').leX W2
theorem eJ.ofB {P:Program} {T:Tab} (hT:T.OK P) {f:FuncId} {fn:Func} {body:Code} {args:List AV} {R:AV→Prop} (hf:P.funcs[f]?=some fn) (hb:fn.body=some body)
  (hname:(fn.name == "runtime.NumGoroutine")=false) (hm:P.follows .mixedOrders=true) (hn:args.length≤fn.ntmps)
  (h:∀ (F:Fence) (n:Nat) (w0:World) (m0:Mem),aH.OK ⟨P,F,n,w0,m0,fn.ntmps⟩→F.round=none→1≤n→SPB ⟨P,F,n,w0,m0,fn.ntmps⟩ ⟨params 0 args,[]⟩ body (fun e s=>∃ r,R r∧Ends T fn.results.toList r e s)):eJ P f args R:=
 eJ.ofSP hT hf hb hname hm hn fun F n w0 m0 hG hr h1=>(h F n w0 m0 hG hr h1).out
end
end Go.AI
namespace Go.AI
open Go
open Go.RowKit (Below)
def World.dr (w:World) (d:Nat):World:={ w with drawn:=w.drawn+d }
theorem gQ {F:Fence} {n:Nat} {P:Program} {all:Array Oper} {Q:Exit→Act→World→Prop} {i:Nat} {l:List Nat} {a:Act} {w:World} {o:Oper} (h0:all[i]?=some o) (hg:o.guard=none)
  (h:o.wpIn F n P a w (fun a w=>wpOpsIn F n P all Q l a w) Q):wpOpsIn F n P all Q (i::l) a w:=by
 simp only [wpOpsIn,h0,Region.wanted,hg,if_true]
 exact h
section
variable {P:Program} {W:World} {r b:Nat} {es:Array MapEntry} {clock:Nat} {seen:Array Nat}
theorem run_range_map {t:TypeId} {k e:TypeId} (ht:P.underlying t=some (.map k e)) (hb:W.heap[b]?=some (.map es clock)) :
  (Instr.range t (.map (some b))).run P W = .ok (.pointer (some ⟨W.heap.size,0,none⟩)) (W.alloc (.mapIter (some b) clock #[] clock)):=by
 simp only [Instr.range,Sem.run_bind,run_underlying ht,Result.andThen_ok,MapKept.run_getObj_map hb,Sem.run_pure,run_newObj]
 rfl
theorem j8 {s:Nat} {q:Nat} (hr:W.heap[r]?=some (.mapIter (some b) s seen q)):(getObj r).run P W = .ok (.mapIter (some b) s seen q) W:=by
 simp [getObj,Sem.run,hr]
theorem qe {s:Nat} {q:Nat} (hr:W.heap[r]?=some (.mapIter (some b) s seen q)) (o:Obj):(setObj r o).run P W = .ok () (W.putObj r o):=by
 simp [setObj,Sem.run,hr,World.putObj]
theorem Ak (n:Nat) (hn:0<n):∃ k d,k<n∧(choose (.mapNext n)).run P W = .ok k (World.dr W d):=by
 have hrun:(choose (.mapNext n)).run P W=if (Question.mapNext n).forced then .ok 0 W else .ok ((Question.mapNext n).cut (W.tape W.drawn (.mapNext n))) { W with drawn:=W.drawn+1 }:=rfl
 rw [hrun]
 cases hf:(Question.mapNext n).forced with
 | true=>exact ⟨0,0,hn,rfl⟩
 | false=>exact ⟨_,1,Nat.mod_lt _ hn,rfl⟩
theorem run_next_map (T:TypeId) (hr:W.heap[r]?=some (.mapIter (some b) clock seen clock)) (hb:W.heap[b]?=some (.map es clock)) (hborn:∀ e∈es.toList,e.born<clock) :
  (∃ d,(Instr.next (.pointer (some ⟨r,0,none⟩)) false T).run P W = .ok (.tuple #[.bool false]) (World.dr W d)∧∀ e∈es.toList,seen.contains e.born=true) ∨
  ∃ e d,e∈es.toList∧seen.contains e.born=false∧(Instr.next (.pointer (some ⟨r,0,none⟩)) false T).run P W = .ok (.tuple #[.bool true,e.key,e.val]) ((World.dr W d).putObj r (.mapIter (some b) clock (seen.push e.born) clock)):=by
 have hall:(!seen.isEmpty && !es.isEmpty&&es.all (·.born≥clock))=false:=by
  cases h1:es.isEmpty with
  | true=>simp
  | false=>
   have:es.all (·.born≥clock)=false:=by
    rw [Bool.eq_false_iff]
    intro hc
    have hpos:0<es.size:=by
     rw [Array.isEmpty_eq_false_iff] at h1
     exact Array.size_pos_iff.2 h1
    have h2:=Array.all_eq_true.1 hc 0 hpos
    have h3:=hborn es[0] (by simp)
    simp at h2; omega
   simp [this]
 obtain ⟨left,hleft⟩:∃ left,es.filter (fun e => !seen.contains e.born)=left:=⟨_,rfl⟩
 have hlm:∀ e,e∈left.toList↔e∈es.toList∧seen.contains e.born=false:=fun e=>by
  rw [← hleft]; simp
 have hold:left.filter (fun e=>decide (e.born<clock))=left:=by
  rw [Array.filter_eq_self]
  intro e he
  simpa using hborn e ((hlm e).1 (by simpa using he)).1
 have hnew:left.filter (fun e=>decide (e.born≥clock))=#[]:=by
  rw [Array.filter_eq_empty_iff]
  intro e he
  have:=hborn e ((hlm e).1 (by simpa using he)).1
  simp; omega
 have hcand:∀ cand:Array (Option MapEntry),cand=(if left.isEmpty then #[none] else #[])++(left++#[]).map some→0<cand.size∧∀ k (hk:k<cand.size),(cand[k]?=some none∧left=#[])∨∃ e,cand[k]?=some (some e)∧e∈left.toList:=by
  rintro cand rfl
  cases hl:left.isEmpty with
  | true=>
   have:left=#[]:=Array.isEmpty_iff.1 hl
   subst this
   refine ⟨by simp,fun k hk=>?_⟩
   simp at hk
   subst hk
   exact .inl ⟨by simp,rfl⟩
  | false=>
   have hpos:0<left.size:=by
    rw [Array.isEmpty_eq_false_iff] at hl
    exact Array.size_pos_iff.2 hl
   refine ⟨by simpa using hpos,fun k hk => .inr ?_⟩
   have hk':k<left.size:=by simpa using hk
   exact ⟨left[k],by simp [hk'],by simp⟩
 obtain ⟨hc0,hck⟩:=hcand _ rfl
 obtain ⟨k,d,hk,hrun⟩:=Ak (P:=P) (W:=W) _ hc0
 have hr':(World.dr W d).heap[r]?=some (.mapIter (some b) clock seen clock):=hr
 simp only [Instr.next,Sem.run_bind,j8 hr,Result.andThen_ok,MapKept.run_getObj_map hb,hall,Bool.false_eq_true,if_false,Sem.run_pure,hleft,hold,hnew,hrun]
 rcases hck k hk with ⟨h1,h2⟩ | ⟨e,h1,h2⟩
 ·refine .inl ⟨d,by simp only [h1,Sem.run_pure],fun e he=>?_⟩
  cases hc:seen.contains e.born with
  | true=>rfl
  | false=>
   have:=(hlm e).2 ⟨he,hc⟩
   rw [h2] at this
   simp at this
 ·refine .inr ⟨e,d,((hlm e).1 h2).1,((hlm e).1 h2).2,?_⟩
  simp only [h1,Sem.run_bind,qe hr',Result.andThen_ok,Sem.run_pure]
theorem run_entry_map {e:MapEntry} (hr:W.heap[r]?=some (.mapIter (some b) clock seen clock)) (hb:W.heap[b]?=some (.map es clock)) (hback:seen.back?=some e.born) (he:e∈es.toList) (hu:∀ f∈es.toList,f.born=e.born→f=e) :
  (Instr.entry (.pointer (some ⟨r,0,none⟩))).run P W = .ok (.tuple #[e.key,e.val]) W:=by
 have hf:es.find? (fun f=>f.born==e.born)=some e:=by
  rw [← Array.find?_toList]
  cases hx:es.toList.find? (fun f=>f.born==e.born) with
  | none=>
   have:=List.find?_eq_none.1 hx e he
   simp at this
  | some f=>
   have h1:=List.mem_of_find?_eq_some hx
   have h2:=List.find?_some hx
   rw [hu f h1 (by simpa using h2)]
 simp only [Instr.entry,Sem.run_bind,j8 hr,Result.andThen_ok,hback,MapKept.run_getObj_map hb,bne_self_eq_false,Bool.false_eq_true,if_false,Sem.run_pure,hf]
end
section
variable {ι α:Type} {Y:YB ι α} (hY:Y.OK)
theorem YI.rebase {k:ι} {s:St} {a:Act} {w:World} (hJ:Y.J k w) (hm:Y.m.sub w) (hsz:a.tmps.size=Y.nt) (htm:∀ d x,get Y.tm d=some x→RD Y.m x (a.tmps.getD d Go.undef)) (hdf:a.defers=[])
  (hx:∀ d x,get s.t d=some x→RD Y.m x (a.tmps.getD d Go.undef)) (hb:s.b=[]):YI Y (false,k) s a w:=by
 obtain ⟨t,b⟩:=s
 simp only at hb
 subst hb
 exact ⟨⟨w,hJ,⟨⟨_,WI.init (Γ:=Y.base w) hm rfl,fun d x h=>RC.of_RD (c:=⟨_,_,_,Y.m,_,_⟩) (hx d x h)⟩,hsz⟩,.refl _⟩,htm,hdf⟩
theorem YI.sub {g:Far ι} {s:St} {a:Act} {w:World} (h:YI Y g s a w):Y.m.sub w:=by
 obtain ⟨⟨W0,h1,h2,h3⟩,_⟩:=h
 obtain ⟨⟨c,hW,_⟩,_⟩:=h2
 exact ⟨fun b o v hb=>hW.sub.cell b o v (hW.le0.cell b o v hb),fun b x hb=>hW.sub.map b x (hW.le0.map b x hb)⟩
include hY in
theorem YI.now {k:ι} {s:St} {a:Act} {w:World} (h:YI Y (false,k) s a w):Y.J k w:=by
 obtain ⟨⟨W0,h1,h2,h3⟩,_⟩:=h
 obtain ⟨⟨c,hW,_⟩,_⟩:=h2
 exact hY.ab k W0 w h1 ⟨hW.ext.toBelow h3,h3.more⟩
theorem YI.nt {g:Far ι} {s:St} {a:Act} {w:World} (h:YI Y g s a w):a.tmps.size=Y.nt:=by
 obtain ⟨⟨W0,h1,h2,h3⟩,_⟩:=h
 exact h2.size
end
end Go.AI
namespace Go.AI
open Go
open Go.RowKit (Below)
theorem Fo {w w':World} (hb:Below w.heap.size w w') (hd:w.drawn≤w'.drawn):∃ q os,w'=Sort.grow (w.drewN q) os:=by
 refine ⟨w'.drawn - w.drawn,w'.heap.extract w.heap.size w'.heap.size,?_⟩
 have hh:w'.heap=w.heap++w'.heap.extract w.heap.size w'.heap.size:=by
  apply Array.ext_getElem?
  intro i
  by_cases hi:i<w.heap.size
  ·rw [Array.getElem?_append_left hi,hb.block i hi]
  ·rw [Array.getElem?_append_right (by omega),Array.getElem?_extract]
   by_cases hi2:i<w'.heap.size
   ·rw [if_pos (by omega),show w.heap.size+(i - w.heap.size)=i by omega]
   ·rw [if_neg (by omega),Array.getElem?_eq_none (by omega)]
 have h1:=hb.os
 have h2:=hb.tape
 have h3:=hb.output
 obtain ⟨h,t,d,o,u⟩:=w
 obtain ⟨h',t',d',o',u'⟩:=w'
 simp only [Sort.grow,World.drewN] at *
 rw [h1,h2,h3]
 congr 1
 omega
theorem RD.ints (m:Mem) (k:List Int):RD m (Go.AI.keyA k) (cq k):=by
 unfold Go.AI.keyA cq
 refine .agg _ _ (by simp) (fun x hx=>?_) (fun i x u h1 h2=>?_)
 ·obtain ⟨n,_,rfl⟩:=List.mem_map.1 hx; rfl
 ·simp only [List.getElem?_map,Option.map_eq_some_iff,List.getElem?_toArray] at h1 h2
  obtain ⟨n,hn',rfl⟩:=h1
  obtain ⟨n',hn'',rfl⟩:=h2
  rw [hn'] at hn''; cases hn''
  exact .int _ _
def HY:Mem:=⟨fun _ _=>none,fun _=>none⟩
theorem CW (w:World):HY.sub w:=⟨fun _ _ _ h=>(by cases h),fun _ _ h=>(by cases h)⟩
section
variable {P:Program} {α:Type} [Inhabited α] (encI:α→List Int) (k:Nat) (cf:α→α→Int)
def ic (x:α):List Value:=(encI x).map (Value.int .i64)
theorem AQ {g:FuncId} (h:∀ x y,ae P g [keyA (encI x),keyA (encI y)] (.int .i64 (cf x y))) (blk off size:Nat) (w:World):Proofs.CmpLays P g #[] (ic encI) k cf blk off size w:=by
 intro m os dk hdk x y
 have hc:=(h x y).runs HY (Proofs.sortWorldK (ic encI) k w blk off m dk os) [cq (encI x),cq (encI y)] (CW _) rfl (fun i a v h1 h2=>by
  match i,h1,h2 with
  | 0,h1,h2=>cases h1; cases h2; exact RD.ints _ _
  | 1,h1,h2=>cases h1; cases h2; exact RD.ints _ _)
 refine Calls.mono hc ?_
 rintro e w' ⟨v,m',rfl,h1,_,_,hb,_,hd⟩
 exact ⟨by rw [h1.int_eq],Fo hb hd.drawn⟩
theorem ye {l:List α} {i j:Nat} {x:α} (hx:l[i]?=some x) (hj:j<k):(Sort.flatK (ic encI) k l.toArray)[i*k+j]! = (ic encI x)[j]!∧i*k+j<(Sort.flatK (ic encI) k l.toArray).size:=by
 have hi:i<l.length:=(List.getElem?_eq_some_iff.1 hx).1
 have hlt:i*k+j<l.toArray.size*k:=by
  have:(i+1)*k≤l.length*k:=Nat.mul_le_mul_right _ hi
  rw [Nat.add_mul,Nat.one_mul] at this
  simpa using (by omega:i*k+j<l.length*k)
 have hg:=Sort.get_flatK (ic encI) k l.toArray (i*k+j) hlt
 have h0:0<k:=by omega
 have e1:(i*k+j) / k=i:=by rw [Nat.mul_comm,Nat.mul_add_div h0,Nat.div_eq_of_lt hj,Nat.add_zero]
 have e2:(i*k+j) % k=j:=by rw [Nat.mul_comm,Nat.mul_add_mod,Nat.mod_eq_of_lt hj]
 rw [e1,e2] at hg
 have:l.toArray[i]! = x := by
  rw [getElem!_pos l.toArray i (by simpa using hi)]
  simpa using (List.getElem?_eq_some_iff.1 hx).2
 rw [this] at hg
 exact ⟨hg,by rw [Sort.size_flatK]; exact hlt⟩
structure Bk (lt:α→α→Bool) (l l':List α) (blk off:Nat) (w w2:World):Prop where
 perm:l'.Perm l
 sorted:l'.Pairwise fun x y=>lt y x=false
 cell:∀ (i:Nat) (x:α) (j:Nat),l'[i]?=some x→j<k→w2.cell? ⟨blk,off+(i*k+j),none⟩=some ((ic encI x)[j]!)
 other:∀ b,b≠blk→b<w.heap.size→w2.heap[b]?=w.heap[b]?
 soft:aX w2 blk
 os:w2.os=w.os
 tape:w2.tape=w.tape
 output:w2.output=w.output
 size:w.heap.size≤w2.heap.size
 more:dU w w2
theorem kd (w:World) (blk off m:Nat) (dk:Array α) (os:Array Obj) (b:Nat) (hb:b<w.heap.size):(Proofs.sortWorldK (ic encI) k w blk off m dk os).heap[b]?=if blk=b then (w.heap[b]?).map (Sort.onCells (Sort.putCells id off (Sort.flatK (ic encI) k dk))) else w.heap[b]?:=by
 unfold Proofs.sortWorldK Sort.grow Sort.putRowK Sort.putRow Sort.mapBlock
 simp only
 rw [Array.getElem?_append_left (by simpa [Sort.ahead] using hb),Array.getElem?_modify]
 rfl
set_option maxHeartbeats 1000000 in
theorem wV {ρ:Shelf.Ren} (L:Proofs.SlLaysF0.n6 P ρ) (hk:∀ x,(encI x).length=k) (aE:∀ w,(isAgg (ρ.t 24)).run P w = .ok true w) (zE:∀ w,(Go.sizeOf (ρ.t 24)).run P w = .ok k w) (hO:Sort.SWO (Proofs.ltOf cf)) {g:FuncId}
  (hcmp:∀ x y,ae P g [keyA (encI x),keyA (encI y)] (.int .i64 (cf x y))) (eg:∀ args w,(callFunc g args).run P w = .ok (.enter g args) w) (l:List α) (blk off cap:Nat) (w:World)
  (hcell:∀ (i:Nat) (x:α) (j:Nat),l[i]?=some x→j<k→w.cell? ⟨blk,off+(i*k+j),none⟩=some ((ic encI x)[j]!)) (hs:aX w blk) (hsz:l.length<4611686018427387904) :
  Calls P (ρ.f 6) #[.slice (some ⟨blk,off,none⟩) l.length cap,.func (.func g) #[] #[]] w fun e w2=>e = .returned (.tuple #[])∧∃ l',Bk encI k (Proofs.ltOf cf) l l' blk off w w2:=by
 obtain ⟨cs,U,hblk⟩:=hs
 have hlt:=(Array.getElem?_eq_some_iff.1 hblk).1
 have hfz:∀ o,w.frozen? ⟨blk,o,none⟩=false:=fun o=>by simp [World.frozen?,hblk]
 have hH:Sort.HoldsK (ic encI) k w blk off l.toArray:=by
  intro t ht
  refine ⟨?_,hfz _⟩
  rw [Sort.size_flatK] at ht
  have h0:0<k:=Nat.pos_of_ne_zero fun h=>by subst h; simp at ht
  have hti:t / k<l.length:=by
   have:t<l.length*k:=by simpa using ht
   exact Nat.div_lt_of_lt_mul (by rwa [Nat.mul_comm])
  have htj:t % k<k:=Nat.mod_lt _ h0
  have e:t / k*k+t % k=t:=by rw [Nat.mul_comm]; exact Nat.div_add_mod t k
  have h1:=hcell (t / k) l[t / k] (t % k) (List.getElem?_eq_getElem hti) htj
  have h2:=(ye encI k (l:=l) (i:=t / k) (j:=t % k) (List.getElem?_eq_getElem hti) htj).1
  rw [e] at h1 h2
  rw [h1,id,h2]
 have hc:=Proofs.AnyQ.slices_SortFunc L k aE zE (ic encI) (fun x=>by simp [ic,hk]) (fun x v hv=>by
  obtain ⟨n,_,rfl⟩:=List.mem_map.1 hv
  rfl) cf hO g #[] blk off cap l.toArray w eg (AQ encI k cf hcmp blk off _ w) hH hlt (by simpa using hsz)
 refine Calls.mono (by simpa using hc) ?_
 rintro e w2 ⟨rfl,d',hp,hsd,n,os,rfl⟩
 refine ⟨rfl,d'.toList,?_⟩
 have hds:d'.size=l.length:=by have:=hp.1; simpa using this
 have hH2:=Proofs.holdsK_sortWorldK_c (ic encI) k w blk off l.toArray d' n os hH hlt (by simpa using hds)
 have hsize:=Proofs.size_sortWorldK_c (ic encI) k w blk off n d' os
 refine ⟨?_,?_,fun i x j hx hj=>?_,fun b hb hbl=>?_,?_,rfl,rfl,rfl,hsize,⟨by show w.drawn≤w.drawn+n; omega⟩⟩
 ·have:=hp.2.2
  have h2:(d'.extract 0 l.length).toList=d'.toList:=by simp [List.take_of_length_le,hds]
  rw [h2] at this
  simpa using this
 ·rw [List.pairwise_iff_getElem]
  intro i j hi hj hij
  have:=hsd i j (Nat.zero_le _) hij (by simpa [hds] using hj)
  have h1:d'[i]! = d'.toList[i]:=by rw [getElem!_pos d' i (by simpa using hi)]; simp
  have h2:d'[j]! = d'.toList[j]:=by rw [getElem!_pos d' j (by simpa using hj)]; simp
  rw [h1,h2] at this
  exact this
 ·have h2:=ye encI k (l:=d'.toList) hx hj
  simp only [Array.toArray_toList] at h2
  have:=(hH2 _ h2.2).1
  rw [this,id,h2.1]
 ·rw [kd _ _ _ _ _ _ _ _ _ hbl,if_neg (Ne.symm hb)]
 ·refine ⟨Sort.putCells id off (Sort.flatK (ic encI) k d') cs,U,?_⟩
  rw [kd encI k w blk off n d' os blk hlt,if_pos rfl,hblk]
  rfl
end
end Go.AI
namespace Go.AI
open Go
open Go.RowKit (Below)
def Mem.both (a b:Mem):Mem:=⟨fun x o=>match a x o with | some v=>some v | none=>b x o,fun x=>match a.maps x with | some v=>some v | none=>b.maps x⟩
theorem Mem.both_left (a b:Mem):a.le (a.both b):=⟨fun x o v h=>by simp [Mem.both,h],fun x v h=>by simp [Mem.both,h]⟩
theorem Mem.both_right {a b:Mem} {w:World} (ha:a.sub w) (hb:b.sub w):b.le (a.both b):=by
 refine ⟨fun x o v h=>?_,fun x v h=>?_⟩
 ·simp only [Mem.both]
  cases hx:a x o with
  | none=>exact h
  | some u=>
   have h1:=ha.cell x o u hx
   have h2:=hb.cell x o v h
   rw [h1] at h2; exact h2
 ·simp only [Mem.both]
  cases hx:a.maps x with
  | none=>exact h
  | some u=>
   have h1:=ha.map x u hx
   have h2:=hb.map x v h
   rw [h1] at h2
   simp only [Option.some.injEq,Obj.map.injEq] at h2
   obtain ⟨e1,e2⟩:=h2
   rw [show u=v from Prod.ext e1 e2]
theorem Mem.both_sub {a b:Mem} {w:World} (ha:a.sub w) (hb:b.sub w):(a.both b).sub w:=by
 refine ⟨fun x o v h=>?_,fun x v h=>?_⟩
 ·simp only [Mem.both] at h
  cases hx:a x o with
  | none=>rw [hx] at h; exact hb.cell x o v h
  | some u=>rw [hx] at h; cases h; exact ha.cell x o _ hx
 ·simp only [Mem.both] at h
  cases hx:a.maps x with
  | none=>rw [hx] at h; exact hb.map x v h
  | some u=>rw [hx] at h; cases h; exact ha.map x _ hx
theorem Mem.both_cell {a b:Mem} {x o:Nat} {v:Value} (h:(a.both b) x o=some v):a x o=some v∨b x o=some v:=by
 simp only [Mem.both] at h
 cases hx:a x o with
 | none=>rw [hx] at h; exact .inr h
 | some u=>rw [hx] at h; cases h; exact .inl rfl
theorem Mem.both_maps {a b:Mem} {x:Nat} {v:Array MapEntry×Nat} (h:(a.both b).maps x=some v):a.maps x=some v∨b.maps x=some v:=by
 simp only [Mem.both] at h
 cases hx:a.maps x with
 | none=>rw [hx] at h; exact .inr h
 | some u=>rw [hx] at h; cases h; exact .inl rfl
theorem GrI.soft {N:Nat} {W W':World} (h:GrI N W W') {b:Nat} (hb:aX W b):aX W' b:=by
 obtain ⟨c,T,hb⟩:=hb
 exact ⟨c,T,h.obj hb (.inr rfl)⟩
theorem Mem.News.trans {m m' m2:Mem} {B B2:Nat→Prop} {w w2:World} (h:m.News B m' w) (k:m'.News B2 m2 w2) (hB:∀ k,B2 k→B k) (hs:∀ b,aX w b→aX w2 b):m.News B m2 w2:=by
 refine ⟨fun b o v hv=>?_,fun b x hx=>?_⟩
 ·rcases k.cell b o v hv with h1 | h1
  ·exact (h.cell b o v h1).imp id fun ⟨g1,g2⟩=>⟨g1,hs b g2⟩
  ·exact .inr ⟨hB _ h1.1,h1.2⟩
 ·rcases k.map b x hx with h1 | h1
  ·exact h.map b x h1
  ·exact .inr (hB _ h1)
def kf (P:Program) {α:Type} (avs:α→List AV) (f:FuncId) (cap:List AV) (items:List α):Prop:=
 (∀ (args:Array Value) (w:World),(callFunc f args).run P w = .ok (.enter f args) w) ∧
 ∀ (m:Mem) (lb:Array Value),cap.length=lb.size→(∀ (i:Nat) (x:AV) (v:Value),cap[i]?=some x→lb[i]?=some v→RD m x v) →
  ∀ (F:Fence) (n:Nat),(∀ f,F.fn f)→F.depth=none→F.alive=false→F.round=none→∀ (l:Nat) (J:List α→Mem→World→Prop) (Jx:World→Prop) (W:World),m.sub W →
   (∀ p m1 m2 W1 W2,J p m1 W1→GrI W.heap.size W1 W2→m1.le m2→m2.sub W2→m1.News (W1.heap.size≤·) m2 W2→J p m2 W2)→(∀ W1 W2,Jx W1→GrI W.heap.size W1 W2→Jx W2) →
   (∀ p x r m1 W1 (vs:Array Value),items=p++x::r→m.le m1→m1.sub W1→J p m1 W1→(avs x).length=vs.size→(∀ (i:Nat) (a:AV) (v:Value),(avs x)[i]?=some a→vs[i]?=some v→RD m1 a v) →
    YieldAt F (n - 1) P l vs W1 fun e W'=>(e = .returned (.bool true)∧J (p++[x]) m1 W'∧m1.sub W')∨(e = .returned (.bool false)∧Jx W'∧m1.sub W')) →
   J [] m W→CallsIn F n P f (#[.func (.yield l) #[] #[]]++lb) W fun e W'=>(∃ v,e = .returned v)∧((∃ m',J items m' W')∨Jx W')
theorem WI.growM {Γ:aH} {c:Ctx} {bx:List (Nat×List AV)} {w w':World} (hW:WI Γ c bx w) {N:Nat} (hN:Γ.w0.heap.size≤N) (hg:GrI N w w') {m':Mem} (hle:c.m.le m') (hs:m'.sub w') (hn:c.m.News (w.heap.size≤·) m' w') :
  WI Γ { c with m:=m' } bx w':=by
 have hB:Γ.w0.heap.size≤w.heap.size:=hW.ext.size
 have hle':c.le { c with m:=m' }:=⟨hle,rfl,rfl,rfl,rfl,rfl⟩
 have hno:∀ b o,b<w.heap.size→c.m b o=none→m' b o=none:=fun b o hb h=>by
  cases hm:m' b o with
  | none=>rfl
  | some v=>
   rcases hn.cell b o v hm with h1 | h1
   ·rw [h] at h1; cases h1
   ·omega
 refine ⟨hW.ext.trans ⟨hg.os,hg.tape,hg.output,hg.size,fun k hk=>hg.block k (by have:=not_free hk; omega) (.inl (by have:=not_free hk; omega))⟩,hs,hW.le0.trans hle,⟨fun b o v h=>?_,fun b x h=>?_⟩,fun d cs h hne=>?_,hW.inj,fun k=>?_,fun k b o h=>?_⟩
 ·rcases hn.cell b o v h with h | h
  ·exact (hW.new.cell b o v h).imp id fun ⟨h1,h2⟩=>⟨h1,hg.soft h2⟩
  ·exact .inr ⟨dD (Nat.le_trans hB h.1),h.2⟩
 ·rcases hn.map b x h with h | h
  ·exact hW.new.map b x h
  ·exact .inr (dD (Nat.le_trans hB h))
 ·have hlt:=hW.lt_box h hne
  obtain ⟨h1,h2,h3,vs,T,h4,h5,h6⟩:=hW.box d cs h hne
  exact ⟨h1,fun o=>hno _ o hlt (h2 o),h3,vs,T,hg.obj h4 (.inr rfl),h5,fun i x v g1 g2=>(h6 i x v g1 g2).mono hle'⟩
 ·have ho:=hW.own k
  refine ⟨fun g hg'=>?_,ho.shape,ho.box,ho.apart⟩
  obtain ⟨len,cap,T,cells,h1,h2,h3,h4,h5⟩:=ho.blk g hg'
  exact ⟨len,cap,T,cells,h1,hg.obj h2 (.inr rfl),h3,fun o ho'=>hno g o (hW.lt_own hg') (h4 o ho'),h5⟩
 ·have hx:=hW.xo k b o h
  have hlt:=hW.lt_x h
  refine ⟨hx.new,hg.obj hx.obj (.inr (tR hx.kept)),hx.kept,fun i hi=>hno b i hlt (hx.mem i hi),?_,hx.box,hx.own,hx.inj⟩
  show m'.maps b=none
  cases hm:m'.maps b with
  | none=>rfl
  | some v=>
   rcases hn.map _ _ hm with h1 | h1
   ·rw [hx.map] at h1; cases h1
   ·omega
theorem bZ.growM {P:Program} {F:Fence} {n nt:Nat} {w0:World} {m1 m2:Mem} {s:St} {a:Act} {w w':World} (h:bZ ⟨P,F,n,w0,m1,nt⟩ s a w) {N:Nat} (hN:w0.heap.size≤N) (hg:GrI N w w') (hle:m1.le m2) (hs:m2.sub w') (hn:m1.News (w.heap.size≤·) m2 w') :
  bZ ⟨P,F,n,w0,m2,nt⟩ s a w':=by
 obtain ⟨⟨c,hW,ht⟩,h2⟩:=h
 have hcs:c.m.sub w':=(hW.grownI hN hg).sub
 have hr:=Mem.both_right hs hcs
 have hW':=hW.growM hN hg (m':=m2.both c.m) hr (Mem.both_sub hs hcs) ⟨fun b o v hv=>by
  rcases Mem.both_cell hv with h | h
  ·rcases hn.cell b o v h with h | h
   ·exact .inl (hW.le0.cell b o v h)
   ·exact .inr h
  ·exact .inl h,fun b x hx=>by
  rcases Mem.both_maps hx with h | h
  ·rcases hn.map b x h with h | h
   ·exact .inl (hW.le0.map b x h)
   ·exact .inr h
  ·exact .inl h⟩
 refine ⟨⟨_,hW'.re (Γ':=⟨P,F,n,w0,m2,nt⟩) rfl (Mem.both_left m2 c.m) ⟨fun b o v hv=>?_,fun b x hx=>?_⟩,fun d x hx=>RC.mono (c':={ c with m:=m2.both c.m }) ⟨hr,rfl,rfl,rfl,rfl,rfl⟩ (ht d x hx)⟩,h2⟩
 ·rcases Mem.both_cell hv with h | h
  ·exact .inl h
  ·rcases hW.new.cell b o v h with h | h
   ·exact .inl (hle.cell b o v h)
   ·exact .inr ⟨h.1,hg.soft h.2⟩
 ·rcases Mem.both_maps hx with h | h
  ·exact .inl h
  ·rcases hW.new.map b x h with h | h
   ·exact .inl (hle.map b x h)
   ·exact .inr h
section
variable {Γ:aH}
theorem SP.rangeM2 (hΓ:Γ.OK) (hro:Γ.F.round=none) (h1:1≤Γ.n) {s:St} {g:Operand} {ps:Array Tmp} {assign body:Code} {K:Exit→St→Prop} {α:Type} (avs:α→List AV)
  {f:FuncId} {cap:List AV} {items:List α} (hg:ev s g = .clo f cap) (hseq:kf Γ.P avs f cap items) (hsz:∀ x,(avs x).length=ps.size)
  (t0:List α→List (Nat×AV)) (ks:List Nat) (hks:∀ p,de (t0 p)=ks) (B:List α→List (Nat×List AV)) (hle:s.le ⟨t0 [],B []⟩)
  (hk:(f8 ks (wrs assign++(wrs body++ps.toList))&&f8 ks [1000000000]&&f8 [1000000000] (wrs assign)&&(ps.toList.all fun p=>Nat.blt p Γ.nt))=true) (hnd:ps.toList.Nodup)
  (round:∀ (F':Fence) (n':Nat) (m':Mem),aH.OK ⟨Γ.P,F',n',Γ.w0,m',Γ.nt⟩→(∃ l,F'.round=some l)→n'=Γ.n - 1 - 1→∀ (pre:List α) (x:α) (rest:List α),items=pre++x::rest →
   SP ⟨Γ.P,F',n',Γ.w0,m',Γ.nt⟩ ⟨qb ps.toList (avs x)++t0 pre,B pre⟩ assign fun e s1=>e = .normal∧s1.le ⟨t0 pre,B pre⟩ ∧
    SP ⟨Γ.P,F',n',Γ.w0,m',Γ.nt⟩ s1 body (zQ t0 B K (pre++[x])))
  (done:K .normal ⟨t0 items,B items⟩):SP Γ s (.rangeFunc g ps assign body) K:=by
 intro a w hI
 simp only [Bool.and_eq_true] at hk
 obtain ⟨⟨⟨hk1,hk2⟩,hk3⟩,hk4⟩:=hk
 obtain ⟨⟨c,hW,ht⟩,hsize,⟨Ds,hD1,hD2,hD3⟩,_⟩:=hI
 have hgv:RC c (.clo f cap) (a.eval g):=by rw [← hg]; exact aB ht g
 obtain ⟨lb,hlb,hcl,hcr⟩:∃ lb:Array Value,a.eval g = .func (.func f) #[] lb∧cap.length=lb.size∧∀ (i:Nat) (x:AV) (v:Value),cap[i]?=some x→lb[i]?=some v→RD c.m x v:=by
  have h:RD c.m (.clo f cap) (a.eval g):=hgv
  generalize a.eval g=v at h
  cases h with
  | clo _ _ vs hl hr=>exact ⟨vs,rfl,hl,hr⟩
 have hw0:Γ.w0.heap.size≤w.heap.size:=hW.ext.size
 -- the ground of the rounds
 have hΓ2:∀ l m,aH.OK ⟨Γ.P,Γ.F.inRound l,Γ.n - 1 - 1,Γ.w0,m,Γ.nt⟩:=fun l m=>⟨hΓ.fn,hΓ.depth,hΓ.alive,hΓ.mixed⟩
 let G:Mem→aH:=fun m=>⟨Γ.P,Γ.F,Γ.n,Γ.w0,m,Γ.nt⟩
 have hGl:∀ (m:Mem) (l:Nat) (s:St) (a:Act) (w:World),bZ (G m) s a w→bZ ⟨Γ.P,Γ.F.inRound l,Γ.n - 1 - 1,Γ.w0,m,Γ.nt⟩ s a w:=fun m l s a w h=>by
  obtain ⟨⟨c',hW',ht'⟩,h2⟩:=h
  exact ⟨⟨c',hW'.re rfl hW'.le0 hW'.new,ht'⟩,h2⟩
 have hlG:∀ (m:Mem) (l:Nat) (s:St) (a:Act) (w:World),bZ ⟨Γ.P,Γ.F.inRound l,Γ.n - 1 - 1,Γ.w0,m,Γ.nt⟩ s a w→bZ (G m) s a w:=fun m l s a w h=>by
  obtain ⟨⟨c',hW',ht'⟩,h2⟩:=h
  exact ⟨⟨c',hW'.re rfl hW'.le0 hW'.new,ht'⟩,h2⟩
 have hI0:bZ (G c.m) ⟨t0 [],B []⟩ a w:=(show bZ (G c.m) s a w from ⟨⟨c,hW.re rfl (.refl _) ⟨fun b o v h => .inl h,fun b x h => .inl h⟩,ht⟩,hsize⟩).less hle
 have hback:∀ (m:Mem) (s:St) (a:Act) (W:World),c.m.le m→c.m.News (w.heap.size≤·) m W→(∀ b,aX w b→aX W b)→bZ (G m) s a W→∃ c,WI Γ c s.b W∧∀ d x,get s.t d=some x→RC c x (a.tmps.getD d Go.undef):=fun m s a W hle hnew hk h=>by
  obtain ⟨⟨c',hW',ht'⟩,_⟩:=h
  refine ⟨c',hW'.re rfl (hW.le0.trans (hle.trans hW'.le0)) ⟨fun b o v h=>?_,fun b x h=>?_⟩,ht'⟩
  ·rcases hW'.new.cell b o v h with h | h
   ·rcases hnew.cell b o v h with h | h
    ·rcases hW.new.cell b o v h with h | h
     ·exact .inl h
     ·exact .inr ⟨h.1,hk b h.2⟩
    ·exact .inr ⟨dD (Nat.le_trans hw0 h.1),h.2⟩
   ·exact .inr h
  ·rcases hW'.new.map b x h with h | h
   ·rcases hnew.map b x h with h | h
    ·rcases hW.new.map b x h with h | h
     ·exact .inl h
     ·exact .inr h
    ·exact .inr (dD (Nat.le_trans hw0 h))
   ·exact .inr h
 have hsubm:∀ (m:Mem) (s:St) (a:Act) (W:World),bZ (G m) s a W→m.sub W:=fun m s a W h=>by
  obtain ⟨⟨c',hW',_⟩,_⟩:=h
  exact ⟨fun b o v hb=>hW'.sub.cell b o v (hW'.le0.cell b o v hb),fun b x hb=>hW'.sub.map b x (hW'.le0.map b x hb)⟩
 have hfin:∀ (m:Mem) (D:Nat) (s:St) (W:World),w.heap.size≤D→c.m.le m→c.m.News (w.heap.size≤·) m W→bZ (G m) s a W→NC w W→W.heap[D]?=some (.deferred (some []))→Inv Γ s { a with defers:={ target := .collected D,args:=#[] }::a.defers } W:=fun m D s W hD hle hnew hT hN hWD=>by
  refine ⟨hback m s a W hle hnew hN.soft hT,hsize,⟨D::Ds,by simp [kc,hD1],List.nodup_cons.2 ⟨fun hc=>?_,hD2⟩,fun E hE=>?_⟩,fun l e=>by rw [hro] at e; cases e⟩
  ·have:=(Array.getElem?_eq_some_iff.1 (hD3 D hc).1).1
   omega
  ·rcases List.mem_cons.1 hE with rfl | hE
   ·exact ⟨hWD,by omega⟩
   ·exact ⟨hN.same E _ (hD3 E hE).1 rfl,(hD3 E hE).2⟩
 refine wpIn_rangeFunc ?_
 intro fn hfn
 rw [hro]
 obtain ⟨rec,hrec⟩:∃ rec:LoopState→Option Code→Loop,rec=fun st pe=>{ state:=st,pending:=pe,fn,tmps:=a.tmps,params:=ps,assign,body,defers:=w.heap.size }:=⟨_,rfl⟩
 obtain ⟨W1,hW1⟩:∃ W1,(w.alloc (.deferred (some []))).alloc (.loop (rec .ready none))=W1:=⟨_,rfl⟩
 have hL1:W1.heap[w.heap.size+1]?=some (.loop (rec .ready none)):=by
  rw [← hW1]; have:=World.alloc_heap_new (w.alloc (.deferred (some []))) (.loop (rec .ready none)); rwa [World.size_alloc] at this
 have hK1:W1.heap[w.heap.size]?=some (.deferred (some [])):=by
  rw [← hW1]; exact (Below.heap_alloc _ _ _ (by simp)).trans (World.alloc_heap_new w _)
 have hB1:Below w.heap.size w W1:=by
  rw [← hW1]; exact ((Below.refl _ w).alloc (Nat.le_refl _) _).alloc (by simp) _
 have hB1N:Γ.w0.heap.size≤W1.heap.size:=Nat.le_trans hw0 hB1.size
 have hgr:∀ {A B:World},Below A.heap.size A B→A.grownBy B none:=fun h=>⟨h.os,h.tape,h.output,h.size,fun k hk _=>h.block k hk⟩
 have hIg:∀ {m:Mem} {s:St} {a:Act} {A B:World},bZ (G m) s a A→Below A.heap.size A B→bZ (G m) s a B:=fun h hb=>h.grown (hgr hb) (by intro r e; cases e)
 have hNg:∀ {A B:World},NC w A→Gr A B→NC w B:=fun h hb=>h.grown (hgr hb.below) (by intro r e; cases e) hb.more
 -- the record is turned
 have hPut:∀ {m:Mem} {s:St} {a:Act} {A:World} {r:Loop} (o:Obj),bZ (G m) s a A→A.heap[w.heap.size+1]?=some (.loop r)→bZ (G m) s a (A.putObj (w.heap.size+1) o):=fun o h hl=>
  h.grown (grownBy_putObj' _ _ o) (by intro r e; cases e; exact ⟨dD (by show Γ.w0.heap.size≤_; omega),_,hl,rfl⟩)
 have hPutN:∀ {A:World} (o:Obj),nk o→NC w A→NC w (A.putObj (w.heap.size+1) o):=fun o ho h=>h.grown (grownBy_putObj' _ _ o) (by intro r e; cases e; omega) (dU.putObj _ _ ho)
 have hsP:∀ {A:World} {r:Loop} (o:Obj),A.heap[w.heap.size+1]?=some (.loop r)→∀ b,aX A b→aX (A.putObj (w.heap.size+1) o) b:=fun o hl b hb=>jB hb hl (fun _ _ h=>nomatch h) o
 refine ⟨w.heap.size+1,[{ target := .collected w.heap.size,args:=#[] }],W1,{ target := .fn (.func f) lb,args:=#[.func (.yield (w.heap.size+1)) #[] #[]] },W1,f,
  #[.func (.yield (w.heap.size+1)) #[] #[]]++lb,W1,?_,?_,?_,?_,fun _=>h1,?_⟩
 ·rw [← hW1,hrec]; exact run_enterLoop_outer _ _ _ _ _
 ·simp only [resolve,hlb]
  simp [go_sem]
 ·intro f' hf'; exact hΓ.fn f'
 ·have hen:=hseq.1
  simp [invoke,go_sem,hen]
 refine (hseq.2 c.m lb hcl hcr Γ.F (Γ.n - 1) hΓ.fn hΓ.depth hΓ.alive hro (w.heap.size+1)
  (fun p m W=>bZ (G m) ⟨t0 p,B p⟩ a W∧NC w W∧W.heap[w.heap.size+1]?=some (.loop (rec .ready none))∧W.heap[w.heap.size]?=some (.deferred (some []))∧c.m.le m∧c.m.News (w.heap.size≤·) m W)
  (fun W=>∃ m cd e t b,(cd=Code.ret∧e=Exit.ret∨∃ id,cd = .exit id∧e = .exit id)∧K e ⟨t,b⟩∧bZ (G m) ⟨t,b⟩ a W∧NC w W∧W.heap[w.heap.size+1]?=some (.loop (rec .done (some cd)))∧W.heap[w.heap.size]?=some (.deferred (some []))∧c.m.le m∧c.m.News (w.heap.size≤·) m W)
  W1 (hsubm _ _ a _ (hIg hI0 hB1)) ?_ ?_ ?_ ⟨hIg hI0 hB1,hNg (.refl w) ⟨hB1,by rw [← hW1]; exact (dU.alloc w (o := .deferred (some [])) (fun _ _ _ h=>nomatch h)).trans (.alloc _ (fun _ _ _ h=>nomatch h))⟩,hL1,hK1,.refl _,fun _ _ _ h => .inl h,fun _ _ h => .inl h⟩).mono ?_
 ·rintro k m1 m2 A B' ⟨g1,g2,g3,g4,g5,g6⟩ hb hle' hs' hnew'
  exact ⟨g1.growM hB1N hb hle' hs' hnew',g2.grownI hB1.size hb,hb.obj g3 (.inr rfl),hb.obj g4 (.inr rfl),g5.trans hle',g6.trans hnew' (fun _=>Nat.le_trans g2.size) fun _ h=>hb.soft h⟩
 ·rintro A B' ⟨m,cd,e,t,b,g0,gk,g1,g2,g3,g4,g5,g6⟩ hb
  exact ⟨m,cd,e,t,b,g0,gk,g1.grownI hB1N hb,g2.grownI hB1.size hb,hb.obj g3 (.inr rfl),hb.obj g4 (.inr rfl),g5,g6.keep fun _ h=>hb.soft h⟩
 ·-- ONE ROUND
  rintro p x rest m1 W vs hx hmle hms ⟨hi,hn,hl,hd,hcm,hcn⟩ hvl hvr
  have hy:=run_yield (P:=Γ.P) (args:=vs) hl (by rw [hrec]; exact hvl.symm.trans (hsz x))
  rw [hrec] at hy
  have hrd2:=round (Γ.F.inRound (w.heap.size+1)) (Γ.n - 1 - 1) m1 (hΓ2 _ _) ⟨_,rfl⟩ rfl p x rest hx
  have htm:((ps.zip vs).foldl (fun (t:Array Value) (q:Nat×Value)=>t.setIfInBounds q.1 q.2) a.tmps)=((ps.toList.zip vs.toList).foldl (fun t (p:Nat×Value)=>t.setIfInBounds p.1 p.2) a.tmps):=by
   rw [← Array.foldl_toList,Array.toList_zip]
  have hpl:∀ p∈ps.toList,p<a.tmps.size:=fun p hp=>by
   rw [hsize]
   exact Nat.le_of_ble_eq_true (List.all_eq_true.1 hk4 p hp)
  refine ⟨fn,_,assign,body,hy,roundIn_of_wpIn hfn (wpIn_mono (hrd2 _ W ⟨?_,?_,⟨[],rfl,List.nodup_nil,by simp⟩,fun l e=>by cases e; exact ⟨_,hl⟩⟩) ?_)⟩
  ·obtain ⟨⟨c',hW',ht'⟩,_⟩:=hi
   refine ⟨c',hW'.re rfl hW'.le0 hW'.new,fun d y hy=>?_⟩
   simp only at hy ⊢
   rw [show ((ps.zip vs).foldl (fun (t:Array Value) (q:Nat×Value)=>match q with | (p,v)=>t.setIfInBounds p v) a.tmps)=_ from htm]
   rw [bU] at hy
   cases hz:get (qb ps.toList (avs x)) d with
   | some z=>
    rw [hz] at hy
    cases hy
    exact RC.of_RD ((mG _ _ _ _ d _ hnd hpl (by rw [hvl,Array.length_toList]) (fun i a v g1 g2=>hvr i a v g1 (by simpa using g2)) hz).mono hW'.le0)
   | none=>
    rw [hz] at hy
    have hy:get (t0 p) d=some y:=hy
    have hdk:d∈ks:=by rw [← hks p]; exact bW.2 (by rw [hy]; simp)
    rw [ee _ _ _ d fun hc=>aM hk1 hdk (List.mem_append_right _ (List.mem_append_right _ hc))]
    exact ht' d y hy
  ·simp only
   rw [show ((ps.zip vs).foldl (fun (t:Array Value) (q:Nat×Value)=>match q with | (p,v)=>t.setIfInBounds p v) a.tmps)=_ from htm,kD,hsize]
  ·rintro e a2 W2 ⟨hN2,hF2,s1,hI1,rfl,hle1,hSP⟩
   have hd2:a2.defers=[]:=hF2.defers fun hc=>aM hk3 (by simp) hc
   have hl2:=hN2.same _ _ hl rfl
   have hdd2:=hN2.same _ _ hd rfl
   have ht2:∀ d∈ks,a2.tmps.getD d Go.undef=a.tmps.getD d Go.undef:=fun d hdk=>by
    rw [hF2.tmps (fun hc=>aM hk1 hdk (List.mem_append_left _ hc)) (fun hc=>aM hk2 hdk (by simp [hc]))]
    simp only
    rw [show ((ps.zip vs).foldl (fun (t:Array Value) (q:Nat×Value)=>match q with | (p,v)=>t.setIfInBounds p v) a.tmps)=_ from htm]
    exact ee _ _ _ d fun hc=>aM hk1 hdk (List.mem_append_right _ (List.mem_append_right _ hc))
   refine ⟨_,run_beginRound hl2 (by rw [hrec]),?_⟩
   have hT2:=hPut (.loop { rec .ready none with state := .busy }) (hlG _ _ _ _ _ hI1.toT) hl2
   have hl3:(W2.putObj (w.heap.size+1) (.loop { rec .ready none with state := .busy })).heap[w.heap.size+1]?=some (.loop { rec .ready none with state := .busy }):=World.putObj_heap_same (Array.getElem?_eq_some_iff.1 hl2).1
   have hd3:(W2.putObj (w.heap.size+1) (.loop { rec .ready none with state := .busy })).heap[w.heap.size]?=some (.deferred (some [])):=(World.putObj_heap_other (by omega)).trans hdd2
   have hN3:=hPutN (.loop { rec .ready none with state := .busy }) (fun _ _ _ h=>nomatch h) (hn.trans hN2)
   refine wpIn_mono (hSP a2 _ ⟨(hGl _ _ _ _ _ hT2).ex,(hGl _ _ _ _ _ hT2).size,⟨[],by simpa [kc] using hd2,List.nodup_nil,by simp⟩,fun l e=>by cases e; exact ⟨_,hl3⟩⟩) ?_
   rintro e a3 W3 ⟨hN4,hF4,s2,hI4,hR⟩
   have hl4:=hN4.same _ _ hl3 rfl
   have hd4:=hN4.same _ _ hd3 rfl
   have hN5:=hN3.trans hN4
   have hs5:∀ b,aX W b→aX W3 b:=fun b h=>hN4.soft b (hsP _ hl2 b (hN2.soft b h))
   have hT4:∀ {p:List α} {b:List (Nat×List AV)},s2.le ⟨t0 p,b⟩→bZ (G m1) ⟨t0 p,b⟩ a W3:=fun hle=>((hlG _ _ _ _ _ hI4.toT).less hle).tmps (hsize.trans hI4.size.symm) fun d hdk=>by
    have hdk:d∈ks:=(hks _) ▸ hdk
    rw [← ht2 d hdk]
    exact (hF4.tmps (fun hc=>aM hk1 hdk (List.mem_append_right _ (List.mem_append_left _ hc))) (fun hc=>aM hk2 hdk (by simp [hc]))).symm
   have fin:∀ (jump:Option Code),(Instr.endRound (w.heap.size+1) jump).run Γ.P W3 = .ok (.bool jump.isNone) (W3.putObj (w.heap.size+1) (.loop (rec (if jump.isNone then .ready else .done) jump))):=fun jump=>by
    have:=run_endRound (P:=Γ.P) jump hl4
    rw [hrec] at this ⊢
    exact this
   have hl5:∀ (o:Obj),(W3.putObj (w.heap.size+1) o).heap[w.heap.size+1]?=some o:=fun o=>World.putObj_heap_same (Array.getElem?_eq_some_iff.1 hl4).1
   have hd5:∀ (o:Obj),(W3.putObj (w.heap.size+1) o).heap[w.heap.size]?=some (.deferred (some [])):=fun o=>(World.putObj_heap_other (by omega)).trans hd4
   have hc5:∀ (o:Obj),c.m.News (w.heap.size≤·) m1 (W3.putObj (w.heap.size+1) o):=fun o=>hcn.keep fun b h=>hsP o hl4 b (hs5 b h)
   cases e with
   | normal=>
    have hT5:=hPut (.loop (rec .ready none)) (hT4 hR) hl4
    exact ⟨_,_,fin none,.inl ⟨rfl,⟨hT5,hPutN _ (fun _ _ _ h=>nomatch h) hN5,hl5 _,hd5 _,hcm,hc5 _⟩,hsubm _ _ _ _ hT5⟩⟩
   | ret=>
    obtain ⟨b,g1,g2⟩:=hR
    have hT5:=hPut (.loop (rec .done (some .ret))) (hT4 g1) hl4
    exact ⟨_,_,fin (some .ret),.inr ⟨rfl,⟨m1,.ret,.ret,_,b,.inl ⟨rfl,rfl⟩,g2,hT5,hPutN _ (fun _ _ _ h=>nomatch h) hN5,hl5 _,hd5 _,hcm,hc5 _⟩,hsubm _ _ _ _ hT5⟩⟩
   | exit id=>
    obtain ⟨b,g1,g2⟩:=hR
    have hT5:=hPut (.loop (rec .done (some (.exit id)))) (hT4 g1) hl4
    exact ⟨_,_,fin (some (.exit id)),.inr ⟨rfl,⟨m1,.exit id,.exit id,_,b,.inr ⟨id,rfl,rfl⟩,g2,hT5,hPutN _ (fun _ _ _ h=>nomatch h) hN5,hl5 _,hd5 _,hcm,hc5 _⟩,hsubm _ _ _ _ hT5⟩⟩
   | goto l=>exact hR.elim
   | panic ch=>exact hR.elim
   | outgrown=>exact hR.elim
 ·-- BEHIND THE ITERATOR
  have hFTd:∀ (ds:List Deferred),FT (wrs (.rangeFunc g ps assign body)) a { a with defers:=ds }:=fun ds d hd=>by
   have hne:d≠1000000000:=fun hc=>hd (by simp [wrs,hc])
   simp [vw,hne]
  rintro e W2 ⟨⟨v,rfl⟩,(⟨m',hi,hn,hl,hd,hcm,hcn⟩ | ⟨m',cd,e,t,b,h0,hK,hi,hn,hl,hd,hcm,hcn⟩)⟩
  ·refine ⟨none,W2.putObj (w.heap.size+1) (.loop { rec .ready none with state := .exhausted }),by have:=run_endLoop (P:=Γ.P) hl (by rw [hrec]; simp); rw [hrec] at this ⊢; exact this,?_⟩
   exact ⟨hPutN _ (fun _ _ _ h=>nomatch h) hn,hFTd _,_,hfin m' _ _ _ (Nat.le_refl _) hcm (hcn.keep (hsP _ hl)) (hPut _ hi hl) (hPutN _ (fun _ _ _ h=>nomatch h) hn) ((World.putObj_heap_other (by omega)).trans hd),done⟩
  ·refine ⟨some cd,W2.putObj (w.heap.size+1) (.loop { rec .done (some cd) with state := .exhausted }),by have:=run_endLoop (P:=Γ.P) hl (by rw [hrec]; simp); rw [hrec] at this ⊢; exact this,?_⟩
   have hpost:=(show NC w (W2.putObj (w.heap.size+1) (.loop { rec .done (some cd) with state := .exhausted }))∧FT (wrs (.rangeFunc g ps assign body)) a { a with defers:={ target := .collected w.heap.size,args:=#[] }::a.defers }∧∃ s',Inv Γ s' { a with defers:={ target := .collected w.heap.size,args:=#[] }::a.defers } (W2.putObj (w.heap.size+1) (.loop { rec .done (some cd) with state := .exhausted }))∧K e s' from
    ⟨hPutN _ (fun _ _ _ h=>nomatch h) hn,hFTd _,_,hfin m' _ _ _ (Nat.le_refl _) hcm (hcn.keep (hsP _ hl)) (hPut _ hi hl) (hPutN _ (fun _ _ _ h=>nomatch h) hn) ((World.putObj_heap_other (by omega)).trans hd),hK⟩)
   rcases h0 with ⟨rfl,rfl⟩ | ⟨id,rfl,rfl⟩
   ·exact wpIn_ret hpost
   ·exact wpIn_exit hpost
theorem SP.rangeM (hΓ:Γ.OK) (hro:Γ.F.round=none) (h1:1≤Γ.n) {s:St} {g:Operand} {ps:Array Tmp} {assign body:Code} {K:Exit→St→Prop} {α:Type} (avs:α→List AV)
  {f:FuncId} {cap:List AV} {items:List α} (hg:ev s g = .clo f cap) (hseq:kf Γ.P avs f cap items) (hsz:∀ x,(avs x).length=ps.size)
  (t0:List α→List (Nat×AV)) (ks:List Nat) (hks:∀ p,de (t0 p)=ks) (B:List α→List (Nat×List AV)) (hle:s.le ⟨t0 [],B []⟩)
  (hk:(f8 ks (wrs assign++(wrs body++ps.toList))&&f8 ks [1000000000]&&f8 [1000000000] (wrs assign)&&(ps.toList.all fun p=>Nat.blt p Γ.nt))=true) (hnd:ps.toList.Nodup)
  (round:∀ (F':Fence) (n':Nat) (m':Mem),aH.OK ⟨Γ.P,F',n',Γ.w0,m',Γ.nt⟩→∀ (pre:List α) (x:α) (rest:List α),items=pre++x::rest →
   SP ⟨Γ.P,F',n',Γ.w0,m',Γ.nt⟩ ⟨qb ps.toList (avs x)++t0 pre,B pre⟩ assign fun e s1=>e = .normal∧s1.le ⟨t0 pre,B pre⟩ ∧
    SP ⟨Γ.P,F',n',Γ.w0,m',Γ.nt⟩ s1 body (zQ t0 B K (pre++[x])))
  (done:K .normal ⟨t0 items,B items⟩):SP Γ s (.rangeFunc g ps assign body) K:=
 SP.rangeM2 hΓ hro h1 avs hg hseq hsz t0 ks hks B hle hk hnd (fun F' n' m' hb _ _ pre x rest hx=>round F' n' m' hb pre x rest hx) done
end
end Go.AI
namespace Go.AI
open Go
open Go.RowKit (Below)
structure YM (ι α:Type) where
 P:Program
 F:Fence
 n:Nat
 nt:Nat
 m:Mem
 l:Nat
 J:ι→Mem→World→Prop
 Jx:ι→World→Prop
 ok:ι→α→Prop
 nxt:ι→α→ι
 avs:α→List AV
def YM.base {ι α:Type} (Y:YM ι α) (m0:Mem) (W:World):aH:=⟨Y.P,Y.F,Y.n,W,m0,Y.nt⟩
structure YM.OK {ι α:Type} (Y:YM ι α):Prop where
 base:∀ m0 W,(Y.base m0 W).OK
 round:Y.F.round=none
 ab:∀ k m1 m2 W1 W2,Y.J k m1 W1→Gr W1 W2→m1.le m2→m2.sub W2→m1.News (W1.heap.size≤·) m2 W2→Y.J k m2 W2
 abx:∀ k W1 W2,Y.Jx k W1→Gr W1 W2→Y.Jx k W2
 yld:∀ k x m1 W1 (vs:Array Value),Y.ok k x→Y.m.le m1→m1.sub W1→Y.J k m1 W1→(Y.avs x).length=vs.size→(∀ (i:Nat) (a:AV) (v:Value),(Y.avs x)[i]?=some a→vs[i]?=some v→RD m1 a v) →
  YieldAt Y.F (Y.n - 1) Y.P Y.l vs W1 fun e W'=>(e = .returned (.bool true)∧Y.J (Y.nxt k x) m1 W'∧m1.sub W')∨(e = .returned (.bool false)∧Y.Jx (Y.nxt k x) W'∧m1.sub W')
structure MI {ι α:Type} (Y:YM ι α) (g:Far ι) (s:St) (a:Act) (w:World):Prop where
 ex:∃ W0 m0,Y.m.le m0∧(bif g.1 then Y.Jx g.2 W0 else Y.J g.2 m0 W0)∧bZ (Y.base m0 W0) s a w∧NC W0 w∧m0.sub W0
 df:a.defers=[]
inductive MPB {ι α:Type} (Y:YM ι α) (g:Far ι) (s:St) (c:Code) (K:Exit→Far ι→St→Prop):Prop
 | mk (h:∀ a w,MI Y g s a w→c.wpIn Y.F Y.n Y.P (fun e a' w'=>∃ g' s',MI Y g' s' a' w'∧K e g' s') a w)
section
variable {ι α:Type} {Y:YM ι α}
theorem MPB.out {g:Far ι} {s:St} {c:Code} {K:Exit→Far ι→St→Prop} (h:MPB Y g s c K):∀ a w,MI Y g s a w→c.wpIn Y.F Y.n Y.P (fun e a' w'=>∃ g' s',MI Y g' s' a' w'∧K e g' s') a w:=by cases h; assumption
theorem MI.less {g:Far ι} {s s':St} {a:Act} {w:World} (h:MI Y g s a w) (hle:s.le s'):MI Y g s' a w:=
 ⟨let ⟨W0,m0,h1,h2,h3,h4⟩:=h.ex; ⟨W0,m0,h1,h2,h3.less hle,h4⟩,h.df⟩
theorem MI.inv {g:Far ι} {s:St} {a:Act} {w:World} (h:MI Y g s a w) (hrd:Y.F.round=none):∃ W0 m0,Y.m.le m0∧(bif g.1 then Y.Jx g.2 W0 else Y.J g.2 m0 W0)∧Inv (Y.base m0 W0) s a w∧NC W0 w∧m0.sub W0:=by
 obtain ⟨⟨W0,m0,h0,h1,h2,h3⟩,h4⟩:=h
 exact ⟨W0,m0,h0,h1,⟨h2.ex,h2.size,⟨[],by simpa [kc] using h4,List.nodup_nil,by simp⟩,fun _ e=>nomatch (show none=some _ from hrd ▸ e)⟩,h3⟩
theorem MPB.sp {g:Far ι} {s:St} {c:Code} {K:Exit→Far ι→St→Prop} (hd:f8 [1000000000] (wrs c)=true) (h:∀ W0 m0,(Y.base m0 W0).OK→m0.sub W0→SPB (Y.base m0 W0) s c fun e s'=>K e g s') (hY:Y.OK):MPB Y g s c K:=by
 refine ⟨fun a w hI=>?_⟩
 obtain ⟨W0,m0,h0,h1,h2,hdr,hms⟩:=hI.inv hY.round
 refine wpIn_mono ((h W0 m0 (hY.base m0 W0) hms).out a w h2) ?_
 rintro e a' w' ⟨hN,hF,s',hI',hK⟩
 exact ⟨g,s',⟨⟨W0,m0,h0,h1,hI'.toT,hdr.trans hN,hms⟩,by rw [hF.defers fun hc=>aM hd (by simp) hc]; exact hI.df⟩,hK⟩
theorem MPB.pure {g:Far ι} {s:St} {c:Code} {K:Exit→Far ι→St→Prop} {e:Exit} (hc:∀ {F:Fence} {n:Nat} {P:Program} {Q:Exit→Act→World→Prop} {a:Act} {w:World},Q e a w→c.wpIn F n P Q a w) (h:K e g s):MPB Y g s c K:=
 ⟨fun _ _ hI=>hc ⟨g,s,hI,h⟩⟩
theorem MPB.skip {g:Far ι} {s:St} {K:Exit→Far ι→St→Prop} (h:K .normal g s):MPB Y g s .skip K:=MPB.pure wpIn_skip h
theorem MPB.ret {g:Far ι} {s:St} {K:Exit→Far ι→St→Prop} (h:K .ret g s):MPB Y g s .ret K:=MPB.pure wpIn_ret h
theorem MPB.exit {g:Far ι} {s:St} {K:Exit→Far ι→St→Prop} {j:Nat} (h:K (.exit j) g s):MPB Y g s (.exit j) K:=MPB.pure wpIn_exit h
theorem MPB.seq {g:Far ι} {s:St} {x y:Code} {K:Exit→Far ι→St→Prop} (h:MPB Y g s x fun e g' s'=>match e with | .normal=>MPB Y g' s' y K | e=>K e g' s'):MPB Y g s (.seq x y) K:=by
 refine ⟨fun a w hI=>wpIn_seq (wpIn_mono (h.out a w hI) fun e a' w' hq=>?_)⟩
 obtain ⟨g',s',hI',hK⟩:=hq
 cases e with
 | normal=>exact hK.out a' w' hI'
 | exit id=>exact ⟨g',s',hI',hK⟩
 | goto l=>exact ⟨g',s',hI',hK⟩
 | ret=>exact ⟨g',s',hI',hK⟩
 | panic c=>exact ⟨g',s',hI',hK⟩
 | outgrown=>exact ⟨g',s',hI',hK⟩
theorem MPB.block {g:Far ι} {s:St} {id:Nat} {c:Code} {K:Exit→Far ι→St→Prop} (h:MPB Y g s c fun e g s=>match e with | .exit j=>bif Nat.beq j id then K .normal g s else K (.exit j) g s | e=>K e g s):MPB Y g s (.block id c) K:=by
 refine ⟨fun a w hI=>wpIn_block (wpIn_mono (h.out a w hI) fun e a' w' hq=>?_)⟩
 obtain ⟨g',s',hI',hK⟩:=hq
 cases e with
 | exit j=>
  simp only at hK
  unfold Exit.inBlock
  cases hb:Nat.beq j id with
  | true=>rw [hb] at hK; simp only [Nat.eq_of_beq_eq_true hb,if_true]; exact ⟨g',s',hI',hK⟩
  | false=>rw [hb] at hK; simp only [Nat.ne_of_beq_eq_false hb,if_false]; exact ⟨g',s',hI',hK⟩
 | normal=>exact ⟨g',s',hI',hK⟩
 | goto l=>exact ⟨g',s',hI',hK⟩
 | ret=>exact ⟨g',s',hI',hK⟩
 | panic c=>exact ⟨g',s',hI',hK⟩
 | outgrown=>exact ⟨g',s',hI',hK⟩
theorem MPB.loop {g:Far ι} {s:St} {c:Code} {K:Exit→Far ι→St→Prop} {X:Type} (sh:X→Far ι×St) (I:X→Prop) (μ:X→Nat) (x0:X) (h0:I x0) (hg:(sh x0).1=g) (hle:s.le (sh x0).2)
  (body:∀ x,I x→MPB Y (sh x).1 (sh x).2 c fun e g' s'=>match e with | .normal=>∃ x',I x'∧μ x'<μ x∧(sh x').1=g'∧s'.le (sh x').2 | e=>K e g' s'):MPB Y g s (.loop c) K:=by
 refine ⟨fun a0 w hI=>?_⟩
 have key:∀ (m:Nat) (x:X) (a:Act) (w1:World),I x→μ x<m→MI Y (sh x).1 (sh x).2 a w1 →
   Code.roundsIn Y.F Y.n Y.P c (fun e a' w'=>∃ g' s',MI Y g' s' a' w'∧K e g' s') m a w1:=by
  intro m
  induction m with
  | zero=>intro x a w1 _ hm; omega
  | succ m ih=>
   intro x a w1 hx hm hI1
   rw [roundsIn_succ]
   refine wpIn_mono ((body x hx).out a w1 hI1) fun e a' w' hq=>?_
   obtain ⟨g',s',hI',hK⟩:=hq
   cases e with
   | normal=>
    obtain ⟨x',g1,g2,g3,g4⟩:=hK
    exact ih x' a' w' g1 (by omega) (by rw [g3]; exact hI'.less g4)
   | exit id=>exact ⟨g',s',hI',hK⟩
   | goto l=>exact ⟨g',s',hI',hK⟩
   | ret=>exact ⟨g',s',hI',hK⟩
   | panic c=>exact ⟨g',s',hI',hK⟩
   | outgrown=>exact ⟨g',s',hI',hK⟩
 exact wpIn_loop_rounds (μ x0+1) (key _ x0 a0 w h0 (by omega) (by rw [hg]; exact hI.less hle))
theorem MPB.cond {g:Far ι} {s:St} {c:Operand} {x y:Code} {t:Bool} {K:Exit→Far ι→St→Prop} (ht:ev s c = .bool t) (h:(t=true→MPB Y g s x K)∧(t=false→MPB Y g s y K)):MPB Y g s (.cond c x y) K:=by
 refine ⟨fun a w hI=>?_⟩
 obtain ⟨W0,m0,_,_,⟨⟨cx,hW,htm⟩,_⟩,_,_⟩:=hI.ex
 have he:RC cx (.bool t) (a.eval c):=by
  have:=aB htm c
  rwa [ht] at this
 exact wpIn_cond_split he.bool (fun g1=>(h.1 g1).out a w hI) (fun g1=>(h.2 g1).out a w hI)
theorem MPB.condT {g:Far ι} {s:St} {c:Operand} {x y:Code} {K:Exit→Far ι→St→Prop} (ht:ev s c = .bool true) (h:MPB Y g s x K):MPB Y g s (.cond c x y) K:=MPB.cond ht ⟨fun _=>h,fun h=>Bool.noConfusion h⟩
theorem MPB.condF {g:Far ι} {s:St} {c:Operand} {x y:Code} {K:Exit→Far ι→St→Prop} (ht:ev s c = .bool false) (h:MPB Y g s y K):MPB Y g s (.cond c x y) K:=MPB.cond ht ⟨fun h=>Bool.noConfusion h,fun _=>h⟩
end
def Fv (t:List (Nat×AV)):List (Nat×AV):=fY AV.pub t
section
variable {ι α:Type} (Y:YM ι α) (T:Tab)
def zX (g:Far ι) (s:St) (o:Oper) (K:Far ι→St→Prop):Prop:=match o.op,o.dst with
 | .call c,some d=>match c.callee with
  | .value f=>match g with
   |(false,k)=>ev s f = .lit (.func (.yield Y.l) #[] #[])∧∃ x,Y.ok k x∧c.args.toList.map (fun z=>(ev s z).pub)=Y.avs x ∧
     (∀ t,t=Fv s.t→K (false,Y.nxt k x) ⟨(d,.bool true)::t,[]⟩∧K (true,Y.nxt k x) ⟨(d,.bool false)::t,[]⟩)
   | _=>False
  | _=>False
 | _,_=>False
def lJ (all:List Oper) (guards:List Nat):List Oper→Far ι→St→(Far ι→St→Prop)→Prop
 | [],g,s,K=>K g s
 | o::rest,g,s,K=>match j5 all s o with
  | 0=>bif qx s o then zX Y g s o fun g s=>lJ all guards rest g s K
   else opX T (ae Y.P) s o.dst o.type o.op fun s=>x4 o.op s fun s=>gW guards o.dst s fun s=>lJ all guards rest g s K
  | 1=>ef s o.dst .undef fun s=>lJ all guards rest g s K
  | _=>False
end
section
variable {ι α:Type} {Y:YM ι α} (hY:Y.OK) {T:Tab} (hT:T.OK Y.P) {keep:List Nat} {Q:Exit→Act→World→Prop} {next:Act→World→Prop}
include hY in
theorem uE {g:Far ι} {s:St} {o:Oper} {a:Act} {w:World} {K:Far ι→St→Prop} (hI:MI Y g s a w) (hdst:∀ d,o.dst=some d→d<Y.nt) (h:zX Y g s o K)
  (hn:∀ g' s' a' w',K g' s'→MI Y g' s' a' w'→next a' w'):o.wpIn Y.F Y.n Y.P a w next Q:=by
 obtain ⟨W0,m0,hm0,hJ,hInv,hdr,_⟩:=hI.inv hY.round
 have hG:=hY.base m0 W0
 unfold zX at h
 split at h
 ·rename_i c d hop hd
  split at h
  ·rename_i f hcal
   split at h
   ·rename_i k
    obtain ⟨hf,x,hx,hxv,hK⟩:=h
    obtain ⟨hK1,hK2⟩:=hK _ rfl
    obtain ⟨⟨cx,hW,ht⟩,hsz,hdf⟩:=hInv
    have hfv:a.eval f = .func (.yield Y.l) #[] #[]:=by
     have:=aB ht f
     rw [hf] at this
     have this:RD cx.m _ _:=this
     generalize a.eval f=u at this
     cases this
     rfl
    have hlew:Y.m.le cx.m:=hm0.trans hW.le0
    have hJw:Y.J k cx.m w:=hY.ab k m0 cx.m W0 w hJ ⟨hW.ext.toBelow hdr,hdr.more⟩ hW.le0 hW.sub (hW.new.unfree hW.sub hdr)
    obtain ⟨fn,tmps,assign,body,hy,hR⟩:=hY.yld k x cx.m w (c.args.map a.eval) hx hlew hW.sub hJw (by rw [← hxv]; simp) (fun i z v h1 h2=>by
     rw [← hxv,List.getElem?_map] at h1
     obtain ⟨q,hq,rfl⟩:=Option.map_eq_some_iff.1 h1
     rw [Array.getElem?_map] at h2
     obtain ⟨q',hq',rfl⟩:=Option.map_eq_some_iff.1 h2
     have:q=q':=by
      rw [Array.getElem?_toList] at hq
      rw [hq] at hq'; cases hq'; rfl
     subst this
     exact (aB ht q).pub)
    have hrun:(execOp a.eval o).run Y.P w = .ok (.round Y.l fn tmps assign body) w:=by
     simp only [execOp,hop,Sem.run_bind,resolve,hcal,hfv,Deferred.ofValue,Sem.run_pure,Result.andThen_ok,invoke]
     simpa using hy
    refine ⟨fun f _=>hG.fn f,?_⟩
    rw [Oper.semAt_eq _ _ _ (by rw [hop]; intro c hc; cases hc),hrun,Oper.uponIn_round]
    refine ⟨fun h=>(by rw [show Y.F.depth=none from hG.depth] at h; cases h),hR.mono ?_⟩
    have fin:∀ (b:Bool) (w':World),cx.m.sub w'→(bif !b then Y.Jx (Y.nxt k x) w' else Y.J (Y.nxt k x) cx.m w')→MI Y (!b,Y.nxt k x) ⟨(d,.bool b)::Fv s.t,[]⟩ (a.put o.dst (.bool b)) w':=by
     intro b w' hm hj
     have hdl:d<a.tmps.size:=by rw [hsz]; exact hdst d hd
     refine ⟨⟨w',cx.m,hlew,hj,⟨⟨_,WI.init (Γ:=Y.base cx.m w') hm rfl,fun e y hy=>?_⟩,by rw [bL]; exact hsz⟩,.refl _,hm⟩,by rw [bv]; exact hI.df⟩
     refine RC.of_RD (c:=⟨_,_,_,cx.m,_,_⟩) ?_
     simp only [ak] at hy
     split at hy
     ·rename_i hed
      cases hy
      rw [hd,bO _ _ _ _ hdl,if_pos hed]
      exact RD.bool b
     ·rename_i hed
      rw [Fv,bY] at hy
      obtain ⟨z,hz,rfl⟩:=Option.map_eq_some_iff.1 hy
      rw [hd,bO _ _ _ _ hdl,if_neg hed]
      exact (ht e z hz).pub
    rintro e w' (⟨rfl,hj,hm⟩ | ⟨rfl,hj,hm⟩)
    ·exact hn _ _ _ _ hK1 (fin true w' hm hj)
    ·exact hn _ _ _ _ hK2 (fin false w' hm hj)
   ·exact h.elim
  ·exact h.elim
 ·exact h.elim
include hY hT in
theorem fI {all:List Oper} {guards:List Nat} (hall:∀ j d,gX all j=some d→d<Y.nt):∀ (l:List Oper) (k:Nat) (g:Far ι) (s:St) (a:Act) (w:World) (K:Far ι→St→Prop),
  (∀ j,l[j]?=all[k+j]?)→lJ Y T all guards l g s K→MI Y g s a w→(∀ g' s' a' w',K g' s'→MI Y g' s' a' w'→Q .normal a' w')→wpOpsIn Y.F Y.n Y.P all.toArray Q (List.range' k l.length) a w
 | [],k,g,s,a,w,K,_,h,hI,hQ=>hQ g s a w h hI
 | o::rest,k,g,s,a,w,K,hk,h,hI,hQ=>by
  have h0:all.toArray[k]?=some o:=by simpa using (hk 0).symm
  have h0':all[k]?=some o:=by simpa using h0
  have hk':∀ j,rest[j]?=all[k+1+j]?:=fun j=>by have:=hk (j+1); simpa [Nat.add_assoc,Nat.add_comm 1 j] using this
  have hdst:∀ d,o.dst=some d→d<Y.nt:=fun d hd=>hall k d (by rw [e9,h0']; exact hd)
  obtain ⟨W0,m0,hm0,hJ,hInv,hdr,hms⟩:=hI.inv hY.round
  have hG:=hY.base m0 W0
  simp only [List.length_cons,List.range'_succ,wpOpsIn,h0]
  simp only [lJ] at h
  split at h
  ·rename_i hw
   rw [db (Γ:=Y.base m0 W0) hall hInv 0 hw (by omega)]
   simp only [beq_self_eq_true,if_true]
   cases hy:qx s o with
   | true=>
    rw [hy,cond_true] at h
    exact uE hY hI hdst h fun g' s' a' w' hK hI'=>fI hall rest (k+1) g' s' a' w' K hk' hK hI' hQ
   | false=>
    rw [hy,cond_false] at h
    refine oR (Γ:=Y.base m0 W0) hG hT rfl hInv hdst h ?_
    intro s' a' w' hK hI' hN hP
    rw [qy] at hK
    obtain ⟨s2,hK2,hle⟩:=fR hK
    refine fI hall rest (k+1) g s2 a' w' K hk' hK2 (MI.less ⟨⟨W0,m0,hm0,hJ,hI'.toT,hdr.trans hN,hms⟩,?_⟩ hle) hQ
    obtain ⟨v,rfl⟩:=hP
    rw [bv]; exact hI.df
  ·rename_i hw
   rw [db (Γ:=Y.base m0 W0) hall hInv 1 hw (by omega)]
   simp only [Nat.reduceBEq,Bool.false_eq_true,if_false]
   obtain ⟨s2,hK2,hI2⟩:=gN hInv hdst h
   exact ⟨fun f _=>hG.fn f,fI hall rest (k+1) g s2 _ w K hk' hK2 ⟨⟨W0,m0,hm0,hJ,hI2.toT,hdr,hms⟩,by rw [bv]; exact hI.df⟩ hQ⟩
  ·exact h.elim
include hY hT in
theorem MPB.reg (keep:List Nat) {g:Far ι} {s:St} {K:Exit→Far ι→St→Prop} {id:Nat} {ops:Array Oper} (ho:bt Y.nt (.region id ops false)=true)
  (h:lJ Y T ops.toList (bI ops.toList ops.toList) ops.toList g s fun g s=>fQ keep s (K .normal g)):MPB Y g s (.region id ops false) K:=by
 refine ⟨fun a w hI=>?_⟩
 obtain ⟨l⟩:=ops
 refine wpIn_region ?_
 rw [show (⟨l⟩:Array Oper).size=l.length from rfl,List.range_eq_range']
 refine fI hY hT (di ho) l 0 g s a w _ (fun j=>by simp) h hI ?_
 intro g' s' a' w' hK hI'
 obtain ⟨s2,h2,hle⟩:=dA hK
 exact ⟨g',s2,hI'.less hle,h2⟩
end
theorem kf.of {P:Program} {α:Type} {avs:α→List AV} {f:FuncId} {fn:Func} {body:Code} {cap:List AV} {items:List α} (hf:P.funcs[f]?=some fn) (hb:fn.body=some body)
  (hname:(fn.name == "runtime.NumGoroutine")=false) (hm:P.follows .mixedOrders=true) (hn:cap.length+1≤fn.ntmps) (hres:fn.results=#[])
  (h:∀ (F:Fence) (n:Nat) (m:Mem) (l:Nat) (J:Nat→Mem→World→Prop) (Jx:Nat→World→Prop),YM.OK ⟨P,F,n,fn.ntmps,m,l,J,Jx,fun k x=>items[k]?=some x,fun k _=>k+1,avs⟩ →
   MPB ⟨P,F,n,fn.ntmps,m,l,J,Jx,fun k x=>items[k]?=some x,fun k _=>k+1,avs⟩ (false,0) ⟨params 0 (.lit (.func (.yield l) #[] #[])::cap),[]⟩ body fun e g s=>fp items.length e g s):kf P avs f cap items:=by
 refine ⟨Go.Proofs.enters_of hf hname hb,fun m lb hl hr F n hfn hdep hal hro l J Jx W hs hab habx hyld hJ0=>?_⟩
 let Y:YM Nat α:=⟨P,F,n,fn.ntmps,m,l,fun k=>J (items.take k),fun _=>Jx,fun k x=>items[k]?=some x,fun k _=>k+1,avs⟩
 have hY:Y.OK:=⟨fun m0 W=>⟨hfn,hdep,hal,hm⟩,hro,fun k m1 m2 W1 W2 h1 h2=>hab _ m1 m2 W1 W2 h1 h2.toI,fun _ W1 W2 h1 h2=>habx W1 W2 h1 h2.toI,fun k x m1 W1 vs hx hle hms hJ hvl hvr=>by
  have hlt:=(List.getElem?_eq_some_iff.1 hx).1
  have hxx:=(List.getElem?_eq_some_iff.1 hx).2
  have htk:items.take (k+1)=items.take k++[x]:=by rw [List.take_add_one,hx]; rfl
  have hz:=hyld _ x (items.drop (k+1)) m1 W1 vs (by rw [← hxx,← List.drop_eq_getElem_cons hlt,List.take_append_drop]) hle hms hJ hvl hvr
  rw [← htk] at hz
  exact hz⟩
 have hp:=(h F n m l _ _ hY).out
 have htv:∀ (d:Nat) (x:AV),get (params 0 (.lit (.func (.yield l) #[] #[])::cap)) d=some x→RD m x ((#[Value.func (.yield l) #[] #[]]++lb++Array.replicate (fn.ntmps - (#[Value.func (.yield l) #[] #[]]++lb).size) Go.undef).getD d Go.undef):=by
  intro d x hx
  obtain ⟨_,h2⟩:=eG _ _ _ _ hx
  simp only [Nat.sub_zero] at h2
  have hdl:=(List.getElem?_eq_some_iff.1 h2).1
  simp only [List.length_cons] at hdl
  rw [Array.getD_eq_getD_getElem?,Array.getElem?_append_left (by simp; omega)]
  cases d with
  | zero=>
   simp at h2
   subst h2
   rw [Array.getElem?_append_left (by simp)]
   exact .lit (.func (.yield l) #[] #[]) rfl rfl
  | succ d=>
   simp at h2
   rw [Array.getElem?_append_right (by simp)]
   simp only [List.size_toArray,List.length_cons,List.length_nil,Nat.zero_add,Nat.add_sub_cancel]
   rw [Array.getElem?_eq_getElem (by omega)]
   exact hr d x _ h2 (Array.getElem?_eq_getElem (by omega))
 refine callsIn_of_wp hf hb (hfn f) (wpIn_mono (hp _ W ⟨⟨W,m,.refl _,hJ0,⟨⟨_,WI.init (Γ:=Y.base m W) hs rfl,fun d x hx=>RC.of_RD (c:=⟨_,_,_,m,_,_⟩) (htv d x hx)⟩,?_⟩,.refl _,hs⟩,rfl⟩) ?_) hro
 ·simp only [YM.base,Array.size_append,Array.size_replicate,List.size_toArray,List.length_cons,List.length_nil]
  show _=fn.ntmps
  omega
 ·rintro e a' w' ⟨g',s',hI,⟨he,hall⟩⟩
  have hpost:a'.defers=[]∧∃ v,(results fn a'.tmps).run P w' = .ok v w'∧((∃ u,Ending.returned v = .returned u)∧((∃ m',J items m' w')∨Jx w')):=by
   refine ⟨hI.df,.tuple #[],by simp [results,hres],⟨_,rfl⟩,?_⟩
   obtain ⟨W0,m0,hm0,hJ,hT0,hdr,_⟩:=hI.ex
   obtain ⟨⟨c,hW,_⟩,_⟩:=hT0
   rcases hall with rfl | hg
   ·exact .inl ⟨c.m,hab _ m0 c.m _ _ (by have hJ:J (items.take items.length) m0 W0:=hJ; rwa [List.take_length] at hJ) (Gr.toI ⟨hW.ext.toBelow hdr,hdr.more⟩) hW.le0 hW.sub (hW.new.unfree hW.sub hdr)⟩
   ·rw [hg] at hJ
    exact .inr (habx _ _ hJ (Gr.toI ⟨hW.ext.toBelow hdr,hdr.more⟩))
  rcases he with rfl | rfl <;> exact hpost
end Go.AI
namespace Go.AI
open Go
open Go.RowKit (Below)
structure wJ (b:Nat) (w w':World):Prop where
 os:w'.os=w.os
 tape:w'.tape=w.tape
 output:w'.output=w.output
 size:w.heap.size≤w'.heap.size
 block:∀ k,k<w.heap.size→k≠b→w'.heap[k]?=w.heap[k]?
 soft:aX w' b
structure dJ (P:Program) (f:FuncId) (sz:Nat) (rows:List (List Int)) (args:List AV) (Q:AV→List (List Int)→Prop):Prop where
 enters:∀ (args:Array Value) (w:World),(callFunc f args).run P w = .ok (.enter f args) w
 runs:∀ (m:Mem) (w:World) (vs:List Value) (b cap:Nat),m.sub w→(∀ o,m b o=none)→aX w b→rows.length≤cap →
  (∀ (i j:Nat) (r:List Int) (n:Int),rows[i]?=some r→r[j]?=some n→w.cell? ⟨b,i*sz+j,none⟩=some (.int .i64 n)) →
  args.length=vs.length→(∀ (i:Nat) (x:AV) (v:Value),args[i]?=some x→vs[i]?=some v→RD m x v) →
  Calls P f (Value.slice (some ⟨b,0,none⟩) rows.length cap::vs).toArray w fun e w'=>∃ v m' r rows',e = .returned v∧Q r rows'∧RD m' r v∧rows'.length=rows.length∧(∀ x∈rows',x.length=sz) ∧
   (∀ (i j:Nat) (r:List Int) (n:Int),rows'[i]?=some r→r[j]?=some n→m' b (i*sz+j)=some (.int .i64 n))∧m.le m'∧Mem.sub m' w'∧wJ b w w' ∧
   (∀ k o v,m' k o=some v→m k o=some v∨(k=b∨w.heap.size≤k)∧aX w' k)∧(∀ k x,m'.maps k=some x→m.maps k=some x∨w.heap.size≤k)∧dU w w'
def AV.thin1:AV→Bool
 | .junk | .undef | .int _ _ | .bool _ | .str _ | .lit _ | .fn _ | .clo _ [] | .loc _ _ | .sl .no _ [] | .sl .full _ []=>true
 | _=>false
def AV.thin:AV→Bool
 | .agg cs=>cs.all AV.thin1
 | x=>x.thin1
def AV.thinned (x:AV):AV:=bif x.thin then x else .junk
def qK:List (Nat×List AV)→List (Nat×List AV)
 | []=>[]
 |(d,cs)::r=>bif cs.all AV.thin1 then (d,cs)::qK r else (d,[])::qK r
theorem RC1.thin {c c':Ctx} (hρ:c'.ρ=c.ρ) {x:AV} {v:Value} (h:RC1 c x v) (ht:x.thin1=true):RC1 c' x v:=by
 cases x with
 | junk=>exact RD.junk v
 | undef=>
  have h:RD c.m .undef v:=h
  cases h; exact RD.undef
 | int k n=>
  have h:RD c.m (.int k n) v:=h
  cases h; exact RD.int k n
 | bool b=>
  have h:RD c.m (.bool b) v:=h
  cases h; exact RD.bool b
 | str s=>
  have h:RD c.m (.str s) v:=h
  cases h; exact RD.str s
 | lit u=>
  have h:RD c.m (.lit u) v:=h
  cases h with | lit _ h1 h2=>exact RD.lit _ h1 h2
 | fn f=>
  have h:RD c.m (.fn f) v:=h
  cases h; exact RD.fn f
 | clo f cap=>
  have h:RD c.m (.clo f cap) v:=h
  cases cap with
  | nil=>cases h with | clo _ _ vs hl _=>exact RD.clo f [] vs hl (by simp)
  | cons a r=>cases ht
 | loc d off=>show v=_; rw [hρ]; exact h
 | sl o sz xs=>
  cases xs with
  | cons a r=>cases o <;> cases ht
  | nil=>
   cases o with
   | id k=>cases ht
   | no=>
    have h:RD c.m (.sl .no sz []) v:=h
    cases h with | sl _ _ _ base len cap ho hf hl hc hsz hcell b off hb g hm hr=>exact RD.sl _ _ _ _ _ _ ho hf hl hc hsz hcell b off hb g (by simp) (by simp)
   | full=>
    have h:RD c.m (.sl .full sz []) v:=h
    cases h with | sl _ _ _ base len cap ho hf hl hc hsz hcell b off hb g hm hr=>exact RD.sl _ _ _ _ _ _ ho hf hl hc hsz hcell b off hb g (by simp) (by simp)
 | agg cs=>cases ht
 | tup vs=>cases ht
 | ref cs=>cases ht
 | mapv xs=>cases ht
 | pin k b off cs=>cases ht
 | me g k n xs=>cases ht
theorem RC.thinned {c c':Ctx} (hρ:c'.ρ=c.ρ) {x:AV} {v:Value} (h:RC c x v):RC c' x.thinned v:=by
 unfold AV.thinned
 cases ht:x.thin with
 | false=>exact RC.of_RD (RD.junk v)
 | true=>
  rw [cond_true]
  cases x with
  | agg cs=>
   obtain ⟨vs,rfl,h1,h2,h3⟩:=h
   exact ⟨vs,rfl,h1,h2,fun i y u q1 q2=>(h3 i y u q1 q2).thin hρ (List.all_eq_true.1 ht y (List.mem_of_getElem? q1))⟩
  | _=>exact (RC.iff (by intro cs hc; cases hc)).2 (((RC.iff (by intro cs hc; cases hc)).1 h).thin hρ ht)
theorem ji:∀ {bx:List (Nat×List AV)} {d:Nat} {cs:List AV},get (qK bx) d=some cs→cs≠[]→get bx d=some cs∧cs.all AV.thin1=true
 | [],d,cs,h,_=>by simp [qK,get] at h
 |(e,ds)::r,d,cs,h,hne=>by
  simp only [qK] at h
  cases ha:ds.all AV.thin1 with
  | true=>
   rw [ha,cond_true,ak] at h
   rw [ak]
   split at h
   ·rename_i hd; rw [if_pos hd]; cases h; exact ⟨rfl,ha⟩
   ·rename_i hd; rw [if_neg hd]; exact ji h hne
  | false=>
   rw [ha,cond_false,ak] at h
   rw [ak]
   split at h
   ·cases h; exact absurd rfl hne
   ·rename_i hd; rw [if_neg hd]; exact ji h hne
def bu (rows:List (List Int)):List (List AV):=rows.map fun r=>r.map (AV.int .i64)
def Mem.without (m:Mem) (b:Nat):Mem:=m.with fun x o=>if x=b then none else m x o
def EX (C:FuncId→Nat→List (List Int)→List AV→(AV→List (List Int)→Prop)→Prop) (s:St) (o:Oper) (K:St→Prop):Prop:=match o.op with
 | .call call=>match call.callee,call.args.toList with
  | .value f,(.tmp d0)::rest=>match ev s f,s.tmp d0 with
   | .fn f,.sl (.id k) sz xs=>Nat.blt k 5000000=true∧∃ rows R,C f sz rows (rest.map fun x=>(ev s x).pub) R∧xs=bu rows∧rows≠[]∧0<sz∧(∀ x∈rows,x.length=sz)∧(rest.all fun x=>(ev s x).pub.thin)=true ∧
     ∀ r rows',R r rows'→rows'.length=rows.length→(∀ x∈rows',x.length=sz)→ef ⟨(d0,.sl .no sz (bu rows'))::fY AV.thinned s.t,qK s.b⟩ o.dst r K
   | _,_=>False
  | _,_=>False
 | _=>False
theorem ei {rows:List (List Int)} {i:Nat} {x:List AV} (h:(bu rows)[i]?=some x):∃ r,rows[i]?=some r∧x=r.map (AV.int .i64):=by
 simp only [bu,List.getElem?_map,Option.map_eq_some_iff] at h
 obtain ⟨r,h1,h2⟩:=h
 exact ⟨r,h1,h2.symm⟩
theorem AV.thin_thinned {x:AV} (h:x.thin=true):x.thinned=x:=by unfold AV.thinned; rw [h]; rfl
section
variable {Γ:aH} (hΓ:Γ.OK) {s:St} {a:Act} {w:World} {o:Oper} {next:Act→World→Prop} {Q:Exit→Act→World→Prop} {K:St→Prop}
theorem Mem.sub.not_free {m:Mem} {w:World} (hs:m.sub w) {k o:Nat} {v:Value} (h:m k o=some v):¬ free w k:=fun hf=>by
 have:=hs.cell k o v h
 unfold World.cell? at this
 rcases hf with hf | hf
 ·rw [show w.heap[k]?=none from Array.getElem?_eq_none hf] at this; cases this
 ·simp only [hf] at this; cases this
theorem WI.ocall {c:Ctx} {bx:List (Nat×List AV)} {w':World} (hW:WI Γ c bx w) (hm0:Γ.m0.sub Γ.w0) {b:Nat} (hb:free Γ.w0 b) (hbm:∃ o v,c.m b o=some v) (hsoft:aX w b) {m':Mem} (h1:(c.m.without b).le m') (h2:Mem.sub m' w') (h3:wJ b w w')
  (h4:∀ k o v,m' k o=some v→(c.m.without b) k o=some v∨(k=b∨w.heap.size≤k)∧aX w' k) (h5:∀ k x,m'.maps k=some x→(c.m.without b).maps k=some x∨w.heap.size≤k) (h6:dU w w') :
  WI Γ ⟨c.ρ,fun _ => .slice none 0 0,fun _=>0,m',fun _=>none,c.xn⟩ (qK bx) w'∧NC w w':=by
 have hB:=hW.ext.size
 have hlt:∀ k o v,Γ.m0 k o=some v→k≠b:=fun k o v h=>d7 (hm0.not_free h) hb
 have hbs:b<w.heap.size:=by obtain ⟨cs,U,hc⟩:=hsoft; exact (Array.getElem?_eq_some_iff.1 hc).1
 have hs':∀ k,aX w k→aX w' k:=fun k hk=>by
  by_cases e:k=b
  ·rw [e]; exact h3.soft
  ·obtain ⟨cs,U,hc⟩:=hk
   exact ⟨cs,U,(h3.block k (Array.getElem?_eq_some_iff.1 hc).1 e).trans hc⟩
 have hbox:∀ d cs,get bx d=some cs→cs≠[]→c.ρ d≠b:=fun d cs h hne e=>by
  obtain ⟨o,v,hv⟩:=hbm
  have:=(hW.box d cs h hne).2.1 o
  rw [e,hv] at this; cases this
 refine ⟨⟨hW.ext.trans ⟨h3.os,h3.tape,h3.output,h3.size,fun k hk=>h3.block k (by have:=not_free hk; omega) (d7 hk hb)⟩,h2,?_,⟨fun k o v h=>?_,fun k x h=>?_⟩,fun d cs h hne=>?_,fun d1 d2 c1 c2 g1 g2 n1 n2 hρ=>?_,fun k=>?_,fun k b' o h=>nomatch h⟩,⟨h3.size,fun k o hk ho=>?_,h6,hs'⟩⟩
 ·refine ⟨fun k o v h=>h1.cell k o v ?_,fun k x h=>h1.map k x (hW.le0.map k x h)⟩
  have:=hlt k o v h
  show (if k=b then none else c.m k o)=some v
  rw [if_neg this]
  exact hW.le0.cell k o v h
 ·rcases h4 k o v h with h | h
  ·simp only [Mem.without,Mem.with] at h
   split at h
   ·cases h
   ·exact (hW.new.cell k o v h).imp id fun ⟨q1,q2⟩=>⟨q1,hs' k q2⟩
  ·refine .inr ⟨?_,h.2⟩
   rcases h.1 with h | h
   ·rw [h]; exact hb
   ·exact dD (by omega)
 ·rcases h5 k x h with h | h
  ·exact hW.new.map k x h
  ·exact .inr (dD (by omega))
 ·obtain ⟨q1,q2⟩:=ji h hne
  obtain ⟨r1,r2,r3,vs,U,r4,r5,r6⟩:=hW.box d cs q1 hne
  have hne':=hbox d cs q1 hne
  have hd:=hW.lt_box q1 hne
  refine ⟨r1,fun o=>?_,r3,vs,U,(h3.block _ hd hne').trans r4,r5,fun i x v g1 g2=>RC1.thin (c:=c) (c':=⟨c.ρ,fun _ => .slice none 0 0,fun _=>0,m',fun _=>none,c.xn⟩) rfl (r6 i x v g1 g2) (List.all_eq_true.1 q2 x (List.mem_of_getElem? g1))⟩
  show m' (c.ρ d) o=none
  cases hm:m' (c.ρ d) o with
  | none=>rfl
  | some v=>
   rcases h4 _ _ _ hm with h | h
   ·simp only [Mem.without,Mem.with,if_neg hne'] at h
    rw [r2 o] at h; cases h
   ·rcases h.1 with h | h
    ·exact absurd h hne'
    ·omega
 ·exact hW.inj d1 d2 c1 c2 (ji g1 n1).1 (ji g2 n2).1 n1 n2 hρ
 ·exact ⟨fun g hg=>(nomatch hg),.inl rfl,fun g d cs hg=>(nomatch hg),fun g j hg=>(nomatch hg)⟩
 ·by_cases e:k=b
  ·obtain ⟨cs,U,hc⟩:=hsoft
   rw [e,hc] at hk; cases hk; cases ho
  ·exact (h3.block k (Array.getElem?_eq_some_iff.1 hk).1 e).trans hk
include hΓ in
theorem xG (hm0:Γ.m0.sub Γ.w0) (hI:Inv Γ s a w) (hdst:∀ d,o.dst=some d→d<Γ.nt) (h:EX (dJ Γ.P) s o K) (hn:∀ s' a' w',K s'→Inv Γ s' a' w'→NC w w'→FT o.dst.toList a a'→next a' w'):o.wpIn Γ.F Γ.n Γ.P a w next Q:=by
 unfold EX at h
 split at h
 ·rename_i call hop
  split at h
  ·rename_i fo d0 rest hcal hargs
   split at h
   ·rename_i f k sz xs hf hx
    obtain ⟨hk5,rows,R,hC,rfl,hne,hsz,hlen,hthin,hK⟩:=h
    obtain ⟨c,hW,ht⟩:=hI.ex
    have hgx:get s.t d0=some (.sl (.id k) sz (bu rows)):=by
     unfold St.tmp at hx
     split at hx
     ·rename_i v hv; rw [hv,hx]
     ·cases hx
    have hv0:=(RC.iff (by intro cs hc; cases hc)).1 (ht d0 _ hgx)
    obtain ⟨v0,hv0e⟩:∃ v0,v0=a.tmps.getD d0 Go.undef:=⟨_,rfl⟩
    rw [← hv0e] at hv0
    obtain ⟨hτ,_,hr0⟩:=hv0
    have hpos:0<rows.length:=List.length_pos_iff.2 hne
    cases hr0 with
    | sl _ _ _ base len cap ho hfl hl hc hsz' hcell b off hb g hm hr=>
     have hll:rows.length=len:=by simpa [bu] using hl
     subst hll
     have hbase:=hb hpos
     subst hbase
     obtain ⟨he,hB⟩:(⟨b,off,none⟩:Addr)=⟨b,0,none⟩∧free Γ.w0 b:=by
      rcases (hW.own k).shape with h | ⟨base',len',cap',h1,_,h3⟩
      ·rw [← hτ] at h; cases h
      ·rw [← hτ] at h1
       cases h1
       exact ⟨(h3 _ rfl hpos).1,.inl ((h3 _ rfl hpos).2.resolve_right (fun h=>by have:=Nat.le_of_ble_eq_true hk5; omega))⟩
     cases he
     -- the row's cells
     have hcm:∀ (i j:Nat) (r:List Int) (n:Int),rows[i]?=some r→r[j]?=some n→c.m b (i*sz+j)=some (.int .i64 n):=fun i j r n h1 h2=>by
      have g1:(bu rows)[i]?=some (r.map (AV.int .i64)):=by simp [bu,h1]
      have g2:(r.map (AV.int .i64))[j]?=some (.int .i64 n):=by simp [h2]
      have g3:=hm i _ j _ g1 g2
      have g4:=hr i _ j _ g1 g2
      rw [Nat.zero_add] at g3
      generalize g i j=u at g3 g4
      cases g4
      exact g3
     obtain ⟨r0,hr0⟩:∃ r0,rows[0]?=some r0:=⟨_,List.getElem?_eq_getElem hpos⟩
     have hr0l:=hlen r0 (List.mem_of_getElem? hr0)
     obtain ⟨n0,hn0⟩:∃ n0,r0[0]?=some n0:=⟨_,List.getElem?_eq_getElem (by omega)⟩
     have hbm:=hcm 0 0 r0 n0 hr0 hn0
     have hsoft:aX w b:=by
      rcases hW.new.cell b _ _ hbm with h | h
      ·exact absurd hB (hm0.not_free h)
      ·exact h.2
     have hsubw:(c.m.without b).sub w:=⟨fun k o v h=>by
      simp only [Mem.without,Mem.with] at h
      split at h
      ·cases h
      ·exact hW.sub.cell k o v h,hW.sub.map⟩
     obtain ⟨ct,hct⟩:∃ ct:Ctx,ct=⟨c.ρ,c.τ,c.σ,c.m.without b,c.x,c.xn⟩:=⟨_,rfl⟩
     have hrun:=hC.runs (c.m.without b) w (rest.map a.eval) b cap hsubw (fun o=>by simp [Mem.without,Mem.with]) hsoft hc (fun i j r n h1 h2=>hW.sub.cell _ _ _ (hcm i j r n h1 h2)) (by simp) (fun i x v h1 h2=>by
      rw [List.getElem?_map] at h1 h2
      obtain ⟨q,hq,rfl⟩:=Option.map_eq_some_iff.1 h1
      rw [hq] at h2
      simp only [Option.map_some,Option.some.injEq] at h2
      subst h2
      have h3:=List.all_eq_true.1 hthin q (List.mem_of_getElem? hq)
      have h4:RC ct ((ev s q).pub) (a.eval q):=by
       have:=(RC.of_RD (c:=c) (aB ht q).pub).thinned (c':=ct) (by rw [hct])
       rwa [AV.thin_thinned h3] at this
      have h5:=h4.pub
      rw [hct] at h5
      have h6:(ev s q).pub.pub=(ev s q).pub:=by
       generalize ev s q=z
       cases z with
       | agg cs=>simp only [AV.pub,AV.agg.injEq,List.map_map]; apply List.map_congr_left; intro x _; cases x <;> first | rfl | (rename_i o _ _ _; cases o <;> rfl)
       | sl o _ _=>cases o <;> rfl
       | _=>rfl
      rwa [h6] at h5)
     have hfv:a.eval fo = .func (.func f) #[] #[]:=by
      have:=aB ht fo
      rw [hf] at this
      exact this.fn
     have hev0:a.eval (.tmp d0) = .slice (some ⟨b,0,none⟩) rows.length cap:=hv0e.symm
     have hexe:(execOp a.eval o).run Γ.P w = .ok (.enter f (Value.slice (some ⟨b,0,none⟩) rows.length cap::rest.map a.eval).toArray) w:=by
      simp only [execOp,hop,Sem.run_bind,resolve,hcal,hfv,Deferred.ofValue,Sem.run_pure,Result.andThen_ok,invoke,hC.enters _ w]
      congr 2
      apply Array.ext'
      simp [hargs,hev0]
     refine ⟨fun f _=>hΓ.fn f,?_⟩
     rw [Oper.semAt_eq _ _ _ (by rw [hop]; intro c hc; cases hc),hexe,Oper.uponIn_enter]
     refine ⟨fun h=>(by rw [hΓ.depth] at h; cases h),(ck hΓ hrun _).mono ?_⟩
     rintro e w' ⟨v,m',r,rows',rfl,q1,q2,q3,q4,q5,q6,q7,q8,q9,q10,q11⟩
     obtain ⟨W1,W2⟩:=hW.ocall hm0 hB ⟨_,_,hbm⟩ hsoft q6 q7 q8 q9 q10 q11
     have hKr:=hK r rows' q1 q3 q4
     obtain ⟨c',hc'⟩:∃ c':Ctx,c'=⟨c.ρ,fun _ => .slice none 0 0,fun _=>0,m',fun _=>none,c.xn⟩:=⟨_,rfl⟩
     rw [← hc'] at W1
     have hcm':c'.m=m':=by rw [hc']
     have hts:∀ e z,get ((d0,AV.sl .no sz (bu rows'))::fY AV.thinned s.t) e=some z→RC c' z (a.tmps.getD e Go.undef):=fun e z hz=>by
      rw [ak] at hz
      split at hz
      ·rename_i he
       cases hz
       subst he
       rw [← hv0e]
       refine RC.of_RD ?_
       rw [hcm']
       refine RD.sl _ _ _ _ _ _ (by intro k hk; cases hk) (by intro hk; cases hk) (by simp [bu,q3]) hc (fun x hx=>?_) (fun x hx z hz=>?_) b 0 (fun _=>rfl) (fun i j=>match rows'[i]? with | some r=>(match r[j]? with | some n=>Value.int .i64 n | none=>Go.undef) | none=>Go.undef) (fun i x j z h1 h2=>?_) (fun i x j z h1 h2=>?_)
       ·obtain ⟨y,hy,rfl⟩:=List.mem_map.1 hx
        simpa using q4 y hy
       ·obtain ⟨y,hy,rfl⟩:=List.mem_map.1 hx
        obtain ⟨n,_,rfl⟩:=List.mem_map.1 hz
        rfl
       ·obtain ⟨y,hy,rfl⟩:=ei h1
        simp only [List.getElem?_map,Option.map_eq_some_iff] at h2
        obtain ⟨n,hn',rfl⟩:=h2
        simp only [hy,hn',Nat.zero_add]
        exact q5 i j y n hy hn'
       ·obtain ⟨y,hy,rfl⟩:=ei h1
        simp only [List.getElem?_map,Option.map_eq_some_iff] at h2
        obtain ⟨n,hn',rfl⟩:=h2
        simp only [hy,hn']
        exact .int _ _
      ·rw [bY] at hz
       obtain ⟨z',hz',rfl⟩:=Option.map_eq_some_iff.1 hz
       exact (ht e z' hz').thinned (by rw [hc'])
     cases hdo:o.dst with
     | none=>
      rw [hdo] at hKr
      exact hn _ _ _ hKr (hI.next W2 W1 (d:=none) (v:=v) (by intro k hk; cases hk) hts) W2 (FT.put ⟨v,by rw [hdo]⟩)
     | some d=>
      rw [hdo] at hKr
      exact hn _ _ _ hKr (hI.next W2 W1 (d:=some d) (v:=v) (by intro k hk; cases hk; exact hdst _ hdo) (bV hts (by rw [hI.size]; exact hdst d hdo) (RC.of_RD (by rw [hcm']; exact q2)))) W2 (FT.put ⟨v,by rw [hdo]⟩)
   ·exact h.elim
  ·exact h.elim
 ·exact h.elim
end
section
variable {Γ:aH} (hΓ:Γ.OK) {T:Tab} (hT:T.OK Γ.P) {Q:Exit→Act→World→Prop}
def lI (T:Tab) (P:Program) (step:St→Oper→(St→Prop)→Prop) (all:List Oper) (guards:List Nat) (n:Nat) (s:St) (K:St→Prop):Prop:=
 fB T (ae P) (bD P) all guards (all.take n) s fun s1=>match all.drop n with
  | o::post=>bif o.guard.isNone then step s1 o fun s2=>fB T (ae P) (bD P) all guards post s2 K else False
  | []=>False
theorem iS:∀ (l r:List Oper),dc (l++r)=dc l++dc r
 | [],_=>rfl
 | o::l,r=>by simp only [List.cons_append,dc,iS l r,List.append_assoc]
include hΓ hT in
theorem SPB.oregG {step:St→Oper→(St→Prop)→Prop} (hst:∀ (s:St) (a:Act) (w:World) (o:Oper) (K:St→Prop) (next:Act→World→Prop) (Q:Exit→Act→World→Prop),Inv Γ s a w→(∀ d,o.dst=some d→d<Γ.nt)→step s o K →
   (∀ s' a' w',K s'→Inv Γ s' a' w'→NC w w'→FT o.dst.toList a a'→next a' w')→o.wpIn Γ.F Γ.n Γ.P a w next Q) (keep:List Nat) (n:Nat) {s:St} {K:Exit→St→Prop} {id:Nat} {ops:Array Oper} (ho:bt Γ.nt (.region id ops false)=true)
  (h:lI T Γ.P step ops.toList (bI ops.toList ops.toList) n s fun s'=>fQ keep s' (K .normal)):SPB Γ s (.region id ops false) K:=by
 refine ⟨fun a w hI=>?_⟩
 obtain ⟨all⟩:=ops
 have hall:=di (l:=all) ho
 refine wpIn_region ?_
 unfold lI at h
 simp only at h
 rw [show (⟨all⟩:Array Oper).size=all.length from rfl,List.range_eq_range']
 cases hd:all.drop n with
 | nil=>
  rw [hd] at h
  have hn:all.length≤n:=by simpa using hd
  have ht:all.take n=all:=List.take_of_length_le hn
  rw [ht] at h
  have:=dP (Q:=fun e a' w'=>NC w w'∧FT (wrs (.region id ⟨all⟩ false)) a a'∧∃ s',Inv Γ s' a' w'∧K e s') hΓ hT 0 hall all 0 s a w _ (fun j o h=>by simpa using h) h hI (fun _ _ _ h=>h.elim)
  simpa using this
 | cons o post=>
  rw [hd] at h
  have hn:n<all.length:=by
   rcases Nat.lt_or_ge n all.length with h | h
   ·exact h
   ·rw [List.drop_of_length_le h] at hd; cases hd
  have hsplit:all.take n++o::post=all:=by rw [← hd,List.take_append_drop]
  have htl:(all.take n).length=n:=by simp; omega
  have hlen:all.length=n+(post.length+1):=by have:=congrArg List.length hsplit; simp only [List.length_append,List.length_cons,htl] at this; omega
  have hon:all[n]?=some o:=by rw [← hsplit,List.getElem?_append_right (by omega),htl]; simp
  rw [hlen]
  have:=dP (Q:=fun e a' w'=>NC w w'∧FT (wrs (.region id ⟨all⟩ false)) a a'∧∃ s',Inv Γ s' a' w'∧K e s') hΓ hT (post.length+1) hall (all.take n) 0 s a w _ (fun j o h=>by
   rw [Nat.zero_add]
   rw [List.getElem?_take] at h
   split at h
   ·exact h
   ·cases h) h hI (fun s1 a1 w1 h1 hI1 hN1 hF1=>?_)
  ·rw [htl] at this; exact this
  ·rw [htl,Nat.zero_add,List.range'_succ]
   have h0:(all.toArray)[n]?=some o:=by simpa using hon
   simp only [wpOpsIn,h0]
   simp only at h1
   cases hgd:o.guard with
   | some g=>rw [hgd] at h1; simp only [Option.isNone_some,cond_false] at h1
   | none=>
    rw [hgd] at h1
    simp only [Option.isNone_none,cond_true] at h1
    simp only [Region.wanted,hgd,if_true]
    have hod:∀ d,o.dst=some d→d<Γ.nt:=fun d hd=>hall n d (by rw [e9,hon]; exact hd)
    refine hst _ _ _ _ _ _ _ hI1 hod h1 (fun s2 a2 w2 hK2 hI2 hN2 hF2=>?_)
    have hds:dc all=dc (all.take n)++(o.dst.toList++dc post):=by
     conv=>lhs; rw [← hsplit]
     rw [iS]; rfl
    refine gt hΓ hT hall post (n+1) s2 a2 w2 _ (fun j=>?_) hK2 hI2 (fun s3 a3 w3 hK3 hI3 hN3 hF3=>?_)
    ·conv=>rhs; rw [← hsplit]
     rw [List.getElem?_append_right (by omega),htl,show n+1+j - n=j+1 by omega,List.getElem?_cons_succ]
    ·obtain ⟨s4,h4,hle⟩:=dA hK3
     refine ⟨(hN1.trans hN2).trans hN3,?_,s4,hI3.less hle,h4⟩
     show FT (dc all) a a3
     rw [hds]
     exact ((hF1.mono fun d hd=>List.mem_append_left _ hd).trans (hF2.mono fun d hd=>List.mem_append_right _ (List.mem_append_left _ hd))).trans (hF3.mono fun d hd=>List.mem_append_right _ (List.mem_append_right _ hd))
include hΓ hT in
theorem SPB.oreg (hm0:Γ.m0.sub Γ.w0) (keep:List Nat) (n:Nat) {s:St} {K:Exit→St→Prop} {id:Nat} {ops:Array Oper} (ho:bt Γ.nt (.region id ops false)=true)
  (h:lI T Γ.P (EX (dJ Γ.P)) ops.toList (bI ops.toList ops.toList) n s fun s'=>fQ keep s' (K .normal)):SPB Γ s (.region id ops false) K:=
 SPB.oregG hΓ hT (fun _ _ _ _ _ _ _ hI hd h hn=>xG hΓ hm0 hI hd h hn) keep n ho h
end
theorem eJ.ofSPm {P:Program} {T:Tab} (hT:T.OK P) {f:FuncId} {fn:Func} {body:Code} {args:List AV} {R:AV→Prop} (hf:P.funcs[f]?=some fn) (hb:fn.body=some body)
  (hname:(fn.name == "runtime.NumGoroutine")=false) (hm:P.follows .mixedOrders=true) (hn:args.length≤fn.ntmps)
  (h:∀ (F:Fence) (n:Nat) (w0:World) (m0:Mem),aH.OK ⟨P,F,n,w0,m0,fn.ntmps⟩→F.round=none→9≤n→m0.sub w0→SP ⟨P,F,n,w0,m0,fn.ntmps⟩ ⟨params 0 args,[]⟩ body (fun e s=>∃ r,R r∧Ends T fn.results.toList r e s)):eJ P f args R:=by
 refine ⟨Go.Proofs.enters_of hf hname hb,fun m w vs hs hlen hr=>?_⟩
 have hG:aH.OK ⟨P,Fence.wide,9,w,m,fn.ntmps⟩:=⟨fun _=>trivial,rfl,rfl,hm⟩
 refine callsIn_wide.1 (callsIn_of_wp_marks (n:=9) hf hb trivial ?_)
 have hp:=h Fence.wide 9 w m hG rfl (Nat.le_refl _) hs
 refine wpIn_mono (hp _ w ⟨⟨_,WI.init (Γ:=⟨P,Fence.wide,9,w,m,fn.ntmps⟩) hs rfl,fun d x hx=>?_⟩,by simp; omega,⟨[],rfl,List.nodup_nil,by simp⟩,fun _ h=>nomatch h⟩) ?_
 ·obtain ⟨_,h2⟩:=eG _ _ _ _ hx
  simp only [Nat.sub_zero] at h2
  have hdl:d<args.length:=(List.getElem?_eq_some_iff.1 h2).1
  refine RC.of_RD (c:=⟨_,_,_,m,_,_⟩) (hr d x _ h2 ?_)
  rw [Array.getD_eq_getD_getElem?,Array.getElem?_append_left (by simp; omega)]
  simp [List.getElem?_eq_getElem (show d<vs.length by omega)]
 ·intro e a w' ⟨hN,_,s',hI,⟨r,hr0,⟨he,hR⟩⟩⟩
  have hpost:LeavesInM Fence.wide 9 P fn a.tmps (fun e w'=>∃ r,R r∧∃ v m',e = .returned v∧RD m' r v∧m.le m'∧Mem.sub m' w'∧RowKit.Below w.heap.size w w'∧m.News (w.heap.size≤·) m' w'∧dU w w') a.defers .returning w':=by
   obtain ⟨⟨c,hW,ht⟩,_,⟨Ds,hD1,hD2,hD3⟩,_⟩:=hI
   rw [hD1]
   refine nN Ds w' (hW.ext.toBelow hN) hW.sub hD2 (fun D hD=>⟨(hD3 D hD).1,(hD3 D hD).2⟩) fun w2 h1 h2 h3 h4=>?_
   obtain ⟨v,hv1,hv2⟩:=jZ (a:=a) hT (hW.keep (.ofBelow h1) h2 h3) ht hR
   exact ⟨v,hv1,r,hr0,v,c.m,rfl,hv2,hW.le0,h2,h1,(hW.new.unfree hW.sub hN).keep fun _ ⟨c,T,h⟩=>⟨c,T,h3 _ _ h rfl⟩,hN.more.trans h4⟩
  rcases he with rfl | rfl <;> exact hpost
theorem ae.ofBm {P:Program} {T:Tab} (hT:T.OK P) {f:FuncId} {fn:Func} {body:Code} {args:List AV} {r:AV} (hf:P.funcs[f]?=some fn) (hb:fn.body=some body)
  (hname:(fn.name == "runtime.NumGoroutine")=false) (hm:P.follows .mixedOrders=true) (hn:args.length≤fn.ntmps)
  (h:∀ (F:Fence) (n:Nat) (w0:World) (m0:Mem),aH.OK ⟨P,F,n,w0,m0,fn.ntmps⟩→F.round=none→9≤n→m0.sub w0→SPB ⟨P,F,n,w0,m0,fn.ntmps⟩ ⟨params 0 args,[]⟩ body (Ends T fn.results.toList r)):ae P f args r:=
 eJ.one (eJ.ofSPm hT hf hb hname hm hn fun F n w0 m0 h1 h2 h3 h4=>(h F n w0 m0 h1 h2 h3 h4).out.mono fun _ _ he=>⟨_,rfl,he⟩)
end Go.AI
namespace Go.AI
open Go
open Go.RowKit (Below)
def GP (T:Tab) (rs:List ResultVar) (s:St) (N:List Nat) (r:AV):Prop:=match rs with
 | [x]=>match xj T s x with
  | some (.me .sl k n [])=>r = .me .sl k n []∧bX N k=true
  | _=>False
 | _=>False
theorem Bl {Γ:aH} {T:Tab} (hT:T.OK Γ.P) {s:St} {a:Act} {w:World} {c:Ctx} {fn:Func} {N I:List Nat} {r:AV} (hW:WI Γ c s.b w) (ht:∀ d x,get s.t d=some x→RC c x (a.tmps.getD d Go.undef)) (h:GP T fn.results.toList s N r) :
  ∃ v,(results fn a.tmps).run Γ.P w = .ok v w∧RR (c.only N I) N r v:=by
 have e:results fn a.tmps=(do let vs ← fn.results.toList.mapM (qU a.tmps); pure (if h:vs.toArray.size=1 then vs.toArray[0] else .tuple vs.toArray)):=by
  unfold results
  rw [Array.mapM_eq_mapM_toList]
  simp only [bind_map_left]
  congr 2
 rw [e]
 unfold GP at h
 split at h
 ·rename_i x hx
  split at h
  ·rename_i k n hv
   obtain ⟨rfl,hk⟩:=h
   have hk:=fN hk
   obtain ⟨u,hu1,hu2⟩:=mI hT hW ht hv
   refine ⟨u,?_,hk,RX.only hk (fun j hj=>by simp [lT,Hw] at hj) (show RX c .sl k n [] u from hu2)⟩
   rw [hx]
   simp [List.mapM_cons,Sem.run_bind,hu1,Result.andThen_ok]
  ·exact h.elim
 ·exact h.elim
theorem RR.of_RD {c:Ctx} {N I:List Nat} {r:AV} {v:Value} (h:RD c.m r v):RR (c.only N I) N r v:=by
 cases r with
 | me g k n xs=>exact nomatch h
 | _=>exact h
def Ff (N:List Nat) (args:List AV) (body:Code):Bool:=N.all (fun k=>Nat.blt k 7000000)||(!bX (wrs body) 0&&N.all fun k=>Nat.blt k 7000000||(match args with | .me .sl k' _ _::_=>Nat.beq k' k | _=>false))
def B0 (N:List Nat) (s:St):Bool:=N.all fun k=>Nat.blt k 7000000||(match get s.t 0 with | some (.me .sl k' _ _)=>Nat.beq k' k | _=>false)
structure iO (T:Tab) (rs:List ResultVar) (N I:List Nat) (R:AV→List (Nat×AV)→Prop) (e:Exit) (s:St):Prop where
 ex:e = .ret∨e = .normal
 ok:∃ r L',R r L'∧(Cr T rs s r∨GP T rs s N r)∧dE s (fy L')=some L'∧((fy L').all (bX N)&&((lT L').all (bX I)&&B0 N s))=true
theorem ECQ.ofB {P:Program} {T:Tab} (hT:T.OK P) {f:FuncId} {fn:Func} {body:Code} {N I:List Nat} {args:List AV} {L:List (Nat×AV)} {R:AV→List (Nat×AV)→Prop} (hf:P.funcs[f]?=some fn) (hb:fn.body=some body)
  (hname:(fn.name == "runtime.NumGoroutine")=false) (hm:P.follows .mixedOrders=true) (hn:args.length≤fn.ntmps)
  (h:∀ (F:Fence) (n:Nat) (w0:World) (m0:Mem),aH.OK ⟨P,F,n,w0,m0,fn.ntmps⟩→F.round=none→9≤n→SPB ⟨P,F,n,w0,m0,fn.ntmps⟩ ⟨xkL L++params 0 args,[]⟩ body (iO T fn.results.toList N I R)) (hkp:Ff N args body=true:=by rfl):ECQ P f N I args L R:=by
 refine ⟨Go.Proofs.enters_of hf hname hb,fun c w vs hL hlen hr=>?_⟩
 obtain ⟨Γ,hΓe⟩:∃ Γ:aH,Γ=⟨P,Fence.wide,9,je w (bR c N I),c.m,fn.ntmps⟩:=⟨_,rfl⟩
 have hw0:Γ.w0=je w (bR c N I):=by rw [hΓe]
 have hm0:Γ.m0=c.m:=by rw [hΓe]
 have hP:Γ.P=P:=by rw [hΓe]
 have hT':T.OK Γ.P:=by rw [hP]; exact hT
 have hG:aH.OK ⟨P,Fence.wide,9,je w (bR c N I),c.m,fn.ntmps⟩:=⟨fun _=>trivial,rfl,rfl,hm⟩
 refine callsIn_wide.1 (callsIn_of_wp_marks (n:=9) hf hb trivial ?_)
 have hp:=(h Fence.wide 9 (je w (bR c N I)) c.m hG rfl (Nat.le_refl _)).out
 rw [← hΓe] at hp
 have hW0:WI Γ c [] w:=by
  have q:=hL.wi
  rw [hΓe]
  exact ⟨q.ext,q.sub,q.le0,q.new,q.box,q.inj,fun k=>⟨(q.own k).blk,(q.own k).shape,(q.own k).box,(q.own k).apart⟩,fun k b o hx=>⟨(q.xo k b o hx).new,(q.xo k b o hx).obj,(q.xo k b o hx).kept,(q.xo k b o hx).mem,(q.xo k b o hx).map,(q.xo k b o hx).box,(q.xo k b o hx).own,(q.xo k b o hx).inj⟩⟩
 have hI0:Inv Γ ⟨xkL L++params 0 args,[]⟩ ⟨vs.toArray++Array.replicate (fn.ntmps - vs.toArray.size) Go.undef,[]⟩ w:=by
  refine ⟨⟨c,hW0,fun d x hx=>?_⟩,by rw [hΓe]; simp; omega,⟨[],rfl,List.nodup_nil,by simp⟩,fun _ h=>by rw [hΓe] at h; exact nomatch h⟩
  rw [bU] at hx
  cases hg:get (xkL L) d with
  | some y=>
   rw [hg] at hx
   cases hx
   obtain ⟨p,hp,rfl,rfl⟩:=u7 hg
   obtain ⟨_,g,n,xs,e,_⟩:=hL.shape p hp
   have:=hL.ent p hp ((vs.toArray++Array.replicate (fn.ntmps - vs.toArray.size) Go.undef).getD (xk p.1) Go.undef)
   rw [e] at this ⊢
   exact this
  | none=>
   rw [hg] at hx
   obtain ⟨_,h2⟩:=eG _ _ _ _ (show get (params 0 args) d=some x from hx)
   simp only [Nat.sub_zero] at h2
   have hdl:d<args.length:=(List.getElem?_eq_some_iff.1 h2).1
   refine hr d x _ h2 ?_
   rw [Array.getD_eq_getD_getElem?,Array.getElem?_append_left (by simp; omega)]
   simp [List.getElem?_eq_getElem (show d<vs.length by omega)]
 have hp2:=hp _ w hI0
 rw [hΓe] at hp2
 refine wpIn_mono hp2 ?_
 rw [← hΓe]
 intro e a w' ⟨hN,hFT,s',hI,⟨he,r,L',hR,hRet,hent,hchk⟩⟩
 have hpost:LeavesInM Fence.wide 9 P fn a.tmps (fun e w'=>∃ r L' v c',R r L'∧e = .returned v∧RR c' N r v∧GR P c' N I L' w'∧c.m.le c'.m∧Bn (bR c N I) w w' ∧
   (∀ b,bR c' N I b→bR c N I b∨w.heap.size≤b)∧c.m.News (fun b=>bR c N I b∨w.heap.size≤b) c'.m w'∧NC w w'∧∀ k∈N,7000000≤k→sR c.x c'.x c.xn c'.xn k) a.defers .returning w':=by
  obtain ⟨⟨c1,hW,ht⟩,_,⟨Ds,hD1,hD2,hD3⟩,_⟩:=hI
  rw [hD1]
  have hsz:Γ.w0.heap.size=w.heap.size:=by rw [hw0,mV]
  refine nN (B:=w.heap.size) (w0:=w') Ds w' (.refl _ _) hW.sub hD2 (fun D hD=>⟨(hD3 D hD).1,hsz ▸ (hD3 D hD).2⟩) fun w2 h1 h2 h3 h4=>?_
  have hW2:=hW.keep (hW.ext.trans (.of h1 (by rw [hsz]; exact Nat.le_refl _))) h2 h3
  obtain ⟨v,hv1,hv2⟩:∃ v,(results fn a.tmps).run P w2 = .ok v w2∧RR (c1.only N I) N r v:=by
   rcases hRet with hRet | hRet
   ·obtain ⟨v,hv1,hv2⟩:=jZ (a:=a) hT' hW2 ht hRet
    rw [hP] at hv1
    exact ⟨v,hv1,RR.of_RD hv2⟩
   ·have:=Bl (a:=a) (I:=I) hT' hW2 ht hRet
    rw [hP] at this
    exact this
  have hNC:NC w w2:=⟨Nat.le_trans hN.size h1.size,fun b o hb ho=>(h1.block b (Array.getElem?_eq_some_iff.1 hb).1).trans (hN.same b o hb ho),hN.more.trans h4,fun b hb=>by
   obtain ⟨cs,U,hc⟩:=hN.soft b hb
   exact ⟨cs,U,h3 b _ hc rfl⟩⟩
  have hno:∀ b o,w2.heap[b]?=some o→nD o=true→w.heap[b]?≠some (Obj.deferred none):=fun b o hb ho hc=>by
   rw [hNC.same b _ hc rfl] at hb; cases hb; cases ho
  simp only [Bool.and_eq_true,List.all_eq_true] at hchk
  have hB:∀ b,bR (c1.only N I) N I b→bR c N I b∨w.heap.size≤b:=fun b hb=>by
   have hb':=mW.1 hb
   obtain ⟨hf,_⟩:=hW2.lent_free hb'
   rw [hw0] at hf
   rcases jQ hf with h | h | h
   ·exact .inr h
   ·exact .inl h
   ·rcases hb' with ⟨k,_,o,hx⟩ | ⟨j,_,hj⟩
    ·exact absurd h (hno b o (hW2.xo k b o hx).obj (hW2.xo k b o hx).kept)
    ·obtain ⟨_,_,_,_,_,q,_⟩:=(hW2.own j).blk b hj
     exact absurd h (hno b _ q rfl)
  have hkept:∀ k∈N,7000000≤k→sR c.x (c1.only N I).x c.xn (c1.only N I).xn k:=fun k hk h7=>by
   have hn7:Nat.blt k 7000000=false:=by
    cases hb:Nat.blt k 7000000 with
    | false=>rfl
    | true=>have:=Nat.le_of_ble_eq_true hb; omega
   have h0:B0 N s'=true:=hchk.2.2
   have h0:=List.all_eq_true.1 h0 k hk
   rw [hn7,Bool.false_or] at h0
   have g0:=hkp
   simp only [Ff,Bool.or_eq_true] at g0
   rcases g0 with g0 | g0
   ·have:=List.all_eq_true.1 g0 k hk; rw [hn7] at this; cases this
   ·simp only [Bool.and_eq_true,Bool.not_eq_true'] at g0
    obtain ⟨g1,g2⟩:=g0
    have g2:=List.all_eq_true.1 g2 k hk
    rw [hn7,Bool.false_or] at g2
    split at h0
    ·rename_i k1 n1 x1 he1
     have e1:=Nat.eq_of_beq_eq_true h0
     subst e1
     split at g2
     ·rename_i k2 n2 x2 rest _
      have e2:=Nat.eq_of_beq_eq_true g2
      subst e2
      have q1:=ht _ _ he1
      have hlen':0<vs.length:=by rw [← hlen]; simp
      have q0:=hr 0 _ vs[0] rfl (List.getElem?_eq_getElem hlen')
      have hnot:0 ∉ wrs body:=fun h=>by rw [(ba).2 h] at g1; cases g1
      have hsame:=FT.tmps hFT hnot (by omega)
      rw [hsame] at q1
      have hv0:(vs.toArray++Array.replicate (fn.ntmps - vs.toArray.size) Go.undef).getD 0 Go.undef=vs[0]:=by
       rw [Array.getD_eq_getD_getElem?,Array.getElem?_append_left (by simpa using hlen')]
       simp [List.getElem?_eq_getElem hlen']
      rw [hv0] at q1
      obtain ⟨b1,cells1,T1,cap1,r1,r2,r3,r4⟩:=(show RX c1 .sl k2 n1 x1 vs[0] from q1)
      obtain ⟨b0,cells0,T0,cap0,p1,p2,p3,p4⟩:=(show RX c .sl k2 n2 x2 vs[0] from q0)
      rw [p2] at r2
      simp only [Value.slice.injEq,Option.some.injEq] at r2
      obtain ⟨r21,r22,r23⟩:=r2
      have r24:b0=b1:=by cases r21; rfl
      refine ⟨?_,fun b cells T h=>?_⟩
      ·show (c1.only N I).xn k2=c.xn k2
       have:(c1.only N I).xn k2=c1.xn k2:=rfl
       rw [this]
       exact Prod.ext (by omega) (by omega)
      ·rw [p1] at h
       cases h
       refine ⟨cells1,T1,?_⟩
       show (if k2∈N then c1.x k2 else none)=_
       rw [if_pos hk,r1,r24]
     ·cases g2
    ·cases h0
  refine ⟨v,hv1,r,L',v,c1.only N I,hR,rfl,hv2,⟨hW2.lend hL.big rfl rfl,fun p hp u=>?_,fun p hp=>?_,fun j hj=>fN (hchk.2.1 j hj),fun k hk=>if_neg hk,fun j hj=>if_neg hj,hL.big⟩,?_,⟨?_,?_,?_,?_,fun k hk hnB=>?_⟩,hB,⟨fun b o v hb=>?_,fun b x hb=>?_⟩,hNC,hkept⟩
  ·obtain ⟨_,e2,g,n,xs,e3,e4⟩:=e7 hent p hp
   have hr:=ht _ _ e2
   have hpN:p.1∈N:=fN (hchk.1 _ (mT hp))
   obtain ⟨pk,pv⟩:=p
   simp only at e3
   subst e3
   exact RX.any e4 (RX.only hpN (fun j hj=>fN (hchk.2.1 j (nR hp hj))) (show RX c1 g pk n xs _ from hr))
  ·obtain ⟨_,_,e3⟩:=e7 hent p hp
   exact ⟨fN (hchk.1 _ (mT hp)),e3⟩
  ·have:=hW.le0; rw [hm0] at this; exact this
  ·have:=hW2.ext.os; rw [hw0] at this; exact this
  ·have:=hW2.ext.tape; rw [hw0] at this; exact this
  ·have:=hW2.ext.output; rw [hw0] at this; exact this
  ·exact hNC.size
  ·by_cases hd:w.heap[k]?=some (Obj.deferred none)
   ·rw [hd]; exact hNC.same k _ hd rfl
   ·have hnf:¬ free Γ.w0 k:=fun hf=>by
     rw [hw0] at hf
     rcases jQ hf with h | h | h
     ·omega
     ·exact hnB h
     ·exact hd h
    have:=hW2.ext.block k hnf
    rw [this,hw0,oV hnB]
  ·have hc:=hW2.new.cell b o v hb
   rw [hm0,hw0] at hc
   refine hc.imp id fun ⟨h5,h6⟩=>⟨?_,h6⟩
   rcases jQ h5 with h | h | h
   ·exact .inr h
   ·exact .inl h
   ·obtain ⟨cs,U,hc⟩:=h6
    exact absurd h (hno b _ hc rfl)
  ·have hc:=hW2.new.map b x hb
   rw [hm0,hw0] at hc
   refine hc.imp id fun h5=>?_
   rcases jQ h5 with h | h | h
   ·exact .inr h
   ·exact .inl h
   ·exact absurd h (hno b _ (hW2.sub.map b x hb) rfl)
 rcases he with rfl | rfl <;> exact hpost
def AV.pinL (d k b:Nat) (fr:List AV):AV→AV
 | .loc d' off=>bif Nat.beq d d' then .pin k b off (fr.drop off) else .loc d' off
 | .me g k' n xs=>bif Nat.beq k k' then .junk else .me g k' n xs
 | x=>x
def St.pin (s:St) (d k b:Nat) (cs:List AV):St:=⟨(xk k,.me .box k b [cs.drop (lo k)])::fY (AV.pinL d k b ((cs.take (lo k)).map AV.pub1)) s.t,(d,[])::s.b⟩
section
variable {Γ:aH} {c:Ctx} {bx:List (Nat×List AV)} {w:World}
theorem WI.pin (hW:WI Γ c bx w) {d k:Nat} {cs:List AV} (h:get bx d=some cs) (hne:cs≠[]) {vs:Array Value} {T:TypeId} (hv:w.heap[c.ρ d]?=some (.cells vs T (0,0))) :
  let c':Ctx:={ c with m:=c.m.with fun b o=>if b=c.ρ d then (if o<lo k then vs[o]? else none) else c.m b o,x:=fun j=>if j=k then some (c.ρ d,.cells vs T (0,0)) else c.x j }
  WI Γ c' ((d,[])::bx) w∧c.leX k c':=by
 intro c'
 obtain ⟨h1,h2,h3,vs',T',h4,h5,h6⟩:=hW.box d cs h hne
 rw [hv] at h4
 cases h4
 have hle:c.m.le c'.m:=⟨fun b o v hm=>by
  show (if b=c.ρ d then _ else _)=_
  rw [if_neg (fun e=>by subst e; rw [h2 o] at hm; cases hm)]; exact hm,fun _ _ h=>h⟩
 have hL:c.leX k c':=⟨hle,rfl,rfl,rfl,fun j hj=>⟨if_neg hj,rfl⟩⟩
 have hnm:c.m.maps (c.ρ d)=none:=by
  cases hm:c.m.maps (c.ρ d) with
  | none=>rfl
  | some x=>have:=hW.sub.map _ x hm; rw [hv] at this; cases this
 refine ⟨⟨hW.ext,⟨fun b o v hm=>?_,hW.sub.map⟩,hW.le0.trans hle,⟨fun b o v hm=>?_,hW.new.map⟩,fun d' ds hd' hne'=>?_,fun d1 d2 c1 c2 g1 g2 n1 n2 hρ=>?_,fun j=>?_,fun j b o hx=>?_⟩,hL⟩
 ·simp only [c',Mem.with] at hm
  split at hm
  ·rename_i hb
   split at hm
   ·subst hb; simpa [World.cell?,hv] using hm
   ·cases hm
  ·exact hW.sub.cell b o v hm
 ·simp only [c',Mem.with] at hm
  split at hm
  ·rename_i hb; exact .inr (by rw [hb]; exact ⟨h1,vs,T,hv⟩)
  ·exact hW.new.cell b o v hm
 ·rw [ak] at hd'
  split at hd'
  ·cases hd'; exact absurd rfl hne'
  ·rename_i hdd
   obtain ⟨g1,g2,g3,us,U,g4,g5,g6⟩:=hW.box d' ds hd' hne'
   refine ⟨g1,fun o=>?_,g3,us,U,g4,g5,fun i x v q1 q2=>(g6 i x v q1 q2).leX_cell hL (g3 x (List.mem_of_getElem? q1))⟩
   show (if c.ρ d'=c.ρ d then _ else _)=_
   rw [if_neg (fun e=>hdd (hW.inj d' d ds cs hd' h hne' hne e))]; exact g2 o
 ·rw [ak] at g1 g2
  split at g1
  ·cases g1; exact absurd rfl n1
  ·split at g2
   ·cases g2; exact absurd rfl n2
   ·exact hW.inj d1 d2 c1 c2 g1 g2 n1 n2 hρ
 ·have ho:=hW.own j
  refine ⟨fun g hg=>?_,ho.shape,fun g d' ds hg hd' hne'=>?_,ho.apart⟩
  ·obtain ⟨len,cap,U,cells,q1,q2,q3,q4,q5⟩:=ho.blk g hg
   refine ⟨len,cap,U,cells,q1,q2,q3,fun o ho'=>?_,q5⟩
   show (if g=c.ρ d then _ else _)=_
   rw [if_neg (fun e=>ho.box g d cs hg h hne e.symm)]; exact q4 o ho'
  ·rw [ak] at hd'
   split at hd'
   ·cases hd'; exact absurd rfl hne'
   ·exact ho.box g d' ds hg hd' hne'
 ·simp only [c'] at hx
  split at hx
  ·rename_i hj
   cases hx
   refine ⟨h1,hv,rfl,fun i hi=>?_,hnm,fun d' ds hd' hne'=>?_,fun i hi=>(hW.own i).box _ d cs hi h hne rfl,fun i o' hi=>?_⟩
   ·show (if c.ρ d=c.ρ d then (if i<lo k then vs[i]? else none) else _)=none
    rw [if_pos rfl,if_neg (by rw [← hj]; omega)]
   ·rw [ak] at hd'
    split at hd'
    ·cases hd'; exact absurd rfl hne'
    ·rename_i hdd
     exact fun e=>hdd (hW.inj d' d ds cs hd' h hne' hne e)
   ·simp only [c'] at hi
    split at hi
    ·rename_i e; rw [e,hj]
    ·exact absurd rfl ((hW.xo i _ o' hi).box d cs h hne)
  ·rename_i hj
   have hq:=hW.xo j b o hx
   have hnb:b≠c.ρ d:=fun e=>hq.box d cs h hne e.symm
   refine ⟨hq.new,hq.obj,hq.kept,fun i hi=>?_,hq.map,fun d' ds hd' hne'=>?_,hq.own,fun i o' hi=>?_⟩
   ·show (if b=c.ρ d then _ else _)=_
    rw [if_neg hnb]; exact hq.mem i hi
   ·rw [ak] at hd'
    split at hd'
    ·cases hd'; exact absurd rfl hne'
    ·exact hq.box d' ds hd' hne'
   ·simp only [c'] at hi
    split at hi
    ·cases hi; exact absurd rfl hnb
    ·exact hq.inj i o' hi
end
section
variable {Γ:aH} {T:Tab} {s:St} {K:Exit→St→Prop}
theorem SPB.pin {c:Code} (d k:Nat) {cs:List AV} (h1:get s.b d=some cs) (hne:rm cs=true) (hlo:Nat.ble (lo k) cs.length=true) (h:∀ b,SPB Γ (s.pin d k b cs) c K):SPB Γ s c K:=by
 refine ⟨fun a w hI=>?_⟩
 obtain ⟨⟨cx,hW,ht⟩,hs,hd,hrn⟩:=hI
 have hne:cs≠[]:=fun e=>by rw [e] at hne; cases hne
 have hlo:=Nat.le_of_ble_eq_true hlo
 obtain ⟨q1,q2,q3,vs,U,q4,q5,q6⟩:=hW.box d cs h1 hne
 obtain ⟨W1,W2⟩:=hW.pin (k:=k) h1 hne q4
 refine (h (cx.ρ d)).out a w ⟨⟨_,W1,fun e z hz=>?_⟩,hs,hd,hrn⟩
 simp only [St.pin] at hz
 rw [ak] at hz
 split at hz
 ·cases hz
  refine ⟨vs,U,_,if_pos rfl,rfl,?_,fun y hy=>q3 y (List.mem_of_mem_drop hy),fun i y u g1 g2=>?_⟩
  ·rw [List.length_drop]; omega
  ·rw [List.getElem?_drop] at g1
   have hc:=q3 y (List.mem_of_getElem? g1)
   exact RO.ofRC1 hc ((q6 _ y u g1 g2).leX_cell W2 hc)
 ·rw [bY] at hz
  obtain ⟨z',hz',rfl⟩:=Option.map_eq_some_iff.1 hz
  have hr:=ht e z' hz'
  have hun:=hr.leX W2
  cases z' with
  | loc d' off=>
   simp only [AV.pinL]
   cases hb:Nat.beq d d' with
   | false=>exact hun
   | true=>
    have:=Nat.eq_of_beq_eq_true hb
    subst this
    rw [cond_true]
    have hl:a.tmps.getD e Go.undef = .pointer (some ⟨cx.ρ d,off,none⟩):=hr
    rw [hl]
    refine RC.of_RD ?_
    have hget:∀ (i:Nat) (y:AV),(((cs.take (lo k)).map AV.pub1).drop off)[i]?=some y→∃ x v,cs[off+i]?=some x∧vs[off+i]?=some v∧y=x.pub1∧off+i<lo k:=by
     intro i y hy
     rw [List.getElem?_drop,List.getElem?_map] at hy
     obtain ⟨x,hx,rfl⟩:=Option.map_eq_some_iff.1 hy
     rw [List.getElem?_take] at hx
     split at hx
     ·have hlt:off+i<vs.size:=by have:=(List.getElem?_eq_some_iff.1 hx).1; omega
      exact ⟨x,_,hx,Array.getElem?_eq_getElem hlt,rfl,by assumption⟩
     ·cases hx
    refine .pin _ _ _ _ (fun y hy=>?_) (fun i=>(vs[off+i]?).getD Go.undef) (fun i y hy=>?_) (fun i y hy=>?_)
    ·obtain ⟨i,hi⟩:=List.getElem?_of_mem hy
     obtain ⟨x,v,g1,_,rfl,_⟩:=hget i y hi
     exact AV.pub1_cell (q3 x (List.mem_of_getElem? g1))
    ·obtain ⟨x,v,g1,g2,_,g3⟩:=hget i y hy
     show (if cx.ρ d=cx.ρ d then (if off+i<lo k then vs[off+i]? else none) else _)=_
     rw [if_pos rfl,if_pos g3,g2]; rfl
    ·obtain ⟨x,v,g1,g2,rfl,_⟩:=hget i y hy
     rw [g2]
     have hc:=q3 x (List.mem_of_getElem? g1)
     exact ((q6 _ x v g1 g2).leX_cell W2 hc).pub
  | me g k' n xs=>exact hun
  | _=>exact hun
def AV.reN (k k':Nat):AV→AV
 | .me g j n xs=>bif Nat.beq k j then .me g k' n xs else bif Nat.beq k' j then .junk else .me g j n xs
 | x=>x
theorem RX.reN {c c':Ctx} {g:qo} {k k' n:Nat} {xs:List (List AV)} {v:Value} (hx:c'.x k'=c.x k) (hxn:c'.xn k'=c.xn k) (hτ:c'.τ=c.τ) (hσ:c'.σ=c.σ) (hm:c'.m=c.m) (hlo:lo k'=lo k) (h:RX c g k n xs v):RX c' g k' n xs v:=by
 cases g with
 | box=>
  obtain ⟨cells,T,own,r1,r2,r3,r4,r5⟩:=h
  exact ⟨cells,T,own,by rw [hx]; exact r1,r2,by rw [hlo]; exact r3,r4,fun i y u h1 h2=>(r5 i y u h1 (by rw [← hlo]; exact h2)).mono hτ hσ (by rw [hm]; exact .refl _)⟩
 | sl=>simp only [RX,hx,hxn] at h ⊢; exact h
 | ptr sz j=>simp only [RX,hx] at h ⊢; exact h
 | arr=>
  obtain ⟨b,cells,T,r1,r0,r2,r3,r4⟩:=h
  exact ⟨b,cells,T,by rw [hx]; exact r1,by rw [hxn]; exact r0,r2,r3,fun i r j y h1 h2=>let ⟨u,q1,q2⟩:=r4 i r j y h1 h2; ⟨u,q1,by rw [hm]; exact q2⟩⟩
 | mp=>simp only [RX,hx] at h ⊢; exact h
 | sub sz l=>simp only [RX,hx,hxn] at h ⊢; exact h
 | ents=>
  obtain ⟨es,clock,r1,r2,r3,r4,r5,r6⟩:=h
  exact ⟨es,clock,by rw [hx]; exact r1,r2,r3,r4,fun i x e y h1 h2 h3=>by rw [hm]; exact r5 i x e y h1 h2 h3,fun i x e y h1 h2 h3=>by rw [hm]; exact r6 i x e y h1 h2 h3⟩
theorem SPB.reX {c:Code} (k k':Nat) {g:qo} {n:Nat} {xs:List (List AV)} (hkk:(Nat.beq (lo k') (lo k)&&(!Nat.beq k' k&&ep g))=true) (h1:get s.t (xk k)=some (.me g k n xs)) (h:SPB Γ ⟨(xk k',.me g k' n xs)::(xk k,.junk)::fY (AV.reN k k') s.t,s.b⟩ c K):SPB Γ s c K:=by
 refine ⟨fun a w hI=>h.out a w ?_⟩
 obtain ⟨⟨cx,hW,ht⟩,hs,hd,hrn⟩:=hI
 simp only [Bool.and_eq_true,Bool.not_eq_true'] at hkk
 have hlo:=Nat.eq_of_beq_eq_true hkk.1
 have hne:=Nat.ne_of_beq_eq_false hkk.2.1
 obtain ⟨c',hc'⟩:∃ c':Ctx,c'={ cx with x:=fun j=>if j=k' then cx.x k else if j=k then none else cx.x j,xn:=fun j=>if j=k' then cx.xn k else cx.xn j }:=⟨_,rfl⟩
 have hx':c'.x k'=cx.x k:=by rw [hc']; exact if_pos rfl
 have hxn':c'.xn k'=cx.xn k:=by rw [hc']; exact if_pos rfl
 have hL:∀ {x:AV} {u:Value},RC1 cx x u→x.isCell=true→RC1 c' x u:=fun {x u} hr hx=>by rw [hc']; exact hr.xs_cell _ _ hx
 have hren:∀ {x:AV} {u:Value},RC cx x u→RC c' (x.reN k k') u:=fun {x u} hr=>by
  cases x with
  | me g j n xs=>
   simp only [AV.reN]
   cases hb:Nat.beq k j with
   | true=>
    have:=Nat.eq_of_beq_eq_true hb
    subst this
    exact RX.reN hx' hxn' (by rw [hc']) (by rw [hc']) (by rw [hc']) hlo (show RX cx g k n xs u from hr)
   | false=>
    rw [cond_false]
    have hkj:=Nat.ne_of_beq_eq_false hb
    cases hb2:Nat.beq k' j with
    | true=>exact RD.junk u
    | false=>
     have hkj2:=Nat.ne_of_beq_eq_false hb2
     refine RX.reN (k:=j) (k':=j) ?_ ?_ (by rw [hc']) (by rw [hc']) (by rw [hc']) rfl (show RX cx g j n xs u from hr)
     ·rw [hc']; simp only; rw [if_neg (Ne.symm hkj2),if_neg (Ne.symm hkj)]
     ·rw [hc']; simp only; rw [if_neg (Ne.symm hkj2)]
  | agg cs=>obtain ⟨vs,r1,r2,r3,r4⟩:=hr; exact ⟨vs,r1,r2,r3,fun i x u h1 h2=>hL (r4 i x u h1 h2) (r3 x (List.mem_of_getElem? h1))⟩
  | loc d off=>show u=_; rw [show c'.ρ=cx.ρ from by rw [hc']]; exact hr
  | sl o sz xs=>exact (RC.iff (by intro cs hc; cases hc)).2 (hL ((RC.iff (by intro cs hc; cases hc)).1 hr) rfl)
  | _=>show RD c'.m _ u; rw [show c'.m=cx.m from by rw [hc']]; exact hr
 refine ⟨⟨c',⟨hW.ext,by rw [hc']; exact hW.sub,by rw [hc']; exact hW.le0,by rw [hc']; exact hW.new,fun d cs hd hne=>?_,by rw [hc']; exact hW.inj,fun j=>by rw [hc']; exact ⟨(hW.own j).blk,(hW.own j).shape,(hW.own j).box,(hW.own j).apart⟩,fun j b' o hx=>?_⟩,fun e z hz=>?_⟩,hs,hd,hrn⟩
 ·obtain ⟨q1,q2,q3,us,U,q4,q5,q6⟩:=hW.box d cs hd hne
  have e1:c'.ρ=cx.ρ:=by rw [hc']
  have e2:c'.m=cx.m:=by rw [hc']
  rw [e1,e2]
  exact ⟨q1,q2,q3,us,U,q4,q5,fun i x v g1 g2=>hL (q6 i x v g1 g2) (q3 x (List.mem_of_getElem? g1))⟩
 ·rw [hc'] at hx ⊢
  simp only at hx
  have key:∀ i o',(if i=k' then cx.x k else if i=k then none else cx.x i)=some (b',o')→cx.x (if i=k' then k else i)=some (b',o'):=fun i o' hi=>by
   split at hi
   ·rename_i e; rw [if_pos e]; exact hi
   ·rename_i e
    split at hi
    ·cases hi
    ·rw [if_neg e]; exact hi
  have key2:∀ i o',(if i=k' then cx.x k else if i=k then none else cx.x i)=some (b',o')→¬ (i≠k'∧i=k):=fun i o' hi hh=>by
   rw [if_neg hh.1,if_pos hh.2] at hi; cases hi
  have hq:=hW.xo _ b' o (key j o hx)
  refine ⟨hq.new,hq.obj,hq.kept,fun i hi=>hq.mem i ?_,hq.map,hq.box,hq.own,fun i o' hi=>?_⟩
  ·by_cases hj:j=k'
   ·rw [if_pos hj]; rw [hj,hlo] at hi; exact hi
   ·rw [if_neg hj]; exact hi
  ·have h3:=hq.inj _ o' (key i o' hi)
   have h4:=key2 i o' hi
   have h5:=key2 j o hx
   by_cases hi':i=k' <;> by_cases hj:j=k'
   ·rw [hi',hj]
   ·rw [if_pos hi',if_neg hj] at h3; exact absurd ⟨hj,h3.symm⟩ h5
   ·rw [if_neg hi',if_pos hj] at h3; exact absurd ⟨hi',h3⟩ h4
   ·rw [if_neg hi',if_neg hj] at h3; exact h3
 ·rw [ak] at hz
  split at hz
  ·rename_i he
   cases hz
   exact RX.any hkk.2.2 (RX.reN hx' hxn' (by rw [hc']) (by rw [hc']) (by rw [hc']) hlo (show RX cx g k n xs _ from ht _ _ h1))
  ·rw [ak] at hz
   split at hz
   ·cases hz; exact RC.of_RD (RD.junk _)
   ·rw [bY] at hz
    obtain ⟨z',hz',rfl⟩:=Option.map_eq_some_iff.1 hz
    exact hren (ht e z' hz')
variable (hΓ:Γ.OK) (hT:T.OK Γ.P)
include hΓ hT
theorem SPB.regE (keep es:List Nat) {id:Nat} {ops:Array Oper} (ho:bt Γ.nt (.region id ops false)=true)
  (h:fB T (ae Γ.P) (bD Γ.P) ops.toList (es.map (3000000000+·)++bI ops.toList ops.toList) ops.toList s fun s'=>fQ keep s' (K .normal)):SPB Γ s (.region id ops false) K:=by
 refine ⟨fun a w hI=>?_⟩
 obtain ⟨l⟩:=ops
 refine wpIn_region ?_
 rw [show (⟨l⟩:Array Oper).size=l.length from rfl,List.range_eq_range']
 refine gt hΓ hT (di ho) l 0 s a w _ (fun j=>by simp) h hI ?_
 intro s' a' w' hK hI' hN hF
 obtain ⟨s2,h2,hle⟩:=dA hK
 exact ⟨hN,hF,s2,hI'.less hle,h2⟩
theorem SPB.drawE (keep es:List Nat) {id:Nat} {ops:Array Oper} (ho:bt Γ.nt (.region id ops true)=true) (h:lK T (ae Γ.P) (bD Γ.P) (es.map (3000000000+·)) keep ops.toList s (K .normal)):SPB Γ s (.region id ops true) K:=by
 refine ⟨fun a w hI=>?_⟩
 obtain ⟨l⟩:=ops
 refine ms hΓ hT (di ho) h hI ?_
 intro s' _ a' w' hK _ hI' hN hP
 obtain ⟨s2,h2,hle⟩:=dA hK
 exact ⟨hN,hP,s2,hI'.less hle,h2⟩
def HZ (P:Program) (s:St) (o:Oper) (K:St→Prop):Prop:=match o.op,o.dst with
 | .call call,some d=>match call.callee with
  | .value f=>match ev s f with
   | .fn g=>∃ N I L R,(dE s (fy L)=some L∧FE N I L (call.args.toList.map (ev s))=true∧ECQ P g N I ((call.args.toList.map fun x=>(ev s x).pubE)++[]) L R)∧∀ r L',R r L'→match (s.demMany I).unmeMany N with | ⟨t,b⟩=>(⟨(d,r)::(xkL L'++t),b⟩:St).go K
   | _=>False
  | _=>False
 | _,_=>False
theorem SPB.regNew (keep:List Nat) (n:Nat) {id:Nat} {ops:Array Oper} (ho:bt Γ.nt (.region id ops false)=true)
  (h:lI T Γ.P (HZ Γ.P) ops.toList (bI ops.toList ops.toList) n s fun s'=>fQ keep s' (K .normal)):SPB Γ s (.region id ops false) K:=by
 refine SPB.oregG hΓ hT (fun s a w o K next Q hI hd h hn=>?_) keep n ho h
 unfold HZ at h
 split at h
 ·rename_i call d hop hdst
  split at h
  ·rename_i f hcal
   split at h
   ·rename_i g hg
    obtain ⟨N,I,L,R,⟨h1,h2,h3⟩,hK⟩:=h
    refine AN hΓ hI hop hcal (cap:=[]) (.inr ⟨hg,rfl⟩) h3 h1 h2 hdst (hd d hdst) (K:=K) (fun r L' hr=>?_) (fun s' a' w' e1 e2 e3 e4=>hn s' a' w' e1 e2 e3 (FT.put e4))
    have:=hK r L' hr
    have this:(⟨(d,r)::(xkL L'++((s.demMany I).unmeMany N).t),(s.demMany I).b⟩:St).go K:=this
    rw [St.go_eq] at this
    exact this
   ·exact h.elim
  ·exact h.elim
 ·exact h.elim
end
end Go.AI
namespace Go.AI
open Go
section
variable {Γ:aH} {s:St} {K:Exit→St→Prop}
theorem WI.rebox2 {c:Ctx} {bx:List (Nat×List AV)} {w:World} (hW:WI Γ c bx w) {d:Nat} {cs cs':List AV} (h:get bx d=some cs) (hne:cs≠[]) (hl:cs'.length=cs.length) (hc:∀ x∈cs',x.isCell=true)
  (hr:∀ (vs:Array Value) (T:TypeId),w.heap[c.ρ d]?=some (.cells vs T (0,0))→(∀ (i:Nat) (x:AV) (v:Value),cs[i]?=some x→vs[i]?=some v→RC1 c x v)→∀ (i:Nat) (x:AV) (v:Value),cs'[i]?=some x→vs[i]?=some v→RC1 c x v):WI Γ c ((d,cs')::bx) w:=by
 obtain ⟨h1,h2,h3,vs,T,h4,h5,h6⟩:=hW.box d cs h hne
 refine ⟨hW.ext,hW.sub,hW.le0,hW.new,fun d' ds hd' hne'=>?_,fun d1 d2 c1 c2 g1 g2 n1 n2 hρ=>?_,fun k=>?_,fun k b o hx=>?_⟩
 ·rw [ak] at hd'
  split at hd'
  ·rename_i hdd
   subst hdd
   cases hd'
   exact ⟨h1,h2,hc,vs,T,h4,hl.trans h5,hr vs T h4 h6⟩
  ·exact hW.box d' ds hd' hne'
 ·rw [ak] at g1 g2
  split at g1
  ·rename_i e1
   split at g2
   ·rename_i e2; rw [e1,e2]
   ·rename_i e2
    rw [e1] at hρ ⊢
    exact hW.inj d d2 cs c2 h g2 hne n2 hρ
  ·rename_i e1
   split at g2
   ·rename_i e2
    rw [e2] at hρ ⊢
    exact hW.inj d1 d c1 cs g1 h n1 hne hρ
   ·exact hW.inj d1 d2 c1 c2 g1 g2 n1 n2 hρ
 ·have ho:=hW.own k
  refine ⟨ho.blk,ho.shape,fun g d' ds hg hd' hne'=>?_,ho.apart⟩
  rw [ak] at hd'
  split at hd'
  ·rename_i e; rw [e]; exact ho.box g d cs hg h hne
  ·exact ho.box g d' ds hg hd' hne'
 ·have hq:=hW.xo k b o hx
  refine ⟨hq.new,hq.obj,hq.kept,hq.mem,hq.map,fun d' ds hd' hne'=>?_,hq.own,hq.inj⟩
  rw [ak] at hd'
  split at hd'
  ·rename_i e; rw [e]; exact hq.box d cs h hne
  ·exact hq.box d' ds hd' hne'
theorem SPB.ownBox {c:Code} (d j k sz:Nat) {cs:List AV} (h1:get s.b d=some cs) (h2:cs[j]?=some (.sl .full 0 [])) (h:SPB Γ ⟨(s.dem k).t,(d,bB (cs.map (AV.dem1 k)) j (.sl (.id k) sz []))::(s.dem k).b⟩ c K):SPB Γ s c K:=by
 refine ⟨fun a w hI=>h.out a w ?_⟩
 obtain ⟨⟨cx,hW,ht⟩,hs,hd,hrn⟩:=hI
 have hne:cs≠[]:=fun e=>by rw [e] at h2; simp at h2
 obtain ⟨_,_,_,vs,T,q4,q5,q6⟩:=hW.box d cs h1 hne
 have hjl:=(List.getElem?_eq_some_iff.1 h2).1
 have hv:vs[j]?=some (vs[j]'(by omega)):=Array.getElem?_eq_getElem (by omega)
 generalize vs[j]'(by omega)=v at hv
 have hx:RD cx.m (.sl .full 0 []) v:=q6 j _ v h2 hv
 have hsp:j6 v=false∧js (sfree Γ.w0 k) v:=by
  cases hx with
  | sl _ _ _ base len cap ho hf hl' hc=>
   have:=hf rfl
   exact ⟨by simp [j6,this],.inr ⟨_,_,_,rfl,fun _=>this.symm,fun a _ h0=>by simp at hl'; omega⟩⟩
 have hx':RD cx.m (.sl .no sz []) v:=(AV.weak.slnil:(AV.sl .full 0 []).weak (.sl .no sz [])) _ _ hx
 have hW1:=hW.own_none k sz v hsp.2 hsp.1
 have hb:get (s.dem k).b d=some (cs.map (AV.dem1 k)):=by rw [o5,h1]; rfl
 have hne1:cs.map (AV.dem1 k)≠[]:=by simpa using hne
 refine ⟨⟨_,WI.rebox2 (bx:=(s.dem k).b) hW1 hb hne1 (ed _ _ _) (fun x hx=>?_) (fun vs' T' e1 hvs i x v' p1 p2=>?_),fun e y hy=>?_⟩,hs,hd,hrn⟩
 ·obtain ⟨p,hp⟩:=List.getElem?_of_mem hx
  rw [cR] at hp
  split at hp
  ·cases hp; rfl
  ·exact (hW1.box d _ hb hne1).2.2.1 x (List.mem_of_getElem? hp)
 ·have e:vs'=vs:=by
   have e2:=q4.symm.trans e1
   cases e2; rfl
  rw [cR] at p1
  split at p1
  ·rename_i hj
   cases p1
   have ev:v'=v:=by
    rw [e,← hj.1] at p2
    exact Option.some.inj (p2.symm.trans hv)
   subst ev
   refine ⟨by simp [Ctx.own],fun h=>(by rw [hsp.1] at h; cases h),hx'⟩
  ·exact hvs i x v' p1 p2
 ·rw [jj] at hy
  obtain ⟨z,hz,rfl⟩:=Option.map_eq_some_iff.1 hy
  exact (ht e z hz).reown (.refl _)
end
end Go.AI
namespace Go.AI
open Go
open Go.RowKit (Below)
def Au (C:FuncId→Nat→List (List Int)→List AV→(AV→List (List Int)→Prop)→Prop) (s:St) (o:Oper) (K:St→Prop):Prop:=match o.op with
 | .call call=>match call.callee,call.args.toList with
  | .value f,x0::rest=>match ev s f,ev s x0 with
   | .fn f,.me .sl k _ _=>match el s k with
    | some (sz,xs)=>∃ rows R,C f sz rows (rest.map fun x=>(ev s x).pub) R∧xs=bu rows∧(∀ x∈rows,x.length=sz) ∧
      ∀ r rows',R r rows'→rows'.length=rows.length→(∀ x∈rows',x.length=sz)→ef ⟨fY (AV.frzx k sz (bu rows')) s.t,s.b⟩ o.dst r K
    | none=>False
   | _,_=>False
  | _,_=>False
 | _=>False
section
variable {Γ:aH} (hΓ:Γ.OK) {s:St} {a:Act} {w:World} {o:Oper} {next:Act→World→Prop} {Q:Exit→Act→World→Prop} {K:St→Prop}
theorem WI.ocallX {c:Ctx} {bx:List (Nat×List AV)} {w':World} (hW:WI Γ c bx w) {k b:Nat} {cells:Array Value} {T:TypeId} (hx:c.x k=some (b,.cells cells T (0,0))) {m':Mem} (h1:c.m.le m') (h2:Mem.sub m' w') (h3:wJ b w w')
  (h4:∀ k o v,m' k o=some v→c.m k o=some v∨(k=b∨w.heap.size≤k)∧aX w' k) (h5:∀ k x,m'.maps k=some x→c.m.maps k=some x∨w.heap.size≤k) (h6:dU w w') :
  WI Γ { c with m:=m',x:=fun j=>if j=k then none else c.x j } bx w'∧c.leX k { c with m:=m',x:=fun j=>if j=k then none else c.x j }∧NC w w':=by
 have hB:=hW.ext.size
 have hq:=hW.xo k b _ hx
 have hL:c.leX k { c with m:=m',x:=fun j=>if j=k then none else c.x j }:=⟨h1,rfl,rfl,rfl,fun j hj=>⟨if_neg hj,rfl⟩⟩
 have hs':∀ k,aX w k→aX w' k:=fun k hk=>by
  by_cases e:k=b
  ·rw [e]; exact h3.soft
  ·obtain ⟨cs,U,hc⟩:=hk
   exact ⟨cs,U,(h3.block k (Array.getElem?_eq_some_iff.1 hc).1 e).trans hc⟩
 have hno:∀ j o,j<w.heap.size→j≠b→c.m j o=none→m' j o=none:=fun j o hj hne h=>by
  cases hm:m' j o with
  | none=>rfl
  | some v=>
   rcases h4 j o v hm with h' | h'
   ·rw [h] at h'; cases h'
   ·rcases h'.1 with h' | h'
    ·exact absurd h' hne
    ·omega
 have hn:=hq.new
 refine ⟨⟨hW.ext.trans ⟨h3.os,h3.tape,h3.output,h3.size,fun j hj=>h3.block j (by have:=not_free hj; omega) (d7 hj hn)⟩,h2,hW.le0.trans h1,⟨fun j o v h=>?_,fun j x h=>?_⟩,fun d cs h hne=>?_,hW.inj,fun j=>?_,fun j b' o h=>?_⟩,hL,⟨h3.size,fun j o hj ho=>?_,h6,hs'⟩⟩
 ·rcases h4 j o v h with h | h
  ·exact (hW.new.cell j o v h).imp id fun ⟨q1,q2⟩=>⟨q1,hs' j q2⟩
  ·refine .inr ⟨?_,h.2⟩
   rcases h.1 with h | h
   ·rw [h]; exact hn
   ·exact dD (by omega)
 ·rcases h5 j x h with h | h
  ·exact hW.new.map j x h
  ·exact .inr (dD (by omega))
 ·obtain ⟨r1,r2,r3,vs,U,r4,r5,r6⟩:=hW.box d cs h hne
  have hne':=hq.box d cs h hne
  have hd:=hW.lt_box h hne
  exact ⟨r1,fun o=>hno _ o hd hne' (r2 o),r3,vs,U,(h3.block _ hd hne').trans r4,r5,fun i x v g1 g2=>(r6 i x v g1 g2).leX_cell hL (r3 x (List.mem_of_getElem? g1))⟩
 ·have ho:=hW.own j
  refine ⟨fun g hg=>?_,ho.shape,ho.box,ho.apart⟩
  obtain ⟨len,cap,U,cells',q1,q2,q3,q4,q5⟩:=ho.blk g hg
  have hgb:g≠b:=fun e=>hq.own j (by rw [← e]; exact hg)
  have hlt:=hW.lt_own hg
  exact ⟨len,cap,U,cells',q1,(h3.block g hlt hgb).trans q2,q3,fun o ho'=>hno g o hlt hgb (q4 o ho'),q5⟩
 ·simp only at h
  split at h
  ·cases h
  ·rename_i hj
   have hr:=hW.xo j b' o h
   have hne:b'≠b:=fun e=>by subst e; exact hj (hq.inj j _ h)
   have hlt:=hW.lt_x h
   refine ⟨hr.new,(h3.block b' hlt hne).trans hr.obj,hr.kept,fun i hi=>hno b' i hlt hne (hr.mem i hi),?_,hr.box,hr.own,fun j' o' h'=>?_⟩
   ·show m'.maps b'=none
    cases hm:m'.maps b' with
    | none=>rfl
    | some v=>
     rcases h5 _ _ hm with h' | h'
     ·rw [hr.map] at h'; cases h'
     ·omega
   ·simp only at h'
    split at h'
    ·cases h'
    ·exact hr.inj j' o' h'
 ·by_cases e:j=b
  ·rw [e,hq.obj] at hj; cases hj; cases ho
  ·exact (h3.block j (Array.getElem?_eq_some_iff.1 hj).1 e).trans hj
include hΓ in
theorem uT (hI:Inv Γ s a w) (hdst:∀ d,o.dst=some d→d<Γ.nt) (h:Au (dJ Γ.P) s o K) (hn:∀ s' a' w',K s'→Inv Γ s' a' w'→NC w w'→FT o.dst.toList a a'→next a' w'):o.wpIn Γ.F Γ.n Γ.P a w next Q:=by
 unfold Au at h
 split at h
 ·rename_i call hop
  split at h
  ·rename_i fo x0 rest hcal hargs
   split at h
   ·rename_i f k n zs hf hx
    split at h
    ·rename_i sz xs hcont
     obtain ⟨rows,R,hC,rfl,hlen,hK⟩:=h
     obtain ⟨c,hW,ht⟩:=hI.ex
     obtain ⟨b,cells,U,e1,⟨e2,e2'⟩,e3,e4,e5⟩:=nb ht hcont
     have hq:=hW.xo k b _ e1
     have hrx:=aB ht x0
     rw [hx] at hrx
     obtain ⟨b',cells',U',cap,f1,f2,⟨f3,f4⟩,f5⟩:=(show RX c .sl k n zs (a.eval x0) from hrx)
     rw [e1] at f1
     cases f1
     have hrl:(bu rows).length=rows.length:=by simp [bu]
     have hnl:n=rows.length:=by omega
     subst hnl
     have hrun:=hC.runs c.m w (rest.map a.eval) b cap hW.sub (hq.none (kj hcont)) ⟨_,_,hq.obj⟩ f5 (fun i j r n h1 h2=>by
      have g1:(bu rows)[i]?=some (r.map (AV.int .i64)):=by simp [bu,h1]
      have g2:(r.map (AV.int .i64))[j]?=some (.int .i64 n):=by simp [h2]
      obtain ⟨u,u1,u2⟩:=e5 i _ j _ g1 g2
      cases u2
      simp only [World.cell?,hq.obj]
      exact u1) (by simp) (fun i x v h1 h2=>by
      rw [List.getElem?_map] at h1 h2
      obtain ⟨q,hq,rfl⟩:=Option.map_eq_some_iff.1 h1
      rw [hq] at h2
      simp only [Option.map_some,Option.some.injEq] at h2
      subst h2
      exact (aB ht q).pub)
     have hfv:a.eval fo = .func (.func f) #[] #[]:=by
      have:=aB ht fo
      rw [hf] at this
      exact this.fn
     have hexe:(execOp a.eval o).run Γ.P w = .ok (.enter f (Value.slice (some ⟨b,0,none⟩) rows.length cap::rest.map a.eval).toArray) w:=by
      simp only [execOp,hop,Sem.run_bind,resolve,hcal,hfv,Deferred.ofValue,Sem.run_pure,Result.andThen_ok,invoke,hC.enters _ w]
      congr 2
      apply Array.ext'
      simp [hargs,f2]
     refine ⟨fun f _=>hΓ.fn f,?_⟩
     rw [Oper.semAt_eq _ _ _ (by rw [hop]; intro c hc; cases hc),hexe,Oper.uponIn_enter]
     refine ⟨fun h=>(by rw [hΓ.depth] at h; cases h),(ck hΓ hrun _).mono ?_⟩
     rintro e w' ⟨v,m',r,rows',rfl,q1,q2,q3,q4,q5,q6,q7,q8,q9,q10,q11⟩
     obtain ⟨W1,L1,W2⟩:=hW.ocallX e1 q6 q7 q8 q9 q10 q11
     have hKr:=hK r rows' q1 q3 q4
     have key:∀ d n',RX c .sl k n' [] (a.tmps.getD d Go.undef)→RD m' (.sl .no sz (bu rows')) (a.tmps.getD d Go.undef):=fun d n' hz=>by
      obtain ⟨b',cells',U',cap',g1,g2,⟨g3,g4⟩,g5⟩:=hz
      rw [e1] at g1
      cases g1
      rw [g2]
      refine RD.sl _ _ _ _ _ _ (by intro k hk; cases hk) (by intro hk; cases hk) (by simp [bu,q3]; omega) g5 (fun x hx=>?_) (fun x hx z hz=>?_) b 0 (fun _=>rfl) (fun i j=>match rows'[i]? with | some r=>(match r[j]? with | some n=>Value.int .i64 n | none=>Go.undef) | none=>Go.undef) (fun i x j z h1 h2=>?_) (fun i x j z h1 h2=>?_)
      ·obtain ⟨y,hy,rfl⟩:=List.mem_map.1 hx
       simpa using q4 y hy
      ·obtain ⟨y,hy,rfl⟩:=List.mem_map.1 hx
       obtain ⟨n,_,rfl⟩:=List.mem_map.1 hz
       rfl
      ·obtain ⟨y,hy,rfl⟩:=ei h1
       simp only [List.getElem?_map,Option.map_eq_some_iff] at h2
       obtain ⟨n,hn',rfl⟩:=h2
       simp only [hy,hn',Nat.zero_add]
       exact q5 i j y n hy hn'
      ·obtain ⟨y,hy,rfl⟩:=ei h1
       simp only [List.getElem?_map,Option.map_eq_some_iff] at h2
       obtain ⟨n,hn',rfl⟩:=h2
       simp only [hy,hn']
       exact .int _ _
     obtain ⟨c',hc'⟩:∃ c':Ctx,c'={ c with m:=m',x:=fun j=>if j=k then none else c.x j }:=⟨_,rfl⟩
     rw [← hc'] at W1 L1
     have hcm':c'.m=m':=by rw [hc']
     have hts:∀ e z,get (fY (AV.frzx k sz (bu rows')) s.t) e=some z→RC c' z (a.tmps.getD e Go.undef):=fun e z hz=>by
      rw [bY] at hz
      obtain ⟨z',hz',rfl⟩:=Option.map_eq_some_iff.1 hz
      have hr:=ht e z' hz'
      have hun:=hr.leX L1
      cases z' with
      | me g k' n' zs'=>
       simp only [AV.frzx,AV.unme] at hun ⊢
       cases hb:Nat.beq k k' with
       | false=>rw [hb] at hun; exact hun
       | true=>
        have hk:=Nat.eq_of_beq_eq_true hb
        subst hk
        cases g with
        | sl=>
         refine RC.of_RD ?_
         rw [hcm']
         exact key e n' (by obtain ⟨b',cells',U',cap,f⟩:=(show RX c .sl k n' zs' _ from hr); exact ⟨b',cells',U',cap,f⟩)
        | _=>exact RC.of_RD (RD.junk _)
      | _=>exact hun
     cases hdo:o.dst with
     | none=>
      rw [hdo] at hKr
      exact hn _ _ _ hKr (hI.next W2 W1 (d:=none) (v:=v) (by intro k hk; cases hk) hts) W2 (FT.put ⟨v,by rw [hdo]⟩)
     | some d=>
      rw [hdo] at hKr
      exact hn _ _ _ hKr (hI.next W2 W1 (d:=some d) (v:=v) (by intro k hk; cases hk; exact hdst _ hdo) (bV hts (by rw [hI.size]; exact hdst d hdo) (RC.of_RD (by rw [hcm']; exact q2)))) W2 (FT.put ⟨v,by rw [hdo]⟩)
    ·exact h.elim
   ·exact h.elim
  ·exact h.elim
 ·exact h.elim
variable {T:Tab} (hT:T.OK Γ.P)
include hΓ hT in
theorem SPB.oregX (keep:List Nat) (n:Nat) {s:St} {K:Exit→St→Prop} {id:Nat} {ops:Array Oper} (ho:bt Γ.nt (.region id ops false)=true)
  (h:lI T Γ.P (Au (dJ Γ.P)) ops.toList (bI ops.toList ops.toList) n s fun s'=>fQ keep s' (K .normal)):SPB Γ s (.region id ops false) K:=
 SPB.oregG hΓ hT (fun _ _ _ _ _ _ _ hI hd h hn=>uT hΓ hI hd h hn) keep n ho h
end
end Go.AI
namespace Go.AI
open Go
open Go.RowKit (Below)
def Iq (t:List (Nat×AV)):List (Nat×AV):=fY (fun x=>x.pub.thinned) t
def HV (P:Program) (v0:Value) (sz:Nat) (rows:List (List Int)) (s:St) (l:List Oper) (K:St→List (List Int)→Prop):Prop:=match l with
 | [o]=>o.guard=none∧match o.op with
  | .call call=>match call.callee,call.args.toList with
   | .value fo,x0::rest=>match ev s fo with
    | .fn g=>ev s x0 = .lit v0∧s.tmp 0 = .lit v0∧∃ R,dJ P g sz rows (rest.map fun x=>(ev s x).pub) R ∧
      ∀ r rows',R r rows'→rows'.length=rows.length→(∀ x∈rows',x.length=sz)→ef ⟨(0,.sl .no sz (bu rows'))::Iq s.t,[]⟩ o.dst r fun s2=>K s2 rows'
    | _=>False
   | _,_=>False
  | _=>False
 | _=>False
theorem AV.pub_pub (z:AV):z.pub.pub=z.pub:=by
 cases z with
 | agg cs=>simp only [AV.pub,AV.agg.injEq,List.map_map]; apply List.map_congr_left; intro x _; cases x <;> first | rfl | (rename_i o _ _ _; cases o <;> rfl)
 | sl o _ _=>cases o <;> rfl
 | _=>rfl
theorem Ae {c:Ctx} {x:AV} {v:Value} (h:RC c x v) (m:Mem):RD m x.pub.thinned v:=by
 have h1:=RC.thinned (c:=c) (c':=⟨c.ρ,c.τ,c.σ,m,c.x,c.xn⟩) rfl (RC.of_RD (c:=c) h.pub)
 have h2:=h1.pub
 have e:x.pub.thinned.pub=x.pub.thinned:=by
  unfold AV.thinned
  cases x.pub.thin with
  | true=>exact AV.pub_pub x
  | false=>rfl
 rwa [e] at h2
theorem dJ.ofRebase {P:Program} {T:Tab} (hT:T.OK P) {f:FuncId} {fn:Func} {first rest:Code} {id:Nat} {ops:Array Oper} {sz:Nat} {rows:List (List Int)} {args:List AV} {Q:AV→List (List Int)→Prop}
  (hf:P.funcs[f]?=some fn) (hb:fn.body=some (.seq first (.seq (.region id ops false) rest))) (hname:(fn.name == "runtime.NumGoroutine")=false) (hm:P.follows .mixedOrders=true) (hn:args.length+1≤fn.ntmps)
  (hdf:f8 [1000000000] (wrs first)=true) (hdf2:f8 [1000000000] (dc ops.toList)=true) (hok:bt fn.ntmps (.region id ops false)=true) (k:Nat) (hk:ops.size=k+1)
  (h:∀ (F:Fence) (n b cap:Nat),F.round=none→9≤n→∀ (w0:World) (m0:Mem),aH.OK ⟨P,F,n,w0,m0,fn.ntmps⟩→SP ⟨P,F,n,w0,m0,fn.ntmps⟩ ⟨params 0 (.lit (.slice (some ⟨b,0,none⟩) rows.length cap)::args),[]⟩ first fun e s=>e = .normal ∧
   fB T (ae P) (bD P) ops.toList (bI ops.toList ops.toList) (ops.toList.take k) s fun s1=>HV P (.slice (some ⟨b,0,none⟩) rows.length cap) sz rows s1 (ops.toList.drop k) fun s2 rows'=>
    rows'.length=rows.length→(∀ x∈rows',x.length=sz)→∀ (w2:World) (m2:Mem),aH.OK ⟨P,F,n,w2,m2,fn.ntmps⟩→SP ⟨P,F,n,w2,m2,fn.ntmps⟩ s2 rest fun e s=>∃ r,Q r rows'∧Ends T fn.results.toList r e s):dJ P f sz rows args Q:=by
 refine ⟨Go.Proofs.enters_of hf hname hb,fun m w vs b cap hs hmb hsoft hcap hcell hl hr=>?_⟩
 have hG:∀ w0 m0,aH.OK ⟨P,Fence.wide,9,w0,m0,fn.ntmps⟩:=fun w0 m0=>⟨fun _=>trivial,rfl,rfl,hm⟩
 obtain ⟨RR,hRR⟩:∃ RR:Ending→World→Prop,RR=fun e w'=>∃ v m' r rows',e = .returned v∧Q r rows'∧RD m' r v∧rows'.length=rows.length∧(∀ x∈rows',x.length=sz) ∧
   (∀ (i j:Nat) (r:List Int) (n:Int),rows'[i]?=some r→r[j]?=some n→m' b (i*sz+j)=some (.int .i64 n))∧m.le m'∧Mem.sub m' w'∧wJ b w w' ∧
   (∀ k o v,m' k o=some v→m k o=some v∨(k=b∨w.heap.size≤k)∧aX w' k)∧(∀ k x,m'.maps k=some x→m.maps k=some x∨w.heap.size≤k)∧dU w w':=⟨_,rfl⟩
 rw [← hRR]
 refine callsIn_wide.1 (callsIn_of_wp_marks (n:=9) hf hb trivial ?_)
 obtain ⟨v0,hv0⟩:∃ v0,v0=Value.slice (some ⟨b,0,none⟩) rows.length cap:=⟨_,rfl⟩
 have hbw:b<w.heap.size:=by obtain ⟨cs,U,hc⟩:=hsoft; exact (Array.getElem?_eq_some_iff.1 hc).1
 have hp:=h Fence.wide 9 b cap rfl (Nat.le_refl _) w m (hG w m)
 rw [← hv0] at hp ⊢
 refine wpIn_seq (wpIn_mono (hp _ w ⟨⟨_,WI.init (Γ:=⟨P,Fence.wide,9,w,m,fn.ntmps⟩) hs rfl,fun d x hx=>?_⟩,by simp; omega,⟨[],rfl,List.nodup_nil,by simp⟩,fun _ h=>nomatch h⟩) ?_)
 ·obtain ⟨_,h2⟩:=eG _ _ _ _ hx
  simp only [Nat.sub_zero] at h2
  refine RC.of_RD (c:=⟨_,_,_,m,_,_⟩) ?_
  rw [Array.getD_eq_getD_getElem?]
  cases d with
  | zero=>
   simp only [List.getElem?_cons_zero,Option.some.injEq] at h2
   subst h2
   rw [Array.getElem?_append_left (by simp)]
   simp only [List.getElem?_toArray,List.getElem?_cons_zero,Option.getD_some]
   rw [hv0]
   exact .lit _ rfl rfl
  | succ d=>
   simp only [List.getElem?_cons_succ] at h2
   have hdl:d<args.length:=(List.getElem?_eq_some_iff.1 h2).1
   rw [Array.getElem?_append_left (by simp; omega)]
   simp only [List.getElem?_toArray,List.getElem?_cons_succ]
   rw [List.getElem?_eq_getElem (show d<vs.length by omega)]
   exact hr d x _ h2 (List.getElem?_eq_getElem (by omega))
 rintro e a1 w1 ⟨hN1,hF1,s1,hI1,rfl,hops⟩
 have hdf1:a1.defers=[]:=hF1.defers fun hc=>aM hdf (by simp) hc
 obtain ⟨all⟩:=ops
 simp only at hops
 have hk:all.length=k+1:=hk
 have hall:=di (l:=all) hok
 refine wpIn_seq (wpIn_region ?_)
 have htl:(all.take k).length=k:=by simp; omega
 rw [show (⟨all⟩:Array Oper).size=all.length from rfl,List.range_eq_range',hk,show k+1=(all.take k).length+1 from by rw [htl]]
 refine dP (hG w m) hT 1 hall (all.take k) 0 s1 a1 w1 _ (fun j o h=>by
   rw [Nat.zero_add]
   rw [List.getElem?_take] at h
   split at h
   ·exact h
   ·cases h) hops hI1 ?_
 intro s3 a3 w3 hst hI3 hN3 hF3
 rw [htl,Nat.zero_add,List.range'_succ]
 have hdf3:a3.defers=[]:=by
  rw [← hdf1]
  refine hF3.defers fun hc=>?_
  refine aM hdf2 (List.mem_singleton.2 rfl) ?_
  show 1000000000∈dc all
  rw [← List.take_append_drop k all,iS]
  exact List.mem_append_left _ hc
 unfold HV at hst
 split at hst
 ·rename_i o hdr
  obtain ⟨hgd,hst⟩:=hst
  have hon:all[k]?=some o:=by
   have:=congrArg (fun l=>l[0]?) hdr
   simpa using this
  have h0:(all.toArray)[k]?=some o:=by simpa using hon
  simp only [wpOpsIn,h0]
  simp only [Region.wanted,hgd,if_true]
  have hod:∀ d,o.dst=some d→d<fn.ntmps:=fun d hd=>hall k d (by rw [e9,hon]; exact hd)
  split at hst
  ·rename_i call hop
   split at hst
   ·rename_i fo x0 rs hcal hargs
    split at hst
    ·rename_i g hfo
     obtain ⟨hx0,ht0,R,hC,hK⟩:=hst
     obtain ⟨c,hW,ht⟩:=hI3.ex
     have hext:=hW.ext.toBelow (hN1.trans hN3)
     have hnew:=hW.new.unfree hW.sub (hN1.trans hN3)
     have hlit:∀ {c:Ctx} {v:Value},RC c (.lit v0) v→v=v0:=fun {c v} h=>by
      have h:RD c.m (.lit v0) v:=h
      cases h; rfl
     have hv:a3.eval x0=v0:=hlit (by rw [← hx0]; exact aB ht x0)
     have hcm:∀ o,c.m b o=none:=fun o=>by
      cases hm:c.m b o with
      | none=>rfl
      | some v=>
       rcases hnew.cell b o v hm with h1 | h1
       ·rw [hmb o] at h1; cases h1
       ·have:w.heap.size≤b:=h1.1
        omega
     have hblk:w3.heap[b]?=w.heap[b]?:=hext.block b hbw
     have hsoft3:aX w3 b:=by obtain ⟨cs,U,hc⟩:=hsoft; exact ⟨cs,U,hblk.trans hc⟩
     have hrun:=hC.runs c.m w3 (rs.map a3.eval) b cap hW.sub hcm hsoft3 hcap (fun i j r n h1 h2=>by
      have:=hcell i j r n h1 h2
      simp only [World.cell?] at this ⊢
      rw [hblk]; exact this) (by simp) (fun i x v h1 h2=>by
      rw [List.getElem?_map] at h1 h2
      obtain ⟨q,hq,rfl⟩:=Option.map_eq_some_iff.1 h1
      rw [hq] at h2
      simp only [Option.map_some,Option.some.injEq] at h2
      subst h2
      exact (aB ht q).pub)
     rw [← hv0] at hrun
     have hfv:a3.eval fo = .func (.func g) #[] #[]:=by
      have:=aB ht fo
      rw [hfo] at this
      exact this.fn
     have hexe:(execOp a3.eval o).run P w3 = .ok (.enter g (v0::rs.map a3.eval).toArray) w3:=by
      simp only [execOp,hop,Sem.run_bind,resolve,hcal,hfv,Deferred.ofValue,Sem.run_pure,Result.andThen_ok,invoke,hC.enters _ w3]
      congr 2
      apply Array.ext'
      simp [hargs,hv]
     refine ⟨fun f _=>trivial,?_⟩
     rw [Oper.semAt_eq _ _ _ (by rw [hop]; intro c hc; cases hc),hexe,Oper.uponIn_enter]
     refine ⟨fun h=>(by cases h),(ck (hG w m) hrun _).mono ?_⟩
     rintro e w' ⟨v,m',r,rows',rfl,q1,q2,q3,q4,q5,q6,q7,q8,q9,q10,q11⟩
     have hKr:=hK r rows' q1 q3 q4
     -- the new ground
     have hrd:RD m' (.sl .no sz (bu rows')) v0:=by
      rw [hv0]
      refine RD.sl _ _ _ _ _ _ (by intro k hk; cases hk) (by intro hk; cases hk) (by simp [bu,q3]) hcap (fun x hx=>?_) (fun x hx z hz=>?_) b 0 (fun _=>rfl) (fun i j=>match rows'[i]? with | some r=>(match r[j]? with | some n=>Value.int .i64 n | none=>Go.undef) | none=>Go.undef) (fun i x j z h1 h2=>?_) (fun i x j z h1 h2=>?_)
      ·obtain ⟨y,hy,rfl⟩:=List.mem_map.1 hx
       simpa using q4 y hy
      ·obtain ⟨y,hy,rfl⟩:=List.mem_map.1 hx
       obtain ⟨n,_,rfl⟩:=List.mem_map.1 hz
       rfl
      ·obtain ⟨y,hy,rfl⟩:=ei h1
       simp only [List.getElem?_map,Option.map_eq_some_iff] at h2
       obtain ⟨n,hn',rfl⟩:=h2
       simp only [hy,hn',Nat.zero_add]
       exact q5 i j y n hy hn'
      ·obtain ⟨y,hy,rfl⟩:=ei h1
       simp only [List.getElem?_map,Option.map_eq_some_iff] at h2
       obtain ⟨n,hn',rfl⟩:=h2
       simp only [hy,hn']
       exact .int _ _
     have hts:∀ d x,get ((0,AV.sl .no sz (bu rows'))::Iq s3.t) d=some x→RD m' x (a3.tmps.getD d Go.undef):=fun d x hx=>by
      rw [ak] at hx
      split at hx
      ·rename_i hd
       cases hx
       have hg0:get s3.t 0=some (.lit v0):=by
        unfold St.tmp at ht0
        split at ht0
        ·rename_i z hz; rw [hz,ht0]
        ·cases ht0
       rw [hd,hlit (ht 0 _ hg0)]; exact hrd
      ·rw [Iq,bY] at hx
       obtain ⟨z,hz,rfl⟩:=Option.map_eq_some_iff.1 hx
       exact Ae (ht d z hz) m'
     have hput:∃ s2,(s2.b=[]∧rows'.length=rows.length→(∀ x∈rows',x.length=sz)→∀ (w2:World) (m2:Mem),aH.OK ⟨P,Fence.wide,9,w2,m2,fn.ntmps⟩→SP ⟨P,Fence.wide,9,w2,m2,fn.ntmps⟩ s2 rest fun e s=>∃ r,Q r rows'∧Ends T fn.results.toList r e s) ∧
       s2.b=[]∧∀ d x,get s2.t d=some x→RD m' x ((a3.put o.dst v).tmps.getD d Go.undef):=by
      cases hdo:o.dst with
      | none=>
       rw [hdo] at hKr
       exact ⟨_,fun h1 h2=>hKr h1.2 h2,rfl,fun d x hx=>hts d x hx⟩
      | some d0=>
       rw [hdo] at hKr
       refine ⟨_,fun h1 h2=>hKr h1.2 h2,rfl,fun d x hx=>?_⟩
       have hlt:d0<a3.tmps.size:=by rw [hI3.size]; exact hod d0 hdo
       rw [bO _ _ _ _ hlt]
       rw [ak] at hx
       split at hx
       ·rename_i hd; rw [if_pos hd]; cases hx; exact q2
       ·rename_i hd; rw [if_neg hd]; exact hts d x hx
     obtain ⟨s2,hSP,hs2b,hs2⟩:=hput
     have hrest:=hSP ⟨hs2b,q3⟩ q4 w' m' (hG w' m') (a3.put o.dst v) w' ⟨⟨_,by rw [hs2b]; exact WI.init (Γ:=⟨P,Fence.wide,9,w',m',fn.ntmps⟩) q7 rfl,fun d x hx=>RC.of_RD (c:=⟨_,_,_,m',_,_⟩) (hs2 d x hx)⟩,by rw [bL]; exact hI3.size,⟨[],by rw [bv]; exact hdf3,List.nodup_nil,by simp⟩,fun _ h=>nomatch h⟩
     refine wpIn_mono hrest ?_
     rintro e a4 w4 ⟨hN4,_,s4,hI4,r4,hQ4,⟨he,hR4⟩⟩
     have hpost:LeavesInM Fence.wide 9 P fn a4.tmps RR a4.defers .returning w4:=by
      obtain ⟨⟨c4,hW4,ht4⟩,_,⟨Ds,hD1,hD2,hD3⟩,_⟩:=hI4
      rw [hD1]
      have hnew4:=hW4.new.unfree hW4.sub hN4
      refine nN Ds w4 (hW4.ext.toBelow hN4) hW4.sub hD2 (fun D hD=>⟨(hD3 D hD).1,(hD3 D hD).2⟩) fun w5 g1 g2 g3 g4=>?_
      obtain ⟨u,hu1,hu2⟩:=jZ (a:=a4) hT (hW4.keep (.ofBelow g1) g2 g3) ht4 hR4
      refine ⟨u,hu1,?_⟩
      rw [hRR]
      have hle:m.le c4.m:=(hW.le0.trans q6).trans hW4.le0
      have hsz3:w.heap.size≤w3.heap.size:=hW.ext.size
      have hsz':w3.heap.size≤w'.heap.size:=q8.size
      have hsz5:w'.heap.size≤w5.heap.size:=g1.size
      have hsk:∀ k,aX w' k→aX w5 k:=fun k hk=>by
       obtain ⟨cs,U,hc⟩:=hk
       exact ⟨cs,U,(g1.block k (Array.getElem?_eq_some_iff.1 hc).1).trans hc⟩
      have hs35:∀ k,aX w3 k→aX w5 k:=fun k hk=>by
       by_cases e:k=b
       ·rw [e]; exact hsk b q8.soft
       ·obtain ⟨cs,U,hc⟩:=hk
        exact hsk k ⟨cs,U,(q8.block k (Array.getElem?_eq_some_iff.1 hc).1 e).trans hc⟩
      refine ⟨u,c4.m,r4,rows',rfl,hQ4,hu2,q3,q4,fun i j r n h1 h2=>hW4.le0.cell _ _ _ (q5 i j r n h1 h2),hle,g2,⟨?_,?_,?_,by omega,fun k hk hne=>?_,hsk b q8.soft⟩,fun k o v hv=>?_,fun k x hx=>?_,?_⟩
      ·rw [g1.os,q8.os,hW.ext.os]
      ·rw [g1.tape,q8.tape,hW.ext.tape]
      ·rw [g1.output,q8.output,hW.ext.output]
      ·rw [g1.block k (by show k<w'.heap.size; omega),q8.block k (by omega) hne,hext.block k hk]
      ·rcases hnew4.cell k o v hv with h1 | h1
       ·rcases q9 k o v h1 with h1 | h1
        ·rcases hnew.cell k o v h1 with h1 | h1
         ·exact .inl h1
         ·exact .inr ⟨.inr h1.1,hs35 k h1.2⟩
        ·refine .inr ⟨?_,hsk k h1.2⟩
         rcases h1.1 with h | h
         ·exact .inl h
         ·exact .inr (by omega)
       ·have hh:w'.heap.size≤k:=h1.1
        refine .inr ⟨.inr (by omega),?_⟩
        obtain ⟨cs,U,hc⟩:=h1.2
        exact ⟨cs,U,g3 k _ hc rfl⟩
      ·rcases hnew4.map k x hx with h1 | h1
       ·rcases q10 k x h1 with h1 | h1
        ·rcases hnew.map k x h1 with h1 | h1
         ·exact .inl h1
         ·exact .inr h1
        ·exact .inr (by omega)
       ·have hh:w'.heap.size≤k:=h1
        exact .inr (by omega)
      ·exact ((hN1.more.trans hN3.more).trans q11).trans (hN4.more.trans g4)
     rcases he with rfl | rfl <;> exact hpost
    ·exact hst.elim
   ·exact hst.elim
  ·exact hst.elim
 ·exact hst.elim
end Go.AI
namespace Go.AI
open Go
open Go.RowKit (Below)
theorem yl {α:Type} (encI:α→List Int) (x:α) {j:Nat} {n:Int} (h:(encI x)[j]?=some n):(ic encI x)[j]! = .int .i64 n:=by
 unfold ic
 rw [List.getElem!_eq_getElem?_getD,List.getElem?_map,h]; rfl
theorem dJ.sort {P:Program} {α:Type} [Inhabited α] (encI:α→List Int) (k:Nat) (cf:α→α→Int) {ρ:Shelf.Ren} (L:Proofs.SlLaysF0.n6 P ρ) (hk:∀ x,(encI x).length=k)
  (aE:∀ w,(isAgg (ρ.t 24)).run P w = .ok true w) (zE:∀ w,(Go.sizeOf (ρ.t 24)).run P w = .ok k w) (hO:Sort.SWO (Proofs.ltOf cf)) {g:FuncId}
  (hcmp:∀ x y,ae P g [keyA (encI x),keyA (encI y)] (.int .i64 (cf x y))) (eg:∀ args w,(callFunc g args).run P w = .ok (.enter g args) w) (es:∀ args w,(callFunc (ρ.f 6) args).run P w = .ok (.enter (ρ.f 6) args) w)
  (l:List α) (hsz:l.length<4611686018427387904) :
  dJ P (ρ.f 6) k (l.map encI) [.fn g] (fun r rows'=>r = .tup []∧∃ l':List α,l'.Perm l∧l'.Pairwise (fun x y=>Proofs.ltOf cf y x=false)∧rows'=l'.map encI):=by
 refine ⟨es,fun m w vs b cap hs hmb hsoft hcap hcell hl hr=>?_⟩
 obtain ⟨v,rfl⟩:∃ v,vs=[v]:=by
  match vs,hl with
  | [v],_=>exact ⟨v,rfl⟩
 have hv:=hr 0 _ v rfl rfl
 have hv0:v = .func (.func g) #[] #[]:=by cases hv; rfl
 subst hv0
 have hc:∀ (i:Nat) (x:α) (j:Nat),l[i]?=some x→j<k→w.cell? ⟨b,0+(i*k+j),none⟩=some ((ic encI x)[j]!):=fun i x j hx hj=>by
  have h1:(encI x)[j]?=some ((encI x)[j]'(by rw [hk]; exact hj)):=List.getElem?_eq_getElem _
  rw [Nat.zero_add,yl encI x h1]
  exact hcell i j (encI x) _ (by rw [List.getElem?_map,hx]; rfl) h1
 have hrun:=wV encI k cf L hk aE zE hO hcmp eg l b 0 cap w hc hsoft hsz
 rw [List.length_map]
 refine Calls.mono hrun ?_
 rintro e w2 ⟨rfl,l',hS⟩
 have hlen:l'.length=l.length:=hS.perm.length_eq
 have hblt:∀ x o u,m x o=some u→x<w.heap.size∧x≠b:=fun x o u h=>by
  refine ⟨?_,fun e=>by rw [e,hmb o] at h; cases h⟩
  have h1:=hs.cell x o u h
  unfold World.cell? at h1
  split at h1
  ·rename_i hh; exact (Array.getElem?_eq_some_iff.1 hh).1
  ·cases h1
 refine ⟨.tuple #[],⟨fun x o=>if x=b then w2.cell? ⟨b,o,none⟩ else m x o,m.maps⟩,.tup [],l'.map encI,rfl,⟨rfl,l',hS.perm,hS.sorted,rfl⟩,.tup _ _ rfl (by simp),by simp [hlen],fun x hx=>?_,fun i j r n h1 h2=>?_,⟨fun x o u h=>?_,fun _ _ h=>h⟩,⟨fun x o u h=>?_,fun x y h=>?_⟩,
  ⟨hS.os,hS.tape,hS.output,hS.size,fun x hx hne=>hS.other x hne hx,hS.soft⟩,fun x o u h=>?_,fun x y h => .inl h,hS.more⟩
 ·obtain ⟨y,_,rfl⟩:=List.mem_map.1 hx; exact hk y
 ·rw [List.getElem?_map,Option.map_eq_some_iff] at h1
  obtain ⟨x,hx,rfl⟩:=h1
  have hj:j<k:=by rw [← hk x]; exact (List.getElem?_eq_some_iff.1 h2).1
  show (if b=b then w2.cell? ⟨b,i*k+j,none⟩ else _)=_
  rw [if_pos rfl]
  have:=hS.cell i x j hx hj
  rw [Nat.zero_add,yl encI x h2] at this
  exact this
 ·show (if x=b then _ else m x o)=some u
  rw [if_neg (hblt x o u h).2]; exact h
 ·simp only at h
  split at h
  ·rename_i e; rw [e]; exact h
  ·have hb:=hblt x o u h
   have h1:=hs.cell x o u h
   simp only [World.cell?] at h1 ⊢
   rw [hS.other x hb.2 hb.1]; exact h1
 ·have h1:=hs.map x y h
  have hx:=(Array.getElem?_eq_some_iff.1 h1).1
  have hne:x≠b:=fun e=>by
   obtain ⟨cs,U,hc⟩:=hsoft
   rw [e,hc] at h1; cases h1
  exact (hS.other x hne hx).trans h1
 ·simp only at h
  split at h
  ·rename_i e; exact .inr ⟨.inl e,by rw [e]; exact hS.soft⟩
  ·exact .inl h
theorem ae.sortNil {P:Program} {ρ:Shelf.Ren} (L:Proofs.SlLaysF0.n6 P ρ) (es:∀ args w,(callFunc (ρ.f 6) args).run P w = .ok (.enter (ρ.f 6) args) w) (sz:Nat) (g:FuncId) {o:Own}:ae P (ρ.f 6) [.sl o sz [],.fn g] (.tup []):=by
 refine ⟨es,fun m w vs hs hl hr=>?_⟩
 obtain ⟨u,v,rfl⟩:∃ u v,vs=[u,v]:=by
  match vs,hl with
  | [u,v],_=>exact ⟨u,v,rfl⟩
 have hu:=hr 0 _ u rfl rfl
 obtain ⟨p,cap,rfl⟩:∃ p cap,u = .slice p 0 cap:=by
  match hu with
  | .sl _ _ _ base len cap _ _ hl' _ _ _ _ _ _ _ _ _=>exact ⟨base,cap,by rw [← show ([]:List (List AV)).length=len from hl']; rfl⟩
 refine Calls.mono (Proofs.AnyF.slices_SortFunc_none L p cap v w) ?_
 rintro e w' ⟨rfl,rfl⟩
 exact ⟨_,m,rfl,.tup _ _ rfl (by simp),.refl m,hs,.refl _ _,⟨fun _ _ _ h => .inl h,fun _ _ h => .inl h⟩,.refl _⟩
section
variable {Γ:aH} {s:St} {K:Exit→St→Prop}
theorem SPB.resize {c:Code} (d j k sz:Nat) {cs:List AV} (h1:get s.b d=some cs) (h2:cs[j]?=some (.sl (.id k) 0 [])) (h:SPB Γ ⟨s.t,(d,bB cs j (.sl (.id k) sz []))::s.b⟩ c K):SPB Γ s c K:=by
 refine ⟨fun a w hI=>h.out a w ?_⟩
 obtain ⟨⟨cx,hW,ht⟩,hs,hd,hrn⟩:=hI
 have hne:cs≠[]:=fun e=>by rw [e] at h2; simp at h2
 refine ⟨⟨cx,hW.rebox h1 hne (ed _ _ _) (fun x hx=>?_) (fun vs hvs i x v q1 q2=>?_),ht⟩,hs,hd,hrn⟩
 ·obtain ⟨p,hp⟩:=List.getElem?_of_mem hx
  rw [cR] at hp
  split at hp
  ·cases hp; rfl
  ·exact (hW.box d cs h1 hne).2.2.1 x (List.mem_of_getElem? hp)
 ·rw [cR] at q1
  split at q1
  ·rename_i hj
   cases q1
   have hr:=hvs i _ v (by rw [← hj.1]; exact h2) q2
   obtain ⟨r1,r2,r3⟩:=(show RC1 cx (.sl (.id k) 0 []) v from hr)
   refine ⟨r1,fun hsp=>absurd (r2 hsp).2 (by omega),?_⟩
   match r3 with
   | .sl _ _ _ base len cap ho hf hl hc _ _ b off hb g _ _=>exact .sl _ _ _ _ _ _ ho hf hl hc (by simp) (by simp) b off hb g (by simp) (by simp)
  ·exact hvs i x v q1 q2
end
end Go.AI
namespace Go.AI
open Go
open Go.RowKit (Below)
def gm (l:List Int):List (List Int):=l.map fun z=>[z]
structure pj (P:Program) (f:FuncId) (xs ys:List Int):Prop where
 enters:∀ (args:Array Value) (w:World),(callFunc f args).run P w = .ok (.enter f args) w
 len:ys.length=xs.length
 runs:∀ (w:World) (b cap:Nat) (cells:Array Value) (T:TypeId),w.heap[b]?=some (.cells cells T (0,0))→xs.length≤cap→(∀ (i:Nat) (n:Int),xs[i]?=some n→cells[i]?=some (.int .i64 n)) →
  Calls P f #[.slice (some ⟨b,0,none⟩) xs.length cap] w fun e w'=>e = .returned (.tuple #[])∧∃ n os,w'=Sort.grow (Sort.putRow (Value.int .i64) (Sort.ahead w n) b 0 ys.toArray) os
theorem kT {w:World} {b:Nat} {cells:Array Value} {T:TypeId} (hb:w.heap[b]?=some (.cells cells T (0,0))) {xs:List Int} (h:∀ (i:Nat) (n:Int),xs[i]?=some n→cells[i]?=some (.int .i64 n)):Sort.Holds (Value.int .i64) w b 0 xs.toArray:=fun j hj=>by
 have hj':j<xs.length:=by simpa using hj
 have h1:=h j xs[j] (by simp [hj'])
 refine ⟨?_,by simp [World.frozen?,hb]⟩
 simp only [World.cell?,hb,Nat.zero_add]
 simp [h1,hj']
theorem pj.sortI {P:Program} {ρ:Shelf.Ren} (L:Proofs.Lays.n189 P ρ) (es:∀ args w,(callFunc (ρ.f 189) args).run P w = .ok (.enter (ρ.f 189) args) w) (l:List Int) (hsz:l.length<4611686018427387904) :
  pj P (ρ.f 189) l (l.mergeSort fun x y=>decide (x≤y)):=
 ⟨es,List.length_mergeSort _,fun w b cap cells T hb _ hc=>calls_of_every_depth fun D=>Proofs.AnyS.slices_Sort_int_alone L D b 0 cap l w (kT hb hc) (Array.getElem?_eq_some_iff.1 hb).1 hsz⟩
theorem qj {w:World} {b:Nat} {cells:Array Value} {T:TypeId} {fr:Nat×Nat} (h:w.heap[b]?=some (.cells cells T fr)) (f:Array Value→Array Value):Sort.mapBlock w b f=w.setRow b (f cells):=by
 unfold Sort.mapBlock World.setRow
 congr 1
 apply Array.ext_getElem?
 intro k
 rw [Array.getElem?_modify,Array.getElem?_modify]
 split
 ·rename_i hk; subst hk; rw [h]; rfl
 ·rfl
theorem WI.ahead {Γ:aH} {c:Ctx} {bx:List (Nat×List AV)} {w:World} (hW:WI Γ c bx w) (n:Nat):WI Γ c bx (Sort.ahead w n):=by
 induction n with
 | zero=>exact hW
 | succ n ih=>rw [← Sort.ahead_drew]; exact ih.drew
theorem NC.ahead (w:World) (n:Nat):NC w (Sort.ahead w n):=⟨Nat.le_refl _,fun _ _ h _=>h,⟨Nat.le_add_right _ _⟩,fun _ h=>h⟩
theorem NC.growS (w:World) (os:Array Obj):NC w (Sort.grow w os):=
 ⟨by simp [Sort.grow],fun b o h _=>by rw [Sort.heap_grow_old _ _ (Array.getElem?_eq_some_iff.1 h).1]; exact h,⟨Nat.le_refl _⟩,fun b h=>by
  obtain ⟨c,T,h⟩:=h
  exact ⟨c,T,by rw [Sort.heap_grow_old _ _ (Array.getElem?_eq_some_iff.1 h).1]; exact h⟩⟩
theorem nz {ys:List Int} {cells:Array Value} (h:ys.length≤cells.size) {j:Nat} {z:Int} (hz:ys[j]?=some z):(Sort.putCells (Value.int .i64) 0 ys.toArray cells)[j]?=some (.int .i64 z):=by
 have hj:j<ys.length:=(List.getElem?_eq_some_iff.1 hz).1
 have hj2:j<cells.size:=by omega
 have hz2:ys[j]=z:=(List.getElem?_eq_some_iff.1 hz).2
 simp [Sort.putCells,Array.getElem?_mapIdx,hj,hj2,hz2]
theorem mb {ys:List Int} {cells:Array Value}:(Sort.putCells (Value.int .i64) 0 ys.toArray cells).size=cells.size:=by simp [Sort.putCells]
theorem dJ.compactI {P:Program} {ρ:Shelf.Ren} (L:Proofs.Lays2.n20 P ρ) (es:∀ args w,(callFunc (ρ.f 20) args).run P w = .ok (.enter (ρ.f 20) args) w)
  (zs:List Int) (hsz:zs.length≤9223372036854775807) :
  dJ P (ρ.f 20) 1 (gm zs) [] (fun r rows'=>r = .sl .no 1 (bu (gm (Lib.compact zs)))):=by
 refine ⟨es,fun m w vs b cap hs hmb hsoft hcap hcell hl hr=>?_⟩
 obtain rfl:vs=[]:=by
  match vs,hl with
  | [],_=>rfl
 obtain ⟨c0,U,hb⟩:=hsoft
 have hblk:b<w.heap.size:=(Array.getElem?_eq_some_iff.1 hb).1
 have hrl:(gm zs).length=zs.length:=by simp [gm]
 have hcl:∀ (i:Nat) (n:Int),zs[i]?=some n→c0[i]?=some (.int .i64 n):=fun i n h=>by
  have h1:=hcell i 0 [n] n (by simp [gm,h]) rfl
  simpa [World.cell?,hb] using h1
 have hcs:zs.length≤c0.size:=by
  rcases Nat.lt_or_ge c0.size zs.length with h | h
  ·have:=hcl c0.size zs[c0.size] (by simp [h])
   simp at this
  ·exact h
 rw [hrl] at hcap ⊢
 have hrun:=calls_of_every_depth fun D=>Proofs.AnyS.slices_Compact_int_in L D b 0 cap zs w (kT hb hcl) hsz hcap
 refine Calls.mono hrun ?_
 rintro e w2 ⟨rfl,q,rfl⟩
 have hle:(Lib.compact zs).length≤zs.length:=by
  unfold Lib.compact Lib.compactUpTo
  rw [List.length_map]
  exact Nat.le_trans (List.length_filter_le _ _) (by simp)
 generalize hcz:Lib.compact zs=cz at *
 obtain ⟨ys,hys⟩:∃ ys,ys=cz++List.replicate (zs.length - cz.length) 0:=⟨_,rfl⟩
 rw [← hys]
 have hyl:ys.length=zs.length:=by rw [hys]; simp; omega
 have hyg:∀ (i:Nat) (n:Int),cz[i]?=some n→ys[i]?=some n:=fun i n h=>by rw [hys,List.getElem?_append_left (List.getElem?_eq_some_iff.1 h).1]; exact h
 have hheap:=heap_sortedI (w:=w) (n:=q) (os:=#[]) ys.toArray hb
 have hgr:=grownBy_sortedI (w:=w) (g:=b) (n:=q) (os:=#[]) ys.toArray
 rw [Sort.grow_empty] at hheap hgr
 have hmore:dU w (Sort.putRow (Value.int .i64) (Sort.ahead w q) b 0 ys.toArray):=⟨Nat.le_add_right _ _⟩
 have hcell2:∀ (j:Nat) (z:Int),ys[j]?=some z→(Sort.putRow (Value.int .i64) (Sort.ahead w q) b 0 ys.toArray).cell? ⟨b,j,none⟩=some (.int .i64 z):=fun j z h=>by
  simp only [World.cell?,hheap]
  simpa using nz (by omega) h
 generalize Sort.putRow (Value.int .i64) (Sort.ahead w q) b 0 ys.toArray=w2 at *
 have hoth:∀ x,x<w.heap.size→x≠b→w2.heap[x]?=w.heap[x]?:=fun x hx hne=>hgr.block x hx (fun e=>by simp at e; exact hne e)
 have hblt:∀ x o u,m x o=some u→x<w.heap.size∧x≠b:=fun x o u h=>by
  refine ⟨?_,fun e=>by rw [e,hmb o] at h; cases h⟩
  have h1:=hs.cell x o u h
  unfold World.cell? at h1
  split at h1
  ·rename_i hh; exact (Array.getElem?_eq_some_iff.1 hh).1
  ·cases h1
 refine ⟨_,⟨fun x o=>if x=b then w2.cell? ⟨b,o,none⟩ else m x o,m.maps⟩,_,gm ys,rfl,rfl,?_,by simp [gm,hyl],fun x hx=>?_,fun i j r n h1 h2=>?_,⟨fun x o u h=>?_,fun _ _ h=>h⟩,⟨fun x o u h=>?_,fun x y h=>?_⟩,
  ⟨hgr.os,hgr.tape,hgr.output,hgr.size,hoth,⟨_,U,hheap⟩⟩,fun x o u h=>?_,fun x y h => .inl h,hmore⟩
 ·refine RD.sl _ _ _ _ _ _ (by intro k hk; cases hk) (by intro hk; cases hk) (by simp [bu,gm]) (by omega) (fun x hx=>?_) (fun x hx z hz=>?_) b 0 (fun _=>rfl) (fun i _=>match cz[i]? with | some n=>Value.int .i64 n | none=>Go.undef) (fun i x j z h1 h2=>?_) (fun i x j z h1 h2=>?_)
  ·obtain ⟨y,hy,rfl⟩:=List.mem_map.1 hx
   obtain ⟨n,_,rfl⟩:=List.mem_map.1 hy
   rfl
  ·obtain ⟨y,hy,rfl⟩:=List.mem_map.1 hx
   obtain ⟨n,_,rfl⟩:=List.mem_map.1 hz
   rfl
  ·obtain ⟨y,hy,rfl⟩:=ei h1
   simp only [gm,List.getElem?_map,Option.map_eq_some_iff] at hy h2
   obtain ⟨n,hn,rfl⟩:=hy
   obtain ⟨n',hn',rfl⟩:=h2
   have hj:j=0:=by
    have:=(List.getElem?_eq_some_iff.1 hn').1
    simp at this; exact this
   subst hj
   simp only [List.getElem?_cons_zero,Option.some.injEq] at hn'
   subst hn'
   simp only [hn,Nat.zero_add,Nat.mul_one,Nat.add_zero,if_true]
   exact hcell2 i n (hyg i n hn)
  ·obtain ⟨y,hy,rfl⟩:=ei h1
   simp only [gm,List.getElem?_map,Option.map_eq_some_iff] at hy h2
   obtain ⟨n,hn,rfl⟩:=hy
   obtain ⟨n',hn',rfl⟩:=h2
   have hj:j=0:=by
    have:=(List.getElem?_eq_some_iff.1 hn').1
    simp at this; exact this
   subst hj
   simp only [List.getElem?_cons_zero,Option.some.injEq] at hn'
   subst hn'
   simp only [hn]
   exact .int _ _
 ·obtain ⟨y,_,rfl⟩:=List.mem_map.1 hx; rfl
 ·simp only [gm,List.getElem?_map,Option.map_eq_some_iff] at h1
  obtain ⟨x,hx,rfl⟩:=h1
  have hj:j=0:=by
   have:=(List.getElem?_eq_some_iff.1 h2).1
   simp at this; exact this
  subst hj
  simp only [List.getElem?_cons_zero,Option.some.injEq] at h2
  subst h2
  show (if b=b then w2.cell? ⟨b,i*1+0,none⟩ else _)=_
  rw [if_pos rfl,Nat.mul_one,Nat.add_zero]
  exact hcell2 i _ hx
 ·show (if x=b then _ else m x o)=some u
  rw [if_neg (hblt x o u h).2]; exact h
 ·simp only at h
  split at h
  ·rename_i e; rw [e]; exact h
  ·have hb:=hblt x o u h
   have h1:=hs.cell x o u h
   simp only [World.cell?] at h1 ⊢
   rw [hoth x hb.1 hb.2]; exact h1
 ·have h1:=hs.map x y h
  have hx:=(Array.getElem?_eq_some_iff.1 h1).1
  have hne:x≠b:=fun e=>by rw [e,hb] at h1; cases h1
  exact (hoth x hx hne).trans h1
 ·simp only at h
  split at h
  ·rename_i e; exact .inr ⟨.inl e,by rw [e]; exact ⟨_,U,hheap⟩⟩
  ·exact .inl h
theorem tA {m:Mem} {o:Own} {sz:Nat} {u:Value} (hu:RD m (.sl o sz []) u):∃ p cap,u = .slice p 0 cap:=by
 match hu with
 | .sl _ _ _ base len cap _ _ hl' _ _ _ _ _ _ _ _ _=>exact ⟨base,cap,by rw [← show ([]:List (List AV)).length=len from hl']; rfl⟩
theorem ae.sortNilI {P:Program} {ρ:Shelf.Ren} (L:Proofs.Lays.n189 P ρ) (es:∀ args w,(callFunc (ρ.f 189) args).run P w = .ok (.enter (ρ.f 189) args) w) (sz:Nat) {o:Own}:ae P (ρ.f 189) [.sl o sz []] (.tup []):=by
 refine ⟨es,fun m w vs hs hl hr=>?_⟩
 obtain ⟨u,rfl⟩:∃ u,vs=[u]:=by
  match vs,hl with
  | [u],_=>exact ⟨u,rfl⟩
 obtain ⟨p,cap,rfl⟩:=tA (hr 0 _ u rfl rfl)
 refine Calls.mono (calls_of_every_depth fun D=>Proofs.AnyS.slices_Sort_int_none_in { L with } D p cap w) ?_
 rintro e w' ⟨rfl,rfl⟩
 exact ⟨_,m,rfl,.tup _ _ rfl (by simp),.refl m,hs,.refl _ _,⟨fun _ _ _ h => .inl h,fun _ _ h => .inl h⟩,.refl _⟩
theorem ae.compactNil {P:Program} {ρ:Shelf.Ren} (L:Proofs.Lays2.n20 P ρ) (es:∀ args w,(callFunc (ρ.f 20) args).run P w = .ok (.enter (ρ.f 20) args) w) (sz sz2:Nat) {o:Own}:ae P (ρ.f 20) [.sl o sz []] (.sl .no sz2 []):=by
 refine ⟨es,fun m w vs hs hl hr=>?_⟩
 obtain ⟨u,rfl⟩:∃ u,vs=[u]:=by
  match vs,hl with
  | [u],_=>exact ⟨u,rfl⟩
 have hu:=hr 0 _ u rfl rfl
 obtain ⟨p,cap,rfl⟩:=tA hu
 refine Calls.mono (calls_of_every_depth fun D=>Proofs.AnyS.slices_Compact_int_empty_in L D p cap w) ?_
 rintro e w' ⟨rfl,rfl⟩
 refine ⟨_,m,rfl,?_,.refl m,hs,.refl _ _,⟨fun _ _ _ h => .inl h,fun _ _ h => .inl h⟩,.refl _⟩
 match hu with
 | .sl _ _ _ _ _ _ ho hf hl' hc hsz' hcell b off hb g hm hr=>exact .sl _ _ _ _ _ _ (by intro k hk; cases hk) (by intro hk; cases hk) hl' hc (by simp) (by simp) b off hb g (by simp) (by simp)
def Ei (C:FuncId→List Int→List Int→Prop) (s:St) (o:Oper) (K:St→Prop):Prop:=match o.op with
 | .call call=>match call.callee,call.args.toList with
  | .value f,[x0]=>match ev s f,ev s x0 with
   | .fn f,.me .sl k _ _=>kb k s.t=true∧match el s k with
    | some (sz,xs)=>∃ zs ys,C f zs ys∧sz=1∧xs=bu (gm zs)∧ef ⟨(xk k,.me .arr k 1 (bu (gm ys)))::s.t,s.b⟩ o.dst (.tup []) K
    | none=>False
   | _,_=>False
  | _,_=>False
 | _=>False
section
variable {Γ:aH} (hΓ:Γ.OK) {s:St} {a:Act} {w:World} {o:Oper} {next:Act→World→Prop} {Q:Exit→Act→World→Prop} {K:St→Prop}
include hΓ in
theorem wR (hI:Inv Γ s a w) (hdst:∀ d,o.dst=some d→d<Γ.nt) (h:Ei (pj Γ.P) s o K) (hn:∀ s' a' w',K s'→Inv Γ s' a' w'→NC w w'→FT o.dst.toList a a'→next a' w'):o.wpIn Γ.F Γ.n Γ.P a w next Q:=by
 unfold Ei at h
 split at h
 ·rename_i call hop
  split at h
  ·rename_i fo x0 hcal hargs
   split at h
   ·rename_i f k n qs hf hx
    obtain ⟨hna,h⟩:=h
    split at h
    ·rename_i sz xs hcont
     obtain ⟨zs,ys,hC,rfl,rfl,hK⟩:=h
     have harr:∀ g d n xs,ep g=true→get s.t d=some (.me g k n xs)→d=xk k:=fun g d n xs hg=>eD hg hna
     obtain ⟨c,hW,ht⟩:=hI.ex
     obtain ⟨b,cells,U,e1,⟨e2,e2'⟩,e3,e4,e5⟩:=nb ht hcont
     have hq:=hW.xo k b _ e1
     have hrx:=aB ht x0
     rw [hx] at hrx
     obtain ⟨b',cells',U',cap,f1,f2,⟨f3,f4⟩,f5⟩:=(show RX c .sl k n qs (a.eval x0) from hrx)
     rw [e1] at f1
     cases f1
     have hrl:∀ l:List Int,(bu (gm l)).length=l.length:=fun l=>by simp [bu,gm]
     rw [hrl] at e2 e3
     have hnl:n=zs.length:=by omega
     subst hnl
     have hget:∀ (l:List Int) (i:Nat) (z:Int),l[i]?=some z→(bu (gm l))[i]?=some [.int .i64 z]:=fun l i z h=>by simp [bu,gm,h]
     have hrun:=hC.runs w b cap cells U hq.obj f5 (fun i z h=>by
      obtain ⟨u,u1,u2⟩:=e5 i _ 0 _ (hget zs i z h) rfl
      cases u2
      simpa using u1)
     have hfv:a.eval fo = .func (.func f) #[] #[]:=by
      have:=aB ht fo
      rw [hf] at this
      exact this.fn
     have hexe:(execOp a.eval o).run Γ.P w = .ok (.enter f #[.slice (some ⟨b,0,none⟩) zs.length cap]) w:=by
      simp only [execOp,hop,Sem.run_bind,resolve,hcal,hfv,Deferred.ofValue,Sem.run_pure,Result.andThen_ok,invoke,hC.enters _ w]
      congr 2
      apply Array.ext'
      simp [hargs,f2]
     refine ⟨fun f _=>hΓ.fn f,?_⟩
     rw [Oper.semAt_eq _ _ _ (by rw [hop]; intro c hc; cases hc),hexe,Oper.uponIn_enter]
     refine ⟨fun h=>(by rw [hΓ.depth] at h; cases h),(ck hΓ hrun _).mono ?_⟩
     rintro e w' ⟨rfl,q,os,rfl⟩
     have hobj:(Sort.ahead w q).heap[b]?=some (.cells cells U (0,0)):=hq.obj
     have hput:Sort.putRow (Value.int .i64) (Sort.ahead w q) b 0 ys.toArray=(Sort.ahead w q).setRow b (Sort.putCells (Value.int .i64) 0 ys.toArray cells):=qj hobj _
     rw [hput]
     have hyl:=hC.len
     have hcz:zs.length≤cells.size:=by omega
     obtain ⟨W1,L1,N1⟩:=(hW.ahead q).storeX e1 (Sort.putCells (Value.int .i64) 0 ys.toArray cells) (hq.ag (kj hcont))
     have W2:=W1.grown (row:=none) (w':=Sort.grow ((Sort.ahead w q).setRow b (Sort.putCells (Value.int .i64) 0 ys.toArray cells)) os) ⟨rfl,rfl,rfl,by simp [Sort.grow],fun k hk _=>Sort.heap_grow_old _ _ hk⟩ (by intro r h; cases h)
     have N2:=((NC.ahead w q).trans N1).trans (NC.growS _ os)
     have hts:∀ d z,get ((xk k,AV.me .arr k 1 (bu (gm ys)))::s.t) d=some z→RC { c with x:=fun j=>if j=k then some (b,.cells (Sort.putCells (Value.int .i64) 0 ys.toArray cells) U (0,0)) else c.x j } z (a.tmps.getD d Go.undef):=fun d z hz=>by
      rw [ak] at hz
      split at hz
      ·rename_i hd
       cases hz
       refine ⟨b,_,U,if_pos rfl,⟨by rw [hrl,hyl]; exact e2,by rw [mb]; exact e2'⟩,by rw [hrl,hyl,mb]; exact e3,fun r hr=>?_,fun i r j y h1 h2=>?_⟩
       ·obtain ⟨y,hy,rfl⟩:=List.mem_map.1 hr
        obtain ⟨m,_,rfl⟩:=List.mem_map.1 hy
        exact ⟨rfl,fun y hy=>by simp at hy; subst hy; rfl⟩
       ·obtain ⟨y',hy',rfl⟩:=ei h1
        simp only [gm,List.getElem?_map,Option.map_eq_some_iff] at hy' h2
        obtain ⟨m,hm,rfl⟩:=hy'
        obtain ⟨m',hm',rfl⟩:=h2
        have hj:j=0:=by
         have:=(List.getElem?_eq_some_iff.1 hm').1
         simp at this; exact this
        subst hj
        simp only [List.getElem?_cons_zero,Option.some.injEq] at hm'
        subst hm'
        exact ⟨_,by rw [Nat.mul_one,Nat.add_zero]; exact nz (by omega) hm,.int _ _⟩
      ·have hz':=ht d z hz
       cases z with
       | me g k' n' zs'=>
        by_cases hk:k'=k
        ·subst hk
         cases g with
         | sl=>
          obtain ⟨p1,p2,p3,p4,p5⟩:=(show RX c .sl k' n' zs' _ from hz')
          exact ⟨p1,_,U,p4,by rw [show c.x k'=_ from e1] at p5; simp only [Option.some.injEq,Prod.mk.injEq] at p5; rw [← p5.1.1]; exact if_pos rfl,p5.2⟩
         | ptr sz2 j2=>
          obtain ⟨p1,p2,p3,p5⟩:=(show RX c (.ptr sz2 j2) k' n' zs' _ from hz')
          exact ⟨p1,_,U,by rw [show c.x k'=_ from e1] at p5; simp only [Option.some.injEq,Prod.mk.injEq] at p5; rw [← p5.1.1]; exact if_pos rfl,p5.2⟩
         | arr=>exact absurd (harr _ _ _ _ rfl hz) (by assumption)
         | box=>exact absurd (harr _ _ _ _ rfl hz) (by assumption)
         | mp=>
          obtain ⟨p1,p2,p3,p5,_⟩:=(show RX c .mp k' n' zs' _ from hz')
          rw [show c.x k'=_ from e1] at p5; cases p5
         | ents=>
          obtain ⟨p2,p3,p5,_⟩:=(show RX c .ents k' n' zs' Go.undef from hz')
          rw [show c.x k'=_ from e1] at p5; cases p5
         | sub sz2 l2=>
          obtain ⟨p1,p2,p3,p4,p6,p5,p7⟩:=(show RX c (.sub sz2 l2) k' n' zs' _ from hz')
          exact ⟨p1,_,U,p4,p6,by rw [show c.x k'=_ from e1] at p5; simp only [Option.some.injEq,Prod.mk.injEq] at p5; rw [← p5.1]; exact if_pos rfl,p7⟩
        ·have:=hz'.leX L1
         simp only [AV.unme,show Nat.beq k k'=false from by cases hb:Nat.beq k k' with | false=>rfl | true=>exact absurd (Nat.eq_of_beq_eq_true hb).symm hk] at this
         exact this
       | _=>exact hz'.leX L1
     cases hdo:o.dst with
     | none=>
      rw [hdo] at hK
      exact hn _ _ _ hK (hI.next N2 W2 (d:=none) (v := .tuple #[]) (by intro k hk; cases hk) hts) N2 (FT.put ⟨.tuple #[],by rw [hdo]⟩)
     | some d=>
      rw [hdo] at hK
      exact hn _ _ _ hK (hI.next N2 W2 (d:=some d) (v := .tuple #[]) (by intro k hk; cases hk; exact hdst _ hdo) (bV hts (by rw [hI.size]; exact hdst d hdo) (RC.of_RD (.tup _ _ rfl (by simp))))) N2 (FT.put ⟨.tuple #[],by rw [hdo]⟩)
    ·exact h.elim
   ·exact h.elim
  ·exact h.elim
 ·exact h.elim
variable {T:Tab} (hT:T.OK Γ.P)
include hΓ hT in
theorem SPB.oregW (keep:List Nat) (n:Nat) {s:St} {K:Exit→St→Prop} {id:Nat} {ops:Array Oper} (ho:bt Γ.nt (.region id ops false)=true)
  (h:lI T Γ.P (Ei (pj Γ.P)) ops.toList (bI ops.toList ops.toList) n s fun s'=>fQ keep s' (K .normal)):SPB Γ s (.region id ops false) K:=
 SPB.oregG hΓ hT (fun _ _ _ _ _ _ _ hI hd h hn=>wR hΓ hI hd h hn) keep n ho h
end
end Go.AI
namespace Go.AI
open Go
open Go.RowKit (Below)
def gL (l:List (Int×Int)):List (List AV):=l.map fun p=>[.int .i64 p.1,.int .i64 p.2]
def hZ:List (Int×Int)→Int→Int
 | [],_=>0
 | p::r,x=>if p.1=x then p.2 else hZ r x
def lQ (x y:Int):List (Int×Int)→List (Int×Int)
 | []=>[(x,y)]
 | p::r=>if p.1=x then (x,y)::r else p::lQ x y r
structure wI (P:Program) (t:TypeId):Prop where
 ex:∃ kt et,P.underlying t=some (.map kt et)∧P.underlying kt=some (.int .i64)∧∀ w,(zeroValue et).run P w = .ok (.int .i64 0) w
def EL:List MapEntry→List (Int×Int)→Prop
 | [],[]=>True
 | e::es,p::l=>(e.key = .int .i64 p.1∧e.val = .int .i64 p.2)∧EL es l
 | _,_=>False
theorem EL.len:∀ {es:List MapEntry} {l:List (Int×Int)},EL es l→es.length=l.length
 | [],[],_=>rfl
 | e::es,p::l,h=>by rw [List.length_cons,List.length_cons,EL.len h.2]
 | [],_::_,h=>h.elim
 | _::_,[],h=>h.elim
theorem EL.get:∀ {es:List MapEntry} {l:List (Int×Int)},EL es l→∀ (j:Nat) (e:MapEntry) (p:Int×Int),es[j]?=some e→l[j]?=some p→e.key = .int .i64 p.1∧e.val = .int .i64 p.2
 | [],[],_,j,e,p,h1,_=>by simp at h1
 | e::es,p::l,h,0,_,_,h1,h2=>by
  simp only [List.getElem?_cons_zero,Option.some.injEq] at h1 h2
  subst h1; subst h2; exact h.1
 | e::es,p::l,h,j+1,_,_,h1,h2=>EL.get h.2 j _ _ (by simpa using h1) (by simpa using h2)
 | [],_::_,h,_,_,_,_,_=>h.elim
 | _::_,[],h,_,_,_,_,_=>h.elim
theorem EL.of:∀ {es:List MapEntry} {l:List (Int×Int)},es.length=l.length→(∀ (j:Nat) (e:MapEntry) (p:Int×Int),es[j]?=some e→l[j]?=some p→e.key = .int .i64 p.1∧e.val = .int .i64 p.2)→EL es l
 | [],[],_,_=>trivial
 | e::es,p::l,h,hg=>⟨hg 0 e p rfl rfl,EL.of (by simpa using h) fun j e p h1 h2=>hg (j+1) e p (by simpa using h1) (by simpa using h2)⟩
 | [],_::_,h,_=>by simp at h
 | _::_,[],h,_=>by simp at h
theorem rT (x:Int):∀ (es:List MapEntry) (l:List (Int×Int)) (n:Nat),EL es l →
  (Instr.findNow (.int .i64) (.int .i64 x) es n=some none∧hZ l x=0∧(∀ e∈es,e.key≠.int .i64 x)∧∀ y,lQ x y l=l++[(x,y)]) ∨
  ∃ j e,Instr.findNow (.int .i64) (.int .i64 x) es n=some (some (n+j,.int .i64 (hZ l x)))∧es[j]?=some e∧e.key = .int .i64 x∧∀ y,lQ x y l=l.set j (x,y)
 | [],[],n,_ => .inl ⟨rfl,rfl,by simp,fun _=>rfl⟩
 | e::es,p::l,n,h=>by
  obtain ⟨⟨hk,hv⟩,h2⟩:=h
  by_cases hx:p.1=x
  ·refine .inr ⟨0,e,?_,rfl,by rw [hk,hx],fun y=>by simp [lQ,hx]⟩
   simp [Instr.findNow,Instr.sameNow,hk,hv,hx,hZ]
  ·have hs:Instr.sameNow (.int .i64) (.int .i64 x) e.key=some false:=by
    simp only [Instr.sameNow,hk,if_true,Option.some.injEq,beq_eq_false_iff_ne,ne_eq]
    exact fun h=>hx h.symm
   rcases rT x es l (n+1) h2 with ⟨h3,h4,h5,h6⟩ | ⟨j,e',h3,h4,h5,h6⟩
   ·refine .inl ⟨?_,by simp [hZ,hx,h4],fun e' he=>?_,fun y=>by simp [lQ,hx,h6]⟩
    ·simp only [Instr.findNow,hs,h3]
    ·rcases List.mem_cons.1 he with h | h
     ·subst h
      rw [hk]
      intro hc
      simp only [Value.int.injEq,true_and] at hc
      exact hx hc
     ·exact h5 e' h
   ·refine .inr ⟨j+1,e',?_,by simpa using h4,h5,fun y=>by simp [lQ,hx,h6]⟩
    simp only [Instr.findNow,hs,h3,hZ,if_neg hx]
    rw [show n+1+j=n+(j+1) by omega]
 | [],_::_,_,h=>h.elim
 | _::_,[],_,h=>h.elim
section
variable {P:Program} {w:World}
theorem fG {kt:TypeId} (h2:P.underlying kt=some (.int .i64)) (em:Bool) (x:Int):(Instr.checkKey em 10000 kt (.int .i64 x)).run P w = .ok () w:=by
 rw [show (10000:Nat)=9999+1 from rfl,Instr.checkKey]
 simp only [Sem.run_bind,run_underlying h2,Result.andThen_ok,Sem.run_pure]
theorem qS {t:TypeId} (hM:wI P t) {b:Nat} {es:Array MapEntry} {clock:Nat} {l:List (Int×Int)} (hb:w.heap[b]?=some (.map es clock)) (h:EL es.toList l) (x:Int) :
  (Instr.lookup t (.map (some b)) (.int .i64 x) false).run P w = .ok (.int .i64 (hZ l x)) w:=by
 obtain ⟨kt,et,h1,h2,h3⟩:=hM.ex
 rcases rT x es.toList l 0 h with ⟨f1,f2,_⟩ | ⟨j,e,f1,_⟩
 ·simp only [Instr.lookup,Sem.run_bind,run_underlying h1,Result.andThen_ok,MapKept.run_getObj_map hb,Sem.run_pure,fG h2,Instr.findKey,run_underlying h2,f1,h3,f2,Bool.false_eq_true,if_false]
 ·simp only [Instr.lookup,Sem.run_bind,run_underlying h1,Result.andThen_ok,MapKept.run_getObj_map hb,Sem.run_pure,fG h2,Instr.findKey,run_underlying h2,f1,Bool.false_eq_true,if_false]
theorem sU (x:Int):(Instr.keyThatStays (.int .i64 x) (.int .i64 x)).run P w = .ok (.int .i64 x) w:=by
 have hs:Instr.sameBits 10000 (.int .i64 x) (.int .i64 x)=true:=by
  rw [show (10000:Nat)=9999+1 from rfl]
  simp [Instr.sameBits]
 simp [Instr.keyThatStays,hs]
theorem nw {t:TypeId} (hM:wI P t) {b:Nat} {es:Array MapEntry} {clock:Nat} {l:List (Int×Int)} (hb:w.heap[b]?=some (.map es clock)) (h:EL es.toList l) (x:Int) (v:Value) :
  ((Instr.mapUpdate t (.map (some b)) (.int .i64 x) v).run P w = .ok () (w.putObj b (.map (es.push ⟨.int .i64 x,v,clock⟩) (clock+1)))∧(∀ e∈es.toList,e.key≠.int .i64 x)∧∀ y,lQ x y l=l++[(x,y)]) ∨
  ∃ j e,(Instr.mapUpdate t (.map (some b)) (.int .i64 x) v).run P w = .ok () (w.putObj b (.map (es.modify j fun e=>{ e with key := .int .i64 x,val:=v }) clock))∧es[j]?=some e∧e.key = .int .i64 x∧∀ y,lQ x y l=l.set j (x,y):=by
 obtain ⟨kt,et,h1,h2,h3⟩:=hM.ex
 rcases rT x es.toList l 0 h with ⟨f1,_,f3,f4⟩ | ⟨j,e,f1,f2,f3,f4⟩
 ·refine .inl ⟨?_,f3,f4⟩
  simp only [Instr.mapUpdate,Sem.run_bind,run_underlying h1,Result.andThen_ok,MapKept.run_getObj_map hb,fG h2,Instr.findKey,run_underlying h2,f1,Sem.run_pure,MapKept.run_setObj_map _ hb]
  rfl
 ·have f2':es[j]?=some e:=by simpa using f2
  refine .inr ⟨j,e,?_,f2',f3,f4⟩
  simp only [Instr.mapUpdate,Sem.run_bind,run_underlying h1,Result.andThen_ok,MapKept.run_getObj_map hb,fG h2,Instr.findKey,run_underlying h2,f1,Sem.run_pure,Nat.zero_add,f2',Option.map_some,Option.getD_some,f3,sU,MapKept.run_setObj_map _ hb]
  rfl
end
theorem tK {l:List (Int×Int)} {i:Nat} {x:List AV} (h:(gL l)[i]?=some x):∃ p,l[i]?=some p∧x=[.int .i64 p.1,.int .i64 p.2]:=by
 simp only [gL,List.getElem?_map,Option.map_eq_some_iff] at h
 obtain ⟨p,h1,h2⟩:=h
 exact ⟨p,h1,h2.symm⟩
theorem RX.toEL {c:Ctx} {k b:Nat} {l:List (Int×Int)} {u:Value} (h:RX c .ents k b (gL l) u):∃ es clock,c.x k=some (b,.map es clock)∧f9 es clock∧EL es.toList l:=by
 obtain ⟨es,clock,e1,q1,q2,q3,q4,q5⟩:=h
 have hl:l.length=es.size:=by simpa [gL] using q2
 refine ⟨es,clock,e1,q1,EL.of (by simp [hl]) fun j e p h1 h2=>?_⟩
 have h1':es[j]?=some e:=by simpa using h1
 have h2':(gL l)[j]?=some [.int .i64 p.1,.int .i64 p.2]:=by simp [gL,h2]
 exact ⟨(q4 j _ e _ h2' h1' rfl).int_eq,(q5 j _ e _ h2' h1' rfl).int_eq⟩
theorem RX.ofEL {c:Ctx} {k b:Nat} {l:List (Int×Int)} {es:Array MapEntry} {clock:Nat} (h1:c.x k=some (b,.map es clock)) (h2:f9 es clock) (h3:EL es.toList l) (u:Value):RX c .ents k b (gL l) u:=by
 refine ⟨es,clock,h1,h2,by have:=h3.len; simp [gL]; simpa using this.symm,fun x hx=>?_,fun i x e y g1 g2 g3=>?_,fun i x e y g1 g2 g3=>?_⟩
 ·obtain ⟨p,_,rfl⟩:=List.mem_map.1 hx; rfl
 ·obtain ⟨p,p1,rfl⟩:=tK g1
  simp only [List.getElem?_cons_zero,Option.some.injEq] at g3
  subst g3
  rw [(h3.get i e p (by simpa using g2) p1).1]; exact .int _ _
 ·obtain ⟨p,p1,rfl⟩:=tK g1
  simp only [List.getElem?_cons_succ,List.getElem?_cons_zero,Option.some.injEq] at g3
  subst g3
  rw [(h3.get i e p (by simpa using g2) p1).2]; exact .int _ _
theorem EL.push {es:Array MapEntry} {l:List (Int×Int)} {clock:Nat} (hB:f9 es clock) (h:EL es.toList l) {x y:Int} (hk:∀ e∈es.toList,e.key≠.int .i64 x) :
  f9 (es.push ⟨.int .i64 x,.int .i64 y,clock⟩) (clock+1)∧EL (es.push ⟨.int .i64 x,.int .i64 y,clock⟩).toList (l++[(x,y)]):=by
 have hlen:es.size=l.length:=by have:=h.len; simpa using this
 have hmem:∀ (n:Nat) (f:MapEntry),es[n]?=some f→f∈es.toList:=fun n f hf=>by rw [← Array.getElem?_toList] at hf; exact List.mem_of_getElem? hf
 refine ⟨⟨fun i e he=>?_,fun i i' e e' h4 h5 h6=>?_,fun i i' e e' h4 h5 h6=>?_⟩,EL.of (by simp [hlen]) fun j e p h1 h2=>?_⟩
 ·rw [Array.getElem?_push] at he
  split at he
  ·cases he; simp
  ·have:=hB.1 i e he; omega
 ·rw [Array.getElem?_push] at h4 h5
  split at h4 <;> split at h5
  ·omega
  ·cases h4; have:=hB.1 _ _ h5; simp only at h6; omega
  ·cases h5; have:=hB.1 _ _ h4; simp only at h6; omega
  ·exact hB.2.1 i i' e e' h4 h5 h6
 ·rw [Array.getElem?_push] at h4 h5
  split at h4 <;> split at h5
  ·omega
  ·cases h4; exact absurd h6.symm (hk _ (hmem _ _ h5))
  ·cases h5; exact absurd h6 (hk _ (hmem _ _ h4))
  ·exact hB.2.2 i i' e e' h4 h5 h6
 ·rw [Array.getElem?_toList,Array.getElem?_push] at h1
  by_cases hj:j<l.length
  ·rw [List.getElem?_append_left hj] at h2
   rw [if_neg (by omega)] at h1
   exact h.get j e p (by simpa using h1) h2
  ·rw [List.getElem?_append_right (by omega)] at h2
   have hj0:j=l.length:=by
    have:=(List.getElem?_eq_some_iff.1 h2).1
    simp at this; omega
   subst hj0
   simp at h2
   subst h2
   rw [if_pos hlen.symm] at h1
   cases h1
   exact ⟨rfl,rfl⟩
theorem EL.put {es:Array MapEntry} {l:List (Int×Int)} {clock j:Nat} {e0:MapEntry} (hB:f9 es clock) (h:EL es.toList l) {x y:Int} (h2:es[j]?=some e0) (hk:e0.key = .int .i64 x) :
  f9 (es.modify j fun e=>{ e with key := .int .i64 x,val := .int .i64 y }) clock∧EL (es.modify j fun e=>{ e with key := .int .i64 x,val := .int .i64 y }).toList (l.set j (x,y)):=by
 have hlen:es.size=l.length:=by have:=h.len; simpa using this
 have hget:∀ n,(es.modify j fun e=>{ e with key := .int .i64 x,val := .int .i64 y })[n]?=if j=n then (es[n]?).map (fun e=>{ e with key := .int .i64 x,val := .int .i64 y }) else es[n]?:=fun n=>by
  rw [Array.getElem?_modify]
 have hborn:∀ (n:Nat) (f:MapEntry),(es.modify j fun e=>{ e with key := .int .i64 x,val := .int .i64 y })[n]?=some f→∃ f0,es[n]?=some f0∧f0.born=f.born∧f0.key=f.key:=fun n f hf=>by
  rw [hget] at hf
  split at hf
  ·rename_i hjn
   subst hjn
   rw [h2] at hf
   simp only [Option.map_some,Option.some.injEq] at hf
   subst hf
   exact ⟨e0,h2,rfl,hk⟩
  ·exact ⟨f,hf,rfl,rfl⟩
 refine ⟨⟨fun i e he=>?_,fun i i' e e' h4 h5 h6=>?_,fun i i' e e' h4 h5 h6=>?_⟩,EL.of (by simp [hlen]) fun n e p h1 h3=>?_⟩
 ·obtain ⟨f0,g1,g2,_⟩:=hborn i e he
  rw [← g2]; exact hB.1 i f0 g1
 ·obtain ⟨f0,g1,g2,_⟩:=hborn i e h4
  obtain ⟨f1,g1',g2',_⟩:=hborn i' e' h5
  exact hB.2.1 i i' f0 f1 g1 g1' (by rw [g2,g2',h6])
 ·obtain ⟨f0,g1,_,g2⟩:=hborn i e h4
  obtain ⟨f1,g1',_,g2'⟩:=hborn i' e' h5
  exact hB.2.2 i i' f0 f1 g1 g1' (by rw [g2,g2',h6])
 ·rw [Array.getElem?_toList,hget] at h1
  have hn:n<l.length:=by have:=(List.getElem?_eq_some_iff.1 h3).1; simpa using this
  by_cases hj:j=n
  ·subst hj
   rw [if_pos rfl,h2] at h1
   simp only [Option.map_some,Option.some.injEq] at h1
   subst h1
   rw [List.getElem?_set_self hn] at h3
   cases h3
   exact ⟨rfl,rfl⟩
  ·rw [if_neg hj] at h1
   rw [List.getElem?_set_ne hj] at h3
   exact h.get n e p (by simpa using h1) h3
def E7 (T:Tab) (C:FuncId→List AV→AV→Prop) (M:TypeId→Prop) (s:St) (o:Oper) (K:St→Prop):Prop:=match o.op with
 | .lookup t x y false=>match ev s x,ev s y,o.dst with
  | .lit (.map (some b)),.int .i64 n,some d=>M t∧∃ k l,get s.t (xk k)=some (.me .ents k b (gL l))∧K ⟨(d,.int .i64 (hZ l n))::s.t,s.b⟩
  | _,_,_=>False
 | .mapUpdate t x y z=>match ev s x,ev s y,ev s z,o.dst with
  | .lit (.map (some b)),.int .i64 n,.int .i64 v,none=>M t∧∃ k l,get s.t (xk k)=some (.me .ents k b (gL l))∧kb k s.t=true∧K ⟨(xk k,.me .ents k b (gL (lQ n v l)))::s.t,s.b⟩
  | _,_,_,_=>False
 | .binOp .eql t x (.const (.slice none 0 0)) _=>match ev s x,get T t with
  | .sl _ _ xs,some i=>bif Nat.beq i.kind 3 then (xs=[]→ef s o.dst (.bool true) K)∧ef s o.dst (.bool false) K else False
  | _,_=>False
 | op=>opX T C s o.dst o.type op K
def og (T:Tab) (C:FuncId→List AV→AV→Prop) (M:TypeId→Prop) (all:List Oper) (guards:List Nat):List Oper→St→(St→Prop)→Prop
 | [],s,K=>K s
 | o::rest,s,K=>match j5 all s o with
  | 0=>E7 T C M s o fun s=>x4 o.op s fun s=>gW guards o.dst s fun s=>og T C M all guards rest s K
  | 1=>ef s o.dst .undef fun s=>og T C M all guards rest s K
  | _=>False
section
variable {Γ:aH} (hΓ:Γ.OK) {T:Tab} (hT:T.OK Γ.P) {M:TypeId→Prop} (hM:∀ t,M t→wI Γ.P t) {s:St} {a:Act} {w:World} {o:Oper} {next:Act→World→Prop} {Q:Exit→Act→World→Prop} {K:St→Prop}
include hΓ hT hM
theorem xQ (hI:Inv Γ s a w) (hd:∀ d,o.dst=some d→d<Γ.nt) (h:E7 T (ae Γ.P) M s o K) (hn:bJ Γ a o.dst w K next):o.wpIn Γ.F Γ.n Γ.P a w next Q:=by
 unfold E7 at h
 split at h
 ·rename_i t x y hop
  split at h
  ·rename_i b n d hx hy hdst
   obtain ⟨hMt,k,l,hk,hK⟩:=h
   obtain ⟨c,hW,ht⟩:=hI.ex
   obtain ⟨es,clock,e1,q1,q2⟩:=(show RX c .ents k b (gL l) (a.tmps.getD (xk k) Go.undef) from ht _ _ hk).toEL
   have hq:=hW.xo k b _ e1
   have hrx:RD c.m (.lit (.map (some b))) (a.eval x):=by have:=aB ht x; rwa [hx] at this
   have hvx:a.eval x = .map (some b):=by generalize a.eval x=u at hrx; cases hrx; rfl
   have hvy:a.eval y = .int .i64 n:=by have:=aB ht y; rw [hy] at this; exact this.int
   have hK':ef s o.dst (.int .i64 (hZ l n)) K:=by rw [hdst]; obtain ⟨t,b⟩:=s; exact hK
   refine lZ hΓ hI hd hW ht (by rw [hop]; intro c hc; cases hc) (x := .int .i64 (hZ l n)) (v := .int .i64 (hZ l n)) (RC.of_RD (.int _ _)) ?_ hK' hn
   simp only [execOp,hop,Sem.run_bind,hvx,hvy,qS (hM t hMt) hq.obj q2 n,Result.andThen_ok,Sem.run_pure]
  ·exact h.elim
 ·rename_i t x y z hop
  split at h
  ·rename_i b n v hx hy hz hdst
   obtain ⟨hMt,k,l,hk,hna,hK⟩:=h
   have hcl:∀ d n xs,get s.t d=some (.me .ents k n xs)→d=xk k:=fun d n xs=>eD rfl hna
   obtain ⟨c,hW,ht⟩:=hI.ex
   obtain ⟨es,clock,e1,q1,q2⟩:=(show RX c .ents k b (gL l) (a.tmps.getD (xk k) Go.undef) from ht _ _ hk).toEL
   have hq:=hW.xo k b _ e1
   have hrx:RD c.m (.lit (.map (some b))) (a.eval x):=by have:=aB ht x; rwa [hx] at this
   have hvx:a.eval x = .map (some b):=by generalize a.eval x=u at hrx; cases hrx; rfl
   have hvy:a.eval y = .int .i64 n:=by have:=aB ht y; rw [hy] at this; exact this.int
   have hvz:a.eval z = .int .i64 v:=by have:=aB ht z; rw [hz] at this; exact this.int
   have fin:∀ (es':Array MapEntry) (clock':Nat),(Instr.mapUpdate t (.map (some b)) (.int .i64 n) (.int .i64 v)).run Γ.P w = .ok () (w.putObj b (.map es' clock'))→f9 es' clock'→EL es'.toList (lQ n v l)→o.wpIn Γ.F Γ.n Γ.P a w next Q:=by
    intro es' clock' hrun hborn hrel
    obtain ⟨W1,W2,W3⟩:=hW.putX e1 (.map es' clock') rfl (fun _ _ _ h=>nomatch h)
    refine gG hΓ (by rw [hop]; intro c hc; cases hc) (w':=w.putObj b (.map es' clock')) (by simp only [execOp,hop,Sem.run_bind,hvx,hvy,hvz,hrun,Result.andThen_ok,Sem.run_pure]) ?_
    rw [hdst]
    refine hn _ _ _ hK (hI.next W3 W1 (d:=none) (v:=Go.undef) (by intro k hk; cases hk) (fun d z' hz=>?_)) W3 (gM hdst)
    rw [ak] at hz
    split at hz
    ·cases hz
     exact RX.ofEL (if_pos rfl) hborn hrel Go.undef
    ·rename_i hd
     have hz':=ht d z' hz
     cases z' with
     | me g k' n' zs'=>
      by_cases hk':k'=k
      ·subst hk'
       cases g with
       | sl=>obtain ⟨p1,p2,p3,p4,p5,_⟩:=(show RX c .sl k' n' zs' (a.tmps.getD d Go.undef) from hz'); rw [e1] at p5; cases p5
       | ptr sz2 j2=>obtain ⟨p1,p2,p3,p5,_⟩:=(show RX c (.ptr sz2 j2) k' n' zs' (a.tmps.getD d Go.undef) from hz'); rw [e1] at p5; cases p5
       | arr=>obtain ⟨p1,p2,p3,p5,_⟩:=(show RX c .arr k' n' zs' (a.tmps.getD d Go.undef) from hz'); rw [e1] at p5; cases p5
       | mp=>
        obtain ⟨p1,p2,p3,p5,p6⟩:=(show RX c .mp k' n' zs' (a.tmps.getD d Go.undef) from hz')
        rw [e1] at p5; cases p5
        exact ⟨b,es',clock',if_pos rfl,p6⟩
       | ents=>exact absurd (hcl _ _ _ hz) hd
       | sub sz2 l2=>obtain ⟨p1,p2,p3,p4,p6,p5,_⟩:=(show RX c (.sub sz2 l2) k' n' zs' (a.tmps.getD d Go.undef) from hz'); rw [e1] at p5; cases p5
       | box=>obtain ⟨p1,p2,p3,p5,_⟩:=(show RX c .box k' n' zs' (a.tmps.getD d Go.undef) from hz'); rw [e1] at p5; cases p5
      ·have:=hz'.leX W2
       simp only [AV.unme,show Nat.beq k k'=false from by cases hb:Nat.beq k k' with | false=>rfl | true=>exact absurd (Nat.eq_of_beq_eq_true hb).symm hk'] at this
       exact this
     | _=>exact hz'.leX W2
   rcases nw (hM t hMt) hq.obj q2 n (.int .i64 v) with ⟨h1,h2,h3⟩ | ⟨j,e,h1,h2,h3,h4⟩
   ·obtain ⟨g1,g2⟩:=EL.push (x:=n) (y:=v) q1 q2 h2
    exact fin _ _ h1 g1 (by rw [h3]; exact g2)
   ·obtain ⟨g1,g2⟩:=EL.put (x:=n) (y:=v) q1 q2 h2 h3
    exact fin _ _ h1 g1 (by rw [h4]; exact g2)
  ·exact h.elim
 ·rename_i t x p hop
  split at h
  ·rename_i ow sz xs i hx hi
   cases hk:Nat.beq i.kind 3 with
   | false=>rw [hk] at h; exact h.elim
   | true=>
    rw [hk] at h
    have hu:=bK hT hi (Nat.eq_of_beq_eq_true hk)
    obtain ⟨c,hW,ht⟩:=hI.ex
    have hrx:=(aB ht x).pub
    rw [hx] at hrx
    obtain ⟨base,len,cap,hv,hlen,hb⟩:∃ base len cap,a.eval x = .slice base len cap∧xs.length=len∧(0<len→base≠none):=by
     generalize a.eval x=u at hrx
     have h2:∃ ow',RD c.m (.sl ow' sz xs) u:=by cases ow <;> exact ⟨_,hrx⟩
     obtain ⟨ow',h2⟩:=h2
     cases h2 with
     | sl _ _ _ base len cap ho hf hl hc hsz hcell b off hb g hm hr=>exact ⟨base,len,cap,rfl,hl,fun h0=>by rw [hb h0]; exact fun h=>nomatch h⟩
    have hrun:(execOp a.eval o).run Γ.P w = .ok (.value (.bool base.isNone)) w:=by
     have hc:a.eval (.const (.slice none 0 0)) = .slice none 0 0:=rfl
     simp only [execOp,hop,Sem.run_bind,hv,hc]
     simp [eqGuard,Lib.run_eql_slice_nil w t _ base len cap 0 0 hu]
    have fin:ef s o.dst (.bool base.isNone) K→o.wpIn Γ.F Γ.n Γ.P a w next Q:=fun hK=>
     lZ hΓ hI hd hW ht (by rw [hop]; intro c hc; cases hc) (x := .bool base.isNone) (v := .bool base.isNone) (RC.of_RD (.bool _)) hrun hK hn
    cases hbn:base with
    | some z=>rw [hbn] at fin; exact fin h.2
    | none=>
     rw [hbn] at fin hb
     have h0:xs=[]:=List.length_eq_zero_iff.1 (by rw [hlen]; rcases Nat.eq_zero_or_pos len with h | h; exact h; exact absurd rfl (hb h))
     exact fin (h.1 h0)
  ·exact h.elim
 ·exact oR hΓ hT rfl hI hd h hn
theorem iT {all:List Oper} {guards:List Nat} (hall:∀ j d,gX all j=some d→d<Γ.nt):∀ (l:List Oper) (k:Nat) (s:St) (a:Act) (w:World) (K:St→Prop),(∀ j,l[j]?=all[k+j]?)→og T (ae Γ.P) M all guards l s K→Inv Γ s a w →
  (∀ s' a' w',K s'→Inv Γ s' a' w'→NC w w'→FT (dc l) a a'→Q .normal a' w')→wpOpsIn Γ.F Γ.n Γ.P all.toArray Q (List.range' k l.length) a w
 | [],k,s,a,w,K,_,h,hI,hQ=>hQ s a w h hI (.refl w) (.refl _ a)
 | o::rest,k,s,a,w,K,hk,h,hI,hQ=>by
  have h0:all.toArray[k]?=some o:=by simpa using (hk 0).symm
  have hk':∀ j,rest[j]?=all[k+1+j]?:=fun j=>by have:=hk (j+1); simpa [Nat.add_assoc,Nat.add_comm 1 j] using this
  have hdst:∀ d,o.dst=some d→d<Γ.nt:=fun d hd=>hall k d (by rw [e9]; rw [show all[k]?=some o from by simpa using h0]; exact hd)
  simp only [List.length_cons,List.range'_succ,wpOpsIn,h0]
  simp only [og] at h
  split at h
  ·rename_i hw
   rw [db hall hI 0 hw (by omega)]
   simp only [beq_self_eq_true,if_true]
   refine xQ hΓ hT hM hI hdst h ?_
   intro s' a' w' hK hI' hN hP
   rw [qy] at hK
   obtain ⟨s2,hK2,hle⟩:=fR hK
   exact iT hall rest (k+1) s2 a' w' K hk' hK2 (hI'.less hle) (fun s3 a3 w3 h1 h2 h3 h4=>hQ s3 a3 w3 h1 h2 (hN.trans h3) (((FT.put hP).mono fun d hd=>List.mem_append_left _ hd).trans (h4.mono fun d hd=>List.mem_append_right _ hd)))
  ·rename_i hw
   rw [db hall hI 1 hw (by omega)]
   simp only [Nat.reduceBEq,Bool.false_eq_true,if_false]
   obtain ⟨s2,hK2,hI2⟩:=gN hI hdst h
   exact ⟨fun f _=>hΓ.fn f,iT hall rest (k+1) s2 _ w K hk' hK2 hI2 fun s3 a3 w3 h1 h2 h3 h4=>hQ s3 a3 w3 h1 h2 h3 (((FT.put ⟨_,rfl⟩).mono fun d hd=>List.mem_append_left _ hd).trans (h4.mono fun d hd=>List.mem_append_right _ hd))⟩
  ·exact h.elim
theorem SPB.regM (keep:List Nat) {s:St} {K:Exit→St→Prop} {id:Nat} {ops:Array Oper} (ho:bt Γ.nt (.region id ops false)=true)
  (h:og T (ae Γ.P) M ops.toList (bI ops.toList ops.toList) ops.toList s fun s'=>fQ keep s' (K .normal)):SPB Γ s (.region id ops false) K:=by
 refine ⟨fun a w hI=>?_⟩
 obtain ⟨l⟩:=ops
 refine wpIn_region ?_
 rw [show (⟨l⟩:Array Oper).size=l.length from rfl,List.range_eq_range']
 refine iT hΓ hT hM (di ho) l 0 s a w _ (fun j=>by simp) h hI ?_
 intro s' a' w' hK hI' hN hF
 obtain ⟨s2,h2,hle⟩:=dA hK
 exact ⟨hN,hF,s2,hI'.less hle,h2⟩
end
end Go.AI
namespace Go.AI
def IT:Code→Bool
 | .skip=>true
 | .label _=>true
 | .ret=>true
 | .exit _=>true
 | .block _ _=>true
 | .seq _ _=>true
 | .cond _ _ _=>true
 | .region _ _ _=>true
 | _=>false
def stC (Γ:aH) (T:Tab) (keep es:List Nat) (s:St) (K:Exit→St→Prop):Code→Prop
 | .skip=>K .normal s
 | .label _=>K .normal s
 | .ret=>K .ret s
 | .exit j=>K (.exit j) s
 | .block id c=>SPB Γ s c fun e s'=>match e with
  | .exit j=>bif Nat.beq j id then K .normal s' else K (.exit j) s'
  | e=>K e s'
 | .seq a b=>SPB Γ s a fun e s'=>match e with | .normal=>SPB Γ s' b K | e=>K e s'
 | .cond c x y=>match ev s c with
  | .bool t=>(t=true→SPB Γ s x K)∧(t=false→SPB Γ s y K)
  | _=>False
 | .region id ops true=>bt Γ.nt (.region id ops true)=true∧lK T (ae Γ.P) (bD Γ.P) (es.map (3000000000+·)) keep ops.toList s (K .normal)
 | .region id ops false=>bt Γ.nt (.region id ops false)=true∧fB T (ae Γ.P) (bD Γ.P) ops.toList (es.map (3000000000+·)++bI ops.toList ops.toList) ops.toList s fun s'=>fQ keep s' (K .normal)
 | _=>False
theorem QE {Γ:aH} {T:Tab} {s:St} {K:Exit→St→Prop} {c:Code} (hc:IT c=true) (hΓ:Γ.OK) (hT:T.OK Γ.P) (keep es:List Nat) (h:stC Γ T keep es s K c):SPB Γ s c K:=by
 cases c with
 | skip=>exact SPB.of_awp hΓ hT [] rfl h
 | label l=>exact SPB.of_awp hΓ hT [] rfl h
 | ret=>exact SPB.of_awp hΓ hT [] rfl h
 | exit j=>exact SPB.of_awp hΓ hT [] rfl h
 | block id c=>exact Q2 h
 | seq a b=>exact Q1 h
 | cond c x y=>
  simp only [stC] at h
  split at h
  ·rename_i t ht; exact QC ht h
  ·exact h.elim
 | region id ops d=>
  cases d with
  | true=>exact SPB.drawE hΓ hT keep es h.1 h.2
  | false=>exact SPB.regE hΓ hT keep es h.1 h.2
 | _=>cases hc
theorem QS {Γ:aH} {T:Tab} {s:St} {K:Exit→St→Prop} {c:Code} (hc:IT c=true) (hΓ:Γ.OK) (hT:T.OK Γ.P) (keep:List Nat) (h:stC Γ T keep [] s K c):SPB Γ s c K:=QE hc hΓ hT keep [] h
end Go.AI
