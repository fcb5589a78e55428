/- The abstract interpreter for the code, part 3: what it reckons of a piece of code holds of every run. No condition but those typed. -/
import Derived.Test.YtnbgjinkghhdoaaGreatTAiB
import Derived.OrdersIn
import Derived.LoopNIn
import Derived.RangeFuncLeaves
import Derived.Shelf.Abstract
import Derived.RangeFuncNested
set_option linter.unusedSectionVars false
set_option linter.unusedVariables false
set_option linter.unusedSimpArgs false
namespace Go.AI
open Go
theorem ba {l:List Nat} {k:Nat}:bX l k=true↔k∈l:=by
 induction l with
 | nil=>simp [bX]
 | cons d r ih=>
  simp only [bX,List.mem_cons]
  cases hb:Nat.beq d k with
  | true=>rw [cond_true]; exact ⟨fun _ => .inl (Nat.eq_of_beq_eq_true hb).symm,fun _=>rfl⟩
  | false=>rw [cond_false,ih]; exact ⟨.inr,fun h=>h.resolve_left fun e=>Nat.ne_of_beq_eq_false hb e.symm⟩
def aj {α:Type} (f:(α→Prop)→Prop):Prop:=∀ K,f K→∃ v,K v∧∀ K',K' v→f K'
theorem aj.k {α:Type} (v:α):aj (fun K=>K v):=fun _ h=>⟨v,h,fun _ h=>h⟩
theorem aj.no {α:Type}:aj (fun _:α→Prop=>False):=fun _ h=>h.elim
theorem aj.and {α:Type} {A:Prop} {f:(α→Prop)→Prop} (h:aj f):aj (fun K=>A∧f K):=fun K ⟨a,g⟩=>let ⟨v,h1,h2⟩:=h K g; ⟨v,h1,fun K' k=>⟨a,h2 K' k⟩⟩
theorem aj.ex {α β:Type} {A:β→Prop} {f:β→(α→Prop)→Prop} (h:∀ b,aj (f b)):aj (fun K=>∃ b,A b∧f b K):=fun K ⟨b,a,g⟩=>let ⟨v,h1,h2⟩:=h b K g; ⟨v,h1,fun K' k=>⟨b,a,h2 K' k⟩⟩
theorem aj.bif {α:Type} {b:Bool} {f g:(α→Prop)→Prop} (hf:aj f) (hg:aj g):aj (fun K=>bif b then f K else g K):=by cases b <;> assumption
theorem aj.ikW {α:Type} {k k':IntKind} {f:(α→Prop)→Prop} (hf:aj f):aj (fun K=>ikW k k' (f K)):=aj.bif hf aj.no
theorem aj.bandW {α:Type} {b:Bool} {f:(α→Prop)→Prop} (hf:aj f):aj (fun K=>bandW b (f K)):=aj.bif hf aj.no
theorem Eo (T:Tab) (op:BinOp) (t:TypeId) (a b:AV):aj (vj T op t a b):=by
 unfold vj
 cases a <;> try exact aj.no
 ·cases b <;> try exact aj.no
  cases op <;> first | exact aj.ikW (aj.k _) | exact aj.ikW (aj.and (aj.k _)) | exact aj.and (aj.k _)
 ·cases b <;> try exact aj.no
  cases get T t <;> cases op <;> first | exact aj.no | exact aj.bandW (aj.k _)
 ·rename_i xs
  cases b <;> try exact aj.no
  rename_i ys
  cases get T t with
  | none=>cases op <;> exact aj.no
  | some i=>cases op <;> first | exact aj.no | (simp only []; cases pg T 4 t xs ys <;> first | exact aj.no | exact aj.k _)
theorem G5 (op:UnOp) (a:AV):aj (unW op a):=by
 unfold unW
 cases op <;> cases a <;> first | exact aj.no | exact aj.k _
theorem jw {α:Type} (o:Option AV) (d:Nat) {f:Nat→(α→Prop)→Prop} (h:∀ n,aj (f n)):aj (fun K=>eI o d fun n=>f n K):=by
 unfold eI
 cases o with
 | none=>exact h _
 | some v=>cases v <;> first | exact aj.no | exact aj.and (h _)
theorem aj.szOK {α:Type} {a b:Nat} {xs:List (List AV)} {f:(α→Prop)→Prop} (h:aj f):aj (fun K=>szOK a b xs (f K)):=by
 unfold Go.AI.szOK
 refine aj.bif h ?_
 cases xs <;> first | exact h | exact aj.no
section
variable (T:Tab) (C:FuncId→List AV→AV→Prop) (bx:List (Nat×List AV)) (e:Operand→AV)
theorem iW {i:TI} {cs:List AV} {f:AV→(AV→Prop)→Prop} (h:∀ v,aj (f v)):aj (fun K=>match dz i cs with | some v=>f v K | none=>False):=by
 cases dz i cs with
 | none=>exact aj.no
 | some v=>exact h v
theorem xE (ty:TypeId) (op:Op):aj (opV T C bx e ty op):=by
 cases op with
 | move x=>exact aj.k _
 | assign x=>exact aj.k _
 | pick c a b=>
  unfold opV
  simp only
  cases e c <;> first | exact aj.no | exact aj.bif (aj.k _) (aj.k _)
 | binOp op t x y p=>exact Eo T op t _ _
 | unOp op t x=>exact G5 op _
 | load t x=>
  unfold opV
  simp only
  cases get T t with
  | none=>exact aj.no
  | some i=>
   cases e x with
   | loc d off=>
    simp only
    cases get bx d with
    | none=>exact aj.no
    | some cs=>exact iW fun _=>aj.k _
   | ref cs=>exact iW fun _=>aj.k _
   | pin _ _ _ cs=>exact iW fun _=>aj.k _
   | _=>exact aj.no
 | nilCheck x=>unfold opV; simp only; cases e x <;> first | exact aj.no | exact aj.k _
 | fieldAddr t x f=>
  unfold opV
  simp only
  cases get T t with
  | none=>exact aj.no
  | some i=>
   refine aj.bif ?_ aj.no
   cases nth i.flds f with
   | none=>exact aj.no
   | some p=>
    obtain ⟨off,ft⟩:=p
    simp only
    cases get T ft with
    | none=>exact aj.no
    | some j=>refine aj.bif aj.no ?_; cases e x <;> first | exact aj.no | exact aj.k _
 | field t x f=>
  unfold opV
  simp only
  cases get T t with
  | none=>exact aj.no
  | some i=>
   refine aj.bif ?_ aj.no
   cases nth i.flds f with
   | none=>exact aj.no
   | some p=>
    obtain ⟨off,ft⟩:=p
    simp only
    cases get T ft with
    | none=>exact aj.no
    | some j=>cases e x <;> first | exact aj.no | exact aj.bif (iW fun _=>aj.k _) aj.no
 | indexAddr t x n=>
  unfold opV
  simp only
  cases get T t with
  | none=>exact aj.no
  | some i=>
   simp only
   cases get T i.elem with
   | none=>exact aj.no
   | some j=>
    cases e n <;> first | exact aj.no | skip
    cases e x <;> first | exact aj.no | exact aj.bif (aj.szOK (aj.and (aj.ex fun _=>aj.k _))) aj.no | exact aj.bif (aj.and (aj.and (aj.k _))) aj.no
 | index t x n=>
  unfold opV
  simp only
  cases get T t with
  | none=>exact aj.no
  | some i=>
   simp only
   cases get T i.elem with
   | none=>exact aj.no
   | some j=>cases e n <;> cases e x <;> first | exact aj.no | exact aj.bif (aj.and (aj.and (aj.and (iW fun _=>aj.k _)))) aj.no
 | slice t x lo hi mx=>
  unfold opV
  simp only
  cases get T t with
  | none=>exact aj.no
  | some i=>
   simp only
   cases get T i.elem with
   | none=>exact aj.no
   | some j=>
    cases e x <;> first | exact aj.no | skip
    refine aj.bif (aj.szOK (jw _ _ fun l=>jw _ _ fun h=>?_)) aj.no
    cases mx.map e with
    | none=>exact aj.and (aj.and (aj.k _))
    | some v=>cases v <;> first | exact aj.no | exact aj.bif (aj.and (aj.and (aj.and (aj.k _)))) aj.no
 | extract x n=>
  unfold opV
  simp only
  cases e x <;> first | exact aj.no | skip
  rename_i vs
  simp only
  cases nth vs n <;> first | exact aj.no | exact aj.k _
 | build t parts=>
  unfold opV
  simp only [nV]
  cases get T t with
  | none=>exact aj.no
  | some i=>
   obtain ⟨isz,ib,iz,ifl,ia,ie,ik,iik,iq⟩:=i
   simp only
   cases iz <;> first | exact aj.no | skip
   refine aj.bif ?_ (aj.bif ?_ aj.no)
   ·split <;> first | exact aj.no | exact aj.bif (aj.k _) aj.no
   ·cases get T ie with
    | none=>exact aj.no
    | some k=>simp only; split <;> first | exact aj.no | exact aj.bif (aj.k _) aj.no
 | buildSlice t n parts=>
  unfold opV
  simp only
  cases get T t with
  | none=>exact aj.no
  | some i=>
   simp only
   cases get T i.elem with
   | none=>exact aj.no
   | some j=>refine aj.bif ?_ aj.no; cases fa e parts.toList 0 j.size <;> cases j.zero.cells? <;> first | exact aj.no | (simp only [u6]; exact aj.k _)
 | convert a b x=>
  unfold opV
  simp only
  cases get T a <;> cases get T b <;> first | exact aj.no | (cases e x <;> first | exact aj.no | exact aj.bif (aj.k _) aj.no)
 | call c=>
  unfold opV
  simp only
  cases c.callee with
  | value f=>
   simp only
   cases e f <;> first | exact aj.no | exact aj.ex fun _=>aj.k _
  | invoke r m=>exact aj.no
  | builtin b=>
   cases b <;> first | exact aj.no | skip
   ·simp only
    split <;> first | exact aj.no | skip
    rename_i x t _ _
    cases get T t with
    | none=>exact aj.no
    | some i=>simp only; cases e x <;> exact aj.bif (aj.k _) aj.no
   ·simp only
    split <;> first | exact aj.no | skip
    rename_i k x r _
    cases gp true k x r <;> first | exact aj.no | exact aj.k _
   ·simp only
    split <;> first | exact aj.no | skip
    rename_i k x r _
    cases gp false k x r <;> first | exact aj.no | exact aj.k _
 | _=>exact aj.no
end
end Go.AI
namespace Go.AI
open Go
def zU (e e':Operand→AV) (bx bx':List (Nat×List AV)) (xs:List Operand):Prop:=∀ x∈xs,e' x=e x∧∀ d off,e x = .loc d off→get bx' d=get bx d
def Bo (s s':St) (xs:List Operand):Prop:=∀ x∈xs,(∀ g k n ys,ev s x = .me g k n ys→get s'.t (xk k)=get s.t (xk k)) ∧
 ∀ b,ev s x = .lit (.map (some b))→∀ k n ys,get s.t (xk k)=some (.me .ents k n ys)→get s'.t (xk k)=get s.t (xk k)
def qi:Op→List Operand
 | .move _=>[]
 | .assign _=>[]
 | op=>op.operands.toList
def um:Op→List Operand
 | .load _ x=>[x]
 | .store _ a _=>[a]
 | _=>[]
def Bp (s s':St) (xs:List Operand):Prop:=∀ x∈xs,∀ k b off cs,ev s x = .pin k b off cs→get s'.t (xk k)=get s.t (xk k)
section
variable (T:Tab) (C:FuncId→List AV→AV→Prop) {bx bx':List (Nat×List AV)} {e e':Operand→AV}
theorem k0:∀ (l:List (Nat×Operand)) (n sz:Nat),(∀ p∈l,e' p.2=e p.2)→fa e' l n sz=fa e l n sz
 | [],_,_,_=>rfl
 |(i,x)::r,n,sz,h=>by
  simp only [fa,h (i,x) List.mem_cons_self,k0 r (n+1) sz fun p hp=>h p (List.mem_cons_of_mem _ hp)]
theorem uX {l:List Operand} (h:∀ x∈l,e' x=e x):l.map e'=l.map e:=List.map_congr_left h
theorem CR {ty:TypeId} {op:Op} {K:AV→Prop} (hA:zU e e' bx bx' op.operands.toList) (h:opV T C bx e ty op K):opV T C bx' e' ty op K:=by
 cases op with
 | move x=>have h1:=(hA x (by simp [Op.operands])).1; unfold opV at h ⊢; simp only [h1] at h ⊢; exact h
 | assign x=>have h1:=(hA x (by simp [Op.operands])).1; unfold opV at h ⊢; simp only [h1] at h ⊢; exact h
 | pick c a b=>
  have h1:=(hA c (by simp [Op.operands])).1
  have h2:=(hA a (by simp [Op.operands])).1
  have h3:=(hA b (by simp [Op.operands])).1
  unfold opV at h ⊢; simp only [h1,h2,h3] at h ⊢; exact h
 | binOp op t x y p=>
  have h1:=(hA x (by simp [Op.operands])).1
  have h2:=(hA y (by simp [Op.operands])).1
  unfold opV at h ⊢; simp only [h1,h2] at h ⊢; exact h
 | unOp op t x=>have h1:=(hA x (by simp [Op.operands])).1; unfold opV at h ⊢; simp only [h1] at h ⊢; exact h
 | load t x=>
  obtain ⟨h1,h2⟩:=hA x (by simp [Op.operands])
  unfold opV at h ⊢
  simp only [h1] at h ⊢
  cases hg:get T t with
  | none=>rw [hg] at h; exact h
  | some i=>
   rw [hg] at h
   simp only at h ⊢
   cases he:e x with
   | loc d off=>rw [he] at h; simp only [h2 d off he] at h ⊢; exact h
   | _=>rw [he] at h; exact h
 | nilCheck x=>have h1:=(hA x (by simp [Op.operands])).1; unfold opV at h ⊢; simp only [h1] at h ⊢; exact h
 | fieldAddr t x f=>have h1:=(hA x (by simp [Op.operands])).1; unfold opV at h ⊢; simp only [h1] at h ⊢; exact h
 | field t x f=>have h1:=(hA x (by simp [Op.operands])).1; unfold opV at h ⊢; simp only [h1] at h ⊢; exact h
 | indexAddr t x n=>
  have h1:=(hA x (by simp [Op.operands])).1
  have h2:=(hA n (by simp [Op.operands])).1
  unfold opV at h ⊢; simp only [h1,h2] at h ⊢; exact h
 | index t x n=>
  have h1:=(hA x (by simp [Op.operands])).1
  have h2:=(hA n (by simp [Op.operands])).1
  unfold opV at h ⊢; simp only [h1,h2] at h ⊢; exact h
 | slice t x lo hi mx=>
  have h1:=(hA x (by simp [Op.operands])).1
  have hl:lo.map e'=lo.map e:=by cases lo with | none=>rfl | some y=>simp [(hA y (by simp [Op.operands])).1]
  have hh:hi.map e'=hi.map e:=by cases hi with | none=>rfl | some y=>simp [(hA y (by simp [Op.operands])).1]
  have hm:mx.map e'=mx.map e:=by cases mx with | none=>rfl | some y=>simp [(hA y (by simp [Op.operands])).1]
  unfold opV at h ⊢; simp only [h1,hl,hh,hm] at h ⊢; exact h
 | extract x n=>have h1:=(hA x (by simp [Op.operands])).1; unfold opV at h ⊢; simp only [h1] at h ⊢; exact h
 | build t parts=>
  have h1:(parts.toList.map fun (p:Nat×Operand)=>(p.1,e' p.2))=parts.toList.map fun (p:Nat×Operand)=>(p.1,e p.2):=List.map_congr_left fun p hp=>by
   rw [(hA p.2 (by simp only [Op.operands,List.mem_map]; exact ⟨p,hp,rfl⟩)).1]
  unfold opV at h ⊢; simp only [h1] at h ⊢; exact h
 | buildSlice t n parts=>
  have h1:=fun (m sz:Nat)=>k0 (e:=e) (e':=e') parts.toList m sz fun p hp=>(hA p.2 (by simp only [Op.operands,List.mem_map]; exact ⟨p,hp,rfl⟩)).1
  unfold opV at h ⊢; simp only [h1] at h ⊢; exact h
 | convert a b x=>have h1:=(hA x (by simp [Op.operands])).1; unfold opV at h ⊢; simp only [h1] at h ⊢; exact h
 | call c=>
  obtain ⟨cal,args,ts⟩:=c
  have h1:∀ x∈args.toList,e' x=e x:=fun x hx=>(hA x (by simp [Op.operands,Call.operands]; exact .inr (by simpa using hx))).1
  have hp:(args.toList.map fun x=>(e' x).pub)=args.toList.map fun x=>(e x).pub:=List.map_congr_left fun x hx=>by rw [h1 x hx]
  have hm:=uX h1
  cases cal with
  | value f=>
   have h2:=(hA f (by simp [Op.operands,Call.operands])).1
   unfold opV at h ⊢
   simp only [hp,h2] at h ⊢
   exact h
  | invoke r m=>unfold opV at h; exact h.elim
  | builtin b=>
   cases b with
   | len=>
    unfold opV at h ⊢
    simp only at h ⊢
    generalize args.toList=l at h1 h ⊢
    generalize ts.toList=tl at h ⊢
    cases l with
    | nil=>exact h
    | cons x r=>
     have hx:=h1 x List.mem_cons_self
     rcases r with _ | ⟨y,r⟩ <;> rcases tl with _ | ⟨t,_ | ⟨t2,tl⟩⟩ <;> first | exact h | (simp only [hx] at h ⊢; exact h)
   | max=>unfold opV at h ⊢; simp only [hm] at h ⊢; exact h
   | min=>unfold opV at h ⊢; simp only [hm] at h ⊢; exact h
   | _=>unfold opV at h; exact h.elim
 | _=>unfold opV at h; exact h.elim
end
end Go.AI
namespace Go.AI
open Go
inductive ff where
 | val (v:AV)
 | alloc (cs:List AV)
 | store (d:Nat) (cs:List AV)
 | app (k:Nat) (v:AV)
 | xst (k:Nat) (v:AV)
 | cut (k n:Nat) (v:AV)
 | lent (N I:List Nat) (v:AV) (es:List (Nat×AV)) (rd:List Nat)
section
variable (T:Tab) (C:FuncId→List AV→AV→Prop)
def opR (s:St) (dst:Option Nat) (ty:TypeId) (op:Op) (K:ff→Prop):Prop:=
 match op with
 | .alloc t=>match dst,get T t with
  | some d,some i=>match i.zero.cells? with
   | some cs=>bif Nat.beq cs.length i.size&&cs.all (fun c=>c.isCell) then K (.alloc cs) else False
   | none=>False
  | _,_=>False
 | .store t a x=>match dst,get T t,ev s a,(ev s x).cells? with
  | none,some i,.loc d off,some cs=>bif Nat.beq cs.length i.size&&cs.all (fun c=>c.isCell) then
    match get s.b d with
    | some c0=>bif Nat.ble (off+cs.length) c0.length&&Nat.blt 0 cs.length then K (.store d (mF c0 off cs)) else False
    | none=>False
   else False
  | _,_,_,_=>False
 | .call { callee := .builtin .append,args:=args,argTypes:=ts }=>match args.toList,ts.toList,dst with
  | [x,y],[t,t'],some d=>match get T t with
   | some i=>match get T i.elem with
    | some j=>match ev s x,ev s y with
     | .sl o sz xs,.sl _ sz' ys=>bif Nat.beq i.kind 3&&Nat.beq t t'&&qC j&&Nat.blt 0 j.size&&xx o j.size sz then szOK j.size sz xs (szOK j.size sz' ys (eA (xs.length+ys.length) j.bytes∧xs.length+ys.length≤4611686018427387904 ∧
       match o with
       | .full=>bif AZ xs ys then K (.app d (.sl (.id d) j.size (xs++ys))) else bif rm ys then False else K (.val (.sl .full sz xs))
       | .id k=>K (.app k (.sl (.id k) j.size (xs++ys)))
       | .no=>False)) else False
     | _,_=>False
    | none=>False
   | none=>False
  | _,_,_=>False
 | op=>opV T C s.b (ev s) ty op fun v=>v.go fun v=>K (.val v)
end
section
variable (T:Tab) (C:FuncId→List AV→AV→Prop)
def jF (s:St) (t:TypeId) (k len:Nat) (i:Int) (K:ff→Prop):Prop:=match get T t with
 | none=>False
 | some ti=>match get T ti.elem with
  | none=>False
  | some j=>match el s k with
   | none=>False
   | some (sz,_)=>bif Nat.beq ti.kind 3&&Nat.beq j.size sz then 0≤i∧i<len∧K (.val (.me (.ptr sz 0) k i.toNat [])) else False
def uO (s:St) (dst:Option Nat) (t:TypeId) (sz j k i:Nat) (v:AV) (K:ff→Prop):Prop:=match dst,get T t,v.cells? with
 | none,some ti,some cs=>match el s k with
  | none=>False
  | some (sz',xs)=>bif Nat.beq sz' sz&&(Nat.beq cs.length ti.size&&(cs.all (fun c=>c.isCell)&&(Nat.ble (j+cs.length) sz&&Nat.blt 0 cs.length))) then
    ∃ r,xs[i]?=some r∧K (.xst k (.me .arr k sz (bB xs i (mF r j (cs.map AV.pub1))))) else False
 | _,_,_=>False
def Ir (t:TypeId) (n:Nat) (K:ff→Prop):Prop:=match get T t with
 | none=>False
 | some i=>bif Nat.beq i.kind 3 then K (.val (.int .i64 n)) else False
def uP (s:St) (t:TypeId) (k n:Nat) (lo hi mx:Option AV) (K:ff→Prop):Prop:=match get T t with
 | none=>False
 | some i=>match get T i.elem with
  | none=>False
  | some j=>match el s k with
   | none=>False
   | some (sz,_)=>bif Nat.beq i.kind 3&&(Nat.beq j.size sz&&mx.isNone) then eI lo 0 fun l=>eI hi n fun h=>l≤h∧h≤n∧K (.val (.me (.sub sz l) k (h - l) [])) else False
def Hh (s:St) (dst:Option Nat) (ts:List TypeId) (sz k h:Nat) (y:AV) (K:ff→Prop):Prop:=match dst,ts with
 | some _,[t,t']=>match get T t with
  | none=>False
  | some i=>match get T i.elem with
   | none=>False
   | some j=>match y with
    | .me (.sub sz' l) k' m _=>match el s k with
     | none=>False
     | some (sz2,xs)=>bif Nat.beq i.kind 3&&(Nat.beq t t'&&(Nat.beq sz sz2&&(Nat.beq sz' sz2&&(Nat.beq k k'&&(Nat.beq j.size sz2&&Nat.blt 0 sz2))))) then
       h+m≤xs.length∧K (.cut k (h+m) (.me .arr k sz2 (xs.take h++(xs.drop l).take m))) else False
    | _=>False
 | _,_=>False
def BL (s:St) (t:TypeId) (sz j k i:Nat) (K:ff→Prop):Prop:=match get T t with
 | none=>False
 | some ti=>match el s k with
  | none=>False
  | some (sz',xs)=>bif Nat.beq sz' sz then ∃ r,xs[i]?=some r∧match dz ti (r.drop j) with | some v=>v.go fun v=>K (.val v) | none=>False else False
def mK (t:TypeId) (f sz j k i:Nat) (K:ff→Prop):Prop:=match get T t with
 | none=>False
 | some ti=>bif Nat.beq ti.kind 1 then match nth ti.flds f with
   | none=>False
   | some (off,ft)=>match get T ft with
    | none=>False
    | some u=>bif Nat.beq u.size 0 then False else K (.val (.me (.ptr sz (j+off)) k i []))
  else False
def jI (s:St) (dst:Option Nat) (ty:TypeId) (op:Op) (K:ff→Prop):Prop:=match op with
 | .indexAddr t x n=>match ev s x,ev s n with
  | .me .sl k len _,.int _ i=>jF T s t k len i K
  | _,_=>opR T C s dst ty op K
 | .store t a x=>match ev s a with
  | .me (.ptr sz j) k i _=>uO T s dst t sz j k i (ev s x) K
  | .pin k b off _=>mN T s dst t k b off (ev s x) fun k v=>K (.xst k v)
  | _=>opR T C s dst ty op K
 | .call { callee := .builtin .len,args:=args,argTypes:=ts }=>match args.toList,ts.toList with
  | [x],[t]=>match ev s x with
   | .me .sl _ n _=>Ir T t n K
   | _=>opR T C s dst ty op K
  | _,_=>opR T C s dst ty op K
 | .mapUpdate t m k x=>match ev s m with
  | .lit (.map (some b))=>qE T s dst t b (ev s k) (ev s x) fun k v=>K (.xst k v)
  | _=>False
 | .insert t m k x=>match ev s m with
  | .lit (.map (some b))=>qE T s dst t b (ev s k) (ev s x) fun k v=>K (.xst k v)
  | _=>False
 | .lookup t m k ok=>match ev s m with
  | .lit (.map (some b))=>iU T s t b (ev s k) ok fun v=>v.go fun v=>K (.val v)
  | _=>False
 | .call { callee := .builtin .append,args:=args,argTypes:=ts }=>match args.toList with
  | [x,y]=>match ev s x with
   | .me (.sub sz off) k h _=>bif Nat.beq off 0 then Hh T s dst ts.toList sz k h (ev s y) K else opR T C s dst ty op K
   | _=>opR T C s dst ty op K
  | _=>opR T C s dst ty op K
 | .slice t x lo hi mx=>match ev s x with
  | .me .sl k n _=>uP T s t k n (lo.map (ev s)) (hi.map (ev s)) (mx.map (ev s)) K
  | _=>opR T C s dst ty op K
 | .load t x=>match ev s x with
  | .me (.ptr sz j) k i _=>BL T s t sz j k i K
  | .pin k b off cs=>kK T s t k b off cs fun v=>v.go fun v=>K (.val v)
  | _=>opR T C s dst ty op K
 | .fieldAddr t x f=>match ev s x with
  | .me (.ptr sz j) k i _=>mK T t f sz j k i K
  | _=>opR T C s dst ty op K
 | op=>opR T C s dst ty op K
end
def uS (T:Tab) (C:FuncId→List AV→AV→Prop) (E:zT) (guards:List Nat) (s:St) (o:Oper) (K:ff→Prop):Prop:=
 bif rX guards o then uf E s o fun N I L r L'=>r.go fun r=>goT (xkL L') fun es=>K (.lent N I r es ((fy L).map xk))
 else jI T C s o.dst o.type o.op K
def cg (s:St) (dst:Option Nat):ff→St
 | .val v=>match dst with | some d=>⟨(d,v)::s.t,s.b⟩ | none=>s
 | .alloc cs=>match dst with | some d=>⟨(d,.loc d 0)::unloc d s.t,(d,cs)::s.b⟩ | none=>s
 | .store d cs=>⟨s.t,(d,cs)::s.b⟩
 | .app k v=>match dst with | some d=>⟨(d,v)::(s.dem k).t,(s.dem k).b⟩ | none=>s
 | .xst k v=>⟨(xk k,v)::s.t,s.b⟩
 | .cut k n v=>match dst with | some d=>⟨(d,.me .sl k n [])::(xk k,v)::fY (AV.unme k) s.t,s.b⟩ | none=>s
 | .lent N I v es _=>match dst with | some d=>⟨(d,v)::(es++((s.demMany I).unmeMany N).t),(s.demMany I).b⟩ | none=>s
theorem aj.mono {α:Type} {f:(α→Prop)→Prop} (h:aj f) {K K':α→Prop} (hf:f K) (hk:∀ v,K v→K' v):f K':=
 let ⟨v,h1,h2⟩:=h K hf; h2 K' (hk v h1)
theorem d5 (T:Tab) (C:FuncId→List AV→AV→Prop) (s:St) (dst:Option Nat) (ty:TypeId) (op:Op):aj (opR T C s dst ty op):=by
 unfold opR
 split
 ·cases dst with
  | none=>exact aj.no
  | some d=>
   rename_i t
   cases get T t with
   | none=>exact aj.no
   | some i=>
    simp only
    cases i.zero.cells? with
    | none=>exact aj.no
    | some cs=>exact aj.bif (aj.k _) aj.no
 ·rename_i t x y
  cases dst with
  | some d=>exact aj.no
  | none=>
   cases get T t with
   | none=>exact aj.no
   | some i=>
    cases ev s x <;> first | exact aj.no | skip
    rename_i d off
    cases (ev s y).cells? with
    | none=>exact aj.no
    | some cs=>
     refine aj.bif ?_ aj.no
     cases get s.b d with
     | none=>exact aj.no
     | some c0=>exact aj.bif (aj.k _) aj.no
 ·rename_i args ts
  generalize args.toList=l
  generalize ts.toList=tl
  rcases l with _ | ⟨x,_ | ⟨y,_ | ⟨z,l⟩⟩⟩ <;> rcases tl with _ | ⟨t,_ | ⟨t',_ | ⟨t'',tl⟩⟩⟩ <;> cases dst <;> first | exact aj.no | skip
  simp only
  cases get T t with
  | none=>exact aj.no
  | some i=>
   simp only
   cases get T i.elem with
   | none=>exact aj.no
   | some j=>
    simp only
    cases ev s x <;> cases ev s y <;> first | exact aj.no | skip
    rename_i o _ _ _ _ _
    refine aj.bif (aj.szOK (aj.szOK (aj.and (aj.and ?_)))) aj.no
    cases o <;> first | exact aj.no | exact aj.k _ | exact aj.bif (aj.k _) (aj.bif aj.no (aj.k _))
 ·intro K h
  have h':=(xE T C s.b (ev s) ty op) _ h
  obtain ⟨v,h1,h2⟩:=h'
  rw [AV.go_eq] at h1
  exact ⟨_,h1,fun K' k=>h2 _ (by rw [AV.go_eq]; exact k)⟩
theorem aj.ex' {α β:Type} {f:β→(α→Prop)→Prop} (h:∀ b,aj (f b)):aj (fun K=>∃ b,f b K):=fun K ⟨b,g⟩=>let ⟨v,h1,h2⟩:=h b K g; ⟨v,h1,fun K' k=>⟨b,h2 K' k⟩⟩
theorem tw (T:Tab) (s:St) (dst:Option Nat) (mt:TypeId) (b:Nat) (kv xv:AV):aj (fun K:ff→Prop=>qE T s dst mt b kv xv fun k v=>K (.xst k v)):=by
 unfold qE
 split
 ·split
  ·split
   ·refine aj.bif ?_ aj.no
    split
    ·simp only [AV.go1_eq]; exact aj.ex' fun k=>aj.ex' fun l=>aj.ex' fun key=>aj.and (aj.k _)
    ·exact aj.no
   ·exact aj.no
  ·exact aj.no
 ·exact aj.no
theorem Ab (T:Tab) (s:St) (t:TypeId) (b:Nat) (kv:AV) (ok:Bool):aj (fun K:ff→Prop=>iU T s t b kv ok fun v=>v.go fun v=>K (.val v)):=by
 unfold iU
 split
 ·split
  ·split
   ·refine aj.bif ?_ aj.no
    split
    ·refine aj.ex' fun k=>aj.ex' fun l=>aj.ex' fun key=>aj.ex' fun g=>aj.and ?_
     simp only [AV.go_eq]; exact aj.k _
    ·exact aj.no
   ·exact aj.no
  ·exact aj.no
 ·exact aj.no
theorem Ao (T:Tab) (s:St) (t:TypeId) (k b off:Nat) (cs:List AV):aj (fun K:ff→Prop=>kK T s t k b off cs fun v=>v.go fun v=>K (.val v)):=by
 unfold kK
 split
 ·exact aj.no
 ·split
  ·simp only [AV.go_eq]; exact aj.k _
  ·split
   ·refine aj.bif ?_ aj.no
    split
    ·simp only [AV.go_eq]; exact aj.and (aj.k _)
    ·exact aj.no
   ·exact aj.no
theorem xw (T:Tab) (s:St) (dst:Option Nat) (t:TypeId) (k b off:Nat) (v:AV):aj (fun K:ff→Prop=>mN T s dst t k b off v fun k v=>K (.xst k v)):=by
 unfold mN
 split
 ·split
  ·exact aj.no
  ·simp only [eY]; exact aj.bif (aj.and (aj.k _)) aj.no
 ·exact aj.no
theorem CT (T:Tab) (C:FuncId→List AV→AV→Prop) (s:St) (dst:Option Nat) (ty:TypeId) (op:Op):aj (jI T C s dst ty op):=by
 unfold jI
 split
 ·split
  ·unfold jF
   split
   ·exact aj.no
   split
   ·exact aj.no
   split
   ·exact aj.no
   exact aj.bif (aj.and (aj.and (aj.k _))) aj.no
  ·exact d5 T C s dst ty _
 ·split
  ·unfold uO
   split
   ·split
    ·exact aj.no
    exact aj.bif (aj.ex fun r=>aj.k _) aj.no
   ·exact aj.no
  ·exact xw T s dst _ _ _ _ _
  ·exact d5 T C s dst ty _
 ·split
  ·split
   ·unfold Ir
    split
    ·exact aj.no
    exact aj.bif (aj.k _) aj.no
   ·exact d5 T C s dst ty _
  ·exact d5 T C s dst ty _
 ·split
  ·exact tw T s dst _ _ _ _
  ·exact aj.no
 ·split
  ·exact tw T s dst _ _ _ _
  ·exact aj.no
 ·split
  ·exact Ab T s _ _ _ _
  ·exact aj.no
 ·split
  ·split
   ·refine aj.bif ?_ (d5 T C s dst ty _)
    ·unfold Hh
     split
     ·split
      ·exact aj.no
      split
      ·exact aj.no
      split
      ·split
       ·exact aj.no
       ·exact aj.bif (aj.and (aj.k _)) aj.no
      ·exact aj.no
     ·exact aj.no
   ·exact d5 T C s dst ty _
  ·exact d5 T C s dst ty _
 ·split
  ·unfold uP
   split
   ·exact aj.no
   split
   ·exact aj.no
   split
   ·exact aj.no
   exact aj.bif (jw _ _ fun l=>jw _ _ fun h=>aj.and (aj.and (aj.k _))) aj.no
  ·exact d5 T C s dst ty _
 ·split
  ·unfold BL
   split
   ·exact aj.no
   split
   ·exact aj.no
   refine aj.bif (aj.ex fun r=>?_) aj.no
   split
   ·simp only [AV.go_eq]; exact aj.k _
   ·exact aj.no
  ·exact Ao T s _ _ _ _ _
  ·exact d5 T C s dst ty _
 ·split
  ·unfold mK
   split
   ·exact aj.no
   refine aj.bif ?_ aj.no
   split
   ·exact aj.no
   split
   ·exact aj.no
   exact aj.bif aj.no (aj.k _)
  ·exact d5 T C s dst ty _
 ·exact d5 T C s dst ty _
theorem CU (T:Tab) (C:FuncId→List AV→AV→Prop) (E:zT) (guards:List Nat) (s:St) (o:Oper):aj (uS T C E guards s o):=by
 unfold uS
 refine aj.bif ?_ (CT T C s o.dst o.type o.op)
 unfold uf
 simp only [AV.go_eq,o4]
 split
 ·split
  ·split
   ·exact aj.ex' fun N=>aj.ex' fun I=>aj.ex' fun L=>aj.ex' fun r=>aj.ex' fun L'=>aj.and (aj.k _)
   ·exact aj.ex' fun N=>aj.ex' fun I=>aj.ex' fun L=>aj.ex' fun r=>aj.ex' fun L'=>aj.and (aj.k _)
   ·exact aj.no
  ·exact aj.no
 ·exact aj.no
theorem eN {T:Tab} {C:FuncId→List AV→AV→Prop} {s s':St} {dst:Option Nat} {ty:TypeId} {op:Op} {K:ff→Prop} (hA:zU (ev s) (ev s') s.b s'.b op.operands.toList) (h:opR T C s dst ty op K):opR T C s' dst ty op K:=by
 unfold opR at h
 split at h
 ·unfold opR; exact h
 ·rename_i t x y
  have h1:=hA x (by simp [Op.operands])
  have h2:=(hA y (by simp [Op.operands])).1
  unfold opR
  simp only [h1.1,h2]
  split at h
  ·rename_i i d off cs hi hx hy
   simp only [h1.2 d off hx]
   exact h
  ·exact h.elim
 ·rename_i args ts
  have h1:∀ x∈args.toList,ev s' x=ev s x:=fun x hx=>(hA x (by simp [Op.operands,Call.operands]; simpa using hx)).1
  unfold opR
  simp only
  generalize args.toList=l at h1 h ⊢
  generalize ts.toList=tl at h ⊢
  rcases l with _ | ⟨x,_ | ⟨y,_ | ⟨z,l⟩⟩⟩ <;> rcases tl with _ | ⟨t,_ | ⟨t',_ | ⟨t'',tl⟩⟩⟩ <;> cases dst <;> first | exact h | skip
  have hx:=h1 x (by simp)
  have hy:=h1 y (by simp)
  simp only [hx,hy] at h ⊢
  exact h
 ·rename_i h1 h2 h3
  unfold opR
  split
  ·exact absurd rfl (h1 _)
  ·exact absurd rfl (h2 _ _ _)
  ·exact absurd rfl (h3 _ _)
  ·exact CR T C hA h
theorem pE {s s':St} {k:Nat} (h:get s'.t (xk k)=get s.t (xk k)):qY s' k=qY s k:=by unfold qY; rw [h]
theorem qD {T:Tab} {s s':St} {dst:Option Nat} {t:TypeId} {b:Nat} {kv xv:AV} {K:Nat→AV→Prop} (hX:∀ k n ys,get s.t (xk k)=some (.me .ents k n ys)→get s'.t (xk k)=get s.t (xk k)) (h:qE T s dst t b kv xv K):qE T s' dst t b kv xv K:=by
 unfold qE at h ⊢
 split at h
 ·split at h
  ·split at h
   ·generalize Nat.beq _ 9=bb at h ⊢
    cases bb with
    | false=>exact h.elim
    | true=>
     simp only [cond_true] at h ⊢
     split at h
     ·obtain ⟨k,l,key,⟨g1,g2⟩,hK⟩:=h
      exact ⟨k,l,key,⟨(hX k _ _ g1).trans g1,g2⟩,hK⟩
     ·exact h.elim
   ·exact h.elim
  ·exact h.elim
 ·exact h.elim
theorem wO {T:Tab} {s s':St} {t:TypeId} {b:Nat} {kv:AV} {ok:Bool} {K:AV→Prop} (hX:∀ k n ys,get s.t (xk k)=some (.me .ents k n ys)→get s'.t (xk k)=get s.t (xk k)) (h:iU T s t b kv ok K):iU T s' t b kv ok K:=by
 unfold iU at h ⊢
 split at h
 ·split at h
  ·split at h
   ·generalize (Nat.beq _ 9&&_)=bb at h ⊢
    cases bb with
    | false=>exact h.elim
    | true=>
     simp only [cond_true] at h ⊢
     split at h
     ·obtain ⟨k,l,key,g,⟨g1,g2⟩,hK⟩:=h
      exact ⟨k,l,key,g,⟨(hX k _ _ g1).trans g1,g2⟩,hK⟩
     ·exact h.elim
   ·exact h.elim
  ·exact h.elim
 ·exact h.elim
theorem mq {s s':St}:∀ {N:List Nat},(∀ k∈N,get s'.t (xk k)=get s.t (xk k))→dE s' N=dE s N
 | [],_=>rfl
 | k::r,h=>by simp only [dE]; rw [h k List.mem_cons_self,mq fun j hj=>h j (List.mem_cons_of_mem _ hj)]
theorem fJ {s s':St} {k:Nat} (h:get s'.t (xk k)=get s.t (xk k)):el s' k=el s k:=by unfold el; rw [h]
theorem Aq {T:Tab} {C:FuncId→List AV→AV→Prop} {s s':St} {dst:Option Nat} {ty:TypeId} {op:Op} {K:ff→Prop} (hA:zU (ev s) (ev s') s.b s'.b op.operands.toList) (hX:Bo s s' (qi op)) (hP:Bp s s' (um op))
  (h:jI T C s dst ty op K):jI T C s' dst ty op K:=by
 unfold jI at h
 split at h
 ·rename_i t x n
  have h1:=(hA x (by simp [Op.operands])).1
  have h2:=(hA n (by simp [Op.operands])).1
  unfold jI
  simp only [h1,h2]
  split at h
  ·rename_i k len zs q i hx hn
   unfold jF at h ⊢
   rw [fJ ((hX x (by simp [qi,Op.operands])).1 _ _ _ _ hx)]
   exact h
  ·exact eN hA h
 ·rename_i t y x
  have h1:=(hA y (by simp [Op.operands])).1
  have h2:=(hA x (by simp [Op.operands])).1
  unfold jI
  simp only [h1,h2]
  split at h
  ·rename_i sz j k i zs hy
   unfold uO at h ⊢
   rw [fJ ((hX y (by simp [qi,Op.operands])).1 _ _ _ _ hy)]
   exact h
  ·rename_i k b off cs hy
   unfold mN at h ⊢
   rw [pE (hP y (by simp [um]) _ _ _ _ hy)]
   exact h
  ·exact eN hA h
 ·rename_i args ts
  have hc:=@eN T C s s' dst ty _ K hA
  have h1:∀ x∈args.toList,ev s' x=ev s x:=fun x hx=>(hA x (by simp [Op.operands,Call.operands]; simpa using hx)).1
  unfold jI
  simp only
  split at h
  ·rename_i x t ha ht
   have hx:=h1 x (by rw [ha]; exact List.mem_cons_self)
   simp only [hx]
   split at h
   ·exact h
   ·exact hc h
  ·exact hc h
 ·rename_i t m k x
  have h1:=(hA m (by simp [Op.operands])).1
  have h2:=(hA k (by simp [Op.operands])).1
  have h3:=(hA x (by simp [Op.operands])).1
  unfold jI
  simp only [h1,h2,h3]
  split at h
  ·rename_i b hm
   exact qD ((hX m (by simp [qi,Op.operands])).2 b hm) h
  ·exact h.elim
 ·rename_i t m k x
  have h1:=(hA m (by simp [Op.operands])).1
  have h2:=(hA k (by simp [Op.operands])).1
  have h3:=(hA x (by simp [Op.operands])).1
  unfold jI
  simp only [h1,h2,h3]
  split at h
  ·rename_i b hm
   exact qD ((hX m (by simp [qi,Op.operands])).2 b hm) h
  ·exact h.elim
 ·rename_i t m k ok
  have h1:=(hA m (by simp [Op.operands])).1
  have h2:=(hA k (by simp [Op.operands])).1
  unfold jI
  simp only [h1,h2]
  split at h
  ·rename_i b hm
   exact wO ((hX m (by simp [qi,Op.operands])).2 b hm) h
  ·exact h.elim
 ·rename_i args ts
  have hc:=@eN T C s s' dst ty _ K hA
  have h1:∀ x∈args.toList,ev s' x=ev s x:=fun x hx=>(hA x (by simp [Op.operands,Call.operands]; simpa using hx)).1
  have h2:∀ x∈args.toList,∀ g k n ys,ev s x = .me g k n ys→get s'.t (xk k)=get s.t (xk k):=fun x hx=>(hX x (by simp [qi,Op.operands,Call.operands]; simpa using hx)).1
  unfold jI
  simp only
  split at h
  ·rename_i x y ha
   have hx:=h1 x (by rw [ha]; exact List.mem_cons_self)
   have hy:=h1 y (by rw [ha]; simp)
   simp only [hx,hy]
   split at h
   ·rename_i sz off k n zs he
    cases hoff:Nat.beq off 0 with
    | false=>rw [hoff] at h; exact hc h
    | true=>
    rw [hoff,cond_true] at h
    rw [cond_true]
    unfold Hh at h ⊢
    rw [fJ (h2 x (by rw [ha]; exact List.mem_cons_self) _ _ _ _ he)]
    exact h
   ·exact hc h
  ·exact hc h
 ·rename_i t x lo hi mx
  have h1:=(hA x (by simp [Op.operands])).1
  have hlo:lo.map (ev s')=lo.map (ev s):=by cases lo with | none=>rfl | some y=>exact congrArg some (hA y (by simp [Op.operands])).1
  have hhi:hi.map (ev s')=hi.map (ev s):=by cases hi with | none=>rfl | some y=>exact congrArg some (hA y (by simp [Op.operands])).1
  have hmx:mx.map (ev s')=mx.map (ev s):=by cases mx with | none=>rfl | some y=>exact congrArg some (hA y (by simp [Op.operands])).1
  unfold jI
  simp only [h1,hlo,hhi,hmx]
  split at h
  ·rename_i k n zs hx
   unfold uP at h ⊢
   rw [fJ ((hX x (by simp [qi,Op.operands])).1 _ _ _ _ hx)]
   exact h
  ·exact eN hA h
 ·rename_i t x
  have h1:=(hA x (by simp [Op.operands])).1
  unfold jI
  simp only [h1]
  split at h
  ·rename_i sz j k i zs hx
   unfold BL at h ⊢
   rw [fJ ((hX x (by simp [qi,Op.operands])).1 _ _ _ _ hx)]
   exact h
  ·rename_i k b off cs hx
   unfold kK at h ⊢
   rw [pE (hP x (by simp [um]) _ _ _ _ hx)]
   exact h
  ·exact eN hA h
 ·rename_i t x f
  have h1:=(hA x (by simp [Op.operands])).1
  unfold jI
  simp only [h1]
  split at h
  ·exact h
  ·exact eN hA h
 ·rename_i h1 h2 h3 h4 h9 h10 h5 h6 h7 h8
  have hc:=eN hA h
  unfold jI
  split
  ·exact absurd rfl (h1 _ _ _)
  ·exact absurd rfl (h2 _ _ _)
  ·exact absurd rfl (h3 _ _)
  ·exact absurd rfl (h4 _ _ _ _)
  ·exact absurd rfl (h9 _ _ _ _)
  ·exact absurd rfl (h10 _ _ _ _)
  ·exact absurd rfl (h5 _ _)
  ·exact absurd rfl (h6 _ _ _ _ _)
  ·exact absurd rfl (h7 _ _)
  ·exact absurd rfl (h8 _ _ _)
  ·exact hc
end Go.AI
namespace Go.AI
open Go
open Go.RowKit (Below)
section
variable {Γ:aH} (hΓ:Γ.OK) {T:Tab} (hT:T.OK Γ.P) {s:St} {o:Oper} {a:Act} {w:World} {next:Act→World→Prop} {Q:Exit→Act→World→Prop}
theorem dy {v:AV} {K:St→Prop} (h:K (cg s o.dst (.val v))):ef s o.dst v K:=by
 obtain ⟨t,b⟩:=s
 unfold ef
 unfold cg at h
 cases hd:o.dst with
 | none=>rw [hd] at h; exact h
 | some d=>rw [hd] at h; exact h
include hΓ hT in
theorem CS {K:ff→Prop} (hI:Inv Γ s a w) (hd:∀ d,o.dst=some d→d<Γ.nt) (h:opR T (ae Γ.P) s o.dst o.type o.op K)
  (hn:bJ Γ a o.dst w (fun s'=>∃ r,K r∧s'=cg s o.dst r) next):o.wpIn Γ.F Γ.n Γ.P a w next Q:=by
 generalize hop:o.op=op at h
 unfold opR at h
 split at h
 ·rename_i t
  split at h
  ·rename_i d i hdst hi
   split at h
   ·rename_i cs hcs
    cases hb:(Nat.beq cs.length i.size&&cs.all (fun c=>c.isCell)) with
    | false=>rw [hb] at h; exact h.elim
    | true=>
     rw [hb,cond_true] at h
     simp only [Bool.and_eq_true,List.all_eq_true] at hb
     exact EC hΓ hT hop hI hd hdst hi hcs hb.2 (fun s'=>∃ r,K r∧s'=cg s (some d) r) ⟨_,h,rfl⟩ (hdst ▸ hn)
   ·exact h.elim
  ·exact h.elim
 ·rename_i t x y
  refine BH hΓ hT hop hI ?_ hn
  unfold opS
  simp only
  split at h
  ·rename_i i d off cs hdst hi hx hy
   rw [hdst]
   simp only [hi,hx,hy]
   cases hc:(Nat.beq cs.length i.size&&cs.all (fun c=>c.isCell)) with
   | false=>rw [hc] at h; exact h.elim
   | true=>
    rw [hc] at h
    simp only [cond_true] at h ⊢
    split at h
    ·rename_i c0 hg
     unfold mC
     simp only [hg]
     cases hc2:(Nat.ble (off+cs.length) c0.length&&Nat.blt 0 cs.length) with
     | false=>rw [hc2] at h; exact h.elim
     | true=>rw [hc2] at h; exact ⟨_,h,rfl⟩
    ·exact h.elim
  ·exact h.elim
 ·rename_i args ts
  refine xg hΓ hT hop hI hd ?_ hn
  unfold opS
  simp only
  generalize args.toList=l at h ⊢
  generalize ts.toList=tl at h ⊢
  generalize o.dst=dst at h ⊢
  rcases l with _ | ⟨x,_ | ⟨y,_ | ⟨z,l⟩⟩⟩ <;> rcases tl with _ | ⟨t,_ | ⟨t',_ | ⟨t'',tl⟩⟩⟩ <;> cases dst <;> first | exact h.elim | skip
  simp only at h ⊢
  split at h
  ·rename_i i hi
   simp only [hi]
   split at h
   ·rename_i j hj
    simp only [hj]
    split at h
    ·rename_i ow sz xs ow' sz' ys hx hy
     simp only [hx,hy]
     cases hc:(Nat.beq i.kind 3&&Nat.beq t t'&&qC j&&Nat.blt 0 j.size&&xx ow j.size sz) with
     | false=>rw [hc] at h; exact h.elim
     | true=>
      rw [hc] at h
      simp only [cond_true] at h ⊢
      refine aj.mono (aj.szOK (aj.k (α:=Unit) ())) (K:=fun _=>_) (K':=fun _=>_) h fun _ h=>?_
      refine aj.mono (aj.szOK (aj.k (α:=Unit) ())) (K:=fun _=>_) (K':=fun _=>_) h fun _ h=>?_
      refine ⟨h.1,h.2.1,?_⟩
      replace h:=h.2.2
      cases ow with
      | no=>exact h.elim
      | full=>
       cases ha:AZ xs ys with
       | true=>rw [ha] at h; exact ⟨_,h,rfl⟩
       | false=>
        rw [ha,cond_false] at h
        cases hy0:rm ys with
        | true=>rw [hy0] at h; exact h.elim
        | false=>rw [hy0] at h; exact ⟨_,h,rfl⟩
      | id k=>exact ⟨_,h,rfl⟩
    ·exact h.elim
   ·exact h.elim
  ·exact h.elim
 ·subst hop
  obtain ⟨v,h1,h2⟩:=xE T (ae Γ.P) s.b (ev s) o.type o.op _ h
  rw [AV.go_eq] at h1
  refine BG hΓ hT hI hd (K:=fun s'=>∃ r,K r∧s'=cg s o.dst r) (h2 _ ?_) hn
  rw [AV.go_eq]
  exact dy ⟨_,h1,rfl⟩
include hΓ hT in
theorem Ap {K:ff→Prop} (hI:Inv Γ s a w) (hd:∀ d,o.dst=some d→d<Γ.nt) (harr:∀ d g k n xs,ep g=true→get s.t d=some (.me g k n xs)→d=xk k) (h:jI T (ae Γ.P) s o.dst o.type o.op K)
  (hn:bJ Γ a o.dst w (fun s'=>∃ r,K r∧s'=cg s o.dst r) next):o.wpIn Γ.F Γ.n Γ.P a w next Q:=by
 generalize hop:o.op=op at h
 have back:opR T (ae Γ.P) s o.dst o.type op K→o.wpIn Γ.F Γ.n Γ.P a w next Q:=fun h=>CS hΓ hT hI hd (by rw [hop]; exact h) hn
 unfold jI at h
 split at h
 ·split at h
  ·rename_i hx hy
   refine pp hΓ hT hop hI hd hx hy ?_ hn
   unfold jF at h
   unfold jt
   split at h
   ·exact h.elim
   rename_i ti hti
   simp only [hti]
   split at h
   ·exact h.elim
   rename_i j hj
   simp only [hj]
   split at h
   ·exact h.elim
   rename_i sz xs hc
   simp only [hc]
   cases hb:(Nat.beq ti.kind 3&&Nat.beq j.size sz) with
   | false=>rw [hb] at h; exact h.elim
   | true=>rw [hb] at h; exact ⟨h.1,h.2.1,dy ⟨_,h.2.2,rfl⟩⟩
  ·exact back h
 ·split at h
  ·rename_i hy
   refine wN hΓ hT hop hI hy (fun g d n xs hg=>harr d g _ n xs hg) ?_ hn
   unfold uO at h
   unfold qr
   split at h
   ·rename_i ti cs hdst hti hcs
    simp only [hdst,hti,hcs]
    split at h
    ·exact h.elim
    rename_i sz' xs hc
    simp only [hc]
    generalize (Nat.beq sz' _&&(Nat.beq cs.length ti.size&&(cs.all (fun c=>c.isCell)&&(Nat.ble _ _&&Nat.blt 0 cs.length))))=bb at h ⊢
    cases bb with
    | false=>exact h.elim
    | true=>
     obtain ⟨r,h1,h2⟩:=h
     exact ⟨r,h1,_,h2,rfl⟩
   ·exact h.elim
  ·rename_i hy
   exact BN hΓ hT hop hI hy h (fun k v _ g d n xs hg hgt=>harr d g _ n xs hg hgt) (fun k v hK s2 a2 w2 e1 e2 e3 e4=>hn s2 a2 w2 ⟨_,hK,e1⟩ e2 e3 e4)
  ·exact back h
 ·split at h
  ·rename_i ha hts
   split at h
   ·rename_i hx
    unfold Ir at h
    split at h
    ·exact h.elim
    rename_i i hi
    cases hb:Nat.beq i.kind 3 with
    | false=>rw [hb] at h; exact h.elim
    | true=>rw [hb] at h; exact HP hΓ hT hop ha hts hI hd hx hi (Nat.eq_of_beq_eq_true hb) (dy ⟨_,h,rfl⟩) hn
   ·exact back h
  ·exact back h
 ·split at h
  ·rename_i b hx
   exact ii hΓ hT (.inl hop) hI hx h (fun k v hK _ s' a' w' h1 h2 h3 h4=>hn s' a' w' ⟨_,hK,h1⟩ h2 h3 h4) (fun k v hK d n xs=>harr d _ _ n xs rfl)
  ·exact h.elim
 ·split at h
  ·rename_i b hx
   exact ii hΓ hT (.inr hop) hI hx h (fun k v hK _ s' a' w' h1 h2 h3 h4=>hn s' a' w' ⟨_,hK,h1⟩ h2 h3 h4) (fun k v hK d n xs=>harr d _ _ n xs rfl)
  ·exact h.elim
 ·split at h
  ·rename_i b hx
   exact Ef hΓ hT hop hI hd hx (qF h fun v hv=>by rw [AV.go_eq] at hv; exact dy ⟨_,hv,rfl⟩) hn
  ·exact h.elim
 ·split at h
  ·rename_i ha
   split at h
   ·rename_i sz off k n zs hx
    cases hoff:Nat.beq off 0 with
    | false=>rw [hoff] at h; exact back h
    | true=>
    rw [hoff,cond_true] at h
    rw [Nat.eq_of_beq_eq_true hoff] at hx
    refine HQ hΓ hT hop ha hI hd hx ?_ hn
    unfold Hh at h
    unfold G1
    split at h
    ·rename_i d t t' hdst hts
     simp only [hdst,hts]
     split at h
     ·exact h.elim
     rename_i i hi
     simp only [hi]
     split at h
     ·exact h.elim
     rename_i j hj
     simp only [hj]
     split at h
     ·rename_i sz' l k' m ys hy
      simp only [hy]
      split at h
      ·exact h.elim
      rename_i sz2 xs hc
      simp only [hc]
      generalize (Nat.beq i.kind 3&&(Nat.beq t t'&&(Nat.beq sz sz2&&(Nat.beq sz' sz2&&(Nat.beq k k'&&(Nat.beq j.size sz2&&Nat.blt 0 sz2))))))=bb at h ⊢
      cases bb with
      | false=>exact h.elim
      | true=>exact ⟨h.1,_,h.2,rfl⟩
     ·exact h.elim
    ·exact h.elim
   ·exact back h
  ·exact back h
 ·split at h
  ·rename_i k n zs hx
   refine Bs hΓ hT hop hI hd hx ?_ hn
   unfold uP at h
   unfold uF
   split at h
   ·exact h.elim
   rename_i i hi
   simp only [hi]
   split at h
   ·exact h.elim
   rename_i j hj
   simp only [hj]
   split at h
   ·exact h.elim
   rename_i sz xs hc
   simp only [hc]
   generalize (Nat.beq i.kind 3&&(Nat.beq j.size sz&&_))=bb at h ⊢
   cases bb with
   | false=>exact h.elim
   | true=>
    simp only [cond_true] at h ⊢
    have bm:∀ (o:Option AV) (d:Nat) (P Q:Nat→Prop),(∀ n,P n→Q n)→eI o d P→eI o d Q:=by
     intro o d P Q hpq h
     unfold eI at h ⊢
     split at h
     ·exact hpq _ h
     ·exact ⟨h.1,hpq _ h.2⟩
     ·exact h.elim
    refine bm _ _ _ _ (fun l=>?_) h
    refine bm _ _ _ _ (fun r=>?_)
    rintro ⟨g1,g2,g3⟩
    exact ⟨g1,g2,dy ⟨_,g3,rfl⟩⟩
  ·exact back h
 ·split at h
  ·rename_i sz j k i zs hx
   refine Eg hΓ hT hop hI hd hx ?_ hn
   unfold BL at h
   unfold Bt
   split at h
   ·exact h.elim
   rename_i ti hti
   simp only [hti]
   split at h
   ·exact h.elim
   rename_i sz' xs hc
   simp only [hc]
   cases hb:Nat.beq sz' sz with
   | false=>rw [hb] at h; exact h.elim
   | true=>
    rw [hb] at h
    obtain ⟨r,h1,h2⟩:=h
    refine ⟨r,h1,?_⟩
    cases hv:dz ti (r.drop j) with
    | none=>rw [hv] at h2; exact h2.elim
    | some v=>
     rw [hv] at h2
     have h3:K (.val v):=by
      have h2:v.go (fun v=>K (.val v)):=h2
      rwa [AV.go_eq] at h2
     show v.go fun v=>ef s o.dst v fun s'=>∃ r,K r∧s'=cg s o.dst r
     rw [AV.go_eq]
     exact dy ⟨_,h3,rfl⟩
  ·rename_i hx
   exact EP hΓ hT hop hI hd hx (rf h fun v hv=>by rw [AV.go_eq] at hv; exact dy ⟨_,hv,rfl⟩) hn
  ·exact back h
 ·split at h
  ·rename_i sz j k i zs hx
   refine pq hΓ hT hop hI hd hx ?_ hn
   unfold mK at h
   unfold ju
   split at h
   ·exact h.elim
   rename_i ti hti
   simp only [hti]
   cases hb:Nat.beq ti.kind 1 with
   | false=>rw [hb] at h; exact h.elim
   | true=>
    rw [hb] at h
    simp only [cond_true] at h ⊢
    split at h
    ·exact h.elim
    rename_i off ft hf
    simp only [hf]
    split at h
    ·exact h.elim
    rename_i u hu
    simp only [hu]
    cases hb2:Nat.beq u.size 0 with
    | true=>rw [hb2] at h; exact h.elim
    | false=>
     rw [hb2] at h
     show ef s o.dst _ fun s'=>∃ r,K r∧s'=cg s o.dst r
     exact dy ⟨_,h,rfl⟩
  ·exact back h
 ·exact back h
include hΓ hT in
theorem Ar {guards:List Nat} {K:ff→Prop} (hI:Inv Γ s a w) (hd:∀ d,o.dst=some d→d<Γ.nt) (harr:∀ d g k n xs,ep g=true→get s.t d=some (.me g k n xs)→d=xk k) (h:uS T (ae Γ.P) (bD Γ.P) guards s o K)
  (hn:bJ Γ a o.dst w (fun s'=>∃ r,K r∧s'=cg s o.dst r) next):o.wpIn Γ.F Γ.n Γ.P a w next Q:=by
 unfold uS at h
 cases hem:rX guards o with
 | false=>rw [hem,cond_false] at h; exact Ap hΓ hT hI hd harr h hn
 | true=>
  rw [hem,cond_true] at h
  simp only [AV.go_eq,o4] at h
  obtain ⟨d,hdst⟩:=rW hem
  refine B9 hΓ hI hdst (hd d hdst) h ?_
  rintro s' a' w' ⟨N,I,L,r,L',hK,rfl⟩ hI' hN hP
  exact hn _ a' w' ⟨_,hK,by rw [hdst]; rfl⟩ hI' hN hP
end
end Go.AI
namespace Go.AI
open Go
structure Eff where
 w:List (Nat×AV)
 b:List (Nat×List AV)
def AK (k:Nat):AV→Bool
 | .sl (.id j) _ _=>Nat.beq j k
 | _=>false
def f7 (k:Nat):AV→Bool
 | .sl (.id j) _ _=>Nat.beq j k
 | .me .box _ _ xs=>xs.any fun r=>r.any (AK k)
 | _=>false
theorem AJ {k:Nat} {x:AV} (h:AK k x=false):x.demO k=x:=by
 cases x with
 | sl o sz xs=>cases o <;> first | rfl | (simp only [AK] at h; simp only [AV.demO,h,cond_false])
 | _=>rfl
def mn (k:Nat):AV→Bool
 | .agg cs=>cs.any (f7 k)
 | x=>f7 k x
def xX (d:Nat):AV→Bool
 | .loc d' _=>Nat.beq d d'
 | _=>false
theorem jN {k:Nat} {x:AV} (h:f7 k x=false):x.dem1 k=x:=by
 cases x with
 | sl o sz xs=>cases o <;> first | rfl | (simp only [f7] at h; simp only [AV.dem1,h,cond_false])
 | me g j n xs=>
  cases g with
  | box=>
   simp only [f7,List.any_eq_false] at h
   simp only [AV.dem1]
   congr 1
   conv=>rhs; rw [← List.map_id xs]
   refine List.map_congr_left fun r hr=>?_
   conv=>rhs; rw [id,← List.map_id r]
   exact List.map_congr_left fun y hy=>AJ (by have:=h r hr; simp only [Bool.not_eq_true,List.any_eq_false] at this; exact this y hy)
  | _=>rfl
 | _=>rfl
theorem ua {k:Nat} {x:AV} (h:mn k x=false):x.dem k=x:=by
 cases x with
 | agg cs=>
  simp only [mn,List.any_eq_false] at h
  simp only [AV.dem]
  congr 1
  conv=>rhs; rw [← List.map_id cs]
  exact List.map_congr_left fun y hy=>jN (by simpa using h y hy)
 | _=>exact jN (k:=k) (by unfold mn at h; exact h)
theorem xW {d:Nat} {x:AV} (h:xX d x=false):x.unloc d=x:=by
 cases x with
 | loc d' off=>simp only [xX] at h; simp only [AV.unloc,h,cond_false]
 | _=>rfl
def vh (k:Nat):List Nat→List (Nat×AV)→List (Nat×AV)
 | _,[]=>[]
 | seen,(x,v)::r=>bif bX seen x then vh k seen r else bif mn k v then (x,v.dem k)::vh k (x::seen) r else vh k (x::seen) r
theorem rQ (k:Nat):∀ (t:List (Nat×AV)) (seen:List Nat) (x:Nat) (v:AV),get (vh k seen t) x=some v→x ∉ seen∧∃ u,get t x=some u∧v=u.dem k
 | [],seen,x,v,h=>by simp [vh,get] at h
 |(y,u)::r,seen,x,v,h=>by
  simp only [vh] at h
  cases hm:bX seen y with
  | true=>
   rw [hm,cond_true] at h
   obtain ⟨h1,u',h2,h3⟩:=rQ k r seen x v h
   refine ⟨h1,u',?_,h3⟩
   rw [ak,if_neg]
   ·exact h2
   ·rintro rfl; exact h1 (ba.1 hm)
  | false=>
   rw [hm,cond_false] at h
   have hns:y ∉ seen:=fun hc=>by rw [ba.2 hc] at hm; cases hm
   have key:∀ g:get (vh k (y::seen) r) x=some v,x ∉ seen∧∃ u',get ((y,u)::r) x=some u'∧v=u'.dem k:=fun g=>by
    obtain ⟨h1,u',h2,h3⟩:=rQ k r _ x v g
    simp only [List.mem_cons,not_or] at h1
    refine ⟨h1.2,u',?_,h3⟩
    rw [ak,if_neg h1.1]; exact h2
   cases hh:mn k u with
   | true=>
    rw [hh,cond_true,ak] at h
    split at h
    ·rename_i hx
     subst hx
     simp only [Option.some.injEq] at h
     exact ⟨hns,u,by rw [ak,if_pos rfl],h.symm⟩
    ·exact key h
   | false=>
    rw [hh,cond_false] at h
    exact key h
def o2 (k:Nat):AV→Bool
 | .me _ k' _ _=>Nat.beq k k'
 | _=>false
theorem t8 {k:Nat} {x:AV} (h:o2 k x=false):x.unme k=x:=by
 cases x with
 | me g k' n xs=>simp only [o2] at h; simp only [AV.unme,h,cond_false]
 | _=>rfl
theorem C9 {k:Nat} {x:AV} (h:o2 k x=true):x.unme k = .junk:=by
 cases x with
 | me g k' n xs=>simp only [o2] at h; simp only [AV.unme,h,cond_true]
 | _=>cases h
def vg (k:Nat):List Nat→List (Nat×AV)→List (Nat×AV)
 | _,[]=>[]
 | seen,(x,v)::r=>bif bX seen x then vg k seen r else bif o2 k v then (x,.junk)::vg k (x::seen) r else vg k (x::seen) r
theorem rP (k:Nat):∀ (t:List (Nat×AV)) (seen:List Nat) (x:Nat) (v:AV),get (vg k seen t) x=some v→x ∉ seen∧∃ u,get t x=some u∧o2 k u=true∧v = .junk
 | [],seen,x,v,h=>by simp [vg,get] at h
 |(y,u)::r,seen,x,v,h=>by
  simp only [vg] at h
  cases hm:bX seen y with
  | true=>
   rw [hm,cond_true] at h
   obtain ⟨h1,u',h2,h3⟩:=rP k r seen x v h
   refine ⟨h1,u',?_,h3⟩
   rw [ak,if_neg]
   ·exact h2
   ·rintro rfl; exact h1 (ba.1 hm)
  | false=>
   rw [hm,cond_false] at h
   have hns:y ∉ seen:=fun hc=>by rw [ba.2 hc] at hm; cases hm
   have key:∀ g:get (vg k (y::seen) r) x=some v,x ∉ seen∧∃ u',get ((y,u)::r) x=some u'∧o2 k u'=true∧v = .junk:=fun g=>by
    obtain ⟨h1,u',h2,h3⟩:=rP k r _ x v g
    simp only [List.mem_cons,not_or] at h1
    refine ⟨h1.2,u',?_,h3⟩
    rw [ak,if_neg h1.1]; exact h2
   cases hh:o2 k u with
   | true=>
    rw [hh,cond_true,ak] at h
    split at h
    ·rename_i hx
     subst hx
     simp only [Option.some.injEq] at h
     exact ⟨hns,u,by rw [ak,if_pos rfl],hh,h.symm⟩
    ·exact key h
   | false=>
    rw [hh,cond_false] at h
    exact key h
def wS (N I:List Nat) (x:AV):Bool:=I.any (fun k=>mn k x)||N.any (fun k=>o2 k x)
theorem rY {x:AV}:∀ {I:List Nat},(∀ k∈I,mn k x=false)→x.demMany I=x
 | [],_=>rfl
 | k::r,h=>by rw [AV.demMany,ua (h k List.mem_cons_self)]; exact rY fun j hj=>h j (List.mem_cons_of_mem _ hj)
theorem pO {x:AV}:∀ {I:List Nat},(∀ k∈I,f7 k x=false)→x.demMany1 I=x
 | [],_=>rfl
 | k::r,h=>by rw [AV.demMany1,jN (h k List.mem_cons_self)]; exact pO fun j hj=>h j (List.mem_cons_of_mem _ hj)
theorem pt {x:AV}:∀ {N:List Nat},(∀ k∈N,o2 k x=false)→x.unmeMany N=x
 | [],_=>rfl
 | k::r,h=>by
  rw [AV.unmeMany,t8 (h k List.mem_cons_self)]
  have e:(bif Nat.ble 7000000 k&&x.isRefX then x else x)=x:=by cases (Nat.ble 7000000 k&&x.isRefX) <;> rfl
  rw [e]
  exact pt fun j hj=>h j (List.mem_cons_of_mem _ hj)
theorem Em {N I:List Nat} {x:AV} (h:wS N I x=false):(x.demMany I).unmeMany N=x:=by
 simp only [wS,Bool.or_eq_false_iff,List.any_eq_false] at h
 rw [rY fun k hk=>by simpa using h.1 k hk]
 exact pt fun k hk=>by simpa using h.2 k hk
def bP (t:List (Nat×AV)) (dst:Option Nat):ff→Eff
 | .val v=>match dst with | some d=>⟨[(d,v)],[]⟩ | none=>⟨[],[]⟩
 | .alloc cs=>match dst with | some d=>⟨[(d,.loc d 0)],[(d,cs)]⟩ | none=>⟨[],[]⟩
 | .store d cs=>⟨[],[(d,cs)]⟩
 | .app k v=>match dst with | some d=>⟨(d,v)::vh k [d] t,[]⟩ | none=>⟨[],[]⟩
 | .xst k v=>⟨[(xk k,v)],[]⟩
 | .cut k n v=>match dst with | some d=>⟨(d,.me .sl k n [])::(xk k,v)::vg k [d,xk k] t,[]⟩ | none=>⟨[],[]⟩
 | .lent _ _ v es _=>match dst with | some d=>⟨(d,v)::es,[]⟩ | none=>⟨[],[]⟩
def tF {α:Type} (E:Nat→List (Nat×α)) (b:List (Nat×α)) (M:Nat→Bool):Nat→List (Nat×α)
 | 0=>b
 | j+1=>bif M j then E j++tF E b M j else tF E b M j
section
variable {α:Type} {E:Nat→List (Nat×α)} {b:List (Nat×α)}
theorem lx (M:Nat→Bool) (j:Nat) (x:Nat):get (tF E b M (j+1)) x=if M j=true then (get (E j) x).or (get (tF E b M j) x) else get (tF E b M j) x:=by
 simp only [tF]
 cases M j with
 | true=>simp [bU]
 | false=>simp
theorem dC {M M':Nat→Bool} {x:Nat}:∀ (n:Nat),(∀ j,j<n→get (E j) x≠none→M j=M' j)→get (tF E b M n) x=get (tF E b M' n) x
 | 0,_=>rfl
 | n+1,h=>by
  rw [lx,lx,dC n fun j hj=>h j (by omega)]
  cases hg:get (E n) x with
  | none=>simp
  | some v=>rw [h n (by omega) (by rw [hg]; simp)]
theorem HS {n i:Nat} (hi:i≤n) (x:Nat):get (tF E b (fun _=>true) i) x=get (tF E b (fun j=>decide (j<i)) n) x:=by
 induction n with
 | zero=>rw [show i=0 by omega]; rfl
 | succ n ih=>
  by_cases h:i=n+1
  ·subst h
   exact dC _ fun j hj _=>by simp [hj]
  ·rw [ih (by omega),lx,if_neg (by simp; omega)]
theorem mZ {M M':Nat→Bool} {x i:Nat} (hM:M i=false) (hM':∀ j,M' j=(M j||decide (j=i))):∀ (n:Nat),i<n→(∀ j,j<n→i<j→M j=true→get (E i) x≠none→get (E j) x=none) →
  get (tF E b M' n) x=(get (E i) x).or (get (tF E b M n) x)
 | 0,hi,_=>absurd hi (Nat.not_lt_zero _)
 | n+1,hi,h=>by
  rw [lx,lx]
  by_cases hn:n=i
  ·subst hn
   rw [if_pos (show M' n=true by rw [hM' n]; simp),if_neg (show ¬ M n=true by simp [hM])]
   rw [dC n fun j hj _=>show M' j=M j by rw [hM' j,decide_eq_false (show ¬ j=n by omega),Bool.or_false]]
  ·rw [show M' n=M n by rw [hM' n,decide_eq_false hn,Bool.or_false]]
   rw [mZ hM hM' n (by omega) fun j hj=>h j (by omega)]
   split
   ·rename_i hMn
    cases hg:get (E i) x with
    | none=>simp
    | some v=>rw [h n (by omega) (by omega) hMn (by rw [hg]; simp)]; rfl
   ·rfl
theorem gT {M:Nat→Bool} {x:Nat} {v:α}:∀ (n:Nat),get (tF E b M n) x=some v→get b x=some v∨∃ j,j<n∧M j=true∧get (E j) x=some v
 | 0,h => .inl h
 | n+1,h=>by
  rw [lx] at h
  split at h
  ·rename_i hM
   cases hg:get (E n) x with
   | some u=>rw [hg] at h; exact .inr ⟨n,by omega,hM,by rw [hg]; exact h⟩
   | none=>
    rw [hg] at h
    rcases gT n h with h | ⟨j,h1,h2⟩
    ·exact .inl h
    ·exact .inr ⟨j,by omega,h2⟩
  ·rcases gT n h with h | ⟨j,h1,h2⟩
   ·exact .inl h
   ·exact .inr ⟨j,by omega,h2⟩
theorem kp:∀ i:Nat,tF E b (fun _=>true) (i+1)=tF (fun j=>E (j+1)) (E 0++b) (fun _=>true) i
 | 0=>rfl
 | i+1=>by
  rw [tF,kp i]; rfl
end
def cnt (M:Nat→Bool):Nat→Nat
 | 0=>0
 | n+1=>(bif M n then 1 else 0)+cnt M n
theorem Fz (M:Nat→Bool):∀ n,cnt M n≤n
 | 0=>Nat.le_refl _
 | n+1=>by
  have:=Fz M n
  simp only [cnt]
  cases M n <;> simp <;> omega
theorem Ce {M:Nat→Bool}:∀ n,cnt M n=n→∀ i,i<n→M i=true
 | 0,_,i,hi=>absurd hi (Nat.not_lt_zero _)
 | n+1,h,i,hi=>by
  have hle:=Fz M n
  simp only [cnt] at h
  cases hM:M n with
  | false=>rw [hM] at h; simp at h; omega
  | true=>
   rw [hM] at h
   simp at h
   by_cases hn:i=n
   ·rw [hn]; exact hM
   ·exact Ce n (by omega) i (by omega)
theorem uh {M M':Nat→Bool}:∀ n,(∀ j,j<n→M j=M' j)→cnt M n=cnt M' n
 | 0,_=>rfl
 | n+1,h=>by simp only [cnt,h n (by omega),uh n fun j hj=>h j (by omega)]
theorem Cd {M M':Nat→Bool} {i:Nat} (hM:M i=false) (hM':∀ j,M' j=(M j||decide (j=i))):∀ n,i<n→cnt M' n=cnt M n+1
 | 0,h=>absurd h (Nat.not_lt_zero _)
 | n+1,h=>by
  simp only [cnt]
  by_cases hn:n=i
  ·subst hn
   rw [hM' n,hM,uh n fun j hj=>show M' j=M j by rw [hM' j,decide_eq_false (show ¬ j=n by omega),Bool.or_false]]
   simp; omega
  ·rw [Cd hM hM' n (by omega),show M' n=M n by rw [hM' n,decide_eq_false hn,Bool.or_false]]
   omega
end Go.AI
namespace Go.AI
open Go
def I1 (s:St) (e:Eff):St:=⟨e.w++s.t,e.b++s.b⟩
def HK {α:Type} (w t:List (Nat×α)) (K:List (Nat×α)→Prop):Prop:=match w with
 | []=>K t
 | p::r=>HK r t fun t=>K (p::t)
theorem Cm {α:Type}:∀ (w t:List (Nat×α)) (K:List (Nat×α)→Prop),HK w t K=K (w++t)
 | [],_,_=>rfl
 | _::r,t,K=>by rw [HK,Cm r t]; rfl
def Cn (w t:List (Nat×List AV)) (K:List (Nat×List AV)→Prop):Prop:=match w with
 | []=>K t
 |(d,cs)::r=>Cn r t fun t=>goL cs fun cs=>K ((d,cs)::t)
theorem yA:∀ (w t:List (Nat×List AV)) (K:List (Nat×List AV)→Prop),Cn w t K=K (w++t)
 | [],_,_=>rfl
 |(d,cs)::r,t,K=>by rw [Cn,yA r t,eY]; rfl
def Hi (s:St) (e:Eff) (K:St→Prop):Prop:=match s,e with
 | ⟨t,b⟩,⟨w,eb⟩=>HK w t fun t=>Cn eb b fun b=>K ⟨t,b⟩
theorem BM (s:St) (e:Eff) (K:St→Prop):Hi s e K=K (I1 s e):=by
 unfold Hi
 simp only [Cm,yA]
 rfl
def AM (guards:List Nat) (dst:Option Nat) (r:ff) (K:ff→Prop):Prop:=
 match r,dst with
 | .val (.bool v),some d=>bif bX guards d then (v=true→K (.val (.bool true)))∧(v=false→K (.val (.bool false))) else K (.val (.bool v))
 | r,_=>K r
theorem x9 {guards:List Nat} {dst:Option Nat} {r:ff} {K:ff→Prop} (h:AM guards dst r K):K r:=by
 unfold AM at h
 split at h
 ·rename_i v d
  cases hm:bX guards d with
  | false=>rw [hm] at h; exact h
  | true=>
   rw [hm] at h
   cases v with
   | true=>exact h.1 rfl
   | false=>exact h.2 rfl
 ·exact h
structure cn where
 o:Oper
 s:St
 r:ff
def cn.eff (st:cn):Eff:=bP st.s.t st.o.dst st.r
section
variable (T:Tab) (C:FuncId→List AV→AV→Prop) (E:zT)
def ED (all:List Oper) (guards:List Nat):List Oper→List cn→St→(List cn→St→Prop)→Prop
 | [],tr,s,K=>K tr s
 | o::rest,tr,s,K=>match j5 all s o with
  | 0=>uS T C E guards s o fun r=>AM guards o.dst r fun r=>Hi s (bP s.t o.dst r) fun s'=>ED all guards rest (⟨o,s,r⟩::tr) s' K
  | 1=>Hi s (bP s.t o.dst (.val .undef)) fun s'=>ED all guards rest (⟨o,s,.val .undef⟩::tr) s' K
  | _=>False
def okS (all:List Oper) (guards:List Nat) (s:St) (o:Oper) (r:ff):Prop:=(j5 all s o=0∧uS T C E guards s o fun r'=>r'=r)∨(j5 all s o=1∧r = .val .undef)
def uC (all:List Oper) (guards:List Nat):St→List Oper→List cn→St→Prop
 | s,[],[],s'=>s'=s
 | s,o::l,st::l2,s'=>st.o=o∧st.s=s∧okS T C E all guards s o st.r∧uC all guards (I1 s st.eff) l l2 s'
 | _,_,_,_=>False
theorem oK {all:List Oper} {guards:List Nat} {K:List cn→St→Prop}:∀ (l:List Oper) (tr:List cn) (s:St),ED T C E all guards l tr s K→∃ l2 s',uC T C E all guards s l l2 s'∧K (l2.reverse++tr) s'
 | [],tr,s,h=>⟨[],s,rfl,h⟩
 | o::l,tr,s,h=>by
  simp only [ED] at h
  split at h
  ·rename_i hw
   obtain ⟨r,h1,h2⟩:=CU T C E guards s o _ h
   have h1:=x9 h1
   rw [BM] at h1
   obtain ⟨l2,s',g1,g2⟩:=oK l _ _ h1
   exact ⟨⟨o,s,r⟩::l2,s',⟨rfl,rfl,.inl ⟨hw,h2 _ rfl⟩,g1⟩,by simpa using g2⟩
  ·rename_i hw
   rw [BM] at h
   obtain ⟨l2,s',g1,g2⟩:=oK l _ _ h
   exact ⟨⟨o,s,.val .undef⟩::l2,s',⟨rfl,rfl,.inr ⟨hw,rfl⟩,g1⟩,by simpa using g2⟩
  ·exact h.elim
def Wf (tr:List cn) (i:Nat):List (Nat×AV):=match tr[i]? with | some st=>st.eff.w | none=>[]
def Bf (tr:List cn) (i:Nat):List (Nat×List AV):=match tr[i]? with | some st=>st.eff.b | none=>[]
theorem uC.all {all:List Oper} {guards:List Nat}:∀ {l:List Oper} {tr:List cn} {s s':St},uC T C E all guards s l tr s' →
  tr.length=l.length∧(∀ (i:Nat) (st:cn),tr[i]?=some st→l[i]?=some st.o∧okS T C E all guards st.s st.o st.r∧st.s=⟨tF (Wf tr) s.t (fun _=>true) i,tF (Bf tr) s.b (fun _=>true) i⟩) ∧
  s'=⟨tF (Wf tr) s.t (fun _=>true) l.length,tF (Bf tr) s.b (fun _=>true) l.length⟩
 | [],[],s,s',h=>by
  have h:s'=s:=h
  subst h
  exact ⟨rfl,fun i st h=>by simp at h,rfl⟩
 | o::l,st::tr,s,s',h=>by
  obtain ⟨h1,h2,h3,h4⟩:=h
  obtain ⟨g1,g2,g3⟩:=uC.all h4
  subst h1
  have hW:∀ j,Wf (st::tr) (j+1)=Wf tr j:=fun j=>rfl
  have hB:∀ j,Bf (st::tr) (j+1)=Bf tr j:=fun j=>rfl
  refine ⟨by simp [g1],fun i st' hst=>?_,?_⟩
  ·cases i with
   | zero=>
    simp at hst
    subst hst
    exact ⟨rfl,by rw [h2]; exact h3,h2⟩
   | succ i=>
    simp at hst
    obtain ⟨k1,k2,k3⟩:=g2 i st' hst
    refine ⟨by simpa using k1,k2,?_⟩
    rw [kp,kp]
    exact k3
  ·rw [List.length_cons,kp,kp]
   exact g3
 | [],_::_,_,_,h=>h.elim
 | _::_,[],_,_,h=>h.elim
end
def uH:List Operand→List Nat
 | []=>[]
 | .tmp t::r=>t::uH r
 | _::r=>uH r
def rv (s:St):List Operand→List Nat
 | []=>[]
 | x::r=>match ev s x with
  | .loc d _=>d::rv s r
  | _=>rv s r
def yj:List (Nat×AV)→List Nat
 | []=>[]
 |(d,.me .ents _ _ _)::r=>d::yj r
 | _::r=>yj r
def pG (s:St):List Operand→List Nat
 | []=>[]
 | x::r=>match ev s x with
  | .me _ k _ _=>xk k::pG s r
  | .lit (.map (some _))=>yj s.t++pG s r
  | _=>pG s r
def qW (s:St):List Operand→List Nat
 | []=>[]
 | x::r=>match ev s x with
  | .pin k _ _ _=>xk k::qW s r
  | _=>qW s r
def tU (p:Nat×AV):Bool:=match p.2 with
 | .me g k _ _ => !ep g||Nat.beq p.1 (xk k)
 | _=>true
def H3 (all:List Oper) (o:Oper):List Nat:=match o.guard with
 | some (j,_)=>match gX all j with | some d=>[d] | none=>[]
 | none=>[]
structure Sk where
 es:List Nat
 ra:List Nat
 wa:List Nat
 rb:List Nat
 wb:List Nat
def aV (o:Oper):List Nat:=(o.after.toList.filter (Region.binds .any)).map (·.on)
def de {α:Type}:List (Nat×α)→List Nat
 | []=>[]
 |(d,_)::r=>d::de r
def cn.sk (all:List Oper) (st:cn):Sk:=
  { es:=aV st.o,ra:=(uH st.o.op.operands.toList++(pG st.s (qi st.o.op)++qW st.s (um st.o.op)))++H3 all st.o++(match st.r with | .app _ _=>(de st.eff.w).filter (fun x=>match st.o.dst with | some d => !Nat.beq x d | none=>true) | .cut _ _ _=>(de st.eff.w).filter (fun x=>match st.o.dst with | some d => !Nat.beq x d | none=>true) | .lent _ _ _ es rd=>de es++rd | _=>[]),
    wa:=de st.eff.w,rb:=rv st.s st.o.op.operands.toList,wb:=de st.eff.b }
def f8 (a b:List Nat):Bool:=a.all fun x => !bX b x
def kV (l:List (List Nat)) (i:Nat):List Nat:=match nth l i with | some x=>x | none=>[]
def IS (a b:List Nat):List Nat:=a.foldr (fun x l=>bif bX l x then l else x::l) b
def HL:List (List Nat)→List (List Nat)→List (List Nat)
 | [],acc=>acc
 | es::r,acc=>HL r (acc++[es.foldr (fun e l=>IS (e::kV acc e) l) []])
def n5 (an:List (List Nat)) (i:Nat) (es:List Nat):Bool:=es.all (fun e=>Nat.blt e i)&&(kV an i).all fun j=>bX es j||es.any fun e=>bX (kV an e) j
def vl (an:List (List Nat)) (i m:Nat) (a b:Sk):Bool:=Nat.beq i m||bX (kV an i) m||bX (kV an m) i||(f8 a.ra b.wa&&f8 a.wa b.wa&&f8 a.rb b.wb&&f8 a.wb b.wb)
def jV (base:St) (an:List (List Nat)) (tr:List cn) (i:Nat) (st:cn):Bool:=
 match st.r,st.o.dst with
 | .alloc _,some d=>base.t.all (fun p=>Nat.beq p.1 d || !xX d p.2) &&
   (List.range tr.length).all fun m=>Nat.beq i m||bX (kV an m) i||match nth tr m with | none=>true | some st'=>st'.eff.w.all fun p=>Nat.beq p.1 d || !xX d p.2
 | .app k _,some _=>base.t.all (fun p=>bX (de st.eff.w) p.1 || !mn k p.2)&&base.b.all (fun p=>p.2.all fun x => !f7 k x) &&
   (List.range tr.length).all fun m=>Nat.beq i m||bX (kV an m) i||match nth tr m with | none=>true | some st'=>(st'.eff.w.all fun p=>bX (de st.eff.w) p.1 || !mn k p.2)&&st'.eff.b.all fun p=>p.2.all fun x => !f7 k x
 | .cut k _ _,some _=>base.t.all (fun p=>bX (de st.eff.w) p.1 || !o2 k p.2) &&
   (List.range tr.length).all fun m=>Nat.beq i m||bX (kV an m) i||match nth tr m with | none=>true | some st'=>st'.eff.w.all fun p=>bX (de st.eff.w) p.1 || !o2 k p.2
 | .lent N I _ _ _,some _=>base.t.all (fun p=>bX (de st.eff.w) p.1 || !wS N I p.2)&&base.b.all (fun p=>p.2.all fun x => !I.any fun k=>f7 k x) &&
   (List.range tr.length).all fun m=>Nat.beq i m||bX (kV an m) i||match nth tr m with | none=>true | some st'=>(st'.eff.w.all fun p=>bX (de st.eff.w) p.1 || !wS N I p.2)&&st'.eff.b.all fun p=>p.2.all fun x => !I.any fun k=>f7 k x
 | _,_=>true
def H5 (base:St) (tr:List cn) (sks:List Sk) (an:List (List Nat)):Bool:=
 (List.range tr.length).all fun i=>match nth tr i,nth sks i with
  | some st,some a=>n5 an i a.es&&jV base an tr i st&&(List.range tr.length).all fun m=>match nth sks m with | some b=>vl an i m a b | none=>false
  | _,_=>false
def IE (base:St) (all:List Oper) (tr:List cn):Bool:=(base.t.all tU&&tr.all fun st=>st.eff.w.all tU)&&H5 base tr (tr.map (cn.sk all)) (HL ((tr.map (cn.sk all)).map (·.es)) [])
def lL:List Oper→List Nat
 | []=>[]
 | o::r=>match o.op,o.dst with
  | .alloc _,some d=>d::lL r
  | _,_=>lL r
def unlocMany:List Nat→List (Nat×AV)→List (Nat×AV)
 | [],t=>t
 | d::r,t=>unlocMany r (unloc d t)
def lK (T:Tab) (C:FuncId→List AV→AV→Prop) (E:zT) (kc keep:List Nat) (ops:List Oper) (s:St) (K:St→Prop):Prop:=match s with
 | ⟨t,b⟩=>goT (unlocMany (lL ops) t) fun t=>ED T C E ops (kc++bI ops ops) ops [] ⟨t,b⟩ fun tr s'=>IE ⟨t,b⟩ ops tr.reverse=true∧fQ keep s' K
end Go.AI
namespace Go.AI
open Go
theorem nS {α:Type} {l:List (Nat×α)} {x:Nat} {v:α} (h:get l x=some v):(x,v)∈l:=by
 induction l with
 | nil=>simp [get] at h
 | cons p r ih=>
  obtain ⟨y,u⟩:=p
  rw [ak] at h
  split at h
  ·rename_i hx; subst hx; cases h; exact List.mem_cons_self
  ·exact List.mem_cons_of_mem _ (ih h)
theorem bW {α:Type} {l:List (Nat×α)} {x:Nat}:x∈de l↔get l x≠none:=by
 induction l with
 | nil=>simp [de,get]
 | cons p r ih=>
  obtain ⟨y,u⟩:=p
  rw [ak]
  simp only [de,List.mem_cons,ih]
  by_cases h:x=y
  ·simp [h]
  ·simp [h]
theorem aM {a b:List Nat} (h:f8 a b=true) {x:Nat} (ha:x∈a) (hb:x∈b):False:=by
 have:=List.all_eq_true.1 h x ha
 rw [ba.2 hb] at this
 cases this
structure fm (base:St) (all:List Oper) (tr:List cn) (an:List (List Nat)):Prop where
 edge:∀ i st,tr[i]?=some st→∀ e∈aV st.o,e<i
 anc:∀ i st,tr[i]?=some st→∀ j∈kV an i,j∈aV st.o∨∃ e∈aV st.o,j∈kV an e
 apart:∀ i st m st',tr[i]?=some st→tr[m]?=some st'→i≠m→m∈kV an i∨i∈kV an m ∨
  ((∀ x∈(st.sk all).ra,x ∉ de st'.eff.w)∧(∀ x∈de st.eff.w,x ∉ de st'.eff.w)∧(∀ x∈(st.sk all).rb,x ∉ de st'.eff.b)∧(∀ x∈de st.eff.b,x ∉ de st'.eff.b))
 clean:∀ i st,tr[i]?=some st→jV base an tr i st=true
 arr:base.t.all tU=true∧∀ (i:Nat) (st:cn),tr[i]?=some st→st.eff.w.all tU=true
theorem Dl {base:St} {all:List Oper} {tr:List cn} (h:IE base all tr=true):∃ an,fm base all tr an:=by
 refine ⟨HL ((tr.map (cn.sk all)).map (·.es)) [],?_⟩
 unfold IE at h
 rw [Bool.and_eq_true] at h
 obtain ⟨harr,h⟩:=h
 rw [Bool.and_eq_true] at harr
 generalize HL ((tr.map (cn.sk all)).map (·.es)) []=an at h ⊢
 unfold H5 at h
 have key:∀ i st,tr[i]?=some st→n5 an i (st.sk all).es=true∧jV base an tr i st=true∧∀ m st',tr[m]?=some st'→vl an i m (st.sk all) (st'.sk all)=true:=by
  intro i st hi
  have hlt:=(List.getElem?_eq_some_iff.1 hi).1
  have h1:=List.all_eq_true.1 h i (List.mem_range.2 hlt)
  simp only [d6,hi,List.getElem?_map,Option.map_some,Bool.and_eq_true] at h1
  refine ⟨h1.1.1,h1.1.2,fun m st' hm=>?_⟩
  have h2:=List.all_eq_true.1 h1.2 m (List.mem_range.2 (List.getElem?_eq_some_iff.1 hm).1)
  simp only [hm,Option.map_some] at h2
  exact h2
 refine ⟨fun i st hi e he=>?_,fun i st hi j hj=>?_,fun i st m st' hi hm hne=>?_,fun i st hi=>(key i st hi).2.1,harr.1,fun i st hi=>List.all_eq_true.1 harr.2 st (List.mem_of_getElem? hi)⟩
 ·have h1:=(key i st hi).1
  unfold n5 at h1
  rw [Bool.and_eq_true] at h1
  have:=Nat.le_of_ble_eq_true (List.all_eq_true.1 h1.1 e he)
  omega
 ·have h1:=(key i st hi).1
  unfold n5 at h1
  rw [Bool.and_eq_true] at h1
  have:=List.all_eq_true.1 h1.2 j hj
  rw [Bool.or_eq_true,ba,List.any_eq_true] at this
  rcases this with h | ⟨e,he,h⟩
  ·exact .inl h
  ·exact .inr ⟨e,he,ba.1 h⟩
 ·have h1:=(key i st hi).2.2 m st' hm
  unfold vl at h1
  simp only [Bool.or_eq_true,ba,Bool.and_eq_true] at h1
  rcases h1 with ((h | h) | h) | h
  ·exact absurd (Nat.eq_of_beq_eq_true h) hne
  ·exact .inl h
  ·exact .inr (.inl h)
  ·exact .inr (.inr ⟨fun x hx hy=>aM h.1.1.1 hx hy,fun x hx hy=>aM h.1.1.2 hx hy,fun x hx hy=>aM h.1.2 hx hy,fun x hx hy=>aM h.2 hx hy⟩)
section
variable {base:St} {all:List Oper} {tr:List cn} {an:List (List Nat)} (hF:fm base all tr an) {M:Nat→Bool}
include hF
theorem fm.anc_lt:∀ (i:Nat),i<tr.length→∀ j∈kV an i,j<i:=by
 intro i
 induction i using Nat.strongRecOn with
 | _ i ih=>
  intro hi j hj
  have hst:=List.getElem?_eq_getElem hi
  rcases hF.anc i _ hst j hj with h | ⟨e,he,h⟩
  ·exact hF.edge i _ hst j h
  ·have h1:=hF.edge i _ hst e he
   have:=ih e h1 (by omega) j h
   omega
theorem fm.anc_M (hM:∀ m st,tr[m]?=some st→M m=true→∀ e∈aV st.o,M e=true):∀ (i:Nat) (st:cn),tr[i]?=some st→(∀ e∈aV st.o,M e=true)→∀ j∈kV an i,M j=true:=by
 intro i
 induction i using Nat.strongRecOn with
 | _ i ih=>
  intro st hst he j hj
  rcases hF.anc i _ hst j hj with h | ⟨e,h1,h2⟩
  ·exact he j h
  ·have hlt:=hF.edge i _ hst e h1
   have hi:=(List.getElem?_eq_some_iff.1 hst).1
   have hse:tr[e]?=some _:=List.getElem?_eq_getElem (show e<tr.length by omega)
   exact ih e hlt _ hse (hM e _ hse (he e h1)) j h2
theorem fm.ord (hM:∀ m st,tr[m]?=some st→M m=true→∀ e∈aV st.o,M e=true) {i:Nat} {st:cn} (hi:tr[i]?=some st) (hr:∀ e∈aV st.o,M e=true) (hMi:M i=false)
  {j:Nat} {st':cn} (hj:tr[j]?=some st')
  (hc:¬ ((∀ x∈(st.sk all).ra,x ∉ de st'.eff.w)∧(∀ x∈de st.eff.w,x ∉ de st'.eff.w)∧(∀ x∈(st.sk all).rb,x ∉ de st'.eff.b)∧(∀ x∈de st.eff.b,x ∉ de st'.eff.b))):M j=decide (j<i):=by
 by_cases hne:i=j
 ·subst hne; rw [hMi]; simp
 ·have hil:=(List.getElem?_eq_some_iff.1 hi).1
  have hjl:=(List.getElem?_eq_some_iff.1 hj).1
  rcases hF.apart i st j st' hi hj hne with h | h | h
  ·rw [hF.anc_M hM i st hi hr j h]
   simp [hF.anc_lt i hil j h]
  ·have h1:=hF.anc_lt j hjl i h
   rw [decide_eq_false (by omega)]
   cases hMj:M j with
   | false=>rfl
   | true=>
    rw [hF.anc_M hM j st' hj (hM j st' hj hMj) i h] at hMi
    cases hMi
  ·exact absurd h hc
theorem lM {i:Nat} {st:cn} (h:tr[i]?=some st):Wf tr i=st.eff.w:=by
 clear hF
 unfold Wf
 rw [h]
theorem oF {i:Nat} {st:cn} (h:tr[i]?=some st):Bf tr i=st.eff.b:=by
 clear hF
 unfold Bf
 rw [h]
theorem fm.agree_t (hM:∀ m st,tr[m]?=some st→M m=true→∀ e∈aV st.o,M e=true) {i:Nat} {st:cn} (hi:tr[i]?=some st) (hr:∀ e∈aV st.o,M e=true) (hMi:M i=false)
  (hs:st.s=⟨tF (Wf tr) base.t (fun _=>true) i,tF (Bf tr) base.b (fun _=>true) i⟩) {x:Nat} (hx:x∈(st.sk all).ra):get (tF (Wf tr) base.t M tr.length) x=get st.s.t x:=by
 have hil:=(List.getElem?_eq_some_iff.1 hi).1
 rw [hs,HS (n:=tr.length) (by omega)]
 refine dC _ fun j hj hne=>?_
 have hsj:tr[j]?=some _:=List.getElem?_eq_getElem hj
 refine hF.ord hM hi hr hMi hsj fun hc=>?_
 rw [lM hF hsj] at hne
 exact hc.1 x hx (bW.2 hne)
theorem fm.agree_b (hM:∀ m st,tr[m]?=some st→M m=true→∀ e∈aV st.o,M e=true) {i:Nat} {st:cn} (hi:tr[i]?=some st) (hr:∀ e∈aV st.o,M e=true) (hMi:M i=false)
  (hs:st.s=⟨tF (Wf tr) base.t (fun _=>true) i,tF (Bf tr) base.b (fun _=>true) i⟩) {x:Nat} (hx:x∈(st.sk all).rb):get (tF (Bf tr) base.b M tr.length) x=get st.s.b x:=by
 have hil:=(List.getElem?_eq_some_iff.1 hi).1
 rw [hs,HS (n:=tr.length) (by omega)]
 refine dC _ fun j hj hne=>?_
 have hsj:tr[j]?=some _:=List.getElem?_eq_getElem hj
 refine hF.ord hM hi hr hMi hsj fun hc=>?_
 rw [oF hF hsj] at hne
 exact hc.2.2.1 x hx (bW.2 hne)
theorem Ay {t:Nat} {l:List Operand} (h:Operand.tmp t∈l):t∈uH l:=by
 clear hF
 induction l with
 | nil=>cases h
 | cons x r ih=>
  rcases List.mem_cons.1 h with rfl | h2
  ·exact List.mem_cons_self
  ·clear h
   cases x with
   | tmp u=>exact List.mem_cons_of_mem _ (ih h2)
   | _=>exact ih h2
theorem AB {s:St} {x:Operand} {d off:Nat} {l:List Operand} (h:x∈l) (he:ev s x = .loc d off):d∈rv s l:=by
 clear hF
 induction l with
 | nil=>cases h
 | cons y r ih=>
  simp only [rv]
  rcases List.mem_cons.1 h with rfl | h
  ·rw [he]; exact List.mem_cons_self
  ·split
   ·exact List.mem_cons_of_mem _ (ih h)
   ·exact ih h
theorem C0 {s:St} {x:Operand} {g:qo} {k n:Nat} {ys:List (List AV)} {l:List Operand} (h:x∈l) (he:ev s x = .me g k n ys):xk k∈pG s l:=by
 clear hF
 induction l with
 | nil=>cases h
 | cons y r ih=>
  simp only [pG]
  rcases List.mem_cons.1 h with rfl | h
  ·rw [he]; exact List.mem_cons_self
  ·split
   ·exact List.mem_cons_of_mem _ (ih h)
   ·exact List.mem_append_right _ (ih h)
   ·exact ih h
theorem Az {s:St} {x:Operand} {k b off:Nat} {cs:List AV} {l:List Operand} (h:x∈l) (he:ev s x = .pin k b off cs):xk k∈qW s l:=by
 clear hF
 induction l with
 | nil=>cases h
 | cons y r ih=>
  simp only [qW]
  rcases List.mem_cons.1 h with rfl | h
  ·rw [he]; exact List.mem_cons_self
  ·split
   ·exact List.mem_cons_of_mem _ (ih h)
   ·exact ih h
theorem C1 {t:List (Nat×AV)} {d k n:Nat} {ys:List (List AV)} (h:get t d=some (.me .ents k n ys)):d∈yj t:=by
 clear hF
 induction t with
 | nil=>simp [get] at h
 | cons p r ih=>
  obtain ⟨e,v⟩:=p
  rw [ak] at h
  split at h
  ·rename_i hd
   cases h
   subst hd
   exact List.mem_cons_self
  ·unfold yj
   split
   ·rename_i heq; cases heq
   ·rename_i heq; simp only [List.cons.injEq] at heq; rw [← heq.2]; exact List.mem_cons_of_mem _ (ih h)
   ·rename_i heq; simp only [List.cons.injEq] at heq; rw [← heq.2]; exact ih h
theorem AA {s:St} {x:Operand} {b d k n:Nat} {ys:List (List AV)} {l:List Operand} (h:x∈l) (he:ev s x = .lit (.map (some b))) (hg:get s.t d=some (.me .ents k n ys)):d∈pG s l:=by
 have hm:=C1 hF hg
 clear hF
 induction l with
 | nil=>cases h
 | cons y r ih=>
  simp only [pG]
  rcases List.mem_cons.1 h with rfl | h
  ·rw [he]; exact List.mem_append_left _ hm
  ·split
   ·exact List.mem_cons_of_mem _ (ih h)
   ·exact List.mem_append_right _ (ih h)
   ·exact ih h
theorem fm.arrT (M:Nat→Bool):∀ d g k n xs,ep g=true→get (tF (Wf tr) base.t M tr.length) d=some (.me g k n xs)→d=xk k:=by
 intro d g k n xs hg h
 have key:∀ l:List (Nat×AV),l.all tU=true→get l d=some (.me g k n xs)→d=xk k:=fun l hl hg'=>by
  have:=List.all_eq_true.1 hl _ (nS hg')
  simpa [tU,hg] using this
 rcases gT _ h with h | ⟨j,h1,h2,h3⟩
 ·exact key _ hF.arr.1 h
 ·have hsj:tr[j]?=some _:=List.getElem?_eq_getElem h1
  rw [lM hF hsj] at h3
  exact key _ (hF.arr.2 j _ hsj) h3
theorem fm.agreeX (hM:∀ m st,tr[m]?=some st→M m=true→∀ e∈aV st.o,M e=true) {i:Nat} {st:cn} (hi:tr[i]?=some st) (hr:∀ e∈aV st.o,M e=true) (hMi:M i=false)
    (hs:st.s=⟨tF (Wf tr) base.t (fun _=>true) i,tF (Bf tr) base.b (fun _=>true) i⟩) :
    Bo st.s ⟨tF (Wf tr) base.t M tr.length,tF (Bf tr) base.b M tr.length⟩ (qi st.o.op):=fun x hx=>
  ⟨fun g k n ys he=>hF.agree_t hM hi hr hMi hs (List.mem_append_left _ (List.mem_append_left _ (List.mem_append_right _ (List.mem_append_left _ (C0 hF hx he))))),
   fun b he k n ys hg=>hF.agree_t hM hi hr hMi hs (List.mem_append_left _ (List.mem_append_left _ (List.mem_append_right _ (List.mem_append_left _ (AA hF hx he hg)))))⟩
theorem fm.agreeP (hM:∀ m st,tr[m]?=some st→M m=true→∀ e∈aV st.o,M e=true) {i:Nat} {st:cn} (hi:tr[i]?=some st) (hr:∀ e∈aV st.o,M e=true) (hMi:M i=false)
  (hs:st.s=⟨tF (Wf tr) base.t (fun _=>true) i,tF (Bf tr) base.b (fun _=>true) i⟩) :
  Bp st.s ⟨tF (Wf tr) base.t M tr.length,tF (Bf tr) base.b M tr.length⟩ (um st.o.op):=fun x hx k b off cs he=>
 hF.agree_t hM hi hr hMi hs (List.mem_append_left _ (List.mem_append_left _ (List.mem_append_right _ (List.mem_append_right _ (Az hF hx he)))))
theorem fm.agree (hM:∀ m st,tr[m]?=some st→M m=true→∀ e∈aV st.o,M e=true) {i:Nat} {st:cn} (hi:tr[i]?=some st) (hr:∀ e∈aV st.o,M e=true) (hMi:M i=false)
  (hs:st.s=⟨tF (Wf tr) base.t (fun _=>true) i,tF (Bf tr) base.b (fun _=>true) i⟩) :
  zU (ev st.s) (ev ⟨tF (Wf tr) base.t M tr.length,tF (Bf tr) base.b M tr.length⟩) st.s.b (tF (Bf tr) base.b M tr.length) st.o.op.operands.toList ∧
  j5 all ⟨tF (Wf tr) base.t M tr.length,tF (Bf tr) base.b M tr.length⟩ st.o=j5 all st.s st.o:=by
 refine ⟨fun x hx=>⟨?_,fun d off he=>?_⟩,?_⟩
 ·cases x with
  | tmp t=>
   simp only [ev,St.tmp]
   rw [hF.agree_t hM hi hr hMi hs (List.mem_append_left _ (List.mem_append_left _ (List.mem_append_left _ (Ay hF hx))))]
  | const v=>rfl
  | global g=>rfl
  | func f=>rfl
 ·exact hF.agree_b hM hi hr hMi hs (AB hF hx he)
 ·unfold j5
  cases hg:st.o.guard with
  | none=>rfl
  | some p=>
   obtain ⟨j,want⟩:=p
   simp only
   cases hd:gX all j with
   | none=>rfl
   | some d=>
    simp only
    rw [hF.agree_t hM hi hr hMi hs (List.mem_append_left _ (List.mem_append_right _ (by simp [H3,hg,hd])))]
end
end Go.AI
namespace Go.AI
open Go
section
variable {base:St} {all:List Oper} {tr:List cn} {an:List (List Nat)} (hF:fm base all tr an) {M M':Nat→Bool}
include hF
theorem fm.ins_t (hM:∀ m st,tr[m]?=some st→M m=true→∀ e∈aV st.o,M e=true) {i:Nat} {st:cn} (hi:tr[i]?=some st) (hr:∀ e∈aV st.o,M e=true) (hMi:M i=false)
  (hM':∀ j,M' j=(M j||decide (j=i))) (x:Nat):get (tF (Wf tr) base.t M' tr.length) x=(get st.eff.w x).or (get (tF (Wf tr) base.t M tr.length) x):=by
 have hil:=(List.getElem?_eq_some_iff.1 hi).1
 rw [mZ hMi hM' tr.length hil,lM hF hi]
 intro j hj hij hMj hne
 rw [lM hF hi] at hne
 have hsj:tr[j]?=some _:=List.getElem?_eq_getElem hj
 rw [lM hF hsj]
 cases hg:get (tr[j]).eff.w x with
 | none=>rfl
 | some v=>
  have:=hF.ord hM hi hr hMi hsj fun hc=>hc.2.1 x (bW.2 hne) (bW.2 (by rw [hg]; simp))
  rw [hMj,decide_eq_false (by omega)] at this
  cases this
theorem fm.ins_b (hM:∀ m st,tr[m]?=some st→M m=true→∀ e∈aV st.o,M e=true) {i:Nat} {st:cn} (hi:tr[i]?=some st) (hr:∀ e∈aV st.o,M e=true) (hMi:M i=false)
  (hM':∀ j,M' j=(M j||decide (j=i))) (x:Nat):get (tF (Bf tr) base.b M' tr.length) x=(get st.eff.b x).or (get (tF (Bf tr) base.b M tr.length) x):=by
 have hil:=(List.getElem?_eq_some_iff.1 hi).1
 rw [mZ hMi hM' tr.length hil,oF hF hi]
 intro j hj hij hMj hne
 rw [oF hF hi] at hne
 have hsj:tr[j]?=some _:=List.getElem?_eq_getElem hj
 rw [oF hF hsj]
 cases hg:get (tr[j]).eff.b x with
 | none=>rfl
 | some v=>
  have:=hF.ord hM hi hr hMi hsj fun hc=>hc.2.2.2 x (bW.2 hne) (bW.2 (by rw [hg]; simp))
  rw [hMj,decide_eq_false (by omega)] at this
  cases this
theorem x5 (d:Nat) (t:List (Nat×AV)) (x:Nat):get (unloc d t) x=(get t x).map (AV.unloc d):=by unfold unloc; rw [jJ]; exact gn (fun (_:Nat) (v:AV)=>v.unloc d) t x
theorem fm.val_t (hM:∀ m st,tr[m]?=some st→M m=true→∀ e∈aV st.o,M e=true) {i:Nat} {st:cn} (hi:tr[i]?=some st) (hMi:M i=false) {x:Nat} {v:AV}
  (h:get (tF (Wf tr) base.t M tr.length) x=some v):(x,v)∈base.t∨∃ m st',tr[m]?=some st'∧m≠i∧m<tr.length∧i ∉ kV an m∧(x,v)∈st'.eff.w:=by
 rcases gT _ h with h | ⟨j,h1,h2,h3⟩
 ·exact .inl (nS h)
 ·have hsj:tr[j]?=some _:=List.getElem?_eq_getElem h1
  rw [lM hF hsj] at h3
  refine .inr ⟨j,_,hsj,?_,h1,fun hc=>?_,nS h3⟩
  ·rintro rfl; rw [hMi] at h2; cases h2
  ·rw [hF.anc_M hM j _ hsj (hM j _ hsj h2) i hc] at hMi; cases hMi
theorem fm.val_b (hM:∀ m st,tr[m]?=some st→M m=true→∀ e∈aV st.o,M e=true) {i:Nat} {st:cn} (hi:tr[i]?=some st) (hMi:M i=false) {x:Nat} {v:List AV}
  (h:get (tF (Bf tr) base.b M tr.length) x=some v):(x,v)∈base.b∨∃ m st',tr[m]?=some st'∧m≠i∧m<tr.length∧i ∉ kV an m∧(x,v)∈st'.eff.b:=by
 rcases gT _ h with h | ⟨j,h1,h2,h3⟩
 ·exact .inl (nS h)
 ·have hsj:tr[j]?=some _:=List.getElem?_eq_getElem h1
  rw [oF hF hsj] at h3
  refine .inr ⟨j,_,hsj,?_,h1,fun hc=>?_,nS h3⟩
  ·rintro rfl; rw [hMi] at h2; cases h2
  ·rw [hF.anc_M hM j _ hsj (hM j _ hsj h2) i hc] at hMi; cases hMi
theorem fm.step_le (hM:∀ m st,tr[m]?=some st→M m=true→∀ e∈aV st.o,M e=true) {i:Nat} {st:cn} (hi:tr[i]?=some st) (hr:∀ e∈aV st.o,M e=true) (hMi:M i=false)
  (hs:st.s=⟨tF (Wf tr) base.t (fun _=>true) i,tF (Bf tr) base.b (fun _=>true) i⟩) (hM':∀ j,M' j=(M j||decide (j=i))) :
  St.le (cg ⟨tF (Wf tr) base.t M tr.length,tF (Bf tr) base.b M tr.length⟩ st.o.dst st.r) ⟨tF (Wf tr) base.t M' tr.length,tF (Bf tr) base.b M' tr.length⟩:=by
 have hclean:=hF.clean i st hi
 have ht:=hF.ins_t hM hi hr hMi hM'
 have hb:=hF.ins_b hM hi hr hMi hM'
 have hv:=fun (x:Nat) (v:AV)=>hF.val_t hM hi hMi (x:=x) (v:=v)
 have hvb:=fun (x:Nat) (v:List AV)=>hF.val_b hM hi hMi (x:=x) (v:=v)
 have hag:=fun (x:Nat) (hx:x∈(st.sk all).ra)=>hF.agree_t hM hi hr hMi hs hx
 generalize tF (Wf tr) base.t M tr.length=t at *
 generalize tF (Bf tr) base.b M tr.length=b at *
 obtain ⟨⟨odst,oty,oop,opos,oaft,ogd⟩,ss,r⟩:=st
 simp only [cn.eff] at ht hb
 cases r with
 | val v=>
  cases odst with
  | none=>
   refine ⟨fun x u hx=>?_,fun x u hx _=>?_⟩
   ·simp only [ht,bP] at hx; simpa [cg,get] using hx
   ·simp only [hb,bP] at hx; simpa [cg,get] using hx
  | some d=>
   refine ⟨fun x u hx=>?_,fun x u hx _=>?_⟩
   ·simp only [ht,bP] at hx
    rw [← bU] at hx
    exact hx
   ·simp only [hb,bP] at hx; simpa [cg,get] using hx
 | store d cs=>
  refine ⟨fun x u hx=>?_,fun x u hx _=>?_⟩
  ·simp only [ht,bP] at hx; simpa [cg,get] using hx
  ·simp only [hb,bP] at hx
   rw [← bU] at hx
   exact hx
 | xst k v=>
  refine ⟨fun x u hx=>?_,fun x u hx _=>?_⟩
  ·simp only [ht,bP] at hx
   rw [← bU] at hx
   exact hx
  ·simp only [hb,bP] at hx; simpa [cg,get] using hx
 | cut k n v=>
  cases odst with
  | none=>
   refine ⟨fun x u hx=>?_,fun x u hx _=>?_⟩
   ·simp only [ht,bP] at hx; simpa [cg,get] using hx
   ·simp only [hb,bP] at hx; simpa [cg,get] using hx
  | some d=>
   simp only [jV,Bool.and_eq_true,List.all_eq_true] at hclean
   refine ⟨fun x u hx=>?_,fun x u hx _=>?_⟩
   ·simp only [ht,bP,ak] at hx
    simp only [cg,ak]
    by_cases hxd:x=d
    ·simp only [hxd,if_true] at hx ⊢; simpa using hx
    ·simp only [hxd,if_false] at hx ⊢
     by_cases hxk:x=xk k
     ·simp only [hxk,if_true] at hx ⊢; simpa using hx
     ·simp only [hxk,if_false] at hx ⊢
      rw [bY]
      cases hc:get (vg k [d,xk k] ss.t) x with
      | some y=>
       rw [hc] at hx
       obtain ⟨_,z,h2,h3,h4⟩:=rP k _ _ _ _ hc
       have hra:x∈(cn.sk all ⟨⟨some d,oty,oop,opos,oaft,ogd⟩,ss,.cut k n v⟩).ra:=by
        refine List.mem_append_right _ (List.mem_filter.2 ⟨bW.2 ?_,?_⟩)
        ·simp only [cn.eff,bP,ak,hxd,hxk,if_false,hc]; simp
        ·simp only
         cases hbq:Nat.beq x d with
         | true=>exact absurd (Nat.eq_of_beq_eq_true hbq) hxd
         | false=>rfl
       rw [show get t x=get ss.t x from hag x hra,h2,Option.map_some,C9 h3,← h4]
       simpa using hx
      | none=>
       rw [hc] at hx
       have hx:get t x=some u:=by simpa using hx
       rw [hx,Option.map_some]
       have hnk:x ∉ de (bP ss.t (some d) (.cut k n v)).w:=by
        rw [bW]
        simp only [bP,ak,hxd,hxk,if_false,hc]
        simp
       have hl:o2 k u=false:=by
        rcases hv x u hx with h | ⟨m,st',h1,h2,h3,h4,h5⟩
        ·have:=hclean.1 _ h
         rw [Bool.or_eq_true,ba] at this
         rcases this with h | h
         ·exact absurd h hnk
         ·simpa using h
        ·have:=hclean.2 m (List.mem_range.2 h3)
         simp only [Bool.or_eq_true,ba,d6,h1,List.all_eq_true] at this
         rcases this with (h | h) | h
         ·exact absurd (Nat.eq_of_beq_eq_true h).symm h2
         ·exact absurd h h4
         ·have:=h _ h5
          rcases this with h | h
          ·exact absurd h hnk
          ·simpa using h
       rw [t8 hl]
   ·simp only [hb,bP] at hx; simpa [cg,get] using hx
 | alloc cs=>
  cases odst with
  | none=>
   refine ⟨fun x u hx=>?_,fun x u hx _=>?_⟩
   ·simp only [ht,bP] at hx; simpa [cg,get] using hx
   ·simp only [hb,bP] at hx; simpa [cg,get] using hx
  | some d=>
   simp only [jV,Bool.and_eq_true,List.all_eq_true] at hclean
   refine ⟨fun x u hx=>?_,fun x u hx _=>?_⟩
   ·simp only [ht,bP,ak] at hx
    simp only [cg,ak]
    by_cases hxd:x=d
    ·simp only [hxd,if_true] at hx ⊢; simpa using hx
    ·simp only [hxd,if_false] at hx ⊢
     have hx:get t x=some u:=by simpa [get] using hx
     rw [x5 hF,hx]
     have hl:xX d u=false:=by
      rcases hv x u hx with h | ⟨m,st',h1,h2,h3,h4,h5⟩
      ·have:=hclean.1 _ h
       rw [Bool.or_eq_true] at this
       rcases this with h | h
       ·exact absurd (Nat.eq_of_beq_eq_true h) hxd
       ·simpa using h
      ·have:=hclean.2 m (List.mem_range.2 h3)
       simp only [Bool.or_eq_true,ba,d6,h1,List.all_eq_true] at this
       rcases this with (h | h) | h
       ·exact absurd (Nat.eq_of_beq_eq_true h).symm h2
       ·exact absurd h h4
       ·have:=h _ h5
        rcases this with h | h
        ·exact absurd (Nat.eq_of_beq_eq_true h) hxd
        ·simpa using h
     rw [Option.map_some,xW hl]
   ·simp only [hb,bP] at hx
    rw [← bU] at hx
    exact hx
 | lent N I v es rd=>
  cases odst with
  | none=>
   refine ⟨fun x u hx=>?_,fun x u hx _=>?_⟩
   ·simp only [ht,bP] at hx; simpa [cg,get] using hx
   ·simp only [hb,bP] at hx; simpa [cg,get] using hx
  | some d=>
   simp only [jV,Bool.and_eq_true,List.all_eq_true] at hclean
   refine ⟨fun x u hx=>?_,fun x u hx _=>?_⟩
   ·simp only [ht,bP] at hx
    simp only [cg]
    rw [← List.cons_append,bU]
    cases hc:get ((d,v)::es) x with
    | some y=>rw [hc] at hx; simpa using hx
    | none=>
     rw [hc] at hx
     have hx:get t x=some u:=by simpa using hx
     have hnk:x ∉ de (bP ss.t (some d) (.lent N I v es rd)).w:=by
      rw [bW]
      simp only [bP,hc]
      simp
     have hl:wS N I u=false:=by
      rcases hv x u hx with h | ⟨m,st',h1,h2,h3,h4,h5⟩
      ·have:=hclean.1.1 _ h
       rw [Bool.or_eq_true,ba] at this
       rcases this with h | h
       ·exact absurd h hnk
       ·simpa using h
      ·have:=hclean.2 m (List.mem_range.2 h3)
       simp only [Bool.or_eq_true,ba,d6,h1,List.all_eq_true,Bool.and_eq_true] at this
       rcases this with (h | h) | h
       ·exact absurd (Nat.eq_of_beq_eq_true h).symm h2
       ·exact absurd h h4
       ·have:=h.1 _ h5
        rcases this with h | h
        ·exact absurd h hnk
        ·simpa using h
     simp only [St.unmeMany]
     rw [bY,iQ,hx,Option.map_some,Option.map_some,Em hl]; rfl
   ·simp only [hb,bP] at hx
    have hx:get b x=some u:=by simpa [get] using hx
    simp only [cg]
    rw [iR,hx,Option.map_some]
    have hl:∀ y∈u,∀ k∈I,f7 k y=false:=by
     rcases hvb x u hx with h | ⟨m,st',h1,h2,h3,h4,h5⟩
     ·intro y hy k hk
      have:=hclean.1.2 _ h y hy
      simp only [Bool.not_eq_true',List.any_eq_false] at this
      simpa using this k hk
     ·have:=hclean.2 m (List.mem_range.2 h3)
      simp only [Bool.or_eq_true,ba,d6,h1,List.all_eq_true,Bool.and_eq_true] at this
      rcases this with (h | h) | h
      ·exact absurd (Nat.eq_of_beq_eq_true h).symm h2
      ·exact absurd h h4
      ·intro y hy k hk
       have:=h.2 _ h5 y hy
       simp only [Bool.not_eq_true',List.any_eq_false] at this
       simpa using this k hk
    congr 1
    conv=>rhs; rw [← List.map_id u]
    exact List.map_congr_left fun y hy=>pO (hl y hy)
 | app k v=>
  cases odst with
  | none=>
   refine ⟨fun x u hx=>?_,fun x u hx _=>?_⟩
   ·simp only [ht,bP] at hx; simpa [cg,get] using hx
   ·simp only [hb,bP] at hx; simpa [cg,get] using hx
  | some d=>
   simp only [jV,Bool.and_eq_true,List.all_eq_true] at hclean
   refine ⟨fun x u hx=>?_,fun x u hx _=>?_⟩
   ·simp only [ht,bP,ak] at hx
    simp only [cg,ak]
    by_cases hxd:x=d
    ·simp only [hxd,if_true] at hx ⊢; simpa using hx
    ·simp only [hxd,if_false] at hx ⊢
     rw [jj]
     cases hc:get (vh k [d] ss.t) x with
     | some y=>
      rw [hc] at hx
      obtain ⟨_,z,h2,h3⟩:=rQ k _ _ _ _ hc
      have hra:x∈(cn.sk all ⟨⟨some d,oty,oop,opos,oaft,ogd⟩,ss,.app k v⟩).ra:=by
       refine List.mem_append_right _ (List.mem_filter.2 ⟨bW.2 ?_,?_⟩)
       ·simp only [cn.eff,bP,ak,hxd,if_false,hc]; simp
       ·simp only
        cases hbq:Nat.beq x d with
        | true=>exact absurd (Nat.eq_of_beq_eq_true hbq) hxd
        | false=>rfl
      rw [show get t x=get ss.t x from hag x hra,h2,Option.map_some,← h3]
      simpa using hx
     | none=>
      rw [hc] at hx
      have hx:get t x=some u:=by simpa using hx
      rw [hx,Option.map_some]
      have hnk:x ∉ de (bP ss.t (some d) (.app k v)).w:=by
       rw [bW]
       simp only [bP,ak,hxd,if_false,hc]
       simp
      have hl:mn k u=false:=by
       rcases hv x u hx with h | ⟨m,st',h1,h2,h3,h4,h5⟩
       ·have:=hclean.1.1 _ h
        rw [Bool.or_eq_true,ba] at this
        rcases this with h | h
        ·exact absurd h hnk
        ·simpa using h
       ·have:=hclean.2 m (List.mem_range.2 h3)
        simp only [Bool.or_eq_true,ba,d6,h1,List.all_eq_true,Bool.and_eq_true] at this
        rcases this with (h | h) | h
        ·exact absurd (Nat.eq_of_beq_eq_true h).symm h2
        ·exact absurd h h4
        ·have:=h.1 _ h5
         rcases this with h | h
         ·exact absurd h hnk
         ·simpa using h
      rw [ua hl]
   ·simp only [hb,bP] at hx
    have hx:get b x=some u:=by simpa [get] using hx
    simp only [cg]
    rw [o5,hx,Option.map_some]
    have hl:∀ y∈u,f7 k y=false:=by
     rcases hvb x u hx with h | ⟨m,st',h1,h2,h3,h4,h5⟩
     ·intro y hy
      simpa using hclean.1.2 _ h y hy
     ·have:=hclean.2 m (List.mem_range.2 h3)
      simp only [Bool.or_eq_true,ba,d6,h1,List.all_eq_true,Bool.and_eq_true] at this
      rcases this with (h | h) | h
      ·exact absurd (Nat.eq_of_beq_eq_true h).symm h2
      ·exact absurd h h4
      ·intro y hy
       simpa using h.2 _ h5 y hy
    congr 1
    conv=>rhs; rw [← List.map_id u]
    exact List.map_congr_left fun y hy=>jN (hl y hy)
end
end Go.AI
namespace Go.AI
open Go
section
variable {Γ:aH} (hΓ:Γ.OK) {T:Tab} (hT:T.OK Γ.P) {base:St} {all:List Oper} {tr:List cn} {an:List (List Nat)} {Q:Exit→Act→World→Prop} {w0:World} {a0:Act}
theorem pH {o:Oper} {e:Nat}:e∈aV o↔∃ x∈o.after,Region.binds .any x=true∧x.on=e:=by
 simp only [aV,List.mem_map,List.mem_filter,Array.mem_toList_iff]
 constructor
 ·rintro ⟨x,⟨h1,h2⟩,h3⟩; exact ⟨x,h1,h2,h3⟩
 ·rintro ⟨x,h1,h2,h3⟩; exact ⟨x,⟨h1,h2⟩,h3⟩
theorem rq {l:List Oper} {i:Nat} {o:Oper} (h:l[i]?=some o) {d:Nat} (hd:d∈o.dst.toList):d∈dc l:=by
 induction l generalizing i with
 | nil=>simp at h
 | cons x r ih=>
  cases i with
  | zero=>simp at h; subst h; exact List.mem_append_left _ hd
  | succ i=>exact List.mem_append_right _ (ih (by simpa using h))
theorem As {C:FuncId→List AV→AV→Prop} {E:zT} {guards:List Nat} {s s':St} {o:Oper} {r0:ff} (hA:zU (ev s) (ev s') s.b s'.b o.op.operands.toList) (hX:Bo s s' (qi o.op)) (hP:Bp s s' (um o.op))
  (hE:∀ N I v es rd,r0 = .lent N I v es rd→∀ x∈rd,get s'.t x=get s.t x) (h:uS T C E guards s o fun r=>r=r0):uS T C E guards s' o fun r=>r=r0:=by
 unfold uS at h ⊢
 cases hem:rX guards o with
 | false=>rw [hem,cond_false] at h; exact Aq hA hX hP h
 | true=>
  rw [hem,cond_true] at h
  rw [cond_true]
  simp only [AV.go_eq,o4] at h ⊢
  unfold uf at h ⊢
  split at h
  ·rename_i call hop
   rw [hop] at hA hX
   split at h
   ·rename_i f hcal
    have hf:ev s' f=ev s f:=(hA f (by simp [Op.operands,Call.operands,hcal])).1
    have h1:∀ x∈call.args.toList,ev s' x=ev s x:=fun x hx=>(hA x (by simp [Op.operands,Call.operands]; exact .inr (by simpa using hx))).1
    have e1:(call.args.toList.map fun x=>(ev s' x).pubE)=call.args.toList.map fun x=>(ev s x).pubE:=List.map_congr_left fun x hx=>by rw [h1 x hx]
    have e2:call.args.toList.map (ev s')=call.args.toList.map (ev s):=List.map_congr_left h1
    simp only [hf,e1,e2]
    have fin:∀ (N I:List Nat) (L:List (Nat×AV)) (r:AV) (L':List (Nat×AV)),ff.lent N I r (xkL L') ((fy L).map xk)=r0→dE s (fy L)=some L→dE s' (fy L)=some L:=fun N I L r L' hK h1=>
     (mq fun k hk=>hE _ _ _ _ _ hK.symm (xk k) (List.mem_map_of_mem hk)).trans h1
    split at h
    ·obtain ⟨N,I,L,r,L',⟨h1,h2,h3⟩,hK⟩:=h
     exact ⟨N,I,L,r,L',⟨fin N I L r L' hK h1,h2,h3⟩,hK⟩
    ·obtain ⟨N,I,L,r,L',⟨h1,h2,h3⟩,hK⟩:=h
     exact ⟨N,I,L,r,L',⟨fin N I L r L' hK h1,h2,h3⟩,hK⟩
    ·exact h.elim
   ·exact h.elim
  ·exact h.elim
include hΓ hT in
theorem Ft {guards:List Nat} (hF:fm base all tr an) (hlen:tr.length=all.length) (hall:∀ j d,gX all j=some d→d<Γ.nt)
  (hst:∀ (i:Nat) (st:cn),tr[i]?=some st→all[i]?=some st.o∧okS T (ae Γ.P) (bD Γ.P) all guards st.s st.o st.r∧st.s=⟨tF (Wf tr) base.t (fun _=>true) i,tF (Bf tr) base.b (fun _=>true) i⟩)
  (hQ:∀ a w,Inv Γ ⟨tF (Wf tr) base.t (fun _=>true) tr.length,tF (Bf tr) base.b (fun _=>true) tr.length⟩ a w→NC w0 w→FT (dc all) a0 a→Q .normal a w) :
  ∀ (fuel:Nat) (listed:Array Bool) (a:Act) (w:World),listed.size=tr.length→cnt (fun i=>listed.getD i false) tr.length+fuel=tr.length →
   (∀ m st,tr[m]?=some st→listed.getD m false=true→∀ e∈aV st.o,listed.getD e false=true) →
   Inv Γ ⟨tF (Wf tr) base.t (fun i=>listed.getD i false) tr.length,tF (Bf tr) base.b (fun i=>listed.getD i false) tr.length⟩ a w→NC w0 w→FT (dc all) a0 a →
   wpAnyIn Γ.F Γ.n Γ.P .any all.toArray Q fuel listed a w:=by
 have hfull:∀ (listed:Array Bool) (a:Act) (w:World),(∀ i,i<tr.length→listed.getD i false=true) →
   Inv Γ ⟨tF (Wf tr) base.t (fun i=>listed.getD i false) tr.length,tF (Bf tr) base.b (fun i=>listed.getD i false) tr.length⟩ a w→NC w0 w→FT (dc all) a0 a→Q .normal a w:=by
  intro listed a w hM hI hN hP
  refine hQ a w (hI.less ⟨fun d x h=>?_,fun d x h _=>?_⟩) hN hP
  ·simp only at h ⊢
   rw [← h]; exact dC _ fun j hj _=>hM j hj
  ·simp only at h ⊢
   rw [← h]; exact dC _ fun j hj _=>hM j hj
 have hgd:∀ (listed:Array Bool) (i:Nat),listed.size=tr.length→i<tr.length→listed.getD i true=listed.getD i false:=by
  intro listed i h1 h2
  rw [Array.getD_eq_getD_getElem?,Array.getD_eq_getD_getElem?,Array.getElem?_eq_getElem (by omega)]
  rfl
 have hnone:∀ (listed:Array Bool),listed.size=tr.length→Region.ready .any all.toArray listed=[]→∀ i,i<tr.length→listed.getD i false=true:=by
  intro listed hsz hr i
  induction i using Nat.strongRecOn with
  | _ i ih=>
   intro hi
   cases hM:listed.getD i false with
   | true=>rfl
   | false=>
    exfalso
    have hsi:tr[i]?=some _:=List.getElem?_eq_getElem hi
    have:i∈Region.ready .any all.toArray listed:=by
     rw [mem_ready]
     refine ⟨by rw [hgd listed i hsz hi]; exact hM,_,by simpa using (hst i _ hsi).1,fun e he hb=>?_⟩
     have hlt:=hF.edge i _ hsi e.on (pH.2 ⟨e,he,hb,rfl⟩)
     exact ih e.on hlt (by omega)
    rw [hr] at this
    cases this
 intro fuel
 induction fuel with
 | zero=>
  intro listed a w hsz hc _ hI hN hP
  have hM:∀ i,i<tr.length→listed.getD i false=true:=Ce (M:=fun i=>listed.getD i false) tr.length (by rw [Nat.add_zero] at hc; exact hc)
  refine ⟨?_,hfull listed a w hM hI hN hP⟩
  rw [List.eq_nil_iff_forall_not_mem]
  intro i hi
  rw [mem_ready] at hi
  obtain ⟨h1,o,h2,_⟩:=hi
  have hlt:i<tr.length:=by
   rw [hlen]
   have:=(List.getElem?_eq_some_iff.1 (show all[i]?=some o by simpa using h2)).1
   exact this
  rw [hgd listed i hsz hlt] at h1
  rw [hM i hlt] at h1
  cases h1
 | succ fuel ih=>
  intro listed a w hsz hc hcl hI hN hP
  refine ⟨fun hr=>hfull listed a w (hnone listed hsz hr) hI hN hP,fun i hi=>?_⟩
  rw [mem_ready] at hi
  obtain ⟨h1,o,h2,h3⟩:=hi
  have h2:all[i]?=some o:=by simpa using h2
  have hlt:i<tr.length:=by
   rw [hlen]
   exact (List.getElem?_eq_some_iff.1 h2).1
  rw [hgd listed i hsz hlt] at h1
  have hsi:tr[i]?=some tr[i]:=List.getElem?_eq_getElem hlt
  generalize tr[i]=st at hsi
  obtain ⟨k1,k2,k3⟩:=hst i st hsi
  have hso:st.o=o:=by rw [h2] at k1; simpa using k1.symm
  have hr:∀ e∈aV st.o,listed.getD e false=true:=by
   intro e he
   obtain ⟨x,g1,g2,rfl⟩:=pH.1 he
   exact h3 x (hso ▸ g1) g2
  have hag:=hF.agree (M:=fun i=>listed.getD i false) hcl hsi hr h1 k3
  have hM':∀ j,(listed.setIfInBounds i true).getD j false=((fun i=>listed.getD i false) j||decide (j=i)):=by
   intro j
   simp only [Array.getD_eq_getD_getElem?,Array.getElem?_setIfInBounds]
   by_cases hj:i=j
   ·subst hj
    rw [if_pos rfl,if_pos (by omega)]
    simp
   ·rw [if_neg hj,decide_eq_false (by omega),Bool.or_false]
  have hle:=hF.step_le (M:=fun i=>listed.getD i false) (M':=fun j=>(listed.setIfInBounds i true).getD j false) hcl hsi hr h1 k3 hM'
  have hdst:∀ d,o.dst=some d→d<Γ.nt:=fun d hd=>hall i d (by rw [e9,h2]; exact hd)
  have hnext:∀ (s':St) (a':Act) (w':World),s'=cg ⟨tF (Wf tr) base.t (fun i=>listed.getD i false) tr.length,tF (Bf tr) base.b (fun i=>listed.getD i false) tr.length⟩ st.o.dst st.r →
    Inv Γ s' a' w'→NC w w'→(∃ v,a'=a.put o.dst v)→wpAnyIn Γ.F Γ.n Γ.P .any all.toArray Q fuel (listed.setIfInBounds i true) a' w':=by
   intro s' a' w' hs' hI' hN' hP'
   subst hs'
   refine ih _ a' w' (by simpa using hsz) ?_ ?_ (hI'.less hle) (hN.trans hN') (hP.trans ((FT.put hP').mono fun d hd=>rq h2 hd))
   ·rw [Cd (M:=fun i=>listed.getD i false) h1 hM' tr.length hlt]; omega
   ·intro m stm hm hMm e he
    rw [hM'] at hMm ⊢
    rw [Bool.or_eq_true] at hMm ⊢
    left
    rcases hMm with h | h
    ·exact hcl m stm hm h e he
    ·have hmi:m=i:=of_decide_eq_true h
     subst hmi
     rw [hsi] at hm
     cases hm
     exact hr e he
  rw [wpOpIn,show all.toArray[i]?=some o by simpa using h2]
  simp only
  have hwe:=hag.2
  rw [hso] at hwe
  rcases k2 with ⟨hw,hop⟩ | ⟨hw,hrv⟩
  ·rw [hso] at hw hop
   rw [db hall hI 0 (by rw [hwe]; exact hw) (by omega)]
   simp only [beq_self_eq_true,if_true]
   have hag1:=hag.1
   rw [hso] at hag1
   have hagX:=hF.agreeX (M:=fun i=>listed.getD i false) hcl hsi hr h1 k3
   rw [hso] at hagX
   have hagP:=hF.agreeP (M:=fun i=>listed.getD i false) hcl hsi hr h1 k3
   rw [hso] at hagP
   refine Ar hΓ hT hI hdst (hF.arrT _) (As hag1 hagX hagP (fun N I v es rd hlr x hx=>?_) hop) ?_
   ·exact hF.agree_t (M:=fun i=>listed.getD i false) hcl hsi hr h1 k3 (List.mem_append_right _ (by rw [hlr]; exact List.mem_append_right _ hx))
   rintro s' a' w' ⟨r,rfl,hs'⟩ hI' hN' hP'
   exact hnext s' a' w' (by rw [hso]; exact hs') hI' hN' hP'
  ·rw [hso] at hw
   rw [db hall hI 1 (by rw [hwe]; exact hw) (by omega)]
   simp only [Nat.reduceBEq,Bool.false_eq_true,if_false]
   refine ⟨fun f _=>hΓ.fn f,?_⟩
   obtain ⟨s2,hK2,hI2⟩:=gN (K:=fun s'=>s'=cg ⟨tF (Wf tr) base.t (fun i=>listed.getD i false) tr.length,tF (Bf tr) base.b (fun i=>listed.getD i false) tr.length⟩ st.o.dst st.r) hI hdst (by
    rw [← hso]; exact dy (by rw [hrv]))
   exact hnext s2 _ w hK2 hI2 (.refl w) ⟨_,rfl⟩
theorem RC.unloc' {c:Ctx} {x:AV} {v:Value} (h:RC c x v) (d:Nat):RC c (x.unloc d) v:=by
 cases x with
 | loc d' off=>
  simp only [AV.unloc]
  cases Nat.beq d d' with
  | true=>exact RD.junk v
  | false=>exact h
 | _=>exact h
theorem Inv.unlocMany {s:St} {a:Act} {w:World} (hI:Inv Γ s a w):∀ (ds:List Nat),Inv Γ ⟨Go.AI.unlocMany ds s.t,s.b⟩ a w:=by
 intro ds
 induction ds generalizing s with
 | nil=>exact hI
 | cons d r ih=>
  refine ih (s:=⟨unloc d s.t,s.b⟩) ?_
  obtain ⟨⟨c,hW,ht⟩,h2,h3,h4⟩:=hI
  refine ⟨⟨c,hW,fun k x hx=>?_⟩,h2,h3,h4⟩
  simp only at hx
  rw [show get (unloc d s.t) k=(get s.t k).map (AV.unloc d) from by unfold unloc; rw [jJ]; exact gn (fun (_:Nat) (v:AV)=>v.unloc d) s.t k] at hx
  obtain ⟨u,hu,rfl⟩:=Option.map_eq_some_iff.1 hx
  exact (ht k u hu).unloc' d
include hΓ hT in
theorem ms {kc keep:List Nat} {s:St} {K:St→Prop} {a:Act} {w:World} {id:Nat} (hall:∀ j d,gX all j=some d→d<Γ.nt) (h:lK T (ae Γ.P) (bD Γ.P) kc keep all s K) (hI:Inv Γ s a w)
  (hQ:∀ s' s'' a' w',fQ keep s' K→s'=s''→Inv Γ s' a' w'→NC w w'→FT (dc all) a a'→Q .normal a' w'):(Code.region id all.toArray true).wpIn Γ.F Γ.n Γ.P Q a w:=by
 obtain ⟨t,b⟩:=s
 simp only [lK,o4] at h
 obtain ⟨tr,s',hC,hchk,hK⟩:=oK T (ae Γ.P) (bD Γ.P) all [] _ h
 rw [List.append_nil,List.reverse_reverse] at hchk
 obtain ⟨g1,g2,g3⟩:=uC.all T (ae Γ.P) (bD Γ.P) hC
 obtain ⟨an,hF⟩:=Dl hchk
 refine wpIn_region_any hΓ.mixed ?_
 have hI1:=(hI.drew).unlocMany (lL all)
 have hz:∀ i,(Array.replicate all.length false).getD i false=false:=by
  intro i
  rw [Array.getD_eq_getD_getElem?,Array.getElem?_replicate]
  split <;> rfl
 have hz2:∀ {α:Type} (E:Nat→List (Nat×α)) (b:List (Nat×α)) n,tF E b (fun i=>(Array.replicate all.length false).getD i false) n=b:=by
  intro α E b n
  induction n with
  | zero=>rfl
  | succ n ih=>simp only [tF]; rw [hz n,cond_false]; exact ih
 have hz3:∀ n,cnt (fun i=>(Array.replicate all.length false).getD i false) n=0:=by
  intro n
  induction n with
  | zero=>rfl
  | succ n ih=>simp only [cnt]; rw [hz n,ih]; rfl
 refine Ft hΓ hT (w0:=w) (a0:=a) hF g1 hall g2 (fun a' w' hI' hN' hP'=>?_) _ _ a _ (by simp [g1]) ?_ ?_ ?_ ⟨Nat.le_refl _,fun _ _ h _=>h,.drew _,fun _ h=>h⟩ (.refl _ a)
 ·rw [g1,← g3] at hI'
  exact hQ s' s' a' w' hK rfl hI' hN' hP'
 ·simp only [List.size_toArray]
  rw [hz3,g1]; omega
 ·intro m st _ hm
  simp only [List.size_toArray] at hm
  rw [hz m] at hm
  cases hm
 ·simp only [List.size_toArray]
  rw [hz2,hz2]
  exact hI1
end
end Go.AI
namespace Go.AI
open Go
open Go.RowKit (Below)
def EU (nt:Nat) (o:Oper):Bool:=match o.dst with | some d=>Nat.blt d nt | none=>true
def bt (nt:Nat):Code→Bool
 | .region _ ops _=>ops.toList.all (EU nt)
 | .seq a b=>bt nt a&&bt nt b
 | .cond _ a b=>bt nt a&&bt nt b
 | .block _ c=>bt nt c
 | _=>true
def awp (Γ:aH) (T:Tab) (keep:List Nat):Code→St→(Exit→St→Prop)→Prop
 | .skip,s,K=>K .normal s
 | .label _,s,K=>K .normal s
 | .ret,s,K=>K .ret s
 | .exit j,s,K=>K (.exit j) s
 | .seq a b,s,K=>awp Γ T keep a s fun e s=>match e with
  | .normal=>awp Γ T keep b s K
  | e=>K e s
 | .cond c a b,s,K=>match ev s c with
  | .bool t=>(t=true→awp Γ T keep a s K)∧(t=false→awp Γ T keep b s K)
  | _=>False
 | .block id c,s,K=>awp Γ T keep c s fun e s=>match e with
  | .exit j=>bif Nat.beq j id then K .normal s else K (.exit j) s
  | e=>K e s
 | .region _ ops false,s,K=>fB T (ae Γ.P) (bD Γ.P) ops.toList (bI ops.toList ops.toList) ops.toList s fun s=>fQ keep s (K .normal)
 | .region _ ops true,s,K=>lK T (ae Γ.P) (bD Γ.P) [] keep ops.toList s (K .normal)
 | c,s,K=>SP Γ s c K
theorem E0 {l:List Nat} {k d:Nat} (h:k∈CH l d):k∈l:=by
 induction l with
 | nil=>simp [CH] at h
 | cons e r ih=>
  simp only [CH] at h
  cases hb:Nat.beq e d with
  | true=>rw [hb] at h; exact List.mem_cons_of_mem _ h
  | false=>
   rw [hb,cond_false,List.mem_cons] at h
   rcases h with rfl | h
   ·exact List.mem_cons_self
   ·exact List.mem_cons_of_mem _ (ih h)
theorem Dc:∀ {t:List (Nat×AV)} {keep:List Nat} {d:Nat} {x:AV},get (rI keep t) d=some x→d∈keep∧get t d=some x:=by
 intro t
 induction t with
 | nil=>intro keep d x h; simp [rI,get] at h
 | cons p r ih=>
  obtain ⟨k,v⟩:=p
  intro keep d x h
  simp only [rI] at h
  cases hm:bX keep k with
  | true=>
   rw [hm] at h
   simp only [cond_true] at h
   rw [ak] at h ⊢
   split at h
   ·rename_i hk; rw [if_pos hk]; subst hk; exact ⟨ba.1 hm,h⟩
   ·rename_i hk; rw [if_neg hk]; exact ⟨E0 (ih h).1,(ih h).2⟩
  | false=>
   rw [hm] at h
   simp only [cond_false] at h
   rw [ak,if_neg]
   ·exact ih h
   ·rintro rfl
    rw [ba.2 (ih h).1] at hm
    cases hm
theorem Dd:∀ {t:List (Nat×List AV)} {seen:List Nat} {d:Nat} {x:List AV},get (rK seen t) d=some x→d ∉ seen∧get t d=some x:=by
 intro t
 induction t with
 | nil=>intro keep d x h; simp [rK,get] at h
 | cons p r ih=>
  obtain ⟨k,v⟩:=p
  intro seen d x h
  simp only [rK] at h
  cases hm:bX seen k with
  | false=>
   rw [hm] at h
   simp only [cond_false] at h
   rw [ak] at h ⊢
   split at h
   ·rename_i hk; rw [if_pos hk]; subst hk; exact ⟨fun hc=>absurd (ba.2 hc) (by rw [hm]; exact Bool.false_ne_true),h⟩
   ·rename_i hk; rw [if_neg hk]; exact ⟨fun hc=>(ih h).1 (List.mem_cons_of_mem _ hc),(ih h).2⟩
  | true=>
   rw [hm] at h
   simp only [cond_true] at h
   rw [ak,if_neg]
   ·exact ih h
   ·rintro rfl
    exact (ih h).1 (ba.1 hm)
theorem dA {keep:List Nat} {s:St} {K:St→Prop} (h:fQ keep s K):∃ s',K s'∧s.le s':=by
 obtain ⟨t,b⟩:=s
 simp only [fQ,AL,oZ,o0] at h
 exact ⟨_,h,fun d x hx=>(Dc hx).2,fun d cs hc _=>(Dd hc).2⟩
theorem SP.mono {Γ:aH} {s:St} {c:Code} {K K':Exit→St→Prop} (h:SP Γ s c K) (hk:∀ e s,K e s→K' e s):SP Γ s c K':=
 fun a w hI=>wpIn_mono (h a w hI) fun e _ _ ⟨hn,hp,s',hs,hK⟩=>⟨hn,hp,s',hs,hk e s' hK⟩
theorem SP.seq {Γ:aH} {s:St} {a b:Code} {K K1:Exit→St→Prop} (h:SP Γ s a K1) (hn:∀ s,K1 .normal s→SP Γ s b K) (he:∀ e s,e≠.normal→K1 e s→K e s):SP Γ s (.seq a b) K:=by
 intro a0 w hI
 refine wpIn_seq (wpIn_mono (h a0 w hI) fun e a' w' hq=>?_)
 obtain ⟨hN,hp,s',hI',hK⟩:=hq
 replace hp:FT (wrs (.seq a b)) a0 a':=hp.mono fun d hd=>List.mem_append_left _ hd
 cases e with
 | normal=>exact wpIn_mono (hn s' hK a' w' hI') fun e _ _ ⟨n2,p2,s2,h2,k2⟩=>⟨hN.trans n2,hp.trans (p2.mono fun d hd=>List.mem_append_right _ hd),s2,h2,k2⟩
 | exit id=>exact ⟨hN,hp,s',hI',he _ _ (by intro h; cases h) hK⟩
 | goto l=>exact ⟨hN,hp,s',hI',he _ _ (by intro h; cases h) hK⟩
 | ret=>exact ⟨hN,hp,s',hI',he _ _ (by intro h; cases h) hK⟩
 | panic c=>exact ⟨hN,hp,s',hI',he _ _ (by intro h; cases h) hK⟩
 | outgrown=>exact ⟨hN,hp,s',hI',he _ _ (by intro h; cases h) hK⟩
theorem di {nt:Nat} {l:List Oper} (h:l.all (EU nt)=true):∀ j d,gX l j=some d→d<nt:=by
 intro j d hd
 rw [e9] at hd
 cases hj:l[j]? with
 | none=>rw [hj] at hd; cases hd
 | some o=>
  rw [hj] at hd
  have:=List.all_eq_true.1 h o (List.mem_of_getElem? hj)
  unfold EU at this
  rw [show o.dst=some d from hd] at this
  have:=Nat.le_of_ble_eq_true this
  omega
section
variable {Γ:aH} (hΓ:Γ.OK) {T:Tab} (hT:T.OK Γ.P) {keep:List Nat}
theorem SP.pure {s:St} {c:Code} {K:Exit→St→Prop} {e:Exit} (hc:∀ {F:Fence} {n:Nat} {P:Program} {Q:Exit→Act→World→Prop} {a:Act} {w:World},Q e a w→c.wpIn F n P Q a w) (h:K e s):SP Γ s c K:=
 fun a w hI=>hc ⟨.refl w,.refl _ a,s,hI,h⟩
include hΓ hT in
theorem gF:∀ (c:Code) (s:St) (K:Exit→St→Prop),bt Γ.nt c=true→awp Γ T keep c s K→SP Γ s c K
 | .skip,s,K,_,h=>SP.pure wpIn_skip h
 | .label _,s,K,_,h=>SP.pure wpIn_label h
 | .ret,s,K,_,h=>SP.pure wpIn_ret h
 | .exit j,s,K,_,h=>SP.pure wpIn_exit h
 | .seq a b,s,K,ho,h=>by
  simp only [bt,Bool.and_eq_true] at ho
  refine SP.seq (gF a s _ ho.1 h) (fun s' h'=>gF b s' K ho.2 h') (fun e s' he h'=>?_)
  cases e <;> first | exact absurd rfl he | exact h'
 | .cond c x y,s,K,ho,h=>by
  simp only [bt,Bool.and_eq_true] at ho
  intro a w hI
  simp only [awp] at h
  split at h
  ·rename_i t ht
   obtain ⟨cx,hW,htm⟩:=hI.ex
   have he:RC cx (.bool t) (a.eval c):=by
    have:=aB htm c
    rwa [ht] at this
   exact wpIn_cond_split he.bool (fun g=>wpIn_mono (gF x s K ho.1 (h.1 g) a w hI) fun _ _ _ ⟨h1,h2,h3⟩=>⟨h1,h2.mono fun d hd=>List.mem_append_left _ hd,h3⟩)
    (fun g=>wpIn_mono (gF y s K ho.2 (h.2 g) a w hI) fun _ _ _ ⟨h1,h2,h3⟩=>⟨h1,h2.mono fun d hd=>List.mem_append_right _ hd,h3⟩)
  ·exact h.elim
 | .block id c,s,K,ho,h=>by
  intro a w hI
  refine wpIn_block (wpIn_mono (gF c s _ (by simpa [bt] using ho) h a w hI) fun e a' w' hq=>?_)
  obtain ⟨hN,hp,s',hI',hK⟩:=hq
  cases e with
  | exit j=>
   simp only at hK
   unfold Exit.inBlock
   cases hb:Nat.beq j id with
   | true=>rw [hb] at hK; simp only [Nat.eq_of_beq_eq_true hb,if_true]; exact ⟨hN,hp,s',hI',hK⟩
   | false=>rw [hb] at hK; simp only [Nat.ne_of_beq_eq_false hb,if_false]; exact ⟨hN,hp,s',hI',hK⟩
  | normal=>exact ⟨hN,hp,s',hI',hK⟩
  | goto l=>exact ⟨hN,hp,s',hI',hK⟩
  | ret=>exact ⟨hN,hp,s',hI',hK⟩
  | panic c=>exact ⟨hN,hp,s',hI',hK⟩
  | outgrown=>exact ⟨hN,hp,s',hI',hK⟩
 | .region id ops false,s,K,ho,h=>by
  intro a w hI
  obtain ⟨l⟩:=ops
  refine wpIn_region ?_
  rw [show (⟨l⟩:Array Oper).size=l.length from rfl,List.range_eq_range']
  refine gt hΓ hT (di ho) l 0 s a w _ (fun j=>by simp) h hI ?_
  intro s' a' w' hK hI' hN hP
  obtain ⟨s2,h2,hle⟩:=dA hK
  exact ⟨hN,hP,s2,hI'.less hle,h2⟩
 | .region id ops true,s,K,ho,h=>by
  intro a w hI
  obtain ⟨l⟩:=ops
  refine ms hΓ hT (di ho) h hI ?_
  intro s' _ a' w' hK _ hI' hN hP
  obtain ⟨s2,h2,hle⟩:=dA hK
  exact ⟨hN,hP,s2,hI'.less hle,h2⟩
 | .loop c,s,K,_,h=>h
 | .rangeFunc _ _ _ _,s,K,_,h=>h
 | .scope c,s,K,_,h=>h
 | .goto _,s,K,_,h=>h
 | .refuse _,s,K,_,h=>h
end
end Go.AI
namespace Go.AI
open Go
open Go.RowKit (Below)
theorem SP.loop {Γ:aH} {s:St} {c:Code} {K:Exit→St→Prop} {X:Type} (sh:X→St) (I:X→Prop) (μ:X→Nat) (x0:X) (h0:I x0) (hle:s.le (sh x0))
  (body:∀ x,I x→SP Γ (sh x) c fun e s'=>match e with | .normal=>∃ x',I x'∧μ x'<μ x∧s'.le (sh x') | e=>K e s'):SP Γ s (.loop c) K:=by
 intro a0 w hI
 have key:∀ (m:Nat) (x:X) (a:Act) (w1:World),I x→μ x<m→Inv Γ (sh x) a w1→NC w w1→FT (wrs c) a0 a →
   Code.roundsIn Γ.F Γ.n Γ.P c (fun e a' w'=>NC w w'∧FT (wrs c) a0 a'∧∃ s',Inv Γ s' a' w'∧K e s') m a w1:=by
  intro m
  induction m with
  | zero=>intro x a w1 _ hm; omega
  | succ m ih=>
   intro x a w1 hx hm hI1 hN hP
   rw [roundsIn_succ]
   refine wpIn_mono (body x hx a w1 hI1) fun e a' w' hq=>?_
   obtain ⟨hN',hP',s',hI',hK⟩:=hq
   cases e with
   | normal=>
    obtain ⟨x',g1,g2,g3⟩:=hK
    exact ih x' a' w' g1 (by omega) (hI'.less g3) (hN.trans hN') (hP.trans hP')
   | exit id=>exact ⟨hN.trans hN',hP.trans hP',s',hI',hK⟩
   | goto l=>exact ⟨hN.trans hN',hP.trans hP',s',hI',hK⟩
   | ret=>exact ⟨hN.trans hN',hP.trans hP',s',hI',hK⟩
   | panic c=>exact ⟨hN.trans hN',hP.trans hP',s',hI',hK⟩
   | outgrown=>exact ⟨hN.trans hN',hP.trans hP',s',hI',hK⟩
 exact wpIn_loop_rounds (μ x0+1) (key _ x0 a0 w h0 (by omega) (hI.less hle) (.refl w) (.refl _ a0))
def AV.weak (x r:AV):Prop:=∀ m v,RD m x v→RD m r v
theorem AV.weak.refl (x:AV):x.weak x:=fun _ _ h=>h
theorem ac {x r:AV} (h:x=r):x.weak r:=h ▸ .refl x
def xj (T:Tab) (s:St):ResultVar→Option AV
 | .tmp t=>get s.t t
 | .cell a t=>match get T t,get s.t a with
  | some i,some (.loc d off)=>match get s.b d with
   | some cs=>dz i (cs.drop off)
   | none=>none
  | _,_=>none
def kH (T:Tab) (s:St):List ResultVar→Option (List AV)
 | []=>some []
 | x::r=>match xj T s x,kH T s r with
  | some v,some l=>some (v.pub::l)
  | _,_=>none
def Cr (T:Tab) (rs:List ResultVar) (s:St) (r:AV):Prop:=match rs with
 | [x]=>match xj T s x with | some v=>v.pub.weak r | none=>False
 | rs=>match kH T s rs with | some vs=>(AV.tup vs).weak r | none=>False
structure Ends (T:Tab) (rs:List ResultVar) (r:AV) (e:Exit) (s:St):Prop where
 ex:e = .ret∨e = .normal
 ok:Cr T rs s r
section
variable {Γ:aH} {T:Tab} (hT:T.OK Γ.P)
def qU (tmps:Array Value):ResultVar→Sem Value
 | .tmp t=>pure (tmps.getD t undef)
 | .cell a t=>do loadVar t (← asAddr (tmps.getD a undef))
include hT in
theorem mI {s:St} {a:Act} {w:World} {c:Ctx} (hW:WI Γ c s.b w) (ht:∀ d x,get s.t d=some x→RC c x (a.tmps.getD d Go.undef)) {x:ResultVar} {v:AV} (h:xj T s x=some v) :
  ∃ u,(qU a.tmps x).run Γ.P w = .ok u w∧RC c v u:=by
 cases x with
 | tmp t=>exact ⟨_,rfl,ht t v h⟩
 | cell b t=>
  simp only [xj] at h
  split at h
  ·rename_i i d off hi hb
   split at h
   ·rename_i cs hcs
    obtain ⟨vals,g1,g2,g3,g4⟩:=uk hW hcs off
    obtain ⟨u,hu1,hu2⟩:=eF hT hi g1 g2 g3 g4 h
    refine ⟨u,?_,hu2⟩
    have:=(ht b _ hb).loc
    simp only [qU,Sem.run_bind,this,asAddr,Sem.run_pure,Result.andThen_ok,hu1]
   ·cases h
  ·cases h
include hT in
theorem pD {s:St} {a:Act} {w:World} {c:Ctx} (hW:WI Γ c s.b w) (ht:∀ d x,get s.t d=some x→RC c x (a.tmps.getD d Go.undef)):∀ {l:List ResultVar} {vs:List AV},kH T s l=some vs →
  ∃ us:List Value,(l.mapM (qU a.tmps)).run Γ.P w = .ok us w∧vs.length=us.length∧∀ (i:Nat) (x:AV) (u:Value),vs[i]?=some x→us[i]?=some u→RD c.m x u
 | [],vs,h=>by
  simp only [kH,Option.some.injEq] at h
  subst h
  exact ⟨[],by simp,rfl,by simp⟩
 | x::r,vs,h=>by
  simp only [kH] at h
  split at h
  ·rename_i v l hv hl
   simp only [Option.some.injEq] at h
   subst h
   obtain ⟨u,hu1,hu2⟩:=mI hT hW ht hv
   obtain ⟨us,h1,h2,h3⟩:=pD hW ht hl
   refine ⟨u::us,by simp [List.mapM_cons,Sem.run_bind,hu1,Result.andThen_ok,h1],by simp [h2],fun i y z g1 g2=>?_⟩
   cases i with
   | zero=>simp at g1 g2; subst g1; subst g2; exact hu2.pub
   | succ i=>simp at g1 g2; exact h3 i y z g1 g2
  ·cases h
theorem ma {s:St}:∀ {l:List ResultVar} {vs:List AV},kH T s l=some vs→l.length=vs.length
 | [],vs,h=>by
  simp only [kH,Option.some.injEq] at h
  subst h
  rfl
 | x::r,vs,h=>by
  simp only [kH] at h
  split at h
  ·rename_i v l hv hl
   simp only [Option.some.injEq] at h
   subst h
   simp [ma hl]
  ·cases h
include hT in
theorem jZ {s:St} {a:Act} {w:World} {c:Ctx} {fn:Func} {r:AV} (hW:WI Γ c s.b w) (ht:∀ d x,get s.t d=some x→RC c x (a.tmps.getD d Go.undef)) (h:Cr T fn.results.toList s r) :
  ∃ v,(results fn a.tmps).run Γ.P w = .ok v w∧RD c.m r v:=by
 have e:results fn a.tmps=(do let vs ← fn.results.toList.mapM (qU a.tmps); pure (if h:vs.toArray.size=1 then vs.toArray[0] else .tuple vs.toArray)):=by
  unfold results
  rw [Array.mapM_eq_mapM_toList]
  simp only [bind_map_left]
  congr 2
 rw [e]
 unfold Cr at h
 split at h
 ·rename_i x hx
  split at h
  ·rename_i v hv
   obtain ⟨u,hu1,hu2⟩:=mI hT hW ht hv
   refine ⟨u,?_,h _ _ hu2.pub⟩
   rw [hx]
   simp [List.mapM_cons,Sem.run_bind,hu1,Result.andThen_ok]
  ·exact h.elim
 ·rename_i rs hne
  split at h
  ·rename_i vs hvs
   obtain ⟨us,h1,h2,h3⟩:=pD hT hW ht hvs
   have hlen:us.length≠1:=by
    intro hl
    have hrl:=ma hvs
    rw [h2,hl] at hrl
    obtain ⟨x,hx⟩:=List.length_eq_one_iff.1 hrl
    exact hne x hx
   refine ⟨.tuple us.toArray,?_,h _ _ (.tup _ _ (by simp [h2]) fun i x u g1 g2=>h3 i x u g1 (by simpa using g2))⟩
   simp [Sem.run_bind,h1,Result.andThen_ok,hlen]
  ·exact h.elim
end
def params:Nat→List AV→List (Nat×AV)
 | _,[]=>[]
 | n,x::r=>(n,x)::params (n+1) r
theorem eG:∀ (l:List AV) (n k:Nat) (x:AV),get (params n l) k=some x→n≤k∧l[k - n]?=some x
 | [],n,k,x,h=>by simp [params,get] at h
 | y::r,n,k,x,h=>by
  simp only [params] at h
  rw [ak] at h
  split at h
  ·rename_i hk; subst hk; simp only [Option.some.injEq] at h; subst h; exact ⟨Nat.le_refl _,by simp⟩
  ·have:=eG r (n+1) k x h
   refine ⟨by omega,?_⟩
   rw [show k - n=(k - (n+1))+1 from by omega]
   simpa using this.2
theorem nN {F:Fence} {n:Nat} {P:Program} {fn:Func} {tmps:Array Value} {R:Ending→World→Prop} {B:Nat} {w0:World} {m:Mem} :
  ∀ (Ds:List Nat) (w:World),Below B w0 w→m.sub w→Ds.Nodup→(∀ D∈Ds,w.heap[D]?=some (.deferred (some []))∧B≤D) →
  (∀ w',Below B w0 w'→m.sub w'→(∀ (k:Nat) (o:Obj),w.heap[k]?=some o→nD o=true→w'.heap[k]?=some o)→dU w w'→∃ v,(results fn tmps).run P w' = .ok v w'∧R (.returned v) w') →
  LeavesInM F n P fn tmps R (kc Ds) .returning w
 | [],w,hb,hs,_,_,h=>h w hb hs (fun _ _ h _=>h) (.refl w)
 | D::Ds,w,hb,hs,hnd,hD,h=>by
  obtain ⟨hD1,hD2⟩:=hD D List.mem_cons_self
  have hne:∀ (k:Nat) (o:Obj),w.heap[k]?=some o→nD o=true→k≠D:=by
   rintro k o h1 h2 rfl
   rw [hD1] at h1; cases h1; cases h2
  have hsame:∀ k,k≠D→(w.putObj D (.deferred none)).heap[k]?=w.heap[k]?:=fun k hk=>World.putObj_heap_other hk
  have hsub:m.sub (w.putObj D (.deferred none)):=by
   refine ⟨fun b o v hv=>?_,fun b x hx=>?_⟩
   ·have:=hs.cell b o v hv
    simp only [World.cell?] at this ⊢
    rw [hsame b ?_]
    ·exact this
    ·rintro rfl
     rw [hD1] at this
     cases this
   ·have:=hs.map b x hx
    rw [hsame b ?_]
    ·exact this
    ·rintro rfl
     rw [hD1] at this
     cases this
  refine ⟨(fun h=>nomatch h),.inl ⟨D,_,rfl,run_takeDeferred hD1,nN Ds _ ?_ hsub (List.nodup_cons.1 hnd).2 (fun E hE=>?_) (fun w' h1 h2 h3 h4=>h w' h1 h2 (fun k o g1 g2=>h3 k o ?_ g2) ((dU.putObj w D (o := .deferred none) (fun _ _ _ h=>nomatch h)).trans h4))⟩⟩
  ·exact hb.trans ⟨rfl,rfl,rfl,by simp [World.putObj],fun k hk=>hsame k (by omega)⟩
  ·have:=hD E (List.mem_cons_of_mem _ hE)
   rw [hsame E (by rintro rfl; exact (List.nodup_cons.1 hnd).1 hE)]
   exact this
  ·rw [hsame k (hne k o g1 g2)]; exact g1
theorem dm.toBelow {w w':World} (h:dm w w') (hN:NC w w'):Below w.heap.size w w':=⟨h.os,h.tape,h.output,h.size,fun k hk=>by
 by_cases hf:free w k
 ·rcases hf with hf | hf
  ·omega
  ·rw [hf]; exact hN.same k _ hf rfl
 ·exact h.block k hf⟩
theorem dm.ofBelow {w w':World} (h:Below w.heap.size w w'):dm w w':=⟨h.os,h.tape,h.output,h.size,fun k hk=>h.block k (not_free hk)⟩
theorem Mem.News.unfree {m m':Mem} {w w':World} (h:m.News (free w) m' w') (hs:m'.sub w') (hN:NC w w'):m.News (w.heap.size≤·) m' w':=by
 refine ⟨fun b o v hb=>?_,fun b x hb=>?_⟩
 ·rcases h.cell b o v hb with h | ⟨hf | hf,h2⟩
  ·exact .inl h
  ·exact .inr ⟨hf,h2⟩
  ·obtain ⟨c,T,h3⟩:=h2
   rw [hN.same b _ hf rfl] at h3; cases h3
 ·rcases h.map b x hb with h | hf | hf
  ·exact .inl h
  ·exact .inr hf
  ·have h3:=hs.map b x hb
   rw [hN.same b _ hf rfl] at h3; cases h3
theorem WI.init {Γ:aH} {m:Mem} (hs:m.sub Γ.w0) (hm:Γ.m0=m):WI Γ ⟨fun _=>0,fun _ => .slice none 0 0,fun _=>0,m,fun _=>none,fun _=>(0,0)⟩ [] Γ.w0 where
 ext := .refl _
 sub:=hs
 le0:=by rw [hm]; exact .refl _
 new:=⟨fun b o v h => .inl (by rw [hm]; exact h),fun b x h => .inl (by rw [hm]; exact h)⟩
 box:=fun d cs h=>by simp [get] at h
 inj:=fun d d' cs cs' h=>by simp [get] at h
 own:=fun k=>⟨fun g hg=>by simp [aU,iC] at hg,.inl rfl,fun g d cs hg=>by simp [aU,iC] at hg,fun g j hg=>by simp [aU,iC] at hg⟩
 xo:=fun k b o h=>by cases h
theorem WI.keep {Γ:aH} {c:Ctx} {bx:List (Nat×List AV)} {w w':World} (hW:WI Γ c bx w) (hb:dm Γ.w0 w') (hs:c.m.sub w') (hc:∀ (k:Nat) (o:Obj),w.heap[k]?=some o→nD o=true→w'.heap[k]?=some o):WI Γ c bx w' where
 ext:=hb
 sub:=hs
 le0:=hW.le0
 new:=hW.new.keep fun _ ⟨c,T,h⟩=>⟨c,T,hc _ _ h rfl⟩
 box:=fun d cs hd hne=>by
  obtain ⟨h1,h2,h3,vs,U,h4,h5,h6⟩:=hW.box d cs hd hne
  exact ⟨h1,h2,h3,vs,U,hc _ _ h4 rfl,h5,h6⟩
 inj:=hW.inj
 own:=fun k=>⟨fun g hg=>by
  obtain ⟨len,cap,U,cells,h1,h2,h3⟩:=(hW.own k).blk g hg
  exact ⟨len,cap,U,cells,h1,hc _ _ h2 rfl,h3⟩,(hW.own k).shape,(hW.own k).box,(hW.own k).apart⟩
 xo:=fun k b o h=>⟨(hW.xo k b o h).new,hc _ _ (hW.xo k b o h).obj (hW.xo k b o h).kept,(hW.xo k b o h).kept,(hW.xo k b o h).mem,(hW.xo k b o h).map,(hW.xo k b o h).box,(hW.xo k b o h).own,(hW.xo k b o h).inj⟩
structure eJ (P:Program) (f:FuncId) (args:List AV) (R:AV→Prop):Prop where
 enters:∀ (args:Array Value) (w:World),(callFunc f args).run P w = .ok (.enter f args) w
 runs:∀ (m:Mem) (w:World) (vs:List Value),m.sub w→args.length=vs.length→(∀ (i:Nat) (x:AV) (v:Value),args[i]?=some x→vs[i]?=some v→RD m x v) →
  Calls P f vs.toArray w fun e w'=>∃ r,R r∧∃ v m',e = .returned v∧RD m' r v∧m.le m'∧Mem.sub m' w'∧RowKit.Below w.heap.size w w'∧m.News (w.heap.size≤·) m' w'∧dU w w'
theorem eJ.one {P:Program} {f:FuncId} {args:List AV} {r:AV} (h:eJ P f args (·=r)):ae P f args r:=
 ⟨h.enters,fun m w vs h1 h2 h3=>(h.runs m w vs h1 h2 h3).mono fun _ _ ⟨_,e,h⟩=>e ▸ h⟩
theorem eJ.ofSP {P:Program} {T:Tab} (hT:T.OK P) {f:FuncId} {fn:Func} {body:Code} {args:List AV} {R:AV→Prop} (hf:P.funcs[f]?=some fn) (hb:fn.body=some body)
  (hname:(fn.name == "runtime.NumGoroutine")=false) (hm:P.follows .mixedOrders=true) (hn:args.length≤fn.ntmps)
  (h:∀ (F:Fence) (n:Nat) (w0:World) (m0:Mem),aH.OK ⟨P,F,n,w0,m0,fn.ntmps⟩→F.round=none→1≤n→SP ⟨P,F,n,w0,m0,fn.ntmps⟩ ⟨params 0 args,[]⟩ body (fun e s=>∃ r,R r∧Ends T fn.results.toList r e s)):eJ P f args R:=by
 refine ⟨Go.Proofs.enters_of hf hname hb,fun m w vs hs hlen hr=>?_⟩
 have hG:aH.OK ⟨P,Fence.wide,1,w,m,fn.ntmps⟩:=⟨fun _=>trivial,rfl,rfl,hm⟩
 refine callsIn_wide.1 (callsIn_of_wp_marks (n:=1) hf hb trivial ?_)
 have hp:=h Fence.wide 1 w m hG rfl (Nat.le_refl _)
 refine wpIn_mono (hp _ w ⟨⟨_,WI.init (Γ:=⟨P,Fence.wide,1,w,m,fn.ntmps⟩) hs rfl,fun d x hx=>?_⟩,by simp; omega,⟨[],rfl,List.nodup_nil,by simp⟩,fun _ h=>nomatch h⟩) ?_
 ·obtain ⟨_,h2⟩:=eG _ _ _ _ hx
  simp only [Nat.sub_zero] at h2
  have hdl:d<args.length:=(List.getElem?_eq_some_iff.1 h2).1
  refine RC.of_RD (c:=⟨_,_,_,m,_,_⟩) (hr d x _ h2 ?_)
  rw [Array.getD_eq_getD_getElem?,Array.getElem?_append_left (by simp; omega)]
  simp [List.getElem?_eq_getElem (show d<vs.length by omega)]
 ·intro e a w' ⟨hN,_,s',hI,⟨r,hr0,⟨he,hR⟩⟩⟩
  have hpost:LeavesInM Fence.wide 1 P fn a.tmps (fun e w'=>∃ r,R r∧∃ v m',e = .returned v∧RD m' r v∧m.le m'∧Mem.sub m' w'∧RowKit.Below w.heap.size w w'∧m.News (w.heap.size≤·) m' w'∧dU w w') a.defers .returning w':=by
   obtain ⟨⟨c,hW,ht⟩,_,⟨Ds,hD1,hD2,hD3⟩,_⟩:=hI
   rw [hD1]
   refine nN Ds w' (hW.ext.toBelow hN) hW.sub hD2 (fun D hD=>⟨(hD3 D hD).1,(hD3 D hD).2⟩) fun w2 h1 h2 h3 h4=>?_
   obtain ⟨v,hv1,hv2⟩:=jZ (a:=a) hT (hW.keep (.ofBelow h1) h2 h3) ht hR
   exact ⟨v,hv1,r,hr0,v,c.m,rfl,hv2,hW.le0,h2,h1,(hW.new.unfree hW.sub hN).keep fun _ ⟨c,T,h⟩=>⟨c,T,h3 _ _ h rfl⟩,hN.more.trans h4⟩
  rcases he with rfl | rfl <;> exact hpost
theorem ae.ofSP {P:Program} {T:Tab} (hT:T.OK P) {f:FuncId} {fn:Func} {body:Code} {args:List AV} {r:AV} (hf:P.funcs[f]?=some fn) (hb:fn.body=some body)
  (hname:(fn.name == "runtime.NumGoroutine")=false) (hm:P.follows .mixedOrders=true) (hn:args.length≤fn.ntmps)
  (h:∀ (F:Fence) (n:Nat) (w0:World) (m0:Mem),aH.OK ⟨P,F,n,w0,m0,fn.ntmps⟩→F.round=none→1≤n→SP ⟨P,F,n,w0,m0,fn.ntmps⟩ ⟨params 0 args,[]⟩ body (Ends T fn.results.toList r)):ae P f args r:=
 eJ.one (eJ.ofSP hT hf hb hname hm hn fun F n w0 m0 h1 h2 h3=>(h F n w0 m0 h1 h2 h3).mono fun _ _ he=>⟨_,rfl,he⟩)
end Go.AI
namespace Go.AI
open Go
open Go.RowKit (Below)
structure Gr (W W':World):Prop where
 below:Below W.heap.size W W'
 more:dU W W'
structure GrI (N:Nat) (W W':World):Prop where
 os:W'.os=W.os
 tape:W'.tape=W.tape
 output:W'.output=W.output
 size:W.heap.size≤W'.heap.size
 block:∀ b,b<W.heap.size→(b<N∨u3 W.heap[b]?=false)→W'.heap[b]?=W.heap[b]?
 more:dU W W'
theorem Gr.toI {N:Nat} {W W':World} (h:Gr W W'):GrI N W W':=⟨h.below.os,h.below.tape,h.below.output,h.below.size,fun b hb _=>h.below.block b hb,h.more⟩
theorem GrI.obj {N:Nat} {W W':World} (h:GrI N W W') {b:Nat} {o:Obj} (hb:W.heap[b]?=some o) (ho:b<N∨u3 (some o)=false):W'.heap[b]?=some o:=by
 rw [h.block b (Array.getElem?_eq_some_iff.1 hb).1 (by rw [hb]; exact ho)]; exact hb
def Ji (W W':World):Prop:=∀ (b:Nat) (o:Obj),W.heap[b]?=some o→u3 (some o)=true→W'.heap[b]?=some o
def zV (P:Program) {α:Type} (vals:α→Array Value) (f:FuncId) (cap:List AV) (nx:List α→α→Prop) (fin:List α→Prop):Prop:=
 (∀ (args:Array Value) (w:World),(callFunc f args).run P w = .ok (.enter f args) w) ∧
 ∀ (m:Mem) (lb:Array Value),cap.length=lb.size→(∀ (i:Nat) (x:AV) (v:Value),cap[i]?=some x→lb[i]?=some v→RD m x v) →
  ∀ (F:Fence) (n:Nat),(∀ f,F.fn f)→F.depth=none→F.alive=false→F.round=none→∀ (l:Nat) (J:List α→World→Prop) (Jx:World→Prop) (W:World),m.sub W →
   (∀ p W1 W2,J p W1→GrI W.heap.size W1 W2→J p W2)→(∀ W1 W2,Jx W1→GrI W.heap.size W1 W2→Jx W2) →
   (∀ p x W1,nx p x→J p W1→m.sub W1→YieldAt F (n - 1) P l (vals x) W1 fun e W'=>
    (e = .returned (.bool true)∧J (p++[x]) W'∧m.sub W'∧Ji W1 W')∨(e = .returned (.bool false)∧Jx W'∧m.sub W')) →
   J [] W→CallsIn F n P f (#[.func (.yield l) #[] #[]]++lb) W fun e W'=>(∃ v,e = .returned v)∧((∃ p,fin p∧J p W')∨Jx W')
def Bq (P:Program) {α:Type} (vals:α→Array Value) (f:FuncId) (cap:List AV) (items:List α):Prop:=
 zV P vals f cap (fun p x=>∃ r,items=p++x::r) (fun p=>p=items)
theorem WI.re {Γ Γ':aH} {c:Ctx} {bx:List (Nat×List AV)} {w:World} (hW:WI Γ c bx w) (hw:Γ'.w0=Γ.w0) (hm:Γ'.m0.le c.m) (hn:Γ'.m0.News (free Γ.w0) c.m w):WI Γ' c bx w where
 ext:=by rw [hw]; exact hW.ext
 sub:=hW.sub
 le0:=hm
 new:=by rw [hw]; exact hn
 box:=by rw [hw]; exact hW.box
 inj:=hW.inj
 own:=fun k=>⟨by rw [hw]; exact (hW.own k).blk,by rw [hw]; exact (hW.own k).shape,(hW.own k).box,(hW.own k).apart⟩
 xo:=fun k b o h=>⟨by rw [hw]; exact (hW.xo k b o h).new,(hW.xo k b o h).obj,(hW.xo k b o h).kept,(hW.xo k b o h).mem,(hW.xo k b o h).map,(hW.xo k b o h).box,(hW.xo k b o h).own,(hW.xo k b o h).inj⟩
theorem WI.grown {Γ:aH} {c:Ctx} {bx:List (Nat×List AV)} {w w':World} (hW:WI Γ c bx w) {row:Option Nat} (hg:w.grownBy w' row) (hr:∀ r,row=some r→free Γ.w0 r∧∃ o:Obj,w.heap[r]?=some o∧nD o=false):WI Γ c bx w':=by
 have hkeep:∀ (k:Nat) (o:Obj),w.heap[k]?=some o→nD o=true→w'.heap[k]?=some o:=by
  intro k o hk ho
  rw [hg.block k (Array.getElem?_eq_some_iff.1 hk).1 ?_]
  ·exact hk
  ·intro hc
   obtain ⟨_,p,h1,h2⟩:=hr k hc.symm
   rw [hk] at h1; cases h1; rw [ho] at h2; cases h2
 refine hW.keep ?_ ?_ hkeep
 ·refine hW.ext.trans ⟨hg.os,hg.tape,hg.output,hg.size,fun k hk=>hg.block k (by have:=hW.ext.size; have:=not_free hk; omega) fun hc=>?_⟩
  exact d7 hk (hr k hc.symm).1 rfl
 ·refine ⟨fun b o v hv=>?_,fun b x hx=>hkeep b _ (hW.sub.map b x hx) rfl⟩
  have:=hW.sub.cell b o v hv
  simp only [World.cell?] at this ⊢
  cases hb:w.heap[b]? with
  | none=>rw [hb] at this; cases this
  | some p=>
   rw [hb] at this
   cases p with
   | cells vs U fr=>rw [hkeep b _ hb rfl]; exact this
   | _=>cases this
theorem WI.grownI {Γ:aH} {c:Ctx} {bx:List (Nat×List AV)} {w w':World} (hW:WI Γ c bx w) {N:Nat} (hN:Γ.w0.heap.size≤N) (hg:GrI N w w'):WI Γ c bx w':=by
 have hkeep:∀ (k:Nat) (o:Obj),w.heap[k]?=some o→nD o=true→w'.heap[k]?=some o:=fun k o hk ho=>hg.obj hk (.inr (tR ho))
 refine hW.keep (hW.ext.trans ⟨hg.os,hg.tape,hg.output,hg.size,fun k hk=>hg.block k (by have:=hW.ext.size; have:=not_free hk; omega) (.inl (by have:=not_free hk; omega))⟩) ⟨fun b o v hv=>?_,fun b x hx=>hkeep b _ (hW.sub.map b x hx) rfl⟩ hkeep
 have:=hW.sub.cell b o v hv
 simp only [World.cell?] at this ⊢
 cases hb:w.heap[b]? with
 | none=>rw [hb] at this; cases this
 | some p=>
  rw [hb] at this
  cases p with
  | cells vs U fr=>rw [hkeep b _ hb rfl]; exact this
  | _=>cases this
structure bZ (Γ:aH) (s:St) (a:Act) (w:World):Prop where
 ex:∃ c,WI Γ c s.b w∧∀ d x,get s.t d=some x→RC c x (a.tmps.getD d Go.undef)
 size:a.tmps.size=Γ.nt
theorem Inv.toT {Γ:aH} {s:St} {a:Act} {w:World} (h:Inv Γ s a w):bZ Γ s a w:=⟨h.ex,h.size⟩
theorem bZ.grown {Γ:aH} {s:St} {a:Act} {w w':World} (h:bZ Γ s a w) {row:Option Nat} (hg:w.grownBy w' row) (hr:∀ r,row=some r→free Γ.w0 r∧∃ o:Obj,w.heap[r]?=some o∧nD o=false):bZ Γ s a w':=by
 obtain ⟨⟨c,hW,ht⟩,h2⟩:=h
 exact ⟨⟨c,hW.grown hg hr,ht⟩,h2⟩
theorem bZ.grownI {Γ:aH} {s:St} {a:Act} {w w':World} (h:bZ Γ s a w) {N:Nat} (hN:Γ.w0.heap.size≤N) (hg:GrI N w w'):bZ Γ s a w':=by
 obtain ⟨⟨c,hW,ht⟩,h2⟩:=h
 exact ⟨⟨c,hW.grownI hN hg,ht⟩,h2⟩
theorem NC.grownI {w0 w w':World} (h:NC w0 w) {N:Nat} (hN:w0.heap.size≤N) (hg:GrI N w w'):NC w0 w':=
 ⟨Nat.le_trans h.size hg.size,fun b o hb ho=>hg.obj (h.same b o hb ho) (.inl (Nat.lt_of_lt_of_le (Array.getElem?_eq_some_iff.1 hb).1 hN)),h.more.trans hg.more,fun b hb=>by
  obtain ⟨c,T,h'⟩:=h.soft b hb
  exact ⟨c,T,hg.obj h' (.inr rfl)⟩⟩
theorem bZ.less {Γ:aH} {s s':St} {a:Act} {w:World} (h:bZ Γ s a w) (hle:s.le s'):bZ Γ s' a w:=by
 obtain ⟨⟨c,hW,ht⟩,h2⟩:=h
 exact ⟨⟨c,hW.less hle.b,fun d x hx=>ht d x (hle.t d x hx)⟩,h2⟩
theorem bZ.tmps {Γ:aH} {s:St} {a a':Act} {w:World} (h:bZ Γ s a w) (hs:a'.tmps.size=a.tmps.size) (ht:∀ d∈de s.t,a'.tmps.getD d Go.undef=a.tmps.getD d Go.undef):bZ Γ s a' w:=by
 obtain ⟨⟨c,hW,h1⟩,h2⟩:=h
 exact ⟨⟨c,hW,fun d x hx=>by rw [ht d (bW.2 (by rw [hx]; simp))]; exact h1 d x hx⟩,hs.trans h2⟩
theorem NC.grown {w0 w w':World} (h:NC w0 w) {row:Option Nat} (hg:w.grownBy w' row) (hr:∀ r,row=some r→w0.heap.size≤r) (hd:dU w w'):NC w0 w':=
 ⟨Nat.le_trans h.size hg.size,fun b o hb ho=>by
  have:=h.same b o hb ho
  rw [hg.block b (Array.getElem?_eq_some_iff.1 this).1 fun hc=>by
   have h1:=hr b hc.symm
   have h2:=(Array.getElem?_eq_some_iff.1 hb).1
   omega]
  exact this,h.more.trans hd,fun b hb=>by
  obtain ⟨c,T,h'⟩:=h.soft b hb
  obtain ⟨c0,T0,h0⟩:=hb
  refine ⟨c,T,?_⟩
  rw [hg.block b (Array.getElem?_eq_some_iff.1 h').1 fun hc=>by
   have h1:=hr b hc.symm
   have h2:=(Array.getElem?_eq_some_iff.1 h0).1
   omega]
  exact h'⟩
def qb:List Nat→List AV→List (Nat×AV)
 | p::ps,v::vs=>(p,v)::qb ps vs
 | _,_=>[]
theorem kD:∀ (ps:List Nat) (vs:List Value) (t:Array Value),((ps.zip vs).foldl (fun t (p:Nat×Value)=>t.setIfInBounds p.1 p.2) t).size=t.size
 | [],_,_=>by simp
 | _::_,[],_=>by simp
 | p::ps,v::vs,t=>by simp [kD ps vs]
theorem ee:∀ (ps:List Nat) (vs:List Value) (t:Array Value) (d:Nat),d ∉ ps→((ps.zip vs).foldl (fun t (p:Nat×Value)=>t.setIfInBounds p.1 p.2) t).getD d Go.undef=t.getD d Go.undef
 | [],_,_,_,_=>by simp
 | _::_,[],_,_,_=>by simp
 | p::ps,v::vs,t,d,hd=>by
  simp only [List.mem_cons,not_or] at hd
  simp only [List.zip_cons_cons,List.foldl_cons]
  rw [ee ps vs _ d hd.2]
  simp only [Array.getD_eq_getD_getElem?,Array.getElem?_setIfInBounds_ne (Ne.symm hd.1)]
theorem mG {m:Mem}:∀ (ps:List Nat) (vs:List Value) (xs:List AV) (t:Array Value) (d:Nat) (x:AV),ps.Nodup→(∀ p∈ps,p<t.size)→xs.length=vs.length →
  (∀ (i:Nat) (a:AV) (v:Value),xs[i]?=some a→vs[i]?=some v→RD m a v)→get (qb ps xs) d=some x→RD m x (((ps.zip vs).foldl (fun t (p:Nat×Value)=>t.setIfInBounds p.1 p.2) t).getD d Go.undef)
 | [],_,_,_,_,_,_,_,_,_,h=>by simp [qb,get] at h
 | p::ps,vs,[],_,_,_,_,_,_,_,h=>by simp [qb,get] at h
 | p::ps,[],x::xs,_,_,_,_,_,hl,_,_=>by simp at hl
 | p::ps,v::vs,y::xs,t,d,x,hnd,hlt,hl,hr,h=>by
  simp only [qb,ak] at h
  simp only [List.zip_cons_cons,List.foldl_cons]
  obtain ⟨h1,h2⟩:=List.nodup_cons.1 hnd
  split at h
  ·rename_i hd
   subst hd
   cases h
   rw [ee ps vs _ d h1]
   have:(t.setIfInBounds d v).getD d Go.undef=v:=by
    rw [Array.getD_eq_getD_getElem?,Array.getElem?_setIfInBounds_self_of_lt (hlt d List.mem_cons_self)]; rfl
   rw [this]
   exact hr 0 y v rfl rfl
  ·exact mG ps vs xs _ d x h2 (fun q hq=>by simpa using hlt q (List.mem_cons_of_mem _ hq)) (by simpa using hl) (fun i a u g1 g2=>hr (i+1) a u (by simpa using g1) (by simpa using g2)) h
end Go.AI
namespace Go.AI
open Go
open Go.RowKit (Below)
def zQ {α:Type} (t0:List α→List (Nat×AV)) (B:List α→List (Nat×List AV)) (K:Exit→St→Prop) (xs:List α) (e:Exit) (s:St):Prop:=match e with
 | .normal=>s.le ⟨t0 xs,B xs⟩
 | .ret=>∃ b,s.le ⟨t0 xs,b⟩∧K .ret ⟨t0 xs,b⟩
 | .exit id=>∃ b,s.le ⟨t0 xs,b⟩∧K (.exit id) ⟨t0 xs,b⟩
 | _=>False
section
variable {Γ:aH}
theorem SP.rangeN2 (hΓ:Γ.OK) (hro:Γ.F.round=none) (h1:1≤Γ.n) {s:St} {g:Operand} {ps:Array Tmp} {assign body:Code} {K:Exit→St→Prop} {α:Type} (avs:α→List AV) (vals:α→Array Value)
  {f:FuncId} {cap:List AV} {nx:List α→α→Prop} {fin:List α→Prop} (hg:ev s g = .clo f cap) (hseq:zV Γ.P vals f cap nx fin) (hsz:∀ x,(vals x).size=ps.size) (hav:∀ x,(avs x).length=(vals x).size)
  (hrd:∀ (m:Mem) (x:α) (i:Nat) (a:AV) (v:Value),(avs x)[i]?=some a→(vals x)[i]?=some v→RD m a v)
  (t0:List α→List (Nat×AV)) (ks:List Nat) (hks:∀ p,de (t0 p)=ks) (B:List α→List (Nat×List AV)) (hle:s.le ⟨t0 [],B []⟩)
  (hk:(f8 ks (wrs assign++(wrs body++ps.toList))&&f8 ks [1000000000]&&f8 [1000000000] (wrs assign)&&(ps.toList.all fun p=>Nat.blt p Γ.nt))=true) (hnd:ps.toList.Nodup)
  (round:∀ (F':Fence) (n':Nat) (m':Mem),aH.OK ⟨Γ.P,F',n',Γ.w0,m',Γ.nt⟩→(∃ l,F'.round=some l)→n'=Γ.n - 1 - 1→∀ (pre:List α) (x:α),nx pre x →
   SP ⟨Γ.P,F',n',Γ.w0,m',Γ.nt⟩ ⟨qb ps.toList (avs x)++t0 pre,B pre⟩ assign fun e s1=>e = .normal∧s1.le ⟨t0 pre,B pre⟩ ∧
    SP ⟨Γ.P,F',n',Γ.w0,m',Γ.nt⟩ s1 body (zQ t0 B K (pre++[x])))
  (done:∀ p,fin p→K .normal ⟨t0 p,B p⟩):SP Γ s (.rangeFunc g ps assign body) K:=by
 intro a w hI
 simp only [Bool.and_eq_true] at hk
 obtain ⟨⟨⟨hk1,hk2⟩,hk3⟩,hk4⟩:=hk
 obtain ⟨⟨c,hW,ht⟩,hsize,⟨Ds,hD1,hD2,hD3⟩,_⟩:=hI
 have hgv:RC c (.clo f cap) (a.eval g):=by rw [← hg]; exact aB ht g
 obtain ⟨lb,hlb,hcl,hcr⟩:∃ lb:Array Value,a.eval g = .func (.func f) #[] lb∧cap.length=lb.size∧∀ (i:Nat) (x:AV) (v:Value),cap[i]?=some x→lb[i]?=some v→RD c.m x v:=by
  have h:RD c.m (.clo f cap) (a.eval g):=hgv
  generalize a.eval g=v at h
  cases h with
  | clo _ _ vs hl hr=>exact ⟨vs,rfl,hl,hr⟩
 have hw0:Γ.w0.heap.size≤w.heap.size:=hW.ext.size
 -- the ground of the rounds
 have hΓ2:∀ l,aH.OK ⟨Γ.P,Γ.F.inRound l,Γ.n - 1 - 1,Γ.w0,c.m,Γ.nt⟩:=fun l=>⟨hΓ.fn,hΓ.depth,hΓ.alive,hΓ.mixed⟩
 let G:aH:=⟨Γ.P,Γ.F,Γ.n,Γ.w0,c.m,Γ.nt⟩
 have hGl:∀ (l:Nat) (s:St) (a:Act) (w:World),bZ G s a w→bZ ⟨Γ.P,Γ.F.inRound l,Γ.n - 1 - 1,Γ.w0,c.m,Γ.nt⟩ s a w:=fun l s a w h=>by
  obtain ⟨⟨c',hW',ht'⟩,h2⟩:=h
  exact ⟨⟨c',hW'.re rfl hW'.le0 hW'.new,ht'⟩,h2⟩
 have hlG:∀ (l:Nat) (s:St) (a:Act) (w:World),bZ ⟨Γ.P,Γ.F.inRound l,Γ.n - 1 - 1,Γ.w0,c.m,Γ.nt⟩ s a w→bZ G s a w:=fun l s a w h=>by
  obtain ⟨⟨c',hW',ht'⟩,h2⟩:=h
  exact ⟨⟨c',hW'.re rfl hW'.le0 hW'.new,ht'⟩,h2⟩
 have hI0:bZ G ⟨t0 [],B []⟩ a w:=(show bZ G s a w from ⟨⟨c,hW.re rfl (.refl _) ⟨fun b o v h => .inl h,fun b x h => .inl h⟩,ht⟩,hsize⟩).less hle
 have hback:∀ (s:St) (a:Act) (W:World),(∀ b,aX w b→aX W b)→bZ G s a W→∃ c,WI Γ c s.b W∧∀ d x,get s.t d=some x→RC c x (a.tmps.getD d Go.undef):=fun s a W hk h=>by
  obtain ⟨⟨c',hW',ht'⟩,_⟩:=h
  refine ⟨c',hW'.re rfl (hW.le0.trans hW'.le0) ⟨fun b o v h=>?_,fun b x h=>?_⟩,ht'⟩
  ·rcases hW'.new.cell b o v h with h | h
   ·rcases hW.new.cell b o v h with h | h
    ·exact .inl h
    ·exact .inr ⟨h.1,hk b h.2⟩
   ·exact .inr h
  ·rcases hW'.new.map b x h with h | h
   ·rcases hW.new.map b x h with h | h
    ·exact .inl h
    ·exact .inr h
   ·exact .inr h
 have hsubm:∀ (s:St) (a:Act) (W:World),bZ G s a W→c.m.sub W:=fun s a W h=>by
  obtain ⟨⟨c',hW',_⟩,_⟩:=h
  exact ⟨fun b o v hb=>hW'.sub.cell b o v (hW'.le0.cell b o v hb),fun b x hb=>hW'.sub.map b x (hW'.le0.map b x hb)⟩
 have hfin:∀ (D:Nat) (s:St) (W:World),w.heap.size≤D→bZ G s a W→NC w W→W.heap[D]?=some (.deferred (some []))→Inv Γ s { a with defers:={ target := .collected D,args:=#[] }::a.defers } W:=fun D s W hD hT hN hWD=>by
  refine ⟨hback s a W hN.soft hT,hsize,⟨D::Ds,by simp [kc,hD1],List.nodup_cons.2 ⟨fun hc=>?_,hD2⟩,fun E hE=>?_⟩,fun l e=>by rw [hro] at e; cases e⟩
  ·have:=(Array.getElem?_eq_some_iff.1 (hD3 D hc).1).1
   omega
  ·rcases List.mem_cons.1 hE with rfl | hE
   ·exact ⟨hWD,by omega⟩
   ·exact ⟨hN.same E _ (hD3 E hE).1 rfl,(hD3 E hE).2⟩
 have hFT:∀ {b:Act} {ds:List Nat},(∀ d∈ds,d∈wrs assign++(wrs body++ps.toList))→∀ {a1:Act},FT ds a1 b→∀ d∈ks,b.tmps.getD d Go.undef=a1.tmps.getD d Go.undef:=fun hds _ h d hd=>
  h.tmps (fun hc=>aM hk1 hd (hds d hc)) (fun hc=>aM hk2 hd (by simp [hc]))
 refine wpIn_rangeFunc ?_
 intro fn hfn
 rw [hro]
 obtain ⟨rec,hrec⟩:∃ rec:LoopState→Option Code→Loop,rec=fun st pe=>{ state:=st,pending:=pe,fn,tmps:=a.tmps,params:=ps,assign,body,defers:=w.heap.size }:=⟨_,rfl⟩
 obtain ⟨W1,hW1⟩:∃ W1,(w.alloc (.deferred (some []))).alloc (.loop (rec .ready none))=W1:=⟨_,rfl⟩
 have hL1:W1.heap[w.heap.size+1]?=some (.loop (rec .ready none)):=by
  rw [← hW1]; have:=World.alloc_heap_new (w.alloc (.deferred (some []))) (.loop (rec .ready none)); rwa [World.size_alloc] at this
 have hK1:W1.heap[w.heap.size]?=some (.deferred (some [])):=by
  rw [← hW1]; exact (Below.heap_alloc _ _ _ (by simp)).trans (World.alloc_heap_new w _)
 have hB1:Below w.heap.size w W1:=by
  rw [← hW1]; exact ((Below.refl _ w).alloc (Nat.le_refl _) _).alloc (by simp) _
 have hB1N:Γ.w0.heap.size≤W1.heap.size:=Nat.le_trans hw0 hB1.size
 have hgr:∀ {A B:World},Below A.heap.size A B→A.grownBy B none:=fun h=>⟨h.os,h.tape,h.output,h.size,fun k hk _=>h.block k hk⟩
 have hIg:∀ {s:St} {a:Act} {A B:World},bZ G s a A→Below A.heap.size A B→bZ G s a B:=fun h hb=>h.grown (hgr hb) (by intro r e; cases e)
 have hNg:∀ {A B:World},NC w A→Gr A B→NC w B:=fun h hb=>h.grown (hgr hb.below) (by intro r e; cases e) hb.more
 have hOg:∀ {A B:World} {k:Nat} {o:Obj},A.heap[k]?=some o→Below A.heap.size A B→B.heap[k]?=some o:=fun h hb=>(hb.block _ (Array.getElem?_eq_some_iff.1 h).1).trans h
 -- the record is turned
 have hPut:∀ {s:St} {a:Act} {A:World} {r:Loop} (o:Obj),bZ G s a A→A.heap[w.heap.size+1]?=some (.loop r)→bZ G s a (A.putObj (w.heap.size+1) o):=fun o h hl=>
  h.grown (grownBy_putObj' _ _ o) (by intro r e; cases e; exact ⟨dD (by show Γ.w0.heap.size≤_; omega),_,hl,rfl⟩)
 have hPutN:∀ {A:World} (o:Obj),nk o→NC w A→NC w (A.putObj (w.heap.size+1) o):=fun o ho h=>h.grown (grownBy_putObj' _ _ o) (by intro r e; cases e; omega) (dU.putObj _ _ ho)
 refine ⟨w.heap.size+1,[{ target := .collected w.heap.size,args:=#[] }],W1,{ target := .fn (.func f) lb,args:=#[.func (.yield (w.heap.size+1)) #[] #[]] },W1,f,
  #[.func (.yield (w.heap.size+1)) #[] #[]]++lb,W1,?_,?_,?_,?_,fun _=>h1,?_⟩
 ·rw [← hW1,hrec]; exact run_enterLoop_outer _ _ _ _ _
 ·simp only [resolve,hlb]
  simp [go_sem]
 ·intro f' hf'; exact hΓ.fn f'
 ·have hen:=hseq.1
  simp [invoke,go_sem,hen]
 refine (hseq.2 c.m lb hcl hcr Γ.F (Γ.n - 1) hΓ.fn hΓ.depth hΓ.alive hro (w.heap.size+1)
  (fun p W=>bZ G ⟨t0 p,B p⟩ a W∧NC w W∧W.heap[w.heap.size+1]?=some (.loop (rec .ready none))∧W.heap[w.heap.size]?=some (.deferred (some [])))
  (fun W=>∃ cd e t b,(cd=Code.ret∧e=Exit.ret∨∃ id,cd = .exit id∧e = .exit id)∧K e ⟨t,b⟩∧bZ G ⟨t,b⟩ a W∧NC w W∧W.heap[w.heap.size+1]?=some (.loop (rec .done (some cd)))∧W.heap[w.heap.size]?=some (.deferred (some [])))
  W1 (hsubm _ a _ (hIg hI0 hB1)) ?_ ?_ ?_ ⟨hIg hI0 hB1,hNg (.refl w) ⟨hB1,by rw [← hW1]; exact (dU.alloc w (o := .deferred (some [])) (fun _ _ _ h=>nomatch h)).trans (.alloc _ (fun _ _ _ h=>nomatch h))⟩,hL1,hK1⟩).mono ?_
 ·rintro k A B' ⟨g1,g2,g3,g4⟩ hb
  exact ⟨g1.grownI hB1N hb,g2.grownI hB1.size hb,hb.obj g3 (.inr rfl),hb.obj g4 (.inr rfl)⟩
 ·rintro A B' ⟨cd,e,t,b,g0,gk,g1,g2,g3,g4⟩ hb
  exact ⟨cd,e,t,b,g0,gk,g1.grownI hB1N hb,g2.grownI hB1.size hb,hb.obj g3 (.inr rfl),hb.obj g4 (.inr rfl)⟩
 ·-- ONE ROUND
  rintro p x W hx ⟨hi,hn,hl,hd⟩ _
  have hy:=run_yield (P:=Γ.P) (args:=vals x) hl (by rw [hrec]; exact hsz x)
  rw [hrec] at hy
  have hrd2:=round (Γ.F.inRound (w.heap.size+1)) (Γ.n - 1 - 1) c.m (hΓ2 _) ⟨_,rfl⟩ rfl p x hx
  have htm:((ps.zip (vals x)).foldl (fun (t:Array Value) (q:Nat×Value)=>t.setIfInBounds q.1 q.2) a.tmps)=((ps.toList.zip (vals x).toList).foldl (fun t (p:Nat×Value)=>t.setIfInBounds p.1 p.2) a.tmps):=by
   rw [← Array.foldl_toList,Array.toList_zip]
  have hpl:∀ p∈ps.toList,p<a.tmps.size:=fun p hp=>by
   rw [hsize]
   exact Nat.le_of_ble_eq_true (List.all_eq_true.1 hk4 p hp)
  refine ⟨fn,_,assign,body,hy,roundIn_of_wpIn hfn (wpIn_mono (hrd2 _ W ⟨?_,?_,⟨[],rfl,List.nodup_nil,by simp⟩,fun l e=>by cases e; exact ⟨_,hl⟩⟩) ?_)⟩
  ·obtain ⟨⟨c',hW',ht'⟩,_⟩:=hi
   refine ⟨c',hW'.re rfl hW'.le0 hW'.new,fun d y hy=>?_⟩
   simp only at hy ⊢
   rw [show ((ps.zip (vals x)).foldl (fun (t:Array Value) (q:Nat×Value)=>match q with | (p,v)=>t.setIfInBounds p v) a.tmps)=_ from htm]
   rw [bU] at hy
   cases hz:get (qb ps.toList (avs x)) d with
   | some z=>
    rw [hz] at hy
    cases hy
    exact RC.of_RD (mG _ _ _ _ d _ hnd hpl (by rw [hav x,Array.length_toList]) (fun i a v g1 g2=>hrd _ x i a v g1 (by simpa using g2)) hz)
   | none=>
    rw [hz] at hy
    have hy:get (t0 p) d=some y:=hy
    have hdk:d∈ks:=by rw [← hks p]; exact bW.2 (by rw [hy]; simp)
    rw [ee _ _ _ d fun hc=>aM hk1 hdk (List.mem_append_right _ (List.mem_append_right _ hc))]
    exact ht' d y hy
  ·simp only
   rw [show ((ps.zip (vals x)).foldl (fun (t:Array Value) (q:Nat×Value)=>match q with | (p,v)=>t.setIfInBounds p v) a.tmps)=_ from htm,kD,hsize]
  ·rintro e a2 W2 ⟨hN2,hF2,s1,hI1,rfl,hle1,hSP⟩
   have hd2:a2.defers=[]:=hF2.defers fun hc=>aM hk3 (by simp) hc
   have hl2:=hN2.same _ _ hl rfl
   have hdd2:=hN2.same _ _ hd rfl
   have ht2:∀ d∈ks,a2.tmps.getD d Go.undef=a.tmps.getD d Go.undef:=fun d hdk=>by
    rw [hF2.tmps (fun hc=>aM hk1 hdk (List.mem_append_left _ hc)) (fun hc=>aM hk2 hdk (by simp [hc]))]
    simp only
    rw [show ((ps.zip (vals x)).foldl (fun (t:Array Value) (q:Nat×Value)=>match q with | (p,v)=>t.setIfInBounds p v) a.tmps)=_ from htm]
    exact ee _ _ _ d fun hc=>aM hk1 hdk (List.mem_append_right _ (List.mem_append_right _ hc))
   refine ⟨_,run_beginRound hl2 (by rw [hrec]),?_⟩
   have hT2:=hPut (.loop { rec .ready none with state := .busy }) (hlG _ _ _ _ hI1.toT) hl2
   have hl3:(W2.putObj (w.heap.size+1) (.loop { rec .ready none with state := .busy })).heap[w.heap.size+1]?=some (.loop { rec .ready none with state := .busy }):=World.putObj_heap_same (Array.getElem?_eq_some_iff.1 hl2).1
   have hd3:(W2.putObj (w.heap.size+1) (.loop { rec .ready none with state := .busy })).heap[w.heap.size]?=some (.deferred (some [])):=(World.putObj_heap_other (by omega)).trans hdd2
   have hN3:=hPutN (.loop { rec .ready none with state := .busy }) (fun _ _ _ h=>nomatch h) (hn.trans hN2)
   refine wpIn_mono (hSP a2 _ ⟨(hGl _ _ _ _ hT2).ex,(hGl _ _ _ _ hT2).size,⟨[],by simpa [kc] using hd2,List.nodup_nil,by simp⟩,fun l e=>by cases e; exact ⟨_,hl3⟩⟩) ?_
   rintro e a3 W3 ⟨hN4,hF4,s2,hI4,hR⟩
   have hl4:=hN4.same _ _ hl3 rfl
   have hd4:=hN4.same _ _ hd3 rfl
   have hN5:=hN3.trans hN4
   have hT4:∀ {p:List α} {b:List (Nat×List AV)},s2.le ⟨t0 p,b⟩→bZ G ⟨t0 p,b⟩ a W3:=fun hle=>((hlG _ _ _ _ hI4.toT).less hle).tmps (hsize.trans hI4.size.symm) fun d hdk=>by
    have hdk:d∈ks:=(hks _) ▸ hdk
    rw [← ht2 d hdk]
    exact (hF4.tmps (fun hc=>aM hk1 hdk (List.mem_append_right _ (List.mem_append_left _ hc))) (fun hc=>aM hk2 hdk (by simp [hc]))).symm
   have fin:∀ (jump:Option Code),(Instr.endRound (w.heap.size+1) jump).run Γ.P W3 = .ok (.bool jump.isNone) (W3.putObj (w.heap.size+1) (.loop (rec (if jump.isNone then .ready else .done) jump))):=fun jump=>by
    have:=run_endRound (P:=Γ.P) jump hl4
    rw [hrec] at this ⊢
    exact this
   have hl5:∀ (o:Obj),(W3.putObj (w.heap.size+1) o).heap[w.heap.size+1]?=some o:=fun o=>World.putObj_heap_same (Array.getElem?_eq_some_iff.1 hl4).1
   have hd5:∀ (o:Obj),(W3.putObj (w.heap.size+1) o).heap[w.heap.size]?=some (.deferred (some [])):=fun o=>(World.putObj_heap_other (by omega)).trans hd4
   cases e with
   | normal=>
    have hT5:=hPut (.loop (rec .ready none)) (hT4 hR) hl4
    refine ⟨_,_,fin none,.inl ⟨rfl,⟨hT5,hPutN _ (fun _ _ _ h=>nomatch h) hN5,hl5 _,hd5 _⟩,hsubm _ _ _ hT5,fun b o hb ho=>?_⟩⟩
    have hno:nD o=false:=by cases o <;> first | rfl | cases ho
    have h1:=hN2.same b o hb hno
    have hbl:b≠w.heap.size+1:=fun e=>by rw [e,hl2] at h1; cases h1; cases ho
    have h2:(W2.putObj (w.heap.size+1) (.loop { rec .ready none with state := .busy })).heap[b]?=some o:=(World.putObj_heap_other hbl).trans h1
    have h3:=hN4.same b o h2 hno
    exact (World.putObj_heap_other hbl).trans h3
   | ret=>
    obtain ⟨b,g1,g2⟩:=hR
    have hT5:=hPut (.loop (rec .done (some .ret))) (hT4 g1) hl4
    exact ⟨_,_,fin (some .ret),.inr ⟨rfl,⟨.ret,.ret,_,b,.inl ⟨rfl,rfl⟩,g2,hT5,hPutN _ (fun _ _ _ h=>nomatch h) hN5,hl5 _,hd5 _⟩,hsubm _ _ _ hT5⟩⟩
   | exit id=>
    obtain ⟨b,g1,g2⟩:=hR
    have hT5:=hPut (.loop (rec .done (some (.exit id)))) (hT4 g1) hl4
    exact ⟨_,_,fin (some (.exit id)),.inr ⟨rfl,⟨.exit id,.exit id,_,b,.inr ⟨id,rfl,rfl⟩,g2,hT5,hPutN _ (fun _ _ _ h=>nomatch h) hN5,hl5 _,hd5 _⟩,hsubm _ _ _ hT5⟩⟩
   | goto l=>exact hR.elim
   | panic ch=>exact hR.elim
   | outgrown=>exact hR.elim
 ·-- BEHIND THE ITERATOR
  have hFTd:∀ (ds:List Deferred),FT (wrs (.rangeFunc g ps assign body)) a { a with defers:=ds }:=fun ds d hd=>by
   have hne:d≠1000000000:=fun hc=>hd (by simp [wrs,hc])
   simp [vw,hne]
  rintro e W2 ⟨⟨v,rfl⟩,(⟨p,hp,hi,hn,hl,hd⟩ | ⟨cd,e,t,b,h0,hK,hi,hn,hl,hd⟩)⟩
  ·refine ⟨none,W2.putObj (w.heap.size+1) (.loop { rec .ready none with state := .exhausted }),by have:=run_endLoop (P:=Γ.P) hl (by rw [hrec]; simp); rw [hrec] at this ⊢; exact this,?_⟩
   exact ⟨hPutN _ (fun _ _ _ h=>nomatch h) hn,hFTd _,_,hfin _ _ _ (Nat.le_refl _) (hPut _ hi hl) (hPutN _ (fun _ _ _ h=>nomatch h) hn) ((World.putObj_heap_other (by omega)).trans hd),done p hp⟩
  ·refine ⟨some cd,W2.putObj (w.heap.size+1) (.loop { rec .done (some cd) with state := .exhausted }),by have:=run_endLoop (P:=Γ.P) hl (by rw [hrec]; simp); rw [hrec] at this ⊢; exact this,?_⟩
   have hpost:=(show NC w (W2.putObj (w.heap.size+1) (.loop { rec .done (some cd) with state := .exhausted }))∧FT (wrs (.rangeFunc g ps assign body)) a { a with defers:={ target := .collected w.heap.size,args:=#[] }::a.defers }∧∃ s',Inv Γ s' { a with defers:={ target := .collected w.heap.size,args:=#[] }::a.defers } (W2.putObj (w.heap.size+1) (.loop { rec .done (some cd) with state := .exhausted }))∧K e s' from
    ⟨hPutN _ (fun _ _ _ h=>nomatch h) hn,hFTd _,_,hfin _ _ _ (Nat.le_refl _) (hPut _ hi hl) (hPutN _ (fun _ _ _ h=>nomatch h) hn) ((World.putObj_heap_other (by omega)).trans hd),hK⟩)
   rcases h0 with ⟨rfl,rfl⟩ | ⟨id,rfl,rfl⟩
   ·exact wpIn_ret hpost
   ·exact wpIn_exit hpost
theorem SP.rangeN (hΓ:Γ.OK) (hro:Γ.F.round=none) (h1:1≤Γ.n) {s:St} {g:Operand} {ps:Array Tmp} {assign body:Code} {K:Exit→St→Prop} {α:Type} (avs:α→List AV) (vals:α→Array Value)
  {f:FuncId} {cap:List AV} {nx:List α→α→Prop} {fin:List α→Prop} (hg:ev s g = .clo f cap) (hseq:zV Γ.P vals f cap nx fin) (hsz:∀ x,(vals x).size=ps.size) (hav:∀ x,(avs x).length=(vals x).size)
  (hrd:∀ (m:Mem) (x:α) (i:Nat) (a:AV) (v:Value),(avs x)[i]?=some a→(vals x)[i]?=some v→RD m a v)
  (t0:List α→List (Nat×AV)) (ks:List Nat) (hks:∀ p,de (t0 p)=ks) (B:List α→List (Nat×List AV)) (hle:s.le ⟨t0 [],B []⟩)
  (hk:(f8 ks (wrs assign++(wrs body++ps.toList))&&f8 ks [1000000000]&&f8 [1000000000] (wrs assign)&&(ps.toList.all fun p=>Nat.blt p Γ.nt))=true) (hnd:ps.toList.Nodup)
  (round:∀ (F':Fence) (n':Nat) (m':Mem),aH.OK ⟨Γ.P,F',n',Γ.w0,m',Γ.nt⟩→∀ (pre:List α) (x:α),nx pre x →
   SP ⟨Γ.P,F',n',Γ.w0,m',Γ.nt⟩ ⟨qb ps.toList (avs x)++t0 pre,B pre⟩ assign fun e s1=>e = .normal∧s1.le ⟨t0 pre,B pre⟩ ∧
    SP ⟨Γ.P,F',n',Γ.w0,m',Γ.nt⟩ s1 body (zQ t0 B K (pre++[x])))
  (done:∀ p,fin p→K .normal ⟨t0 p,B p⟩):SP Γ s (.rangeFunc g ps assign body) K:=
 SP.rangeN2 hΓ hro h1 avs vals hg hseq hsz hav hrd t0 ks hks B hle hk hnd (fun F' n' m' hb _ _ pre x hx=>round F' n' m' hb pre x hx) done
theorem SP.range (hΓ:Γ.OK) (hro:Γ.F.round=none) (h1:1≤Γ.n) {s:St} {g:Operand} {ps:Array Tmp} {assign body:Code} {K:Exit→St→Prop} {α:Type} (avs:α→List AV) (vals:α→Array Value)
  {f:FuncId} {cap:List AV} {items:List α} (hg:ev s g = .clo f cap) (hseq:Bq Γ.P vals f cap items) (hsz:∀ x,(vals x).size=ps.size) (hav:∀ x,(avs x).length=(vals x).size)
  (hrd:∀ (m:Mem) (x:α) (i:Nat) (a:AV) (v:Value),(avs x)[i]?=some a→(vals x)[i]?=some v→RD m a v)
  (t0:List (Nat×AV)) (B:List α→List (Nat×List AV)) (hle:s.le ⟨t0,B []⟩)
  (hk:(f8 (de t0) (wrs assign++(wrs body++ps.toList))&&f8 (de t0) [1000000000]&&f8 [1000000000] (wrs assign)&&(ps.toList.all fun p=>Nat.blt p Γ.nt))=true) (hnd:ps.toList.Nodup)
  (round:∀ (F':Fence) (n':Nat) (m':Mem),aH.OK ⟨Γ.P,F',n',Γ.w0,m',Γ.nt⟩→∀ (pre:List α) (x:α) (rest:List α),items=pre++x::rest →
   SP ⟨Γ.P,F',n',Γ.w0,m',Γ.nt⟩ ⟨qb ps.toList (avs x)++t0,B pre⟩ assign fun e s1=>e = .normal∧s1.le ⟨t0,B pre⟩ ∧
    SP ⟨Γ.P,F',n',Γ.w0,m',Γ.nt⟩ s1 body (zQ (fun _=>t0) B K (pre++[x])))
  (done:K .normal ⟨t0,B items⟩):SP Γ s (.rangeFunc g ps assign body) K:=
 SP.rangeN hΓ hro h1 avs vals hg hseq hsz hav hrd (fun _=>t0) (de t0) (fun _=>rfl) B hle hk hnd (fun F' n' m' hb pre x ⟨r,hr⟩=>round F' n' m' hb pre x r hr) (fun p hp=>hp ▸ done)
end
end Go.AI
