/- The abstract interpreter for the code, part 3: what it reckons of a piece of code holds of every run. No condition but those typed. -/
import Derived.Test.YtehdegggapeihaaGreatYAiB
import Derived.OrdersIn
import Derived.LoopNIn
import Derived.RangeFuncLeaves
import Derived.Shelf.Abstract
import Derived.RangeFuncNested
set_option linter.unusedSectionVars false
set_option linter.unusedVariables false
set_option linter.unusedSimpArgs false
namespace Go.AI
open Go
theorem bF {l:List Nat} {k:Nat}:eo l k=true↔k∈l:=by
 induction l with
 | nil=>simp [eo]
 | cons d r ih=>
  simp only [eo,List.mem_cons]
  cases hb:Nat.beq d k with
  | true=>rw [cond_true]; exact ⟨fun _ => .inl (Nat.eq_of_beq_eq_true hb).symm,fun _=>rfl⟩
  | false=>rw [cond_false,ih]; exact ⟨.inr,fun h=>h.resolve_left fun e=>Nat.ne_of_beq_eq_false hb e.symm⟩
def ak {α:Type} (f:(α→Prop)→Prop):Prop:=∀ K,f K→∃ v,K v∧∀ K',K' v→f K'
theorem ak.k {α:Type} (v:α):ak (fun K=>K v):=fun _ h=>⟨v,h,fun _ h=>h⟩
theorem ak.no {α:Type}:ak (fun _:α→Prop=>False):=fun _ h=>h.elim
theorem ak.and {α:Type} {A:Prop} {f:(α→Prop)→Prop} (h:ak f):ak (fun K=>A∧f K):=fun K ⟨a,g⟩=>let ⟨v,h1,h2⟩:=h K g; ⟨v,h1,fun K' k=>⟨a,h2 K' k⟩⟩
theorem ak.ex {α β:Type} {A:β→Prop} {f:β→(α→Prop)→Prop} (h:∀ b,ak (f b)):ak (fun K=>∃ b,A b∧f b K):=fun K ⟨b,a,g⟩=>let ⟨v,h1,h2⟩:=h b K g; ⟨v,h1,fun K' k=>⟨b,a,h2 K' k⟩⟩
theorem ak.bif {α:Type} {b:Bool} {f g:(α→Prop)→Prop} (hf:ak f) (hg:ak g):ak (fun K=>bif b then f K else g K):=by cases b <;> assumption
theorem ak.ikW {α:Type} {k k':IntKind} {f:(α→Prop)→Prop} (hf:ak f):ak (fun K=>ikW k k' (f K)):=ak.bif hf ak.no
theorem ak.bandW {α:Type} {b:Bool} {f:(α→Prop)→Prop} (hf:ak f):ak (fun K=>bandW b (f K)):=ak.bif hf ak.no
theorem CI (T:Tab) (op:BinOp) (t:TypeId) (a b:AV):ak (vN T op t a b):=by
 unfold vN
 cases a <;> try exact ak.no
 ·cases b <;> try exact ak.no
  cases op <;> first | exact ak.ikW (ak.k _) | exact ak.ikW (ak.and (ak.k _)) | exact ak.and (ak.k _)
 ·cases b <;> try exact ak.no
  cases get T t <;> cases op <;> first | exact ak.no | exact ak.bandW (ak.k _)
 ·rename_i xs
  cases b <;> try exact ak.no
  rename_i ys
  cases get T t with
  | none=>cases op <;> exact ak.no
  | some i=>cases op <;> first | exact ak.no | (simp only []; cases pO T 4 t xs ys <;> first | exact ak.no | exact ak.k _)
theorem Ff (op:UnOp) (a:AV):ak (unW op a):=by
 unfold unW
 cases op <;> cases a <;> first | exact ak.no | exact ak.k _
theorem jH {α:Type} (o:Option AV) (d:Nat) {f:Nat→(α→Prop)→Prop} (h:∀ n,ak (f n)):ak (fun K=>fx o d fun n=>f n K):=by
 unfold fx
 cases o with
 | none=>exact h _
 | some v=>cases v <;> first | exact ak.no | exact ak.and (h _)
theorem ak.szOK {α:Type} {a b:Nat} {xs:List (List AV)} {f:(α→Prop)→Prop} (h:ak f):ak (fun K=>szOK a b xs (f K)):=by
 unfold Go.AI.szOK
 refine ak.bif h ?_
 cases xs <;> first | exact h | exact ak.no
section
variable (T:Tab) (C:FuncId→List AV→AV→Prop) (bx:List (Nat×List AV)) (e:Operand→AV)
theorem k0 {i:TI} {cs:List AV} {f:AV→(AV→Prop)→Prop} (h:∀ v,ak (f v)):ak (fun K=>match e7 i cs with | some v=>f v K | none=>False):=by
 cases e7 i cs with
 | none=>exact ak.no
 | some v=>exact h v
theorem wR (ty:TypeId) (op:Op):ak (opV T C bx e ty op):=by
 cases op with
 | move x=>exact ak.k _
 | assign x=>exact ak.k _
 | pick c a b=>
  unfold opV
  simp only
  cases e c <;> first | exact ak.no | exact ak.bif (ak.k _) (ak.k _)
 | binOp op t x y p=>exact CI T op t _ _
 | unOp op t x=>exact Ff op _
 | load t x=>
  unfold opV
  simp only
  cases get T t with
  | none=>exact ak.no
  | some i=>
   cases e x with
   | loc d off=>
    simp only
    cases get bx d with
    | none=>exact ak.no
    | some cs=>exact k0 fun _=>ak.k _
   | ref cs=>exact k0 fun _=>ak.k _
   | _=>exact ak.no
 | fieldAddr t x f=>
  unfold opV
  simp only
  cases get T t with
  | none=>exact ak.no
  | some i=>
   refine ak.bif ?_ ak.no
   cases nth i.flds f with
   | none=>exact ak.no
   | some p=>
    obtain ⟨off,ft⟩:=p
    simp only
    cases get T ft with
    | none=>exact ak.no
    | some j=>refine ak.bif ak.no ?_; cases e x <;> first | exact ak.no | exact ak.k _
 | field t x f=>
  unfold opV
  simp only
  cases get T t with
  | none=>exact ak.no
  | some i=>
   refine ak.bif ?_ ak.no
   cases nth i.flds f with
   | none=>exact ak.no
   | some p=>
    obtain ⟨off,ft⟩:=p
    simp only
    cases get T ft with
    | none=>exact ak.no
    | some j=>cases e x <;> first | exact ak.no | exact ak.bif (k0 fun _=>ak.k _) ak.no
 | indexAddr t x n=>
  unfold opV
  simp only
  cases get T t with
  | none=>exact ak.no
  | some i=>
   simp only
   cases get T i.elem with
   | none=>exact ak.no
   | some j=>
    cases e n <;> first | exact ak.no | skip
    cases e x <;> first | exact ak.no | exact ak.bif (ak.szOK (ak.and (ak.ex fun _=>ak.k _))) ak.no | exact ak.bif (ak.and (ak.and (ak.k _))) ak.no
 | index t x n=>
  unfold opV
  simp only
  cases get T t with
  | none=>exact ak.no
  | some i=>
   simp only
   cases get T i.elem with
   | none=>exact ak.no
   | some j=>cases e n <;> cases e x <;> first | exact ak.no | exact ak.bif (ak.and (ak.and (ak.and (k0 fun _=>ak.k _)))) ak.no
 | slice t x lo hi mx=>
  unfold opV
  simp only
  cases get T t with
  | none=>exact ak.no
  | some i=>
   simp only
   cases get T i.elem with
   | none=>exact ak.no
   | some j=>
    cases e x <;> first | exact ak.no | skip
    refine ak.bif (ak.szOK (jH _ _ fun l=>jH _ _ fun h=>?_)) ak.no
    cases mx.map e with
    | none=>exact ak.and (ak.and (ak.k _))
    | some v=>cases v <;> first | exact ak.no | exact ak.bif (ak.and (ak.and (ak.and (ak.k _)))) ak.no
 | extract x n=>
  unfold opV
  simp only
  cases e x <;> first | exact ak.no | skip
  rename_i vs
  simp only
  cases nth vs n <;> first | exact ak.no | exact ak.k _
 | build t parts=>
  unfold opV
  simp only [nj]
  cases get T t with
  | none=>exact ak.no
  | some i=>
   obtain ⟨isz,ib,iz,ifl,ia,ie,ik,iik,iq⟩:=i
   simp only
   cases iz <;> first | exact ak.no | skip
   refine ak.bif ?_ (ak.bif ?_ ak.no)
   ·split <;> first | exact ak.no | exact ak.bif (ak.k _) ak.no
   ·cases get T ie with
    | none=>exact ak.no
    | some k=>simp only; split <;> first | exact ak.no | exact ak.bif (ak.k _) ak.no
 | buildSlice t n parts=>
  unfold opV
  simp only
  cases get T t with
  | none=>exact ak.no
  | some i=>
   simp only
   cases get T i.elem with
   | none=>exact ak.no
   | some j=>refine ak.bif ?_ ak.no; cases fS e parts.toList 0 j.size <;> cases j.zero.cells? <;> first | exact ak.no | (simp only [vB]; exact ak.k _)
 | convert a b x=>
  unfold opV
  simp only
  cases get T a <;> cases get T b <;> first | exact ak.no | (cases e x <;> first | exact ak.no | exact ak.bif (ak.k _) ak.no)
 | call c=>
  unfold opV
  simp only
  cases c.callee with
  | value f=>
   simp only
   cases e f <;> first | exact ak.no | exact ak.ex fun _=>ak.k _
  | invoke r m=>exact ak.no
  | builtin b=>
   cases b <;> first | exact ak.no | skip
   ·simp only
    split <;> first | exact ak.no | skip
    rename_i x t _ _
    cases get T t with
    | none=>exact ak.no
    | some i=>simp only; cases e x <;> exact ak.bif (ak.k _) ak.no
   ·simp only
    split <;> first | exact ak.no | skip
    rename_i k x r _
    cases gM true k x r <;> first | exact ak.no | exact ak.k _
   ·simp only
    split <;> first | exact ak.no | skip
    rename_i k x r _
    cases gM false k x r <;> first | exact ak.no | exact ak.k _
 | _=>exact ak.no
end
end Go.AI
namespace Go.AI
open Go
def AR (e e':Operand→AV) (bx bx':List (Nat×List AV)) (xs:List Operand):Prop:=∀ x∈xs,e' x=e x∧∀ d off,e x = .loc d off→get bx' d=get bx d
def E4 (s s':St) (xs:List Operand):Prop:=∀ x∈xs,(∀ g k n ys,ev s x = .me g k n ys→get s'.t (xk k)=get s.t (xk k)) ∧
 ∀ b,ev s x = .lit (.map (some b))→∀ k n ys,get s.t (xk k)=some (.me .ents k n ys)→get s'.t (xk k)=get s.t (xk k)
section
variable (T:Tab) (C:FuncId→List AV→AV→Prop) {bx bx':List (Nat×List AV)} {e e':Operand→AV}
theorem kU:∀ (l:List (Nat×Operand)) (n sz:Nat),(∀ p∈l,e' p.2=e p.2)→fS e' l n sz=fS e l n sz
 | [],_,_,_=>rfl
 |(i,x)::r,n,sz,h=>by
  simp only [fS,h (i,x) List.mem_cons_self,kU r (n+1) sz fun p hp=>h p (List.mem_cons_of_mem _ hp)]
theorem vq {l:List Operand} (h:∀ x∈l,e' x=e x):l.map e'=l.map e:=List.map_congr_left h
theorem Bb {ty:TypeId} {op:Op} {K:AV→Prop} (hA:AR e e' bx bx' op.operands.toList) (h:opV T C bx e ty op K):opV T C bx' e' ty op K:=by
 cases op with
 | move x=>have h1:=(hA x (by simp [Op.operands])).1; unfold opV at h ⊢; simp only [h1] at h ⊢; exact h
 | assign x=>have h1:=(hA x (by simp [Op.operands])).1; unfold opV at h ⊢; simp only [h1] at h ⊢; exact h
 | pick c a b=>
  have h1:=(hA c (by simp [Op.operands])).1
  have h2:=(hA a (by simp [Op.operands])).1
  have h3:=(hA b (by simp [Op.operands])).1
  unfold opV at h ⊢; simp only [h1,h2,h3] at h ⊢; exact h
 | binOp op t x y p=>
  have h1:=(hA x (by simp [Op.operands])).1
  have h2:=(hA y (by simp [Op.operands])).1
  unfold opV at h ⊢; simp only [h1,h2] at h ⊢; exact h
 | unOp op t x=>have h1:=(hA x (by simp [Op.operands])).1; unfold opV at h ⊢; simp only [h1] at h ⊢; exact h
 | load t x=>
  obtain ⟨h1,h2⟩:=hA x (by simp [Op.operands])
  unfold opV at h ⊢
  simp only [h1] at h ⊢
  cases hg:get T t with
  | none=>rw [hg] at h; exact h
  | some i=>
   rw [hg] at h
   simp only at h ⊢
   cases he:e x with
   | loc d off=>rw [he] at h; simp only [h2 d off he] at h ⊢; exact h
   | _=>rw [he] at h; exact h
 | fieldAddr t x f=>have h1:=(hA x (by simp [Op.operands])).1; unfold opV at h ⊢; simp only [h1] at h ⊢; exact h
 | field t x f=>have h1:=(hA x (by simp [Op.operands])).1; unfold opV at h ⊢; simp only [h1] at h ⊢; exact h
 | indexAddr t x n=>
  have h1:=(hA x (by simp [Op.operands])).1
  have h2:=(hA n (by simp [Op.operands])).1
  unfold opV at h ⊢; simp only [h1,h2] at h ⊢; exact h
 | index t x n=>
  have h1:=(hA x (by simp [Op.operands])).1
  have h2:=(hA n (by simp [Op.operands])).1
  unfold opV at h ⊢; simp only [h1,h2] at h ⊢; exact h
 | slice t x lo hi mx=>
  have h1:=(hA x (by simp [Op.operands])).1
  have hl:lo.map e'=lo.map e:=by cases lo with | none=>rfl | some y=>simp [(hA y (by simp [Op.operands])).1]
  have hh:hi.map e'=hi.map e:=by cases hi with | none=>rfl | some y=>simp [(hA y (by simp [Op.operands])).1]
  have hm:mx.map e'=mx.map e:=by cases mx with | none=>rfl | some y=>simp [(hA y (by simp [Op.operands])).1]
  unfold opV at h ⊢; simp only [h1,hl,hh,hm] at h ⊢; exact h
 | extract x n=>have h1:=(hA x (by simp [Op.operands])).1; unfold opV at h ⊢; simp only [h1] at h ⊢; exact h
 | build t parts=>
  have h1:(parts.toList.map fun (p:Nat×Operand)=>(p.1,e' p.2))=parts.toList.map fun (p:Nat×Operand)=>(p.1,e p.2):=List.map_congr_left fun p hp=>by
   rw [(hA p.2 (by simp only [Op.operands,List.mem_map]; exact ⟨p,hp,rfl⟩)).1]
  unfold opV at h ⊢; simp only [h1] at h ⊢; exact h
 | buildSlice t n parts=>
  have h1:=fun (m sz:Nat)=>kU (e:=e) (e':=e') parts.toList m sz fun p hp=>(hA p.2 (by simp only [Op.operands,List.mem_map]; exact ⟨p,hp,rfl⟩)).1
  unfold opV at h ⊢; simp only [h1] at h ⊢; exact h
 | convert a b x=>have h1:=(hA x (by simp [Op.operands])).1; unfold opV at h ⊢; simp only [h1] at h ⊢; exact h
 | call c=>
  obtain ⟨cal,args,ts⟩:=c
  have h1:∀ x∈args.toList,e' x=e x:=fun x hx=>(hA x (by simp [Op.operands,Call.operands]; exact .inr (by simpa using hx))).1
  have hp:(args.toList.map fun x=>(e' x).pub)=args.toList.map fun x=>(e x).pub:=List.map_congr_left fun x hx=>by rw [h1 x hx]
  have hm:=vq h1
  cases cal with
  | value f=>
   have h2:=(hA f (by simp [Op.operands,Call.operands])).1
   unfold opV at h ⊢
   simp only [hp,h2] at h ⊢
   exact h
  | invoke r m=>unfold opV at h; exact h.elim
  | builtin b=>
   cases b with
   | len=>
    unfold opV at h ⊢
    simp only at h ⊢
    generalize args.toList=l at h1 h ⊢
    generalize ts.toList=tl at h ⊢
    cases l with
    | nil=>exact h
    | cons x r=>
     have hx:=h1 x List.mem_cons_self
     rcases r with _ | ⟨y,r⟩ <;> rcases tl with _ | ⟨t,_ | ⟨t2,tl⟩⟩ <;> first | exact h | (simp only [hx] at h ⊢; exact h)
   | max=>unfold opV at h ⊢; simp only [hm] at h ⊢; exact h
   | min=>unfold opV at h ⊢; simp only [hm] at h ⊢; exact h
   | _=>unfold opV at h; exact h.elim
 | _=>unfold opV at h; exact h.elim
end
end Go.AI
namespace Go.AI
open Go
inductive iO where
 | val (v:AV)
 | alloc (cs:List AV)
 | store (d:Nat) (cs:List AV)
 | app (k:Nat) (v:AV)
 | xst (k:Nat) (v:AV)
 | cut (k n:Nat) (v:AV)
section
variable (T:Tab) (C:FuncId→List AV→AV→Prop)
def opR (s:St) (dst:Option Nat) (ty:TypeId) (op:Op) (K:iO→Prop):Prop:=
 match op with
 | .alloc t=>match dst,get T t with
  | some d,some i=>match i.zero.cells? with
   | some cs=>bif Nat.beq cs.length i.size&&cs.all (fun c=>c.isCell) then K (.alloc cs) else False
   | none=>False
  | _,_=>False
 | .store t a x=>match dst,get T t,ev s a,(ev s x).cells? with
  | none,some i,.loc d off,some cs=>bif Nat.beq cs.length i.size&&cs.all (fun c=>c.isCell) then
    match get s.b d with
    | some c0=>bif Nat.ble (off+cs.length) c0.length&&Nat.blt 0 cs.length then K (.store d (mT c0 off cs)) else False
    | none=>False
   else False
  | _,_,_,_=>False
 | .call { callee := .builtin .append,args:=args,argTypes:=ts }=>match args.toList,ts.toList,dst with
  | [x,y],[t,t'],some d=>match get T t with
   | some i=>match get T i.elem with
    | some j=>match ev s x,ev s y with
     | .sl o sz xs,.sl _ sz' ys=>bif Nat.beq i.kind 3&&Nat.beq t t'&&rB j&&Nat.blt 0 j.size&&wM o j.size sz then szOK j.size sz xs (szOK j.size sz' ys (ir (xs.length+ys.length) j.bytes∧xs.length+ys.length≤4611686018427387904 ∧
       match o with
       | .full=>bif nF xs ys then K (.app d (.sl (.id d) j.size (xs++ys))) else bif kH ys then False else K (.val (.sl .full sz xs))
       | .id k=>K (.app k (.sl (.id k) j.size (xs++ys)))
       | .no=>False)) else False
     | _,_=>False
    | none=>False
   | none=>False
  | _,_,_=>False
 | op=>opV T C s.b (ev s) ty op fun v=>v.go fun v=>K (.val v)
end
section
variable (T:Tab) (C:FuncId→List AV→AV→Prop)
def jP (s:St) (t:TypeId) (k len:Nat) (i:Int) (K:iO→Prop):Prop:=match get T t with
 | none=>False
 | some ti=>match get T ti.elem with
  | none=>False
  | some j=>match fz s k with
   | none=>False
   | some (sz,_)=>bif Nat.beq ti.kind 3&&Nat.beq j.size sz then 0≤i∧i<len∧K (.val (.me (.ptr sz 0) k i.toNat [])) else False
def vk (s:St) (dst:Option Nat) (t:TypeId) (sz j k i:Nat) (v:AV) (K:iO→Prop):Prop:=match dst,get T t,v.cells? with
 | none,some ti,some cs=>match fz s k with
  | none=>False
  | some (sz',xs)=>bif Nat.beq sz' sz&&(Nat.beq cs.length ti.size&&(cs.all (fun c=>c.isCell)&&(Nat.ble (j+cs.length) sz&&Nat.blt 0 cs.length))) then
    ∃ r,xs[i]?=some r∧K (.xst k (.me .arr k sz (bZ xs i (mT r j (cs.map AV.pub1))))) else False
 | _,_,_=>False
def Gy (t:TypeId) (n:Nat) (K:iO→Prop):Prop:=match get T t with
 | none=>False
 | some i=>bif Nat.beq i.kind 3 then K (.val (.int .i64 n)) else False
def vl (s:St) (t:TypeId) (k n:Nat) (lo hi mx:Option AV) (K:iO→Prop):Prop:=match get T t with
 | none=>False
 | some i=>match get T i.elem with
  | none=>False
  | some j=>match fz s k with
   | none=>False
   | some (sz,_)=>bif Nat.beq i.kind 3&&(Nat.beq j.size sz&&mx.isNone) then fx lo 0 fun l=>fx hi n fun h=>l≤h∧h≤n∧K (.val (.me (.sub sz l) k (h - l) [])) else False
def Fu (s:St) (dst:Option Nat) (ts:List TypeId) (sz k h:Nat) (y:AV) (K:iO→Prop):Prop:=match dst,ts with
 | some _,[t,t']=>match get T t with
  | none=>False
  | some i=>match get T i.elem with
   | none=>False
   | some j=>match y with
    | .me (.sub sz' l) k' m _=>match fz s k with
     | none=>False
     | some (sz2,xs)=>bif Nat.beq i.kind 3&&(Nat.beq t t'&&(Nat.beq sz sz2&&(Nat.beq sz' sz2&&(Nat.beq k k'&&(Nat.beq j.size sz2&&Nat.blt 0 sz2))))) then
       h+m≤xs.length∧K (.cut k (h+m) (.me .arr k sz2 (xs.take h++(xs.drop l).take m))) else False
    | _=>False
 | _,_=>False
def Aj (s:St) (t:TypeId) (sz j k i:Nat) (K:iO→Prop):Prop:=match get T t with
 | none=>False
 | some ti=>match fz s k with
  | none=>False
  | some (sz',xs)=>bif Nat.beq sz' sz then ∃ r,xs[i]?=some r∧match e7 ti (r.drop j) with | some v=>v.go fun v=>K (.val v) | none=>False else False
def l9 (t:TypeId) (f sz j k i:Nat) (K:iO→Prop):Prop:=match get T t with
 | none=>False
 | some ti=>bif Nat.beq ti.kind 1 then match nth ti.flds f with
   | none=>False
   | some (off,ft)=>match get T ft with
    | none=>False
    | some u=>bif Nat.beq u.size 0 then False else K (.val (.me (.ptr sz (j+off)) k i []))
  else False
def kj (s:St) (dst:Option Nat) (ty:TypeId) (op:Op) (K:iO→Prop):Prop:=match op with
 | .indexAddr t x n=>match ev s x,ev s n with
  | .me .sl k len _,.int _ i=>jP T s t k len i K
  | _,_=>opR T C s dst ty op K
 | .store t a x=>match ev s a with
  | .me (.ptr sz j) k i _=>vk T s dst t sz j k i (ev s x) K
  | _=>opR T C s dst ty op K
 | .call { callee := .builtin .len,args:=args,argTypes:=ts }=>match args.toList,ts.toList with
  | [x],[t]=>match ev s x with
   | .me .sl _ n _=>Gy T t n K
   | _=>opR T C s dst ty op K
  | _,_=>opR T C s dst ty op K
 | .mapUpdate t m k x=>match ev s m with
  | .lit (.map (some b))=>yH T s dst t b (ev s k) (ev s x) fun k v=>K (.xst k v)
  | _=>False
 | .call { callee := .builtin .append,args:=args,argTypes:=ts }=>match args.toList with
  | [x,y]=>match ev s x with
   | .me (.sub sz 0) k h _=>Fu T s dst ts.toList sz k h (ev s y) K
   | _=>opR T C s dst ty op K
  | _=>opR T C s dst ty op K
 | .slice t x lo hi mx=>match ev s x with
  | .me .sl k n _=>vl T s t k n (lo.map (ev s)) (hi.map (ev s)) (mx.map (ev s)) K
  | _=>opR T C s dst ty op K
 | .load t x=>match ev s x with
  | .me (.ptr sz j) k i _=>Aj T s t sz j k i K
  | _=>opR T C s dst ty op K
 | .fieldAddr t x f=>match ev s x with
  | .me (.ptr sz j) k i _=>l9 T t f sz j k i K
  | _=>opR T C s dst ty op K
 | op=>opR T C s dst ty op K
end
def dJ (s:St) (dst:Option Nat):iO→St
 | .val v=>match dst with | some d=>⟨(d,v)::s.t,s.b⟩ | none=>s
 | .alloc cs=>match dst with | some d=>⟨(d,.loc d 0)::unloc d s.t,(d,cs)::s.b⟩ | none=>s
 | .store d cs=>⟨s.t,(d,cs)::s.b⟩
 | .app k v=>match dst with | some d=>⟨(d,v)::(s.dem k).t,(s.dem k).b⟩ | none=>s
 | .xst k v=>⟨(xk k,v)::s.t,s.b⟩
 | .cut k n v=>match dst with | some d=>⟨(d,.me .sl k n [])::(xk k,v)::iB (AV.unme k) s.t,s.b⟩ | none=>s
theorem ak.mono {α:Type} {f:(α→Prop)→Prop} (h:ak f) {K K':α→Prop} (hf:f K) (hk:∀ v,K v→K' v):f K':=
 let ⟨v,h1,h2⟩:=h K hf; h2 K' (hk v h1)
theorem fc (T:Tab) (C:FuncId→List AV→AV→Prop) (s:St) (dst:Option Nat) (ty:TypeId) (op:Op):ak (opR T C s dst ty op):=by
 unfold opR
 split
 ·cases dst with
  | none=>exact ak.no
  | some d=>
   rename_i t
   cases get T t with
   | none=>exact ak.no
   | some i=>
    simp only
    cases i.zero.cells? with
    | none=>exact ak.no
    | some cs=>exact ak.bif (ak.k _) ak.no
 ·rename_i t x y
  cases dst with
  | some d=>exact ak.no
  | none=>
   cases get T t with
   | none=>exact ak.no
   | some i=>
    cases ev s x <;> first | exact ak.no | skip
    rename_i d off
    cases (ev s y).cells? with
    | none=>exact ak.no
    | some cs=>
     refine ak.bif ?_ ak.no
     cases get s.b d with
     | none=>exact ak.no
     | some c0=>exact ak.bif (ak.k _) ak.no
 ·rename_i args ts
  generalize args.toList=l
  generalize ts.toList=tl
  rcases l with _ | ⟨x,_ | ⟨y,_ | ⟨z,l⟩⟩⟩ <;> rcases tl with _ | ⟨t,_ | ⟨t',_ | ⟨t'',tl⟩⟩⟩ <;> cases dst <;> first | exact ak.no | skip
  simp only
  cases get T t with
  | none=>exact ak.no
  | some i=>
   simp only
   cases get T i.elem with
   | none=>exact ak.no
   | some j=>
    simp only
    cases ev s x <;> cases ev s y <;> first | exact ak.no | skip
    rename_i o _ _ _ _ _
    refine ak.bif (ak.szOK (ak.szOK (ak.and (ak.and ?_)))) ak.no
    cases o <;> first | exact ak.no | exact ak.k _ | exact ak.bif (ak.k _) (ak.bif ak.no (ak.k _))
 ·intro K h
  have h':=(wR T C s.b (ev s) ty op) _ h
  obtain ⟨v,h1,h2⟩:=h'
  rw [AV.go_eq] at h1
  exact ⟨_,h1,fun K' k=>h2 _ (by rw [AV.go_eq]; exact k)⟩
theorem ak.ex' {α β:Type} {f:β→(α→Prop)→Prop} (h:∀ b,ak (f b)):ak (fun K=>∃ b,f b K):=fun K ⟨b,g⟩=>let ⟨v,h1,h2⟩:=h b K g; ⟨v,h1,fun K' k=>⟨b,h2 K' k⟩⟩
theorem AW (T:Tab) (s:St) (dst:Option Nat) (mt:TypeId) (b:Nat) (kv xv:AV):ak (fun K:iO→Prop=>yH T s dst mt b kv xv fun k v=>K (.xst k v)):=by
 unfold yH
 split
 ·split
  ·split
   ·exact ak.bif (ak.ex' fun k=>ak.ex' fun l=>ak.ex' fun key=>ak.and (ak.k _)) ak.no
   ·exact ak.no
  ·exact ak.no
 ·exact ak.no
theorem Bd (T:Tab) (C:FuncId→List AV→AV→Prop) (s:St) (dst:Option Nat) (ty:TypeId) (op:Op):ak (kj T C s dst ty op):=by
 unfold kj
 split
 ·split
  ·unfold jP
   split
   ·exact ak.no
   split
   ·exact ak.no
   split
   ·exact ak.no
   exact ak.bif (ak.and (ak.and (ak.k _))) ak.no
  ·exact fc T C s dst ty _
 ·split
  ·unfold vk
   split
   ·split
    ·exact ak.no
    exact ak.bif (ak.ex fun r=>ak.k _) ak.no
   ·exact ak.no
  ·exact fc T C s dst ty _
 ·split
  ·split
   ·unfold Gy
    split
    ·exact ak.no
    exact ak.bif (ak.k _) ak.no
   ·exact fc T C s dst ty _
  ·exact fc T C s dst ty _
 ·split
  ·exact AW T s dst _ _ _ _
  ·exact ak.no
 ·split
  ·split
   ·unfold Fu
    split
    ·split
     ·exact ak.no
     split
     ·exact ak.no
     split
     ·split
      ·exact ak.no
      ·exact ak.bif (ak.and (ak.k _)) ak.no
     ·exact ak.no
    ·exact ak.no
   ·exact fc T C s dst ty _
  ·exact fc T C s dst ty _
 ·split
  ·unfold vl
   split
   ·exact ak.no
   split
   ·exact ak.no
   split
   ·exact ak.no
   exact ak.bif (jH _ _ fun l=>jH _ _ fun h=>ak.and (ak.and (ak.k _))) ak.no
  ·exact fc T C s dst ty _
 ·split
  ·unfold Aj
   split
   ·exact ak.no
   split
   ·exact ak.no
   refine ak.bif (ak.ex fun r=>?_) ak.no
   split
   ·simp only [AV.go_eq]; exact ak.k _
   ·exact ak.no
  ·exact fc T C s dst ty _
 ·split
  ·unfold l9
   split
   ·exact ak.no
   refine ak.bif ?_ ak.no
   split
   ·exact ak.no
   split
   ·exact ak.no
   exact ak.bif ak.no (ak.k _)
  ·exact fc T C s dst ty _
 ·exact fc T C s dst ty _
theorem fB {T:Tab} {C:FuncId→List AV→AV→Prop} {s s':St} {dst:Option Nat} {ty:TypeId} {op:Op} {K:iO→Prop} (hA:AR (ev s) (ev s') s.b s'.b op.operands.toList) (h:opR T C s dst ty op K):opR T C s' dst ty op K:=by
 unfold opR at h
 split at h
 ·unfold opR; exact h
 ·rename_i t x y
  have h1:=hA x (by simp [Op.operands])
  have h2:=(hA y (by simp [Op.operands])).1
  unfold opR
  simp only [h1.1,h2]
  split at h
  ·rename_i i d off cs hi hx hy
   simp only [h1.2 d off hx]
   exact h
  ·exact h.elim
 ·rename_i args ts
  have h1:∀ x∈args.toList,ev s' x=ev s x:=fun x hx=>(hA x (by simp [Op.operands,Call.operands]; simpa using hx)).1
  unfold opR
  simp only
  generalize args.toList=l at h1 h ⊢
  generalize ts.toList=tl at h ⊢
  rcases l with _ | ⟨x,_ | ⟨y,_ | ⟨z,l⟩⟩⟩ <;> rcases tl with _ | ⟨t,_ | ⟨t',_ | ⟨t'',tl⟩⟩⟩ <;> cases dst <;> first | exact h | skip
  have hx:=h1 x (by simp)
  have hy:=h1 y (by simp)
  simp only [hx,hy] at h ⊢
  exact h
 ·rename_i h1 h2 h3
  unfold opR
  split
  ·exact absurd rfl (h1 _)
  ·exact absurd rfl (h2 _ _ _)
  ·exact absurd rfl (h3 _ _)
  ·exact Bb T C hA h
theorem gn {s s':St} {k:Nat} (h:get s'.t (xk k)=get s.t (xk k)):fz s' k=fz s k:=by unfold fz; rw [h]
theorem yX {T:Tab} {C:FuncId→List AV→AV→Prop} {s s':St} {dst:Option Nat} {ty:TypeId} {op:Op} {K:iO→Prop} (hA:AR (ev s) (ev s') s.b s'.b op.operands.toList) (hX:E4 s s' op.operands.toList)
  (h:kj T C s dst ty op K):kj T C s' dst ty op K:=by
 unfold kj at h
 split at h
 ·rename_i t x n
  have h1:=(hA x (by simp [Op.operands])).1
  have h2:=(hA n (by simp [Op.operands])).1
  unfold kj
  simp only [h1,h2]
  split at h
  ·rename_i k len zs q i hx hn
   unfold jP at h ⊢
   rw [gn ((hX x (by simp [Op.operands])).1 _ _ _ _ hx)]
   exact h
  ·exact fB hA h
 ·rename_i t y x
  have h1:=(hA y (by simp [Op.operands])).1
  have h2:=(hA x (by simp [Op.operands])).1
  unfold kj
  simp only [h1,h2]
  split at h
  ·rename_i sz j k i zs hy
   unfold vk at h ⊢
   rw [gn ((hX y (by simp [Op.operands])).1 _ _ _ _ hy)]
   exact h
  ·exact fB hA h
 ·rename_i args ts
  have hc:=@fB T C s s' dst ty _ K hA
  have h1:∀ x∈args.toList,ev s' x=ev s x:=fun x hx=>(hA x (by simp [Op.operands,Call.operands]; simpa using hx)).1
  unfold kj
  simp only
  split at h
  ·rename_i x t ha ht
   have hx:=h1 x (by rw [ha]; exact List.mem_cons_self)
   simp only [hx]
   split at h
   ·exact h
   ·exact hc h
  ·exact hc h
 ·rename_i t m k x
  have h1:=(hA m (by simp [Op.operands])).1
  have h2:=(hA k (by simp [Op.operands])).1
  have h3:=(hA x (by simp [Op.operands])).1
  unfold kj
  simp only [h1,h2,h3]
  split at h
  ·rename_i b hm
   unfold yH at h ⊢
   split at h
   ·split at h
    ·split at h
     ·generalize (Nat.beq _ 9&&kL _)=bb at h ⊢
      cases bb with
      | false=>exact h.elim
      | true=>
       obtain ⟨k,l,key,⟨g1,g2⟩,hK⟩:=h
       exact ⟨k,l,key,⟨((hX m (by simp [Op.operands])).2 b hm k _ _ g1).trans g1,g2⟩,hK⟩
     ·exact h.elim
    ·exact h.elim
   ·exact h.elim
  ·exact h.elim
 ·rename_i args ts
  have hc:=@fB T C s s' dst ty _ K hA
  have h1:∀ x∈args.toList,ev s' x=ev s x:=fun x hx=>(hA x (by simp [Op.operands,Call.operands]; simpa using hx)).1
  have h2:∀ x∈args.toList,∀ g k n ys,ev s x = .me g k n ys→get s'.t (xk k)=get s.t (xk k):=fun x hx=>(hX x (by simp [Op.operands,Call.operands]; simpa using hx)).1
  unfold kj
  simp only
  split at h
  ·rename_i x y ha
   have hx:=h1 x (by rw [ha]; exact List.mem_cons_self)
   have hy:=h1 y (by rw [ha]; simp)
   simp only [hx,hy]
   split at h
   ·rename_i sz k n zs he
    unfold Fu at h ⊢
    rw [gn (h2 x (by rw [ha]; exact List.mem_cons_self) _ _ _ _ he)]
    exact h
   ·exact hc h
  ·exact hc h
 ·rename_i t x lo hi mx
  have h1:=(hA x (by simp [Op.operands])).1
  have hlo:lo.map (ev s')=lo.map (ev s):=by cases lo with | none=>rfl | some y=>exact congrArg some (hA y (by simp [Op.operands])).1
  have hhi:hi.map (ev s')=hi.map (ev s):=by cases hi with | none=>rfl | some y=>exact congrArg some (hA y (by simp [Op.operands])).1
  have hmx:mx.map (ev s')=mx.map (ev s):=by cases mx with | none=>rfl | some y=>exact congrArg some (hA y (by simp [Op.operands])).1
  unfold kj
  simp only [h1,hlo,hhi,hmx]
  split at h
  ·rename_i k n zs hx
   unfold vl at h ⊢
   rw [gn ((hX x (by simp [Op.operands])).1 _ _ _ _ hx)]
   exact h
  ·exact fB hA h
 ·rename_i t x
  have h1:=(hA x (by simp [Op.operands])).1
  unfold kj
  simp only [h1]
  split at h
  ·rename_i sz j k i zs hx
   unfold Aj at h ⊢
   rw [gn ((hX x (by simp [Op.operands])).1 _ _ _ _ hx)]
   exact h
  ·exact fB hA h
 ·rename_i t x f
  have h1:=(hA x (by simp [Op.operands])).1
  unfold kj
  simp only [h1]
  split at h
  ·exact h
  ·exact fB hA h
 ·rename_i h1 h2 h3 h4 h5 h6 h7 h8
  have hc:=fB hA h
  unfold kj
  split
  ·exact absurd rfl (h1 _ _ _)
  ·exact absurd rfl (h2 _ _ _)
  ·exact absurd rfl (h3 _ _)
  ·exact absurd rfl (h4 _ _ _ _)
  ·exact absurd rfl (h5 _ _)
  ·exact absurd rfl (h6 _ _ _ _ _)
  ·exact absurd rfl (h7 _ _)
  ·exact absurd rfl (h8 _ _ _)
  ·exact hc
end Go.AI
namespace Go.AI
open Go
open Go.RowKit (Below)
section
variable {Γ:aO} (hΓ:Γ.OK) {T:Tab} (hT:T.OK Γ.P) {s:St} {o:Oper} {a:Act} {w:World} {next:Act→World→Prop} {Q:Exit→Act→World→Prop}
theorem fm {v:AV} {K:St→Prop} (h:K (dJ s o.dst (.val v))):fV s o.dst v K:=by
 obtain ⟨t,b⟩:=s
 unfold fV
 unfold dJ at h
 cases hd:o.dst with
 | none=>rw [hd] at h; exact h
 | some d=>rw [hd] at h; exact h
include hΓ hT in
theorem Bc {K:iO→Prop} (hI:Inv Γ s a w) (hd:∀ d,o.dst=some d→d<Γ.nt) (h:opR T (ae Γ.P) s o.dst o.type o.op K)
  (hn:dH Γ a o.dst w (fun s'=>∃ r,K r∧s'=dJ s o.dst r) next):o.wpIn Γ.F Γ.n Γ.P a w next Q:=by
 generalize hop:o.op=op at h
 unfold opR at h
 split at h
 ·rename_i t
  split at h
  ·rename_i d i hdst hi
   split at h
   ·rename_i cs hcs
    cases hb:(Nat.beq cs.length i.size&&cs.all (fun c=>c.isCell)) with
    | false=>rw [hb] at h; exact h.elim
    | true=>
     rw [hb,cond_true] at h
     simp only [Bool.and_eq_true,List.all_eq_true] at hb
     exact CW hΓ hT hop hI hd hdst hi hcs hb.2 (fun s'=>∃ r,K r∧s'=dJ s (some d) r) ⟨_,h,rfl⟩ (hdst ▸ hn)
   ·exact h.elim
  ·exact h.elim
 ·rename_i t x y
  refine Ad hΓ hT hop hI ?_ hn
  unfold opS
  simp only
  split at h
  ·rename_i i d off cs hdst hi hx hy
   rw [hdst]
   simp only [hi,hx,hy]
   cases hc:(Nat.beq cs.length i.size&&cs.all (fun c=>c.isCell)) with
   | false=>rw [hc] at h; exact h.elim
   | true=>
    rw [hc] at h
    simp only [cond_true] at h ⊢
    split at h
    ·rename_i c0 hg
     unfold lY
     simp only [hg]
     cases hc2:(Nat.ble (off+cs.length) c0.length&&Nat.blt 0 cs.length) with
     | false=>rw [hc2] at h; exact h.elim
     | true=>rw [hc2] at h; exact ⟨_,h,rfl⟩
    ·exact h.elim
  ·exact h.elim
 ·rename_i args ts
  refine wD hΓ hT hop hI hd ?_ hn
  unfold opS
  simp only
  generalize args.toList=l at h ⊢
  generalize ts.toList=tl at h ⊢
  generalize o.dst=dst at h ⊢
  rcases l with _ | ⟨x,_ | ⟨y,_ | ⟨z,l⟩⟩⟩ <;> rcases tl with _ | ⟨t,_ | ⟨t',_ | ⟨t'',tl⟩⟩⟩ <;> cases dst <;> first | exact h.elim | skip
  simp only at h ⊢
  split at h
  ·rename_i i hi
   simp only [hi]
   split at h
   ·rename_i j hj
    simp only [hj]
    split at h
    ·rename_i ow sz xs ow' sz' ys hx hy
     simp only [hx,hy]
     cases hc:(Nat.beq i.kind 3&&Nat.beq t t'&&rB j&&Nat.blt 0 j.size&&wM ow j.size sz) with
     | false=>rw [hc] at h; exact h.elim
     | true=>
      rw [hc] at h
      simp only [cond_true] at h ⊢
      refine ak.mono (ak.szOK (ak.k (α:=Unit) ())) (K:=fun _=>_) (K':=fun _=>_) h fun _ h=>?_
      refine ak.mono (ak.szOK (ak.k (α:=Unit) ())) (K:=fun _=>_) (K':=fun _=>_) h fun _ h=>?_
      refine ⟨h.1,h.2.1,?_⟩
      replace h:=h.2.2
      cases ow with
      | no=>exact h.elim
      | full=>
       cases ha:nF xs ys with
       | true=>rw [ha] at h; exact ⟨_,h,rfl⟩
       | false=>
        rw [ha,cond_false] at h
        cases hy0:kH ys with
        | true=>rw [hy0] at h; exact h.elim
        | false=>rw [hy0] at h; exact ⟨_,h,rfl⟩
      | id k=>exact ⟨_,h,rfl⟩
    ·exact h.elim
   ·exact h.elim
  ·exact h.elim
 ·subst hop
  obtain ⟨v,h1,h2⟩:=wR T (ae Γ.P) s.b (ev s) o.type o.op _ h
  rw [AV.go_eq] at h1
  refine Ac hΓ hT hI hd (K:=fun s'=>∃ r,K r∧s'=dJ s o.dst r) (h2 _ ?_) hn
  rw [AV.go_eq]
  exact fm ⟨_,h1,rfl⟩
include hΓ hT in
theorem yW {K:iO→Prop} (hI:Inv Γ s a w) (hd:∀ d,o.dst=some d→d<Γ.nt) (harr:∀ d g k n xs,sy g=true→get s.t d=some (.me g k n xs)→d=xk k) (h:kj T (ae Γ.P) s o.dst o.type o.op K)
  (hn:dH Γ a o.dst w (fun s'=>∃ r,K r∧s'=dJ s o.dst r) next):o.wpIn Γ.F Γ.n Γ.P a w next Q:=by
 generalize hop:o.op=op at h
 have back:opR T (ae Γ.P) s o.dst o.type op K→o.wpIn Γ.F Γ.n Γ.P a w next Q:=fun h=>Bc hΓ hT hI hd (by rw [hop]; exact h) hn
 unfold kj at h
 split at h
 ·split at h
  ·rename_i hx hy
   refine p8 hΓ hT hop hI hd hx hy ?_ hn
   unfold jP at h
   unfold jD
   split at h
   ·exact h.elim
   rename_i ti hti
   simp only [hti]
   split at h
   ·exact h.elim
   rename_i j hj
   simp only [hj]
   split at h
   ·exact h.elim
   rename_i sz xs hc
   simp only [hc]
   cases hb:(Nat.beq ti.kind 3&&Nat.beq j.size sz) with
   | false=>rw [hb] at h; exact h.elim
   | true=>rw [hb] at h; exact ⟨h.1,h.2.1,fm ⟨_,h.2.2,rfl⟩⟩
  ·exact back h
 ·split at h
  ·rename_i hy
   refine wn hΓ hT hop hI hy (fun d n xs=>harr d _ _ n xs rfl) ?_ hn
   unfold vk at h
   unfold rl
   split at h
   ·rename_i ti cs hdst hti hcs
    simp only [hdst,hti,hcs]
    split at h
    ·exact h.elim
    rename_i sz' xs hc
    simp only [hc]
    generalize (Nat.beq sz' _&&(Nat.beq cs.length ti.size&&(cs.all (fun c=>c.isCell)&&(Nat.ble _ _&&Nat.blt 0 cs.length))))=bb at h ⊢
    cases bb with
    | false=>exact h.elim
    | true=>
     obtain ⟨r,h1,h2⟩:=h
     exact ⟨r,h1,_,h2,rfl⟩
   ·exact h.elim
  ·exact back h
 ·split at h
  ·rename_i ha hts
   split at h
   ·rename_i hx
    unfold Gy at h
    split at h
    ·exact h.elim
    rename_i i hi
    cases hb:Nat.beq i.kind 3 with
    | false=>rw [hb] at h; exact h.elim
    | true=>rw [hb] at h; exact F1 hΓ hT hop ha hts hI hd hx hi (Nat.eq_of_beq_eq_true hb) (fm ⟨_,h,rfl⟩) hn
   ·exact back h
  ·exact back h
 ·split at h
  ·rename_i b hx
   exact pZ hΓ hT hop hI hx h (fun k v hK _ s' a' w' h1 h2 h3 h4=>hn s' a' w' ⟨_,hK,h1⟩ h2 h3 h4) (fun k v hK d n xs=>harr d _ _ n xs rfl)
  ·exact h.elim
 ·split at h
  ·rename_i ha
   split at h
   ·rename_i sz k n zs hx
    refine F2 hΓ hT hop ha hI hd hx ?_ hn
    unfold Fu at h
    unfold Fd
    split at h
    ·rename_i d t t' hdst hts
     simp only [hdst,hts]
     split at h
     ·exact h.elim
     rename_i i hi
     simp only [hi]
     split at h
     ·exact h.elim
     rename_i j hj
     simp only [hj]
     split at h
     ·rename_i sz' l k' m ys hy
      simp only [hy]
      split at h
      ·exact h.elim
      rename_i sz2 xs hc
      simp only [hc]
      generalize (Nat.beq i.kind 3&&(Nat.beq t t'&&(Nat.beq sz sz2&&(Nat.beq sz' sz2&&(Nat.beq k k'&&(Nat.beq j.size sz2&&Nat.blt 0 sz2))))))=bb at h ⊢
      cases bb with
      | false=>exact h.elim
      | true=>exact ⟨h.1,_,h.2,rfl⟩
     ·exact h.elim
    ·exact h.elim
   ·exact back h
  ·exact back h
 ·split at h
  ·rename_i k n zs hx
   refine zT hΓ hT hop hI hd hx ?_ hn
   unfold vl at h
   unfold vb
   split at h
   ·exact h.elim
   rename_i i hi
   simp only [hi]
   split at h
   ·exact h.elim
   rename_i j hj
   simp only [hj]
   split at h
   ·exact h.elim
   rename_i sz xs hc
   simp only [hc]
   generalize (Nat.beq i.kind 3&&(Nat.beq j.size sz&&_))=bb at h ⊢
   cases bb with
   | false=>exact h.elim
   | true=>
    simp only [cond_true] at h ⊢
    have bm:∀ (o:Option AV) (d:Nat) (P Q:Nat→Prop),(∀ n,P n→Q n)→fx o d P→fx o d Q:=by
     intro o d P Q hpq h
     unfold fx at h ⊢
     split at h
     ·exact hpq _ h
     ·exact ⟨h.1,hpq _ h.2⟩
     ·exact h.elim
    refine bm _ _ _ _ (fun l=>?_) h
    refine bm _ _ _ _ (fun r=>?_)
    rintro ⟨g1,g2,g3⟩
    exact ⟨g1,g2,fm ⟨_,g3,rfl⟩⟩
  ·exact back h
 ·split at h
  ·rename_i sz j k i zs hx
   refine CD hΓ hT hop hI hd hx ?_ hn
   unfold Aj at h
   unfold zU
   split at h
   ·exact h.elim
   rename_i ti hti
   simp only [hti]
   split at h
   ·exact h.elim
   rename_i sz' xs hc
   simp only [hc]
   cases hb:Nat.beq sz' sz with
   | false=>rw [hb] at h; exact h.elim
   | true=>
    rw [hb] at h
    obtain ⟨r,h1,h2⟩:=h
    refine ⟨r,h1,?_⟩
    cases hv:e7 ti (r.drop j) with
    | none=>rw [hv] at h2; exact h2.elim
    | some v=>
     rw [hv] at h2
     have h3:K (.val v):=by
      have h2:v.go (fun v=>K (.val v)):=h2
      rwa [AV.go_eq] at h2
     show v.go fun v=>fV s o.dst v fun s'=>∃ r,K r∧s'=dJ s o.dst r
     rw [AV.go_eq]
     exact fm ⟨_,h3,rfl⟩
  ·exact back h
 ·split at h
  ·rename_i sz j k i zs hx
   refine p9 hΓ hT hop hI hd hx ?_ hn
   unfold l9 at h
   unfold jE
   split at h
   ·exact h.elim
   rename_i ti hti
   simp only [hti]
   cases hb:Nat.beq ti.kind 1 with
   | false=>rw [hb] at h; exact h.elim
   | true=>
    rw [hb] at h
    simp only [cond_true] at h ⊢
    split at h
    ·exact h.elim
    rename_i off ft hf
    simp only [hf]
    split at h
    ·exact h.elim
    rename_i u hu
    simp only [hu]
    cases hb2:Nat.beq u.size 0 with
    | true=>rw [hb2] at h; exact h.elim
    | false=>
     rw [hb2] at h
     show fV s o.dst _ fun s'=>∃ r,K r∧s'=dJ s o.dst r
     exact fm ⟨_,h,rfl⟩
  ·exact back h
 ·exact back h
end
end Go.AI
namespace Go.AI
open Go
structure Eff where
 w:List (Nat×AV)
 b:List (Nat×List AV)
def mr (k:Nat):AV→Bool
 | .sl (.id j) _ _=>Nat.beq j k
 | _=>false
def qr (k:Nat):AV→Bool
 | .agg cs=>cs.any (mr k)
 | x=>mr k x
def xh (d:Nat):AV→Bool
 | .loc d' _=>Nat.beq d d'
 | _=>false
theorem mq {k:Nat} {x:AV} (h:mr k x=false):x.dem1 k=x:=by
 cases x with
 | sl o sz xs=>cases o <;> first | rfl | (simp only [mr] at h; simp only [AV.dem1,h,cond_false])
 | _=>rfl
theorem Bu {k:Nat} {x:AV} (h:qr k x=false):x.dem k=x:=by
 cases x with
 | agg cs=>
  simp only [qr,List.any_eq_false] at h
  simp only [AV.dem]
  congr 1
  conv=>rhs; rw [← List.map_id cs]
  exact List.map_congr_left fun y hy=>mq (by simpa using h y hy)
 | _=>exact mq (k:=k) (by unfold qr at h; exact h)
theorem xg {d:Nat} {x:AV} (h:xh d x=false):x.unloc d=x:=by
 cases x with
 | loc d' off=>simp only [xh] at h; simp only [AV.unloc,h,cond_false]
 | _=>rfl
def vK (k:Nat):List Nat→List (Nat×AV)→List (Nat×AV)
 | _,[]=>[]
 | seen,(x,v)::r=>bif eo seen x then vK k seen r else bif qr k v then (x,v.dem k)::vK k (x::seen) r else vK k (x::seen) r
theorem sI (k:Nat):∀ (t:List (Nat×AV)) (seen:List Nat) (x:Nat) (v:AV),get (vK k seen t) x=some v→x ∉ seen∧∃ u,get t x=some u∧v=u.dem k
 | [],seen,x,v,h=>by simp [vK,get] at h
 |(y,u)::r,seen,x,v,h=>by
  simp only [vK] at h
  cases hm:eo seen y with
  | true=>
   rw [hm,cond_true] at h
   obtain ⟨h1,u',h2,h3⟩:=sI k r seen x v h
   refine ⟨h1,u',?_,h3⟩
   rw [aq,if_neg]
   ·exact h2
   ·rintro rfl; exact h1 (bF.1 hm)
  | false=>
   rw [hm,cond_false] at h
   have hns:y ∉ seen:=fun hc=>by rw [bF.2 hc] at hm; cases hm
   have key:∀ g:get (vK k (y::seen) r) x=some v,x ∉ seen∧∃ u',get ((y,u)::r) x=some u'∧v=u'.dem k:=fun g=>by
    obtain ⟨h1,u',h2,h3⟩:=sI k r _ x v g
    simp only [List.mem_cons,not_or] at h1
    refine ⟨h1.2,u',?_,h3⟩
    rw [aq,if_neg h1.1]; exact h2
   cases hh:qr k u with
   | true=>
    rw [hh,cond_true,aq] at h
    split at h
    ·rename_i hx
     subst hx
     simp only [Option.some.injEq] at h
     exact ⟨hns,u,by rw [aq,if_pos rfl],h.symm⟩
    ·exact key h
   | false=>
    rw [hh,cond_false] at h
    exact key h
def sx (k:Nat):AV→Bool
 | .me _ k' _ _=>Nat.beq k k'
 | _=>false
theorem Bs {k:Nat} {x:AV} (h:sx k x=false):x.unme k=x:=by
 cases x with
 | me g k' n xs=>simp only [sx] at h; simp only [AV.unme,h,cond_false]
 | _=>rfl
theorem Bt {k:Nat} {x:AV} (h:sx k x=true):x.unme k = .junk:=by
 cases x with
 | me g k' n xs=>simp only [sx] at h; simp only [AV.unme,h,cond_true]
 | _=>cases h
def vJ (k:Nat):List Nat→List (Nat×AV)→List (Nat×AV)
 | _,[]=>[]
 | seen,(x,v)::r=>bif eo seen x then vJ k seen r else bif sx k v then (x,.junk)::vJ k (x::seen) r else vJ k (x::seen) r
theorem sH (k:Nat):∀ (t:List (Nat×AV)) (seen:List Nat) (x:Nat) (v:AV),get (vJ k seen t) x=some v→x ∉ seen∧∃ u,get t x=some u∧sx k u=true∧v = .junk
 | [],seen,x,v,h=>by simp [vJ,get] at h
 |(y,u)::r,seen,x,v,h=>by
  simp only [vJ] at h
  cases hm:eo seen y with
  | true=>
   rw [hm,cond_true] at h
   obtain ⟨h1,u',h2,h3⟩:=sH k r seen x v h
   refine ⟨h1,u',?_,h3⟩
   rw [aq,if_neg]
   ·exact h2
   ·rintro rfl; exact h1 (bF.1 hm)
  | false=>
   rw [hm,cond_false] at h
   have hns:y ∉ seen:=fun hc=>by rw [bF.2 hc] at hm; cases hm
   have key:∀ g:get (vJ k (y::seen) r) x=some v,x ∉ seen∧∃ u',get ((y,u)::r) x=some u'∧sx k u'=true∧v = .junk:=fun g=>by
    obtain ⟨h1,u',h2,h3⟩:=sH k r _ x v g
    simp only [List.mem_cons,not_or] at h1
    refine ⟨h1.2,u',?_,h3⟩
    rw [aq,if_neg h1.1]; exact h2
   cases hh:sx k u with
   | true=>
    rw [hh,cond_true,aq] at h
    split at h
    ·rename_i hx
     subst hx
     simp only [Option.some.injEq] at h
     exact ⟨hns,u,by rw [aq,if_pos rfl],hh,h.symm⟩
    ·exact key h
   | false=>
    rw [hh,cond_false] at h
    exact key h
def de (t:List (Nat×AV)) (dst:Option Nat):iO→Eff
 | .val v=>match dst with | some d=>⟨[(d,v)],[]⟩ | none=>⟨[],[]⟩
 | .alloc cs=>match dst with | some d=>⟨[(d,.loc d 0)],[(d,cs)]⟩ | none=>⟨[],[]⟩
 | .store d cs=>⟨[],[(d,cs)]⟩
 | .app k v=>match dst with | some d=>⟨(d,v)::vK k [d] t,[]⟩ | none=>⟨[],[]⟩
 | .xst k v=>⟨[(xk k,v)],[]⟩
 | .cut k n v=>match dst with | some d=>⟨(d,.me .sl k n [])::(xk k,v)::vJ k [d,xk k] t,[]⟩ | none=>⟨[],[]⟩
theorem dZ {α:Type}:∀ (l r:List (Nat×α)) (x:Nat),get (l++r) x=(get l x).or (get r x)
 | [],r,x=>rfl
 |(y,v)::l,r,x=>by
  rw [List.cons_append,aq,aq,dZ l r x]
  split <;> rfl
def tF {α:Type} (E:Nat→List (Nat×α)) (b:List (Nat×α)) (M:Nat→Bool):Nat→List (Nat×α)
 | 0=>b
 | j+1=>bif M j then E j++tF E b M j else tF E b M j
section
variable {α:Type} {E:Nat→List (Nat×α)} {b:List (Nat×α)}
theorem k9 (M:Nat→Bool) (j:Nat) (x:Nat):get (tF E b M (j+1)) x=if M j=true then (get (E j) x).or (get (tF E b M j) x) else get (tF E b M j) x:=by
 simp only [tF]
 cases M j with
 | true=>simp [dZ]
 | false=>simp
theorem dY {M M':Nat→Bool} {x:Nat}:∀ (n:Nat),(∀ j,j<n→get (E j) x≠none→M j=M' j)→get (tF E b M n) x=get (tF E b M' n) x
 | 0,_=>rfl
 | n+1,h=>by
  rw [k9,k9,dY n fun j hj=>h j (by omega)]
  cases hg:get (E n) x with
  | none=>simp
  | some v=>rw [h n (by omega) (by rw [hg]; simp)]
theorem F4 {n i:Nat} (hi:i≤n) (x:Nat):get (tF E b (fun _=>true) i) x=get (tF E b (fun j=>decide (j<i)) n) x:=by
 induction n with
 | zero=>rw [show i=0 by omega]; rfl
 | succ n ih=>
  by_cases h:i=n+1
  ·subst h
   exact dY _ fun j hj _=>by simp [hj]
  ·rw [ih (by omega),k9,if_neg (by simp; omega)]
theorem ms {M M':Nat→Bool} {x i:Nat} (hM:M i=false) (hM':∀ j,M' j=(M j||decide (j=i))):∀ (n:Nat),i<n→(∀ j,j<n→i<j→M j=true→get (E i) x≠none→get (E j) x=none) →
  get (tF E b M' n) x=(get (E i) x).or (get (tF E b M n) x)
 | 0,hi,_=>absurd hi (Nat.not_lt_zero _)
 | n+1,hi,h=>by
  rw [k9,k9]
  by_cases hn:n=i
  ·subst hn
   rw [if_pos (show M' n=true by rw [hM' n]; simp),if_neg (show ¬ M n=true by simp [hM])]
   rw [dY n fun j hj _=>show M' j=M j by rw [hM' j,decide_eq_false (show ¬ j=n by omega),Bool.or_false]]
  ·rw [show M' n=M n by rw [hM' n,decide_eq_false hn,Bool.or_false]]
   rw [ms hM hM' n (by omega) fun j hj=>h j (by omega)]
   split
   ·rename_i hMn
    cases hg:get (E i) x with
    | none=>simp
    | some v=>rw [h n (by omega) (by omega) hMn (by rw [hg]; simp)]; rfl
   ·rfl
theorem iD {M:Nat→Bool} {x:Nat} {v:α}:∀ (n:Nat),get (tF E b M n) x=some v→get b x=some v∨∃ j,j<n∧M j=true∧get (E j) x=some v
 | 0,h => .inl h
 | n+1,h=>by
  rw [k9] at h
  split at h
  ·rename_i hM
   cases hg:get (E n) x with
   | some u=>rw [hg] at h; exact .inr ⟨n,by omega,hM,by rw [hg]; exact h⟩
   | none=>
    rw [hg] at h
    rcases iD n h with h | ⟨j,h1,h2⟩
    ·exact .inl h
    ·exact .inr ⟨j,by omega,h2⟩
  ·rcases iD n h with h | ⟨j,h1,h2⟩
   ·exact .inl h
   ·exact .inr ⟨j,by omega,h2⟩
theorem ku:∀ i:Nat,tF E b (fun _=>true) (i+1)=tF (fun j=>E (j+1)) (E 0++b) (fun _=>true) i
 | 0=>rfl
 | i+1=>by
  rw [tF,ku i]; rfl
end
def cnt (M:Nat→Bool):Nat→Nat
 | 0=>0
 | n+1=>(bif M n then 1 else 0)+cnt M n
theorem DI (M:Nat→Bool):∀ n,cnt M n≤n
 | 0=>Nat.le_refl _
 | n+1=>by
  have:=DI M n
  simp only [cnt]
  cases M n <;> simp <;> omega
theorem AD {M:Nat→Bool}:∀ n,cnt M n=n→∀ i,i<n→M i=true
 | 0,_,i,hi=>absurd hi (Nat.not_lt_zero _)
 | n+1,h,i,hi=>by
  have hle:=DI M n
  simp only [cnt] at h
  cases hM:M n with
  | false=>rw [hM] at h; simp at h; omega
  | true=>
   rw [hM] at h
   simp at h
   by_cases hn:i=n
   ·rw [hn]; exact hM
   ·exact AD n (by omega) i (by omega)
theorem uG {M M':Nat→Bool}:∀ n,(∀ j,j<n→M j=M' j)→cnt M n=cnt M' n
 | 0,_=>rfl
 | n+1,h=>by simp only [cnt,h n (by omega),uG n fun j hj=>h j (by omega)]
theorem AC {M M':Nat→Bool} {i:Nat} (hM:M i=false) (hM':∀ j,M' j=(M j||decide (j=i))):∀ n,i<n→cnt M' n=cnt M n+1
 | 0,h=>absurd h (Nat.not_lt_zero _)
 | n+1,h=>by
  simp only [cnt]
  by_cases hn:n=i
  ·subst hn
   rw [hM' n,hM,uG n fun j hj=>show M' j=M j by rw [hM' j,decide_eq_false (show ¬ j=n by omega),Bool.or_false]]
   simp; omega
  ·rw [AC hM hM' n (by omega),show M' n=M n by rw [hM' n,decide_eq_false hn,Bool.or_false]]
   omega
end Go.AI
namespace Go.AI
open Go
def G5 (s:St) (e:Eff):St:=⟨e.w++s.t,e.b++s.b⟩
def FW {α:Type} (w t:List (Nat×α)) (K:List (Nat×α)→Prop):Prop:=match w with
 | []=>K t
 | p::r=>FW r t fun t=>K (p::t)
theorem AO {α:Type}:∀ (w t:List (Nat×α)) (K:List (Nat×α)→Prop),FW w t K=K (w++t)
 | [],_,_=>rfl
 | _::r,t,K=>by rw [FW,AO r t]; rfl
def AP (w t:List (Nat×List AV)) (K:List (Nat×List AV)→Prop):Prop:=match w with
 | []=>K t
 |(d,cs)::r=>AP r t fun t=>goL cs fun cs=>K ((d,cs)::t)
theorem xU:∀ (w t:List (Nat×List AV)) (K:List (Nat×List AV)→Prop),AP w t K=K (w++t)
 | [],_,_=>rfl
 |(d,cs)::r,t,K=>by rw [AP,xU r t,iC]; rfl
def Fw (s:St) (e:Eff) (K:St→Prop):Prop:=match s,e with
 | ⟨t,b⟩,⟨w,eb⟩=>FW w t fun t=>AP eb b fun b=>K ⟨t,b⟩
theorem Al (s:St) (e:Eff) (K:St→Prop):Fw s e K=K (G5 s e):=by
 unfold Fw
 simp only [AO,xU]
 rfl
def zh (guards:List Nat) (dst:Option Nat) (r:iO) (K:iO→Prop):Prop:=
 match r,dst with
 | .val (.bool v),some d=>bif eo guards d then (v=true→K (.val (.bool true)))∧(v=false→K (.val (.bool false))) else K (.val (.bool v))
 | r,_=>K r
theorem xu {guards:List Nat} {dst:Option Nat} {r:iO} {K:iO→Prop} (h:zh guards dst r K):K r:=by
 unfold zh at h
 split at h
 ·rename_i v d
  cases hm:eo guards d with
  | false=>rw [hm] at h; exact h
  | true=>
   rw [hm] at h
   cases v with
   | true=>exact h.1 rfl
   | false=>exact h.2 rfl
 ·exact h
structure c7 where
 o:Oper
 s:St
 r:iO
def c7.eff (st:c7):Eff:=de st.s.t st.o.dst st.r
section
variable (T:Tab) (C:FuncId→List AV→AV→Prop)
def CX (all:List Oper) (guards:List Nat):List Oper→List c7→St→(List c7→St→Prop)→Prop
 | [],tr,s,K=>K tr s
 | o::rest,tr,s,K=>match j8 all s o with
  | 0=>kj T C s o.dst o.type o.op fun r=>zh guards o.dst r fun r=>Fw s (de s.t o.dst r) fun s'=>CX all guards rest (⟨o,s,r⟩::tr) s' K
  | 1=>Fw s (de s.t o.dst (.val .undef)) fun s'=>CX all guards rest (⟨o,s,.val .undef⟩::tr) s' K
  | _=>False
def okS (all:List Oper) (s:St) (o:Oper) (r:iO):Prop:=(j8 all s o=0∧kj T C s o.dst o.type o.op fun r'=>r'=r)∨(j8 all s o=1∧r = .val .undef)
def u8 (all:List Oper):St→List Oper→List c7→St→Prop
 | s,[],[],s'=>s'=s
 | s,o::l,st::l2,s'=>st.o=o∧st.s=s∧okS T C all s o st.r∧u8 all (G5 s st.eff) l l2 s'
 | _,_,_,_=>False
theorem pz {all:List Oper} {guards:List Nat} {K:List c7→St→Prop}:∀ (l:List Oper) (tr:List c7) (s:St),CX T C all guards l tr s K→∃ l2 s',u8 T C all s l l2 s'∧K (l2.reverse++tr) s'
 | [],tr,s,h=>⟨[],s,rfl,h⟩
 | o::l,tr,s,h=>by
  simp only [CX] at h
  split at h
  ·rename_i hw
   obtain ⟨r,h1,h2⟩:=Bd T C s o.dst o.type o.op _ h
   have h1:=xu h1
   rw [Al] at h1
   obtain ⟨l2,s',g1,g2⟩:=pz l _ _ h1
   exact ⟨⟨o,s,r⟩::l2,s',⟨rfl,rfl,.inl ⟨hw,h2 _ rfl⟩,g1⟩,by simpa using g2⟩
  ·rename_i hw
   rw [Al] at h
   obtain ⟨l2,s',g1,g2⟩:=pz l _ _ h
   exact ⟨⟨o,s,.val .undef⟩::l2,s',⟨rfl,rfl,.inr ⟨hw,rfl⟩,g1⟩,by simpa using g2⟩
  ·exact h.elim
def Wf (tr:List c7) (i:Nat):List (Nat×AV):=match tr[i]? with | some st=>st.eff.w | none=>[]
def Bf (tr:List c7) (i:Nat):List (Nat×List AV):=match tr[i]? with | some st=>st.eff.b | none=>[]
theorem u8.all {all:List Oper}:∀ {l:List Oper} {tr:List c7} {s s':St},u8 T C all s l tr s' →
  tr.length=l.length∧(∀ (i:Nat) (st:c7),tr[i]?=some st→l[i]?=some st.o∧okS T C all st.s st.o st.r∧st.s=⟨tF (Wf tr) s.t (fun _=>true) i,tF (Bf tr) s.b (fun _=>true) i⟩) ∧
  s'=⟨tF (Wf tr) s.t (fun _=>true) l.length,tF (Bf tr) s.b (fun _=>true) l.length⟩
 | [],[],s,s',h=>by
  have h:s'=s:=h
  subst h
  exact ⟨rfl,fun i st h=>by simp at h,rfl⟩
 | o::l,st::tr,s,s',h=>by
  obtain ⟨h1,h2,h3,h4⟩:=h
  obtain ⟨g1,g2,g3⟩:=u8.all h4
  subst h1
  have hW:∀ j,Wf (st::tr) (j+1)=Wf tr j:=fun j=>rfl
  have hB:∀ j,Bf (st::tr) (j+1)=Bf tr j:=fun j=>rfl
  refine ⟨by simp [g1],fun i st' hst=>?_,?_⟩
  ·cases i with
   | zero=>
    simp at hst
    subst hst
    exact ⟨rfl,by rw [h2]; exact h3,h2⟩
   | succ i=>
    simp at hst
    obtain ⟨k1,k2,k3⟩:=g2 i st' hst
    refine ⟨by simpa using k1,k2,?_⟩
    rw [ku,ku]
    exact k3
  ·rw [List.length_cons,ku,ku]
   exact g3
 | [],_::_,_,_,h=>h.elim
 | _::_,[],_,_,h=>h.elim
end
def vf:List Operand→List Nat
 | []=>[]
 | .tmp t::r=>t::vf r
 | _::r=>vf r
def sc (s:St):List Operand→List Nat
 | []=>[]
 | x::r=>match ev s x with
  | .loc d _=>d::sc s r
  | _=>sc s r
def xC:List (Nat×AV)→List Nat
 | []=>[]
 |(d,.me .ents _ _ _)::r=>d::xC r
 | _::r=>xC r
def qk (s:St):List Operand→List Nat
 | []=>[]
 | x::r=>match ev s x with
  | .me _ k _ _=>xk k::qk s r
  | .lit (.map (some _))=>xC s.t++qk s r
  | _=>qk s r
def ur (p:Nat×AV):Bool:=match p.2 with
 | .me g k _ _ => !sy g||Nat.beq p.1 (xk k)
 | _=>true
def Gb (all:List Oper) (o:Oper):List Nat:=match o.guard with
 | some (j,_)=>match iF all j with | some d=>[d] | none=>[]
 | none=>[]
structure Sk where
 es:List Nat
 ra:List Nat
 wa:List Nat
 rb:List Nat
 wb:List Nat
def bi (o:Oper):List Nat:=(o.after.toList.filter (Region.binds .any)).map (·.on)
def d9 {α:Type}:List (Nat×α)→List Nat
 | []=>[]
 |(d,_)::r=>d::d9 r
def c7.sk (all:List Oper) (st:c7):Sk:=
  { es:=bi st.o,ra:=(vf st.o.op.operands.toList++qk st.s st.o.op.operands.toList)++Gb all st.o++(match st.r with | .app _ _=>(d9 st.eff.w).filter (fun x=>match st.o.dst with | some d => !Nat.beq x d | none=>true) | .cut _ _ _=>(d9 st.eff.w).filter (fun x=>match st.o.dst with | some d => !Nat.beq x d | none=>true) | _=>[]),
    wa:=d9 st.eff.w,rb:=sc st.s st.o.op.operands.toList,wb:=d9 st.eff.b }
def gC (a b:List Nat):Bool:=a.all fun x => !eo b x
def lB (l:List (List Nat)) (i:Nat):List Nat:=match nth l i with | some x=>x | none=>[]
def GV (a b:List Nat):List Nat:=a.foldr (fun x l=>bif eo l x then l else x::l) b
def FX:List (List Nat)→List (List Nat)→List (List Nat)
 | [],acc=>acc
 | es::r,acc=>FX r (acc++[es.foldr (fun e l=>GV (e::lB acc e) l) []])
def nw (an:List (List Nat)) (i:Nat) (es:List Nat):Bool:=es.all (fun e=>Nat.blt e i)&&(lB an i).all fun j=>eo es j||es.any fun e=>eo (lB an e) j
def vR (an:List (List Nat)) (i m:Nat) (a b:Sk):Bool:=Nat.beq i m||eo (lB an i) m||eo (lB an m) i||(gC a.ra b.wa&&gC a.wa b.wa&&gC a.rb b.wb&&gC a.wb b.wb)
def lm (base:St) (an:List (List Nat)) (tr:List c7) (i:Nat) (st:c7):Bool:=
 match st.r,st.o.dst with
 | .alloc _,some d=>base.t.all (fun p=>Nat.beq p.1 d || !xh d p.2) &&
   (List.range tr.length).all fun m=>Nat.beq i m||eo (lB an m) i||match nth tr m with | none=>true | some st'=>st'.eff.w.all fun p=>Nat.beq p.1 d || !xh d p.2
 | .app k _,some _=>base.t.all (fun p=>eo (d9 st.eff.w) p.1 || !qr k p.2)&&base.b.all (fun p=>p.2.all fun x => !mr k x) &&
   (List.range tr.length).all fun m=>Nat.beq i m||eo (lB an m) i||match nth tr m with | none=>true | some st'=>(st'.eff.w.all fun p=>eo (d9 st.eff.w) p.1 || !qr k p.2)&&st'.eff.b.all fun p=>p.2.all fun x => !mr k x
 | .cut k _ _,some _=>base.t.all (fun p=>eo (d9 st.eff.w) p.1 || !sx k p.2) &&
   (List.range tr.length).all fun m=>Nat.beq i m||eo (lB an m) i||match nth tr m with | none=>true | some st'=>st'.eff.w.all fun p=>eo (d9 st.eff.w) p.1 || !sx k p.2
 | _,_=>true
def Gd (base:St) (tr:List c7) (sks:List Sk) (an:List (List Nat)):Bool:=
 (List.range tr.length).all fun i=>match nth tr i,nth sks i with
  | some st,some a=>nw an i a.es&&lm base an tr i st&&(List.range tr.length).all fun m=>match nth sks m with | some b=>vR an i m a b | none=>false
  | _,_=>false
def GL (base:St) (all:List Oper) (tr:List c7):Bool:=(base.t.all ur&&tr.all fun st=>st.eff.w.all ur)&&Gd base tr (tr.map (c7.sk all)) (FX ((tr.map (c7.sk all)).map (·.es)) [])
def lr:List Oper→List Nat
 | []=>[]
 | o::r=>match o.op,o.dst with
  | .alloc _,some d=>d::lr r
  | _,_=>lr r
def unlocMany:List Nat→List (Nat×AV)→List (Nat×AV)
 | [],t=>t
 | d::r,t=>unlocMany r (unloc d t)
def rz (T:Tab) (C:FuncId→List AV→AV→Prop) (keep:List Nat) (ops:List Oper) (s:St) (K:St→Prop):Prop:=match s with
 | ⟨t,b⟩=>goT (unlocMany (lr ops) t) fun t=>CX T C ops (cU ops ops) ops [] ⟨t,b⟩ fun tr s'=>GL ⟨t,b⟩ ops tr.reverse=true∧iS keep s' K
end Go.AI
namespace Go.AI
open Go
theorem ni {α:Type} {l:List (Nat×α)} {x:Nat} {v:α} (h:get l x=some v):(x,v)∈l:=by
 induction l with
 | nil=>simp [get] at h
 | cons p r ih=>
  obtain ⟨y,u⟩:=p
  rw [aq] at h
  split at h
  ·rename_i hx; subst hx; cases h; exact List.mem_cons_self
  ·exact List.mem_cons_of_mem _ (ih h)
theorem cQ {α:Type} {l:List (Nat×α)} {x:Nat}:x∈d9 l↔get l x≠none:=by
 induction l with
 | nil=>simp [d9,get]
 | cons p r ih=>
  obtain ⟨y,u⟩:=p
  rw [aq]
  simp only [d9,List.mem_cons,ih]
  by_cases h:x=y
  ·simp [h]
  ·simp [h]
theorem aP {a b:List Nat} (h:gC a b=true) {x:Nat} (ha:x∈a) (hb:x∈b):False:=by
 have:=List.all_eq_true.1 h x ha
 rw [bF.2 hb] at this
 cases this
structure gz (base:St) (all:List Oper) (tr:List c7) (an:List (List Nat)):Prop where
 edge:∀ i st,tr[i]?=some st→∀ e∈bi st.o,e<i
 anc:∀ i st,tr[i]?=some st→∀ j∈lB an i,j∈bi st.o∨∃ e∈bi st.o,j∈lB an e
 apart:∀ i st m st',tr[i]?=some st→tr[m]?=some st'→i≠m→m∈lB an i∨i∈lB an m ∨
  ((∀ x∈(st.sk all).ra,x ∉ d9 st'.eff.w)∧(∀ x∈d9 st.eff.w,x ∉ d9 st'.eff.w)∧(∀ x∈(st.sk all).rb,x ∉ d9 st'.eff.b)∧(∀ x∈d9 st.eff.b,x ∉ d9 st'.eff.b))
 clean:∀ i st,tr[i]?=some st→lm base an tr i st=true
 arr:base.t.all ur=true∧∀ (i:Nat) (st:c7),tr[i]?=some st→st.eff.w.all ur=true
theorem BG {base:St} {all:List Oper} {tr:List c7} (h:GL base all tr=true):∃ an,gz base all tr an:=by
 refine ⟨FX ((tr.map (c7.sk all)).map (·.es)) [],?_⟩
 unfold GL at h
 rw [Bool.and_eq_true] at h
 obtain ⟨harr,h⟩:=h
 rw [Bool.and_eq_true] at harr
 generalize FX ((tr.map (c7.sk all)).map (·.es)) []=an at h ⊢
 unfold Gd at h
 have key:∀ i st,tr[i]?=some st→nw an i (st.sk all).es=true∧lm base an tr i st=true∧∀ m st',tr[m]?=some st'→vR an i m (st.sk all) (st'.sk all)=true:=by
  intro i st hi
  have hlt:=(List.getElem?_eq_some_iff.1 hi).1
  have h1:=List.all_eq_true.1 h i (List.mem_range.2 hlt)
  simp only [fq,hi,List.getElem?_map,Option.map_some,Bool.and_eq_true] at h1
  refine ⟨h1.1.1,h1.1.2,fun m st' hm=>?_⟩
  have h2:=List.all_eq_true.1 h1.2 m (List.mem_range.2 (List.getElem?_eq_some_iff.1 hm).1)
  simp only [hm,Option.map_some] at h2
  exact h2
 refine ⟨fun i st hi e he=>?_,fun i st hi j hj=>?_,fun i st m st' hi hm hne=>?_,fun i st hi=>(key i st hi).2.1,harr.1,fun i st hi=>List.all_eq_true.1 harr.2 st (List.mem_of_getElem? hi)⟩
 ·have h1:=(key i st hi).1
  unfold nw at h1
  rw [Bool.and_eq_true] at h1
  have:=Nat.le_of_ble_eq_true (List.all_eq_true.1 h1.1 e he)
  omega
 ·have h1:=(key i st hi).1
  unfold nw at h1
  rw [Bool.and_eq_true] at h1
  have:=List.all_eq_true.1 h1.2 j hj
  rw [Bool.or_eq_true,bF,List.any_eq_true] at this
  rcases this with h | ⟨e,he,h⟩
  ·exact .inl h
  ·exact .inr ⟨e,he,bF.1 h⟩
 ·have h1:=(key i st hi).2.2 m st' hm
  unfold vR at h1
  simp only [Bool.or_eq_true,bF,Bool.and_eq_true] at h1
  rcases h1 with ((h | h) | h) | h
  ·exact absurd (Nat.eq_of_beq_eq_true h) hne
  ·exact .inl h
  ·exact .inr (.inl h)
  ·exact .inr (.inr ⟨fun x hx hy=>aP h.1.1.1 hx hy,fun x hx hy=>aP h.1.1.2 hx hy,fun x hx hy=>aP h.1.2 hx hy,fun x hx hy=>aP h.2 hx hy⟩)
section
variable {base:St} {all:List Oper} {tr:List c7} {an:List (List Nat)} (hF:gz base all tr an) {M:Nat→Bool}
include hF
theorem gz.anc_lt:∀ (i:Nat),i<tr.length→∀ j∈lB an i,j<i:=by
 intro i
 induction i using Nat.strongRecOn with
 | _ i ih=>
  intro hi j hj
  have hst:=List.getElem?_eq_getElem hi
  rcases hF.anc i _ hst j hj with h | ⟨e,he,h⟩
  ·exact hF.edge i _ hst j h
  ·have h1:=hF.edge i _ hst e he
   have:=ih e h1 (by omega) j h
   omega
theorem gz.anc_M (hM:∀ m st,tr[m]?=some st→M m=true→∀ e∈bi st.o,M e=true):∀ (i:Nat) (st:c7),tr[i]?=some st→(∀ e∈bi st.o,M e=true)→∀ j∈lB an i,M j=true:=by
 intro i
 induction i using Nat.strongRecOn with
 | _ i ih=>
  intro st hst he j hj
  rcases hF.anc i _ hst j hj with h | ⟨e,h1,h2⟩
  ·exact he j h
  ·have hlt:=hF.edge i _ hst e h1
   have hi:=(List.getElem?_eq_some_iff.1 hst).1
   have hse:tr[e]?=some _:=List.getElem?_eq_getElem (show e<tr.length by omega)
   exact ih e hlt _ hse (hM e _ hse (he e h1)) j h2
theorem gz.ord (hM:∀ m st,tr[m]?=some st→M m=true→∀ e∈bi st.o,M e=true) {i:Nat} {st:c7} (hi:tr[i]?=some st) (hr:∀ e∈bi st.o,M e=true) (hMi:M i=false)
  {j:Nat} {st':c7} (hj:tr[j]?=some st')
  (hc:¬ ((∀ x∈(st.sk all).ra,x ∉ d9 st'.eff.w)∧(∀ x∈d9 st.eff.w,x ∉ d9 st'.eff.w)∧(∀ x∈(st.sk all).rb,x ∉ d9 st'.eff.b)∧(∀ x∈d9 st.eff.b,x ∉ d9 st'.eff.b))):M j=decide (j<i):=by
 by_cases hne:i=j
 ·subst hne; rw [hMi]; simp
 ·have hil:=(List.getElem?_eq_some_iff.1 hi).1
  have hjl:=(List.getElem?_eq_some_iff.1 hj).1
  rcases hF.apart i st j st' hi hj hne with h | h | h
  ·rw [hF.anc_M hM i st hi hr j h]
   simp [hF.anc_lt i hil j h]
  ·have h1:=hF.anc_lt j hjl i h
   rw [decide_eq_false (by omega)]
   cases hMj:M j with
   | false=>rfl
   | true=>
    rw [hF.anc_M hM j st' hj (hM j st' hj hMj) i h] at hMi
    cases hMi
  ·exact absurd h hc
theorem ls {i:Nat} {st:c7} (h:tr[i]?=some st):Wf tr i=st.eff.w:=by
 clear hF
 unfold Wf
 rw [h]
theorem pw {i:Nat} {st:c7} (h:tr[i]?=some st):Bf tr i=st.eff.b:=by
 clear hF
 unfold Bf
 rw [h]
theorem gz.agree_t (hM:∀ m st,tr[m]?=some st→M m=true→∀ e∈bi st.o,M e=true) {i:Nat} {st:c7} (hi:tr[i]?=some st) (hr:∀ e∈bi st.o,M e=true) (hMi:M i=false)
  (hs:st.s=⟨tF (Wf tr) base.t (fun _=>true) i,tF (Bf tr) base.b (fun _=>true) i⟩) {x:Nat} (hx:x∈(st.sk all).ra):get (tF (Wf tr) base.t M tr.length) x=get st.s.t x:=by
 have hil:=(List.getElem?_eq_some_iff.1 hi).1
 rw [hs,F4 (n:=tr.length) (by omega)]
 refine dY _ fun j hj hne=>?_
 have hsj:tr[j]?=some _:=List.getElem?_eq_getElem hj
 refine hF.ord hM hi hr hMi hsj fun hc=>?_
 rw [ls hF hsj] at hne
 exact hc.1 x hx (cQ.2 hne)
theorem gz.agree_b (hM:∀ m st,tr[m]?=some st→M m=true→∀ e∈bi st.o,M e=true) {i:Nat} {st:c7} (hi:tr[i]?=some st) (hr:∀ e∈bi st.o,M e=true) (hMi:M i=false)
  (hs:st.s=⟨tF (Wf tr) base.t (fun _=>true) i,tF (Bf tr) base.b (fun _=>true) i⟩) {x:Nat} (hx:x∈(st.sk all).rb):get (tF (Bf tr) base.b M tr.length) x=get st.s.b x:=by
 have hil:=(List.getElem?_eq_some_iff.1 hi).1
 rw [hs,F4 (n:=tr.length) (by omega)]
 refine dY _ fun j hj hne=>?_
 have hsj:tr[j]?=some _:=List.getElem?_eq_getElem hj
 refine hF.ord hM hi hr hMi hsj fun hc=>?_
 rw [pw hF hsj] at hne
 exact hc.2.2.1 x hx (cQ.2 hne)
theorem y8 {t:Nat} {l:List Operand} (h:Operand.tmp t∈l):t∈vf l:=by
 clear hF
 induction l with
 | nil=>cases h
 | cons x r ih=>
  rcases List.mem_cons.1 h with rfl | h2
  ·exact List.mem_cons_self
  ·clear h
   cases x with
   | tmp u=>exact List.mem_cons_of_mem _ (ih h2)
   | _=>exact ih h2
theorem za {s:St} {x:Operand} {d off:Nat} {l:List Operand} (h:x∈l) (he:ev s x = .loc d off):d∈sc s l:=by
 clear hF
 induction l with
 | nil=>cases h
 | cons y r ih=>
  simp only [sc]
  rcases List.mem_cons.1 h with rfl | h
  ·rw [he]; exact List.mem_cons_self
  ·split
   ·exact List.mem_cons_of_mem _ (ih h)
   ·exact ih h
theorem Bk {s:St} {x:Operand} {g:zt} {k n:Nat} {ys:List (List AV)} {l:List Operand} (h:x∈l) (he:ev s x = .me g k n ys):xk k∈qk s l:=by
 clear hF
 induction l with
 | nil=>cases h
 | cons y r ih=>
  simp only [qk]
  rcases List.mem_cons.1 h with rfl | h
  ·rw [he]; exact List.mem_cons_self
  ·split
   ·exact List.mem_cons_of_mem _ (ih h)
   ·exact List.mem_append_right _ (ih h)
   ·exact ih h
theorem Bl {t:List (Nat×AV)} {d k n:Nat} {ys:List (List AV)} (h:get t d=some (.me .ents k n ys)):d∈xC t:=by
 clear hF
 induction t with
 | nil=>simp [get] at h
 | cons p r ih=>
  obtain ⟨e,v⟩:=p
  rw [aq] at h
  split at h
  ·rename_i hd
   cases h
   subst hd
   exact List.mem_cons_self
  ·unfold xC
   split
   ·rename_i heq; cases heq
   ·rename_i heq; simp only [List.cons.injEq] at heq; rw [← heq.2]; exact List.mem_cons_of_mem _ (ih h)
   ·rename_i heq; simp only [List.cons.injEq] at heq; rw [← heq.2]; exact ih h
theorem y9 {s:St} {x:Operand} {b d k n:Nat} {ys:List (List AV)} {l:List Operand} (h:x∈l) (he:ev s x = .lit (.map (some b))) (hg:get s.t d=some (.me .ents k n ys)):d∈qk s l:=by
 have hm:=Bl hF hg
 clear hF
 induction l with
 | nil=>cases h
 | cons y r ih=>
  simp only [qk]
  rcases List.mem_cons.1 h with rfl | h
  ·rw [he]; exact List.mem_append_left _ hm
  ·split
   ·exact List.mem_cons_of_mem _ (ih h)
   ·exact List.mem_append_right _ (ih h)
   ·exact ih h
theorem gz.arrT (M:Nat→Bool):∀ d g k n xs,sy g=true→get (tF (Wf tr) base.t M tr.length) d=some (.me g k n xs)→d=xk k:=by
 intro d g k n xs hg h
 have key:∀ l:List (Nat×AV),l.all ur=true→get l d=some (.me g k n xs)→d=xk k:=fun l hl hg'=>by
  have:=List.all_eq_true.1 hl _ (ni hg')
  simpa [ur,hg] using this
 rcases iD _ h with h | ⟨j,h1,h2,h3⟩
 ·exact key _ hF.arr.1 h
 ·have hsj:tr[j]?=some _:=List.getElem?_eq_getElem h1
  rw [ls hF hsj] at h3
  exact key _ (hF.arr.2 j _ hsj) h3
theorem gz.agreeX (hM:∀ m st,tr[m]?=some st→M m=true→∀ e∈bi st.o,M e=true) {i:Nat} {st:c7} (hi:tr[i]?=some st) (hr:∀ e∈bi st.o,M e=true) (hMi:M i=false)
    (hs:st.s=⟨tF (Wf tr) base.t (fun _=>true) i,tF (Bf tr) base.b (fun _=>true) i⟩) :
    E4 st.s ⟨tF (Wf tr) base.t M tr.length,tF (Bf tr) base.b M tr.length⟩ st.o.op.operands.toList:=fun x hx=>
  ⟨fun g k n ys he=>hF.agree_t hM hi hr hMi hs (List.mem_append_left _ (List.mem_append_left _ (List.mem_append_right _ (Bk hF hx he)))),
   fun b he k n ys hg=>hF.agree_t hM hi hr hMi hs (List.mem_append_left _ (List.mem_append_left _ (List.mem_append_right _ (y9 hF hx he hg))))⟩
theorem gz.agree (hM:∀ m st,tr[m]?=some st→M m=true→∀ e∈bi st.o,M e=true) {i:Nat} {st:c7} (hi:tr[i]?=some st) (hr:∀ e∈bi st.o,M e=true) (hMi:M i=false)
  (hs:st.s=⟨tF (Wf tr) base.t (fun _=>true) i,tF (Bf tr) base.b (fun _=>true) i⟩) :
  AR (ev st.s) (ev ⟨tF (Wf tr) base.t M tr.length,tF (Bf tr) base.b M tr.length⟩) st.s.b (tF (Bf tr) base.b M tr.length) st.o.op.operands.toList ∧
  j8 all ⟨tF (Wf tr) base.t M tr.length,tF (Bf tr) base.b M tr.length⟩ st.o=j8 all st.s st.o:=by
 refine ⟨fun x hx=>⟨?_,fun d off he=>?_⟩,?_⟩
 ·cases x with
  | tmp t=>
   simp only [ev,St.tmp]
   rw [hF.agree_t hM hi hr hMi hs (List.mem_append_left _ (List.mem_append_left _ (List.mem_append_left _ (y8 hF hx))))]
  | const v=>rfl
  | global g=>rfl
  | func f=>rfl
 ·exact hF.agree_b hM hi hr hMi hs (za hF hx he)
 ·unfold j8
  cases hg:st.o.guard with
  | none=>rfl
  | some p=>
   obtain ⟨j,want⟩:=p
   simp only
   cases hd:iF all j with
   | none=>rfl
   | some d=>
    simp only
    rw [hF.agree_t hM hi hr hMi hs (List.mem_append_left _ (List.mem_append_right _ (by simp [Gb,hg,hd])))]
end
end Go.AI
namespace Go.AI
open Go
section
variable {base:St} {all:List Oper} {tr:List c7} {an:List (List Nat)} (hF:gz base all tr an) {M M':Nat→Bool}
include hF
theorem gz.ins_t (hM:∀ m st,tr[m]?=some st→M m=true→∀ e∈bi st.o,M e=true) {i:Nat} {st:c7} (hi:tr[i]?=some st) (hr:∀ e∈bi st.o,M e=true) (hMi:M i=false)
  (hM':∀ j,M' j=(M j||decide (j=i))) (x:Nat):get (tF (Wf tr) base.t M' tr.length) x=(get st.eff.w x).or (get (tF (Wf tr) base.t M tr.length) x):=by
 have hil:=(List.getElem?_eq_some_iff.1 hi).1
 rw [ms hMi hM' tr.length hil,ls hF hi]
 intro j hj hij hMj hne
 rw [ls hF hi] at hne
 have hsj:tr[j]?=some _:=List.getElem?_eq_getElem hj
 rw [ls hF hsj]
 cases hg:get (tr[j]).eff.w x with
 | none=>rfl
 | some v=>
  have:=hF.ord hM hi hr hMi hsj fun hc=>hc.2.1 x (cQ.2 hne) (cQ.2 (by rw [hg]; simp))
  rw [hMj,decide_eq_false (by omega)] at this
  cases this
theorem gz.ins_b (hM:∀ m st,tr[m]?=some st→M m=true→∀ e∈bi st.o,M e=true) {i:Nat} {st:c7} (hi:tr[i]?=some st) (hr:∀ e∈bi st.o,M e=true) (hMi:M i=false)
  (hM':∀ j,M' j=(M j||decide (j=i))) (x:Nat):get (tF (Bf tr) base.b M' tr.length) x=(get st.eff.b x).or (get (tF (Bf tr) base.b M tr.length) x):=by
 have hil:=(List.getElem?_eq_some_iff.1 hi).1
 rw [ms hMi hM' tr.length hil,pw hF hi]
 intro j hj hij hMj hne
 rw [pw hF hi] at hne
 have hsj:tr[j]?=some _:=List.getElem?_eq_getElem hj
 rw [pw hF hsj]
 cases hg:get (tr[j]).eff.b x with
 | none=>rfl
 | some v=>
  have:=hF.ord hM hi hr hMi hsj fun hc=>hc.2.2.2 x (cQ.2 hne) (cQ.2 (by rw [hg]; simp))
  rw [hMj,decide_eq_false (by omega)] at this
  cases this
theorem xr (d:Nat) (t:List (Nat×AV)) (x:Nat):get (unloc d t) x=(get t x).map (AV.unloc d):=by unfold unloc; rw [jT]; exact gL (fun (_:Nat) (v:AV)=>v.unloc d) t x
theorem gz.val_t (hM:∀ m st,tr[m]?=some st→M m=true→∀ e∈bi st.o,M e=true) {i:Nat} {st:c7} (hi:tr[i]?=some st) (hMi:M i=false) {x:Nat} {v:AV}
  (h:get (tF (Wf tr) base.t M tr.length) x=some v):(x,v)∈base.t∨∃ m st',tr[m]?=some st'∧m≠i∧m<tr.length∧i ∉ lB an m∧(x,v)∈st'.eff.w:=by
 rcases iD _ h with h | ⟨j,h1,h2,h3⟩
 ·exact .inl (ni h)
 ·have hsj:tr[j]?=some _:=List.getElem?_eq_getElem h1
  rw [ls hF hsj] at h3
  refine .inr ⟨j,_,hsj,?_,h1,fun hc=>?_,ni h3⟩
  ·rintro rfl; rw [hMi] at h2; cases h2
  ·rw [hF.anc_M hM j _ hsj (hM j _ hsj h2) i hc] at hMi; cases hMi
theorem gz.val_b (hM:∀ m st,tr[m]?=some st→M m=true→∀ e∈bi st.o,M e=true) {i:Nat} {st:c7} (hi:tr[i]?=some st) (hMi:M i=false) {x:Nat} {v:List AV}
  (h:get (tF (Bf tr) base.b M tr.length) x=some v):(x,v)∈base.b∨∃ m st',tr[m]?=some st'∧m≠i∧m<tr.length∧i ∉ lB an m∧(x,v)∈st'.eff.b:=by
 rcases iD _ h with h | ⟨j,h1,h2,h3⟩
 ·exact .inl (ni h)
 ·have hsj:tr[j]?=some _:=List.getElem?_eq_getElem h1
  rw [pw hF hsj] at h3
  refine .inr ⟨j,_,hsj,?_,h1,fun hc=>?_,ni h3⟩
  ·rintro rfl; rw [hMi] at h2; cases h2
  ·rw [hF.anc_M hM j _ hsj (hM j _ hsj h2) i hc] at hMi; cases hMi
theorem gz.step_le (hM:∀ m st,tr[m]?=some st→M m=true→∀ e∈bi st.o,M e=true) {i:Nat} {st:c7} (hi:tr[i]?=some st) (hr:∀ e∈bi st.o,M e=true) (hMi:M i=false)
  (hs:st.s=⟨tF (Wf tr) base.t (fun _=>true) i,tF (Bf tr) base.b (fun _=>true) i⟩) (hM':∀ j,M' j=(M j||decide (j=i))) :
  St.le (dJ ⟨tF (Wf tr) base.t M tr.length,tF (Bf tr) base.b M tr.length⟩ st.o.dst st.r) ⟨tF (Wf tr) base.t M' tr.length,tF (Bf tr) base.b M' tr.length⟩:=by
 have hclean:=hF.clean i st hi
 have ht:=hF.ins_t hM hi hr hMi hM'
 have hb:=hF.ins_b hM hi hr hMi hM'
 have hv:=fun (x:Nat) (v:AV)=>hF.val_t hM hi hMi (x:=x) (v:=v)
 have hvb:=fun (x:Nat) (v:List AV)=>hF.val_b hM hi hMi (x:=x) (v:=v)
 have hag:=fun (x:Nat) (hx:x∈(st.sk all).ra)=>hF.agree_t hM hi hr hMi hs hx
 generalize tF (Wf tr) base.t M tr.length=t at *
 generalize tF (Bf tr) base.b M tr.length=b at *
 obtain ⟨⟨odst,oty,oop,opos,oaft,ogd⟩,ss,r⟩:=st
 simp only [c7.eff] at ht hb
 cases r with
 | val v=>
  cases odst with
  | none=>
   refine ⟨fun x u hx=>?_,fun x u hx _=>?_⟩
   ·simp only [ht,de] at hx; simpa [dJ,get] using hx
   ·simp only [hb,de] at hx; simpa [dJ,get] using hx
  | some d=>
   refine ⟨fun x u hx=>?_,fun x u hx _=>?_⟩
   ·simp only [ht,de] at hx
    rw [← dZ] at hx
    exact hx
   ·simp only [hb,de] at hx; simpa [dJ,get] using hx
 | store d cs=>
  refine ⟨fun x u hx=>?_,fun x u hx _=>?_⟩
  ·simp only [ht,de] at hx; simpa [dJ,get] using hx
  ·simp only [hb,de] at hx
   rw [← dZ] at hx
   exact hx
 | xst k v=>
  refine ⟨fun x u hx=>?_,fun x u hx _=>?_⟩
  ·simp only [ht,de] at hx
   rw [← dZ] at hx
   exact hx
  ·simp only [hb,de] at hx; simpa [dJ,get] using hx
 | cut k n v=>
  cases odst with
  | none=>
   refine ⟨fun x u hx=>?_,fun x u hx _=>?_⟩
   ·simp only [ht,de] at hx; simpa [dJ,get] using hx
   ·simp only [hb,de] at hx; simpa [dJ,get] using hx
  | some d=>
   simp only [lm,Bool.and_eq_true,List.all_eq_true] at hclean
   refine ⟨fun x u hx=>?_,fun x u hx _=>?_⟩
   ·simp only [ht,de,aq] at hx
    simp only [dJ,aq]
    by_cases hxd:x=d
    ·simp only [hxd,if_true] at hx ⊢; simpa using hx
    ·simp only [hxd,if_false] at hx ⊢
     by_cases hxk:x=xk k
     ·simp only [hxk,if_true] at hx ⊢; simpa using hx
     ·simp only [hxk,if_false] at hx ⊢
      rw [ec]
      cases hc:get (vJ k [d,xk k] ss.t) x with
      | some y=>
       rw [hc] at hx
       obtain ⟨_,z,h2,h3,h4⟩:=sH k _ _ _ _ hc
       have hra:x∈(c7.sk all ⟨⟨some d,oty,oop,opos,oaft,ogd⟩,ss,.cut k n v⟩).ra:=by
        refine List.mem_append_right _ (List.mem_filter.2 ⟨cQ.2 ?_,?_⟩)
        ·simp only [c7.eff,de,aq,hxd,hxk,if_false,hc]; simp
        ·simp only
         cases hbq:Nat.beq x d with
         | true=>exact absurd (Nat.eq_of_beq_eq_true hbq) hxd
         | false=>rfl
       rw [show get t x=get ss.t x from hag x hra,h2,Option.map_some,Bt h3,← h4]
       simpa using hx
      | none=>
       rw [hc] at hx
       have hx:get t x=some u:=by simpa using hx
       rw [hx,Option.map_some]
       have hnk:x ∉ d9 (de ss.t (some d) (.cut k n v)).w:=by
        rw [cQ]
        simp only [de,aq,hxd,hxk,if_false,hc]
        simp
       have hl:sx k u=false:=by
        rcases hv x u hx with h | ⟨m,st',h1,h2,h3,h4,h5⟩
        ·have:=hclean.1 _ h
         rw [Bool.or_eq_true,bF] at this
         rcases this with h | h
         ·exact absurd h hnk
         ·simpa using h
        ·have:=hclean.2 m (List.mem_range.2 h3)
         simp only [Bool.or_eq_true,bF,fq,h1,List.all_eq_true] at this
         rcases this with (h | h) | h
         ·exact absurd (Nat.eq_of_beq_eq_true h).symm h2
         ·exact absurd h h4
         ·have:=h _ h5
          rcases this with h | h
          ·exact absurd h hnk
          ·simpa using h
       rw [Bs hl]
   ·simp only [hb,de] at hx; simpa [dJ,get] using hx
 | alloc cs=>
  cases odst with
  | none=>
   refine ⟨fun x u hx=>?_,fun x u hx _=>?_⟩
   ·simp only [ht,de] at hx; simpa [dJ,get] using hx
   ·simp only [hb,de] at hx; simpa [dJ,get] using hx
  | some d=>
   simp only [lm,Bool.and_eq_true,List.all_eq_true] at hclean
   refine ⟨fun x u hx=>?_,fun x u hx _=>?_⟩
   ·simp only [ht,de,aq] at hx
    simp only [dJ,aq]
    by_cases hxd:x=d
    ·simp only [hxd,if_true] at hx ⊢; simpa using hx
    ·simp only [hxd,if_false] at hx ⊢
     have hx:get t x=some u:=by simpa [get] using hx
     rw [xr hF,hx]
     have hl:xh d u=false:=by
      rcases hv x u hx with h | ⟨m,st',h1,h2,h3,h4,h5⟩
      ·have:=hclean.1 _ h
       rw [Bool.or_eq_true] at this
       rcases this with h | h
       ·exact absurd (Nat.eq_of_beq_eq_true h) hxd
       ·simpa using h
      ·have:=hclean.2 m (List.mem_range.2 h3)
       simp only [Bool.or_eq_true,bF,fq,h1,List.all_eq_true] at this
       rcases this with (h | h) | h
       ·exact absurd (Nat.eq_of_beq_eq_true h).symm h2
       ·exact absurd h h4
       ·have:=h _ h5
        rcases this with h | h
        ·exact absurd (Nat.eq_of_beq_eq_true h) hxd
        ·simpa using h
     rw [Option.map_some,xg hl]
   ·simp only [hb,de] at hx
    rw [← dZ] at hx
    exact hx
 | app k v=>
  cases odst with
  | none=>
   refine ⟨fun x u hx=>?_,fun x u hx _=>?_⟩
   ·simp only [ht,de] at hx; simpa [dJ,get] using hx
   ·simp only [hb,de] at hx; simpa [dJ,get] using hx
  | some d=>
   simp only [lm,Bool.and_eq_true,List.all_eq_true] at hclean
   refine ⟨fun x u hx=>?_,fun x u hx _=>?_⟩
   ·simp only [ht,de,aq] at hx
    simp only [dJ,aq]
    by_cases hxd:x=d
    ·simp only [hxd,if_true] at hx ⊢; simpa using hx
    ·simp only [hxd,if_false] at hx ⊢
     rw [li]
     cases hc:get (vK k [d] ss.t) x with
     | some y=>
      rw [hc] at hx
      obtain ⟨_,z,h2,h3⟩:=sI k _ _ _ _ hc
      have hra:x∈(c7.sk all ⟨⟨some d,oty,oop,opos,oaft,ogd⟩,ss,.app k v⟩).ra:=by
       refine List.mem_append_right _ (List.mem_filter.2 ⟨cQ.2 ?_,?_⟩)
       ·simp only [c7.eff,de,aq,hxd,if_false,hc]; simp
       ·simp only
        cases hbq:Nat.beq x d with
        | true=>exact absurd (Nat.eq_of_beq_eq_true hbq) hxd
        | false=>rfl
      rw [show get t x=get ss.t x from hag x hra,h2,Option.map_some,← h3]
      simpa using hx
     | none=>
      rw [hc] at hx
      have hx:get t x=some u:=by simpa using hx
      rw [hx,Option.map_some]
      have hnk:x ∉ d9 (de ss.t (some d) (.app k v)).w:=by
       rw [cQ]
       simp only [de,aq,hxd,if_false,hc]
       simp
      have hl:qr k u=false:=by
       rcases hv x u hx with h | ⟨m,st',h1,h2,h3,h4,h5⟩
       ·have:=hclean.1.1 _ h
        rw [Bool.or_eq_true,bF] at this
        rcases this with h | h
        ·exact absurd h hnk
        ·simpa using h
       ·have:=hclean.2 m (List.mem_range.2 h3)
        simp only [Bool.or_eq_true,bF,fq,h1,List.all_eq_true,Bool.and_eq_true] at this
        rcases this with (h | h) | h
        ·exact absurd (Nat.eq_of_beq_eq_true h).symm h2
        ·exact absurd h h4
        ·have:=h.1 _ h5
         rcases this with h | h
         ·exact absurd h hnk
         ·simpa using h
      rw [Bu hl]
   ·simp only [hb,de] at hx
    have hx:get b x=some u:=by simpa [get] using hx
    simp only [dJ]
    rw [uA,hx,Option.map_some]
    have hl:∀ y∈u,mr k y=false:=by
     rcases hvb x u hx with h | ⟨m,st',h1,h2,h3,h4,h5⟩
     ·intro y hy
      simpa using hclean.1.2 _ h y hy
     ·have:=hclean.2 m (List.mem_range.2 h3)
      simp only [Bool.or_eq_true,bF,fq,h1,List.all_eq_true,Bool.and_eq_true] at this
      rcases this with (h | h) | h
      ·exact absurd (Nat.eq_of_beq_eq_true h).symm h2
      ·exact absurd h h4
      ·intro y hy
       simpa using h.2 _ h5 y hy
    congr 1
    conv=>rhs; rw [← List.map_id u]
    exact List.map_congr_left fun y hy=>mq (hl y hy)
end
end Go.AI
namespace Go.AI
open Go
section
variable {Γ:aO} (hΓ:Γ.OK) {T:Tab} (hT:T.OK Γ.P) {base:St} {all:List Oper} {tr:List c7} {an:List (List Nat)} {Q:Exit→Act→World→Prop} {w0:World} {a0:Act}
theorem ql {o:Oper} {e:Nat}:e∈bi o↔∃ x∈o.after,Region.binds .any x=true∧x.on=e:=by
 simp only [bi,List.mem_map,List.mem_filter,Array.mem_toList_iff]
 constructor
 ·rintro ⟨x,⟨h1,h2⟩,h3⟩; exact ⟨x,h1,h2,h3⟩
 ·rintro ⟨x,h1,h2,h3⟩; exact ⟨x,⟨h1,h2⟩,h3⟩
theorem r9 {l:List Oper} {i:Nat} {o:Oper} (h:l[i]?=some o) {d:Nat} (hd:d∈o.dst.toList):d∈dE l:=by
 induction l generalizing i with
 | nil=>simp at h
 | cons x r ih=>
  cases i with
  | zero=>simp at h; subst h; exact List.mem_append_left _ hd
  | succ i=>exact List.mem_append_right _ (ih (by simpa using h))
include hΓ hT in
theorem DD (hF:gz base all tr an) (hlen:tr.length=all.length) (hall:∀ j d,iF all j=some d→d<Γ.nt)
  (hst:∀ (i:Nat) (st:c7),tr[i]?=some st→all[i]?=some st.o∧okS T (ae Γ.P) all st.s st.o st.r∧st.s=⟨tF (Wf tr) base.t (fun _=>true) i,tF (Bf tr) base.b (fun _=>true) i⟩)
  (hQ:∀ a w,Inv Γ ⟨tF (Wf tr) base.t (fun _=>true) tr.length,tF (Bf tr) base.b (fun _=>true) tr.length⟩ a w→NC w0 w→FT (dE all) a0 a→Q .normal a w) :
  ∀ (fuel:Nat) (listed:Array Bool) (a:Act) (w:World),listed.size=tr.length→cnt (fun i=>listed.getD i false) tr.length+fuel=tr.length →
   (∀ m st,tr[m]?=some st→listed.getD m false=true→∀ e∈bi st.o,listed.getD e false=true) →
   Inv Γ ⟨tF (Wf tr) base.t (fun i=>listed.getD i false) tr.length,tF (Bf tr) base.b (fun i=>listed.getD i false) tr.length⟩ a w→NC w0 w→FT (dE all) a0 a →
   wpAnyIn Γ.F Γ.n Γ.P .any all.toArray Q fuel listed a w:=by
 have hfull:∀ (listed:Array Bool) (a:Act) (w:World),(∀ i,i<tr.length→listed.getD i false=true) →
   Inv Γ ⟨tF (Wf tr) base.t (fun i=>listed.getD i false) tr.length,tF (Bf tr) base.b (fun i=>listed.getD i false) tr.length⟩ a w→NC w0 w→FT (dE all) a0 a→Q .normal a w:=by
  intro listed a w hM hI hN hP
  refine hQ a w (hI.less ⟨fun d x h=>?_,fun d x h _=>?_⟩) hN hP
  ·simp only at h ⊢
   rw [← h]; exact dY _ fun j hj _=>hM j hj
  ·simp only at h ⊢
   rw [← h]; exact dY _ fun j hj _=>hM j hj
 have hgd:∀ (listed:Array Bool) (i:Nat),listed.size=tr.length→i<tr.length→listed.getD i true=listed.getD i false:=by
  intro listed i h1 h2
  rw [Array.getD_eq_getD_getElem?,Array.getD_eq_getD_getElem?,Array.getElem?_eq_getElem (by omega)]
  rfl
 have hnone:∀ (listed:Array Bool),listed.size=tr.length→Region.ready .any all.toArray listed=[]→∀ i,i<tr.length→listed.getD i false=true:=by
  intro listed hsz hr i
  induction i using Nat.strongRecOn with
  | _ i ih=>
   intro hi
   cases hM:listed.getD i false with
   | true=>rfl
   | false=>
    exfalso
    have hsi:tr[i]?=some _:=List.getElem?_eq_getElem hi
    have:i∈Region.ready .any all.toArray listed:=by
     rw [mem_ready]
     refine ⟨by rw [hgd listed i hsz hi]; exact hM,_,by simpa using (hst i _ hsi).1,fun e he hb=>?_⟩
     have hlt:=hF.edge i _ hsi e.on (ql.2 ⟨e,he,hb,rfl⟩)
     exact ih e.on hlt (by omega)
    rw [hr] at this
    cases this
 intro fuel
 induction fuel with
 | zero=>
  intro listed a w hsz hc _ hI hN hP
  have hM:∀ i,i<tr.length→listed.getD i false=true:=AD (M:=fun i=>listed.getD i false) tr.length (by rw [Nat.add_zero] at hc; exact hc)
  refine ⟨?_,hfull listed a w hM hI hN hP⟩
  rw [List.eq_nil_iff_forall_not_mem]
  intro i hi
  rw [mem_ready] at hi
  obtain ⟨h1,o,h2,_⟩:=hi
  have hlt:i<tr.length:=by
   rw [hlen]
   have:=(List.getElem?_eq_some_iff.1 (show all[i]?=some o by simpa using h2)).1
   exact this
  rw [hgd listed i hsz hlt] at h1
  rw [hM i hlt] at h1
  cases h1
 | succ fuel ih=>
  intro listed a w hsz hc hcl hI hN hP
  refine ⟨fun hr=>hfull listed a w (hnone listed hsz hr) hI hN hP,fun i hi=>?_⟩
  rw [mem_ready] at hi
  obtain ⟨h1,o,h2,h3⟩:=hi
  have h2:all[i]?=some o:=by simpa using h2
  have hlt:i<tr.length:=by
   rw [hlen]
   exact (List.getElem?_eq_some_iff.1 h2).1
  rw [hgd listed i hsz hlt] at h1
  have hsi:tr[i]?=some tr[i]:=List.getElem?_eq_getElem hlt
  generalize tr[i]=st at hsi
  obtain ⟨k1,k2,k3⟩:=hst i st hsi
  have hso:st.o=o:=by rw [h2] at k1; simpa using k1.symm
  have hr:∀ e∈bi st.o,listed.getD e false=true:=by
   intro e he
   obtain ⟨x,g1,g2,rfl⟩:=ql.1 he
   exact h3 x (hso ▸ g1) g2
  have hag:=hF.agree (M:=fun i=>listed.getD i false) hcl hsi hr h1 k3
  have hM':∀ j,(listed.setIfInBounds i true).getD j false=((fun i=>listed.getD i false) j||decide (j=i)):=by
   intro j
   simp only [Array.getD_eq_getD_getElem?,Array.getElem?_setIfInBounds]
   by_cases hj:i=j
   ·subst hj
    rw [if_pos rfl,if_pos (by omega)]
    simp
   ·rw [if_neg hj,decide_eq_false (by omega),Bool.or_false]
  have hle:=hF.step_le (M:=fun i=>listed.getD i false) (M':=fun j=>(listed.setIfInBounds i true).getD j false) hcl hsi hr h1 k3 hM'
  have hdst:∀ d,o.dst=some d→d<Γ.nt:=fun d hd=>hall i d (by rw [ff,h2]; exact hd)
  have hnext:∀ (s':St) (a':Act) (w':World),s'=dJ ⟨tF (Wf tr) base.t (fun i=>listed.getD i false) tr.length,tF (Bf tr) base.b (fun i=>listed.getD i false) tr.length⟩ st.o.dst st.r →
    Inv Γ s' a' w'→NC w w'→(∃ v,a'=a.put o.dst v)→wpAnyIn Γ.F Γ.n Γ.P .any all.toArray Q fuel (listed.setIfInBounds i true) a' w':=by
   intro s' a' w' hs' hI' hN' hP'
   subst hs'
   refine ih _ a' w' (by simpa using hsz) ?_ ?_ (hI'.less hle) (hN.trans hN') (hP.trans ((FT.put hP').mono fun d hd=>r9 h2 hd))
   ·rw [AC (M:=fun i=>listed.getD i false) h1 hM' tr.length hlt]; omega
   ·intro m stm hm hMm e he
    rw [hM'] at hMm ⊢
    rw [Bool.or_eq_true] at hMm ⊢
    left
    rcases hMm with h | h
    ·exact hcl m stm hm h e he
    ·have hmi:m=i:=of_decide_eq_true h
     subst hmi
     rw [hsi] at hm
     cases hm
     exact hr e he
  rw [wpOpIn,show all.toArray[i]?=some o by simpa using h2]
  simp only
  have hwe:=hag.2
  rw [hso] at hwe
  rcases k2 with ⟨hw,hop⟩ | ⟨hw,hrv⟩
  ·rw [hso] at hw hop
   rw [ce hall hI 0 (by rw [hwe]; exact hw) (by omega)]
   simp only [beq_self_eq_true,if_true]
   have hag1:=hag.1
   rw [hso] at hag1
   have hagX:=hF.agreeX (M:=fun i=>listed.getD i false) hcl hsi hr h1 k3
   rw [hso] at hagX
   refine yW hΓ hT hI hdst (hF.arrT _) (yX hag1 hagX hop) ?_
   rintro s' a' w' ⟨r,rfl,hs'⟩ hI' hN' hP'
   exact hnext s' a' w' (by rw [hso]; exact hs') hI' hN' hP'
  ·rw [hso] at hw
   rw [ce hall hI 1 (by rw [hwe]; exact hw) (by omega)]
   simp only [Nat.reduceBEq,Bool.false_eq_true,if_false]
   refine ⟨fun f _=>hΓ.fn f,?_⟩
   obtain ⟨s2,hK2,hI2⟩:=ge (K:=fun s'=>s'=dJ ⟨tF (Wf tr) base.t (fun i=>listed.getD i false) tr.length,tF (Bf tr) base.b (fun i=>listed.getD i false) tr.length⟩ st.o.dst st.r) hI hdst (by
    rw [← hso]; exact fm (by rw [hrv]))
   exact hnext s2 _ w hK2 hI2 (.refl w) ⟨_,rfl⟩
theorem RC.unloc' {c:Ctx} {x:AV} {v:Value} (h:RC c x v) (d:Nat):RC c (x.unloc d) v:=by
 cases x with
 | loc d' off=>
  simp only [AV.unloc]
  cases Nat.beq d d' with
  | true=>exact RD.junk v
  | false=>exact h
 | _=>exact h
theorem Inv.unlocMany {s:St} {a:Act} {w:World} (hI:Inv Γ s a w):∀ (ds:List Nat),Inv Γ ⟨Go.AI.unlocMany ds s.t,s.b⟩ a w:=by
 intro ds
 induction ds generalizing s with
 | nil=>exact hI
 | cons d r ih=>
  refine ih (s:=⟨unloc d s.t,s.b⟩) ?_
  obtain ⟨⟨c,hW,ht⟩,h2,h3,h4⟩:=hI
  refine ⟨⟨c,hW,fun k x hx=>?_⟩,h2,h3,h4⟩
  simp only at hx
  rw [show get (unloc d s.t) k=(get s.t k).map (AV.unloc d) from by unfold unloc; rw [jT]; exact gL (fun (_:Nat) (v:AV)=>v.unloc d) s.t k] at hx
  obtain ⟨u,hu,rfl⟩:=Option.map_eq_some_iff.1 hx
  exact (ht k u hu).unloc' d
include hΓ hT in
theorem tP {keep:List Nat} {s:St} {K:St→Prop} {a:Act} {w:World} {id:Nat} (hall:∀ j d,iF all j=some d→d<Γ.nt) (h:rz T (ae Γ.P) keep all s K) (hI:Inv Γ s a w)
  (hQ:∀ s' s'' a' w',iS keep s' K→s'=s''→Inv Γ s' a' w'→NC w w'→FT (dE all) a a'→Q .normal a' w'):(Code.region id all.toArray true).wpIn Γ.F Γ.n Γ.P Q a w:=by
 obtain ⟨t,b⟩:=s
 simp only [rz,zf] at h
 obtain ⟨tr,s',hC,hchk,hK⟩:=pz T (ae Γ.P) all [] _ h
 rw [List.append_nil,List.reverse_reverse] at hchk
 obtain ⟨g1,g2,g3⟩:=u8.all T (ae Γ.P) hC
 obtain ⟨an,hF⟩:=BG hchk
 refine wpIn_region_any hΓ.mixed ?_
 have hI1:=(hI.drew).unlocMany (lr all)
 have hz:∀ i,(Array.replicate all.length false).getD i false=false:=by
  intro i
  rw [Array.getD_eq_getD_getElem?,Array.getElem?_replicate]
  split <;> rfl
 have hz2:∀ {α:Type} (E:Nat→List (Nat×α)) (b:List (Nat×α)) n,tF E b (fun i=>(Array.replicate all.length false).getD i false) n=b:=by
  intro α E b n
  induction n with
  | zero=>rfl
  | succ n ih=>simp only [tF]; rw [hz n,cond_false]; exact ih
 have hz3:∀ n,cnt (fun i=>(Array.replicate all.length false).getD i false) n=0:=by
  intro n
  induction n with
  | zero=>rfl
  | succ n ih=>simp only [cnt]; rw [hz n,ih]; rfl
 refine DD hΓ hT (w0:=w) (a0:=a) hF g1 hall g2 (fun a' w' hI' hN' hP'=>?_) _ _ a _ (by simp [g1]) ?_ ?_ ?_ ⟨Nat.le_refl _,fun _ _ h _=>h,.drew _,fun _ h=>h⟩ (.refl _ a)
 ·rw [g1,← g3] at hI'
  exact hQ s' s' a' w' hK rfl hI' hN' hP'
 ·simp only [List.size_toArray]
  rw [hz3,g1]; omega
 ·intro m st _ hm
  simp only [List.size_toArray] at hm
  rw [hz m] at hm
  cases hm
 ·simp only [List.size_toArray]
  rw [hz2,hz2]
  exact hI1
end
end Go.AI
namespace Go.AI
open Go
open Go.RowKit (Below)
def Da (nt:Nat) (o:Oper):Bool:=match o.dst with | some d=>Nat.blt d nt | none=>true
def ck (nt:Nat):Code→Bool
 | .region _ ops _=>ops.toList.all (Da nt)
 | .seq a b=>ck nt a&&ck nt b
 | .cond _ a b=>ck nt a&&ck nt b
 | .block _ c=>ck nt c
 | _=>true
def awp (Γ:aO) (T:Tab) (keep:List Nat):Code→St→(Exit→St→Prop)→Prop
 | .skip,s,K=>K .normal s
 | .label _,s,K=>K .normal s
 | .ret,s,K=>K .ret s
 | .exit j,s,K=>K (.exit j) s
 | .seq a b,s,K=>awp Γ T keep a s fun e s=>match e with
  | .normal=>awp Γ T keep b s K
  | e=>K e s
 | .cond c a b,s,K=>match ev s c with
  | .bool t=>(t=true→awp Γ T keep a s K)∧(t=false→awp Γ T keep b s K)
  | _=>False
 | .block id c,s,K=>awp Γ T keep c s fun e s=>match e with
  | .exit j=>bif Nat.beq j id then K .normal s else K (.exit j) s
  | e=>K e s
 | .region _ ops false,s,K=>gg T (ae Γ.P) ops.toList (cU ops.toList ops.toList) ops.toList s fun s=>iS keep s (K .normal)
 | .region _ ops true,s,K=>rz T (ae Γ.P) keep ops.toList s (K .normal)
 | c,s,K=>SP Γ s c K
theorem Dh {l:List Nat} {k d:Nat} (h:k∈A4 l d):k∈l:=by
 induction l with
 | nil=>simp [A4] at h
 | cons e r ih=>
  simp only [A4] at h
  cases hb:Nat.beq e d with
  | true=>rw [hb] at h; exact List.mem_cons_of_mem _ h
  | false=>
   rw [hb,cond_false,List.mem_cons] at h
   rcases h with rfl | h
   ·exact List.mem_cons_self
   ·exact List.mem_cons_of_mem _ (ih h)
theorem Bx:∀ {t:List (Nat×AV)} {keep:List Nat} {d:Nat} {x:AV},get (sq keep t) d=some x→d∈keep∧get t d=some x:=by
 intro t
 induction t with
 | nil=>intro keep d x h; simp [sq,get] at h
 | cons p r ih=>
  obtain ⟨k,v⟩:=p
  intro keep d x h
  simp only [sq] at h
  cases hm:eo keep k with
  | true=>
   rw [hm] at h
   simp only [cond_true] at h
   rw [aq] at h ⊢
   split at h
   ·rename_i hk; rw [if_pos hk]; subst hk; exact ⟨bF.1 hm,h⟩
   ·rename_i hk; rw [if_neg hk]; exact ⟨Dh (ih h).1,(ih h).2⟩
  | false=>
   rw [hm] at h
   simp only [cond_false] at h
   rw [aq,if_neg]
   ·exact ih h
   ·rintro rfl
    rw [bF.2 (ih h).1] at hm
    cases hm
theorem By:∀ {t:List (Nat×List AV)} {seen:List Nat} {d:Nat} {x:List AV},get (su seen t) d=some x→d ∉ seen∧get t d=some x:=by
 intro t
 induction t with
 | nil=>intro keep d x h; simp [su,get] at h
 | cons p r ih=>
  obtain ⟨k,v⟩:=p
  intro seen d x h
  simp only [su] at h
  cases hm:eo seen k with
  | false=>
   rw [hm] at h
   simp only [cond_false] at h
   rw [aq] at h ⊢
   split at h
   ·rename_i hk; rw [if_pos hk]; subst hk; exact ⟨fun hc=>absurd (bF.2 hc) (by rw [hm]; exact Bool.false_ne_true),h⟩
   ·rename_i hk; rw [if_neg hk]; exact ⟨fun hc=>(ih h).1 (List.mem_cons_of_mem _ hc),(ih h).2⟩
  | true=>
   rw [hm] at h
   simp only [cond_true] at h
   rw [aq,if_neg]
   ·exact ih h
   ·rintro rfl
    exact (ih h).1 (bF.1 hm)
theorem fu {keep:List Nat} {s:St} {K:St→Prop} (h:iS keep s K):∃ s',K s'∧s.le s':=by
 obtain ⟨t,b⟩:=s
 simp only [iS,zg,pG,pH] at h
 exact ⟨_,h,fun d x hx=>(Bx hx).2,fun d cs hc _=>(By hc).2⟩
theorem SP.mono {Γ:aO} {s:St} {c:Code} {K K':Exit→St→Prop} (h:SP Γ s c K) (hk:∀ e s,K e s→K' e s):SP Γ s c K':=
 fun a w hI=>wpIn_mono (h a w hI) fun e _ _ ⟨hn,hp,s',hs,hK⟩=>⟨hn,hp,s',hs,hk e s' hK⟩
theorem SP.seq {Γ:aO} {s:St} {a b:Code} {K K1:Exit→St→Prop} (h:SP Γ s a K1) (hn:∀ s,K1 .normal s→SP Γ s b K) (he:∀ e s,e≠.normal→K1 e s→K e s):SP Γ s (.seq a b) K:=by
 intro a0 w hI
 refine wpIn_seq (wpIn_mono (h a0 w hI) fun e a' w' hq=>?_)
 obtain ⟨hN,hp,s',hI',hK⟩:=hq
 replace hp:FT (wrs (.seq a b)) a0 a':=hp.mono fun d hd=>List.mem_append_left _ hd
 cases e with
 | normal=>exact wpIn_mono (hn s' hK a' w' hI') fun e _ _ ⟨n2,p2,s2,h2,k2⟩=>⟨hN.trans n2,hp.trans (p2.mono fun d hd=>List.mem_append_right _ hd),s2,h2,k2⟩
 | exit id=>exact ⟨hN,hp,s',hI',he _ _ (by intro h; cases h) hK⟩
 | goto l=>exact ⟨hN,hp,s',hI',he _ _ (by intro h; cases h) hK⟩
 | ret=>exact ⟨hN,hp,s',hI',he _ _ (by intro h; cases h) hK⟩
 | panic c=>exact ⟨hN,hp,s',hI',he _ _ (by intro h; cases h) hK⟩
 | outgrown=>exact ⟨hN,hp,s',hI',he _ _ (by intro h; cases h) hK⟩
theorem eD {nt:Nat} {l:List Oper} (h:l.all (Da nt)=true):∀ j d,iF l j=some d→d<nt:=by
 intro j d hd
 rw [ff] at hd
 cases hj:l[j]? with
 | none=>rw [hj] at hd; cases hd
 | some o=>
  rw [hj] at hd
  have:=List.all_eq_true.1 h o (List.mem_of_getElem? hj)
  unfold Da at this
  rw [show o.dst=some d from hd] at this
  have:=Nat.le_of_ble_eq_true this
  omega
section
variable {Γ:aO} (hΓ:Γ.OK) {T:Tab} (hT:T.OK Γ.P) {keep:List Nat}
theorem SP.pure {s:St} {c:Code} {K:Exit→St→Prop} {e:Exit} (hc:∀ {F:Fence} {n:Nat} {P:Program} {Q:Exit→Act→World→Prop} {a:Act} {w:World},Q e a w→c.wpIn F n P Q a w) (h:K e s):SP Γ s c K:=
 fun a w hI=>hc ⟨.refl w,.refl _ a,s,hI,h⟩
include hΓ hT in
theorem ig:∀ (c:Code) (s:St) (K:Exit→St→Prop),ck Γ.nt c=true→awp Γ T keep c s K→SP Γ s c K
 | .skip,s,K,_,h=>SP.pure wpIn_skip h
 | .label _,s,K,_,h=>SP.pure wpIn_label h
 | .ret,s,K,_,h=>SP.pure wpIn_ret h
 | .exit j,s,K,_,h=>SP.pure wpIn_exit h
 | .seq a b,s,K,ho,h=>by
  simp only [ck,Bool.and_eq_true] at ho
  refine SP.seq (ig a s _ ho.1 h) (fun s' h'=>ig b s' K ho.2 h') (fun e s' he h'=>?_)
  cases e <;> first | exact absurd rfl he | exact h'
 | .cond c x y,s,K,ho,h=>by
  simp only [ck,Bool.and_eq_true] at ho
  intro a w hI
  simp only [awp] at h
  split at h
  ·rename_i t ht
   obtain ⟨cx,hW,htm⟩:=hI.ex
   have he:RC cx (.bool t) (a.eval c):=by
    have:=aN htm c
    rwa [ht] at this
   exact wpIn_cond_split he.bool (fun g=>wpIn_mono (ig x s K ho.1 (h.1 g) a w hI) fun _ _ _ ⟨h1,h2,h3⟩=>⟨h1,h2.mono fun d hd=>List.mem_append_left _ hd,h3⟩)
    (fun g=>wpIn_mono (ig y s K ho.2 (h.2 g) a w hI) fun _ _ _ ⟨h1,h2,h3⟩=>⟨h1,h2.mono fun d hd=>List.mem_append_right _ hd,h3⟩)
  ·exact h.elim
 | .block id c,s,K,ho,h=>by
  intro a w hI
  refine wpIn_block (wpIn_mono (ig c s _ (by simpa [ck] using ho) h a w hI) fun e a' w' hq=>?_)
  obtain ⟨hN,hp,s',hI',hK⟩:=hq
  cases e with
  | exit j=>
   simp only at hK
   unfold Exit.inBlock
   cases hb:Nat.beq j id with
   | true=>rw [hb] at hK; simp only [Nat.eq_of_beq_eq_true hb,if_true]; exact ⟨hN,hp,s',hI',hK⟩
   | false=>rw [hb] at hK; simp only [Nat.ne_of_beq_eq_false hb,if_false]; exact ⟨hN,hp,s',hI',hK⟩
  | normal=>exact ⟨hN,hp,s',hI',hK⟩
  | goto l=>exact ⟨hN,hp,s',hI',hK⟩
  | ret=>exact ⟨hN,hp,s',hI',hK⟩
  | panic c=>exact ⟨hN,hp,s',hI',hK⟩
  | outgrown=>exact ⟨hN,hp,s',hI',hK⟩
 | .region id ops false,s,K,ho,h=>by
  intro a w hI
  obtain ⟨l⟩:=ops
  refine wpIn_region ?_
  rw [show (⟨l⟩:Array Oper).size=l.length from rfl,List.range_eq_range']
  refine eG hΓ hT (eD ho) l 0 s a w _ (fun j=>by simp) h hI ?_
  intro s' a' w' hK hI' hN hP
  obtain ⟨s2,h2,hle⟩:=fu hK
  exact ⟨hN,hP,s2,hI'.less hle,h2⟩
 | .region id ops true,s,K,ho,h=>by
  intro a w hI
  obtain ⟨l⟩:=ops
  refine tP hΓ hT (eD ho) h hI ?_
  intro s' _ a' w' hK _ hI' hN hP
  obtain ⟨s2,h2,hle⟩:=fu hK
  exact ⟨hN,hP,s2,hI'.less hle,h2⟩
 | .loop c,s,K,_,h=>h
 | .rangeFunc _ _ _ _,s,K,_,h=>h
 | .scope c,s,K,_,h=>h
 | .goto _,s,K,_,h=>h
 | .refuse _,s,K,_,h=>h
end
end Go.AI
namespace Go.AI
open Go
open Go.RowKit (Below)
theorem SP.loop {Γ:aO} {s:St} {c:Code} {K:Exit→St→Prop} {X:Type} (sh:X→St) (I:X→Prop) (μ:X→Nat) (x0:X) (h0:I x0) (hle:s.le (sh x0))
  (body:∀ x,I x→SP Γ (sh x) c fun e s'=>match e with | .normal=>∃ x',I x'∧μ x'<μ x∧s'.le (sh x') | e=>K e s'):SP Γ s (.loop c) K:=by
 intro a0 w hI
 have key:∀ (m:Nat) (x:X) (a:Act) (w1:World),I x→μ x<m→Inv Γ (sh x) a w1→NC w w1→FT (wrs c) a0 a →
   Code.roundsIn Γ.F Γ.n Γ.P c (fun e a' w'=>NC w w'∧FT (wrs c) a0 a'∧∃ s',Inv Γ s' a' w'∧K e s') m a w1:=by
  intro m
  induction m with
  | zero=>intro x a w1 _ hm; omega
  | succ m ih=>
   intro x a w1 hx hm hI1 hN hP
   rw [roundsIn_succ]
   refine wpIn_mono (body x hx a w1 hI1) fun e a' w' hq=>?_
   obtain ⟨hN',hP',s',hI',hK⟩:=hq
   cases e with
   | normal=>
    obtain ⟨x',g1,g2,g3⟩:=hK
    exact ih x' a' w' g1 (by omega) (hI'.less g3) (hN.trans hN') (hP.trans hP')
   | exit id=>exact ⟨hN.trans hN',hP.trans hP',s',hI',hK⟩
   | goto l=>exact ⟨hN.trans hN',hP.trans hP',s',hI',hK⟩
   | ret=>exact ⟨hN.trans hN',hP.trans hP',s',hI',hK⟩
   | panic c=>exact ⟨hN.trans hN',hP.trans hP',s',hI',hK⟩
   | outgrown=>exact ⟨hN.trans hN',hP.trans hP',s',hI',hK⟩
 exact wpIn_loop_rounds (μ x0+1) (key _ x0 a0 w h0 (by omega) (hI.less hle) (.refl w) (.refl _ a0))
def AV.weak (x r:AV):Prop:=∀ m v,RD m x v→RD m r v
theorem AV.weak.refl (x:AV):x.weak x:=fun _ _ h=>h
theorem ac {x r:AV} (h:x=r):x.weak r:=h ▸ .refl x
def Ai (T:Tab) (s:St):ResultVar→Option AV
 | .tmp t=>get s.t t
 | .cell a t=>match get T t,get s.t a with
  | some i,some (.loc d off)=>match get s.b d with
   | some cs=>e7 i (cs.drop off)
   | none=>none
  | _,_=>none
def kC (T:Tab) (s:St):List ResultVar→Option (List AV)
 | []=>some []
 | x::r=>match Ai T s x,kC T s r with
  | some v,some l=>some (v.pub::l)
  | _,_=>none
def E3 (T:Tab) (rs:List ResultVar) (s:St) (r:AV):Prop:=match rs with
 | [x]=>match Ai T s x with | some v=>v.pub.weak r | none=>False
 | rs=>match kC T s rs with | some vs=>(AV.tup vs).weak r | none=>False
structure Ends (T:Tab) (rs:List ResultVar) (r:AV) (e:Exit) (s:St):Prop where
 ex:e = .ret∨e = .normal
 ok:E3 T rs s r
section
variable {Γ:aO} {T:Tab} (hT:T.OK Γ.P)
def vj (tmps:Array Value):ResultVar→Sem Value
 | .tmp t=>pure (tmps.getD t undef)
 | .cell a t=>do loadVar t (← asAddr (tmps.getD a undef))
include hT in
theorem rR {s:St} {a:Act} {w:World} {c:Ctx} (hW:WI Γ c s.b w) (ht:∀ d x,get s.t d=some x→RC c x (a.tmps.getD d Go.undef)) {x:ResultVar} {v:AV} (h:Ai T s x=some v) :
  ∃ u,(vj a.tmps x).run Γ.P w = .ok u w∧RC c v u:=by
 cases x with
 | tmp t=>exact ⟨_,rfl,ht t v h⟩
 | cell b t=>
  simp only [Ai] at h
  split at h
  ·rename_i i d off hi hb
   split at h
   ·rename_i cs hcs
    obtain ⟨vals,g1,g2,g3,g4⟩:=uJ hW hcs off
    obtain ⟨u,hu1,hu2⟩:=jU hT hi g1 g2 g3 g4 h
    refine ⟨u,?_,hu2⟩
    have:=(ht b _ hb).loc
    simp only [vj,Sem.run_bind,this,asAddr,Sem.run_pure,Result.andThen_ok,hu1]
   ·cases h
  ·cases h
include hT in
theorem qi {s:St} {a:Act} {w:World} {c:Ctx} (hW:WI Γ c s.b w) (ht:∀ d x,get s.t d=some x→RC c x (a.tmps.getD d Go.undef)):∀ {l:List ResultVar} {vs:List AV},kC T s l=some vs →
  ∃ us:List Value,(l.mapM (vj a.tmps)).run Γ.P w = .ok us w∧vs.length=us.length∧∀ (i:Nat) (x:AV) (u:Value),vs[i]?=some x→us[i]?=some u→RD c.m x u
 | [],vs,h=>by
  simp only [kC,Option.some.injEq] at h
  subst h
  exact ⟨[],by simp,rfl,by simp⟩
 | x::r,vs,h=>by
  simp only [kC] at h
  split at h
  ·rename_i v l hv hl
   simp only [Option.some.injEq] at h
   subst h
   obtain ⟨u,hu1,hu2⟩:=rR hT hW ht hv
   obtain ⟨us,h1,h2,h3⟩:=qi hW ht hl
   refine ⟨u::us,by simp [List.mapM_cons,Sem.run_bind,hu1,Result.andThen_ok,h1],by simp [h2],fun i y z g1 g2=>?_⟩
   cases i with
   | zero=>simp at g1 g2; subst g1; subst g2; exact hu2.pub
   | succ i=>simp at g1 g2; exact h3 i y z g1 g2
  ·cases h
theorem lH {s:St}:∀ {l:List ResultVar} {vs:List AV},kC T s l=some vs→l.length=vs.length
 | [],vs,h=>by
  simp only [kC,Option.some.injEq] at h
  subst h
  rfl
 | x::r,vs,h=>by
  simp only [kC] at h
  split at h
  ·rename_i v l hv hl
   simp only [Option.some.injEq] at h
   subst h
   simp [lH hl]
  ·cases h
include hT in
theorem mI {s:St} {a:Act} {w:World} {c:Ctx} {fn:Func} {r:AV} (hW:WI Γ c s.b w) (ht:∀ d x,get s.t d=some x→RC c x (a.tmps.getD d Go.undef)) (h:E3 T fn.results.toList s r) :
  ∃ v,(results fn a.tmps).run Γ.P w = .ok v w∧RD c.m r v:=by
 have e:results fn a.tmps=(do let vs ← fn.results.toList.mapM (vj a.tmps); pure (if h:vs.toArray.size=1 then vs.toArray[0] else .tuple vs.toArray)):=by
  unfold results
  rw [Array.mapM_eq_mapM_toList]
  simp only [bind_map_left]
  congr 2
 rw [e]
 unfold E3 at h
 split at h
 ·rename_i x hx
  split at h
  ·rename_i v hv
   obtain ⟨u,hu1,hu2⟩:=rR hT hW ht hv
   refine ⟨u,?_,h _ _ hu2.pub⟩
   rw [hx]
   simp [List.mapM_cons,Sem.run_bind,hu1,Result.andThen_ok]
  ·exact h.elim
 ·rename_i rs hne
  split at h
  ·rename_i vs hvs
   obtain ⟨us,h1,h2,h3⟩:=qi hT hW ht hvs
   have hlen:us.length≠1:=by
    intro hl
    have hrl:=lH hvs
    rw [h2,hl] at hrl
    obtain ⟨x,hx⟩:=List.length_eq_one_iff.1 hrl
    exact hne x hx
   refine ⟨.tuple us.toArray,?_,h _ _ (.tup _ _ (by simp [h2]) fun i x u g1 g2=>h3 i x u g1 (by simpa using g2))⟩
   simp [Sem.run_bind,h1,Result.andThen_ok,hlen]
  ·exact h.elim
end
def params:Nat→List AV→List (Nat×AV)
 | _,[]=>[]
 | n,x::r=>(n,x)::params (n+1) r
theorem gf:∀ (l:List AV) (n k:Nat) (x:AV),get (params n l) k=some x→n≤k∧l[k - n]?=some x
 | [],n,k,x,h=>by simp [params,get] at h
 | y::r,n,k,x,h=>by
  simp only [params] at h
  rw [aq] at h
  split at h
  ·rename_i hk; subst hk; simp only [Option.some.injEq] at h; subst h; exact ⟨Nat.le_refl _,by simp⟩
  ·have:=gf r (n+1) k x h
   refine ⟨by omega,?_⟩
   rw [show k - n=(k - (n+1))+1 from by omega]
   simpa using this.2
theorem rr {F:Fence} {n:Nat} {P:Program} {fn:Func} {tmps:Array Value} {R:Ending→World→Prop} {B:Nat} {w0:World} {m:Mem} :
  ∀ (Ds:List Nat) (w:World),Below B w0 w→m.sub w→Ds.Nodup→(∀ D∈Ds,w.heap[D]?=some (.deferred (some []))∧B≤D) →
  (∀ w',Below B w0 w'→m.sub w'→(∀ (k:Nat) (o:Obj),w.heap[k]?=some o→pC o=true→w'.heap[k]?=some o)→dI w w'→∃ v,(results fn tmps).run P w' = .ok v w'∧R (.returned v) w') →
  LeavesInM F n P fn tmps R (qm Ds) .returning w
 | [],w,hb,hs,_,_,h=>h w hb hs (fun _ _ h _=>h) (.refl w)
 | D::Ds,w,hb,hs,hnd,hD,h=>by
  obtain ⟨hD1,hD2⟩:=hD D List.mem_cons_self
  have hne:∀ (k:Nat) (o:Obj),w.heap[k]?=some o→pC o=true→k≠D:=by
   rintro k o h1 h2 rfl
   rw [hD1] at h1; cases h1; cases h2
  have hsame:∀ k,k≠D→(w.putObj D (.deferred none)).heap[k]?=w.heap[k]?:=fun k hk=>World.putObj_heap_other hk
  have hsub:m.sub (w.putObj D (.deferred none)):=by
   refine ⟨fun b o v hv=>?_,fun b x hx=>?_⟩
   ·have:=hs.cell b o v hv
    simp only [World.cell?] at this ⊢
    rw [hsame b ?_]
    ·exact this
    ·rintro rfl
     rw [hD1] at this
     cases this
   ·have:=hs.map b x hx
    rw [hsame b ?_]
    ·exact this
    ·rintro rfl
     rw [hD1] at this
     cases this
  refine ⟨(fun h=>nomatch h),.inl ⟨D,_,rfl,run_takeDeferred hD1,rr Ds _ ?_ hsub (List.nodup_cons.1 hnd).2 (fun E hE=>?_) (fun w' h1 h2 h3 h4=>h w' h1 h2 (fun k o g1 g2=>h3 k o ?_ g2) ((dI.putObj w D (o := .deferred none) (fun _ _ _ h=>nomatch h)).trans h4))⟩⟩
  ·exact hb.trans ⟨rfl,rfl,rfl,by simp [World.putObj],fun k hk=>hsame k (by omega)⟩
  ·have:=hD E (List.mem_cons_of_mem _ hE)
   rw [hsame E (by rintro rfl; exact (List.nodup_cons.1 hnd).1 hE)]
   exact this
  ·rw [hsame k (hne k o g1 g2)]; exact g1
theorem WI.init {Γ:aO} {m:Mem} (hs:m.sub Γ.w0) (hm:Γ.m0=m):WI Γ ⟨fun _=>0,fun _ => .slice none 0 0,fun _=>0,m,fun _=>none,fun _=>(0,0)⟩ [] Γ.w0 where
 ext := .refl _ _
 sub:=hs
 le0:=by rw [hm]; exact .refl _
 new:=⟨fun b o v h => .inl (by rw [hm]; exact h),fun b x h => .inl (by rw [hm]; exact h)⟩
 box:=fun d cs h=>by simp [get] at h
 inj:=fun d d' cs cs' h=>by simp [get] at h
 own:=fun k=>⟨fun g hg=>by simp [cJ,jx] at hg,.inl rfl,fun g d cs hg=>by simp [cJ,jx] at hg,fun g j hg=>by simp [cJ,jx] at hg⟩
 xo:=fun k b o h=>by cases h
theorem WI.keep {Γ:aO} {c:Ctx} {bx:List (Nat×List AV)} {w w':World} (hW:WI Γ c bx w) (hb:Below Γ.w0.heap.size Γ.w0 w') (hs:c.m.sub w') (hc:∀ (k:Nat) (o:Obj),w.heap[k]?=some o→pC o=true→w'.heap[k]?=some o):WI Γ c bx w' where
 ext:=hb
 sub:=hs
 le0:=hW.le0
 new:=hW.new.keep fun _ ⟨c,T,h⟩=>⟨c,T,hc _ _ h rfl⟩
 box:=fun d cs hd hne=>by
  obtain ⟨h1,h2,h3,vs,U,h4,h5,h6⟩:=hW.box d cs hd hne
  exact ⟨h1,h2,h3,vs,U,hc _ _ h4 rfl,h5,h6⟩
 inj:=hW.inj
 own:=fun k=>⟨fun g hg=>by
  obtain ⟨len,cap,U,cells,h1,h2,h3⟩:=(hW.own k).blk g hg
  exact ⟨len,cap,U,cells,h1,hc _ _ h2 rfl,h3⟩,(hW.own k).shape,(hW.own k).box,(hW.own k).apart⟩
 xo:=fun k b o h=>⟨(hW.xo k b o h).new,hc _ _ (hW.xo k b o h).obj (hW.xo k b o h).kept,(hW.xo k b o h).kept,(hW.xo k b o h).mem,(hW.xo k b o h).map,(hW.xo k b o h).box,(hW.xo k b o h).own,(hW.xo k b o h).inj⟩
structure fy (P:Program) (f:FuncId) (args:List AV) (R:AV→Prop):Prop where
 enters:∀ (args:Array Value) (w:World),(callFunc f args).run P w = .ok (.enter f args) w
 runs:∀ (m:Mem) (w:World) (vs:List Value),m.sub w→args.length=vs.length→(∀ (i:Nat) (x:AV) (v:Value),args[i]?=some x→vs[i]?=some v→RD m x v) →
  Calls P f vs.toArray w fun e w'=>∃ r,R r∧∃ v m',e = .returned v∧RD m' r v∧m.le m'∧Mem.sub m' w'∧RowKit.Below w.heap.size w w'∧m.News w.heap.size m' w'∧dI w w'
theorem fy.one {P:Program} {f:FuncId} {args:List AV} {r:AV} (h:fy P f args (·=r)):ae P f args r:=
 ⟨h.enters,fun m w vs h1 h2 h3=>(h.runs m w vs h1 h2 h3).mono fun _ _ ⟨_,e,h⟩=>e ▸ h⟩
theorem fy.ofSP {P:Program} {T:Tab} (hT:T.OK P) {f:FuncId} {fn:Func} {body:Code} {args:List AV} {R:AV→Prop} (hf:P.funcs[f]?=some fn) (hb:fn.body=some body)
  (hname:(fn.name == "runtime.NumGoroutine")=false) (hm:P.follows .mixedOrders=true) (hn:args.length≤fn.ntmps)
  (h:∀ (F:Fence) (n:Nat) (w0:World) (m0:Mem),aO.OK ⟨P,F,n,w0,m0,fn.ntmps⟩→F.round=none→1≤n→SP ⟨P,F,n,w0,m0,fn.ntmps⟩ ⟨params 0 args,[]⟩ body (fun e s=>∃ r,R r∧Ends T fn.results.toList r e s)):fy P f args R:=by
 refine ⟨Go.Proofs.enters_of hf hname hb,fun m w vs hs hlen hr=>?_⟩
 have hG:aO.OK ⟨P,Fence.wide,1,w,m,fn.ntmps⟩:=⟨fun _=>trivial,rfl,rfl,hm⟩
 refine callsIn_wide.1 (callsIn_of_wp_marks (n:=1) hf hb trivial ?_)
 have hp:=h Fence.wide 1 w m hG rfl (Nat.le_refl _)
 refine wpIn_mono (hp _ w ⟨⟨_,WI.init (Γ:=⟨P,Fence.wide,1,w,m,fn.ntmps⟩) hs rfl,fun d x hx=>?_⟩,by simp; omega,⟨[],rfl,List.nodup_nil,by simp⟩,fun _ h=>nomatch h⟩) ?_
 ·obtain ⟨_,h2⟩:=gf _ _ _ _ hx
  simp only [Nat.sub_zero] at h2
  have hdl:d<args.length:=(List.getElem?_eq_some_iff.1 h2).1
  refine RC.of_RD (c:=⟨_,_,_,m,_,_⟩) (hr d x _ h2 ?_)
  rw [Array.getD_eq_getD_getElem?,Array.getElem?_append_left (by simp; omega)]
  simp [List.getElem?_eq_getElem (show d<vs.length by omega)]
 ·intro e a w' ⟨hN,_,s',hI,⟨r,hr0,⟨he,hR⟩⟩⟩
  have hpost:LeavesInM Fence.wide 1 P fn a.tmps (fun e w'=>∃ r,R r∧∃ v m',e = .returned v∧RD m' r v∧m.le m'∧Mem.sub m' w'∧RowKit.Below w.heap.size w w'∧m.News w.heap.size m' w'∧dI w w') a.defers .returning w':=by
   obtain ⟨⟨c,hW,ht⟩,_,⟨Ds,hD1,hD2,hD3⟩,_⟩:=hI
   rw [hD1]
   refine rr Ds w' hW.ext hW.sub hD2 hD3 fun w2 h1 h2 h3 h4=>?_
   obtain ⟨v,hv1,hv2⟩:=mI (a:=a) hT (hW.keep h1 h2 h3) ht hR
   exact ⟨v,hv1,r,hr0,v,c.m,rfl,hv2,hW.le0,h2,h1,hW.new.keep fun _ ⟨c,T,h⟩=>⟨c,T,h3 _ _ h rfl⟩,hN.more.trans h4⟩
  rcases he with rfl | rfl <;> exact hpost
theorem ae.ofSP {P:Program} {T:Tab} (hT:T.OK P) {f:FuncId} {fn:Func} {body:Code} {args:List AV} {r:AV} (hf:P.funcs[f]?=some fn) (hb:fn.body=some body)
  (hname:(fn.name == "runtime.NumGoroutine")=false) (hm:P.follows .mixedOrders=true) (hn:args.length≤fn.ntmps)
  (h:∀ (F:Fence) (n:Nat) (w0:World) (m0:Mem),aO.OK ⟨P,F,n,w0,m0,fn.ntmps⟩→F.round=none→1≤n→SP ⟨P,F,n,w0,m0,fn.ntmps⟩ ⟨params 0 args,[]⟩ body (Ends T fn.results.toList r)):ae P f args r:=
 fy.one (fy.ofSP hT hf hb hname hm hn fun F n w0 m0 h1 h2 h3=>(h F n w0 m0 h1 h2 h3).mono fun _ _ he=>⟨_,rfl,he⟩)
end Go.AI
namespace Go.AI
open Go
open Go.RowKit (Below)
structure Gr (W W':World):Prop where
 below:Below W.heap.size W W'
 more:dI W W'
structure GrI (N:Nat) (W W':World):Prop where
 os:W'.os=W.os
 tape:W'.tape=W.tape
 output:W'.output=W.output
 size:W.heap.size≤W'.heap.size
 block:∀ b,b<W.heap.size→(b<N∨vz W.heap[b]?=false)→W'.heap[b]?=W.heap[b]?
 more:dI W W'
theorem Gr.toI {N:Nat} {W W':World} (h:Gr W W'):GrI N W W':=⟨h.below.os,h.below.tape,h.below.output,h.below.size,fun b hb _=>h.below.block b hb,h.more⟩
theorem GrI.obj {N:Nat} {W W':World} (h:GrI N W W') {b:Nat} {o:Obj} (hb:W.heap[b]?=some o) (ho:b<N∨vz (some o)=false):W'.heap[b]?=some o:=by
 rw [h.block b (Array.getElem?_eq_some_iff.1 hb).1 (by rw [hb]; exact ho)]; exact hb
def Hl (W W':World):Prop:=∀ (b:Nat) (o:Obj),W.heap[b]?=some o→vz (some o)=true→W'.heap[b]?=some o
def yD (P:Program) {α:Type} (vals:α→Array Value) (f:FuncId) (cap:List AV) (nx:List α→α→Prop) (fin:List α→Prop):Prop:=
 (∀ (args:Array Value) (w:World),(callFunc f args).run P w = .ok (.enter f args) w) ∧
 ∀ (m:Mem) (lb:Array Value),cap.length=lb.size→(∀ (i:Nat) (x:AV) (v:Value),cap[i]?=some x→lb[i]?=some v→RD m x v) →
  ∀ (F:Fence) (n:Nat),(∀ f,F.fn f)→F.depth=none→F.alive=false→F.round=none→∀ (l:Nat) (J:List α→World→Prop) (Jx:World→Prop) (W:World),m.sub W →
   (∀ p W1 W2,J p W1→GrI W.heap.size W1 W2→J p W2)→(∀ W1 W2,Jx W1→GrI W.heap.size W1 W2→Jx W2) →
   (∀ p x W1,nx p x→J p W1→m.sub W1→YieldAt F (n - 1) P l (vals x) W1 fun e W'=>
    (e = .returned (.bool true)∧J (p++[x]) W'∧m.sub W'∧Hl W1 W')∨(e = .returned (.bool false)∧Jx W'∧m.sub W')) →
   J [] W→CallsIn F n P f (#[.func (.yield l) #[] #[]]++lb) W fun e W'=>(∃ v,e = .returned v)∧((∃ p,fin p∧J p W')∨Jx W')
def zS (P:Program) {α:Type} (vals:α→Array Value) (f:FuncId) (cap:List AV) (items:List α):Prop:=
 yD P vals f cap (fun p x=>∃ r,items=p++x::r) (fun p=>p=items)
theorem WI.re {Γ Γ':aO} {c:Ctx} {bx:List (Nat×List AV)} {w:World} (hW:WI Γ c bx w) (hw:Γ'.w0=Γ.w0) (hm:Γ'.m0.le c.m) (hn:Γ'.m0.News Γ.w0.heap.size c.m w):WI Γ' c bx w where
 ext:=by rw [hw]; exact hW.ext
 sub:=hW.sub
 le0:=hm
 new:=by rw [hw]; exact hn
 box:=by rw [hw]; exact hW.box
 inj:=hW.inj
 own:=fun k=>⟨by rw [hw]; exact (hW.own k).blk,by rw [hw]; exact (hW.own k).shape,(hW.own k).box,(hW.own k).apart⟩
 xo:=fun k b o h=>⟨by rw [hw]; exact (hW.xo k b o h).new,(hW.xo k b o h).obj,(hW.xo k b o h).kept,(hW.xo k b o h).mem,(hW.xo k b o h).map,(hW.xo k b o h).box,(hW.xo k b o h).own,(hW.xo k b o h).inj⟩
theorem WI.grown {Γ:aO} {c:Ctx} {bx:List (Nat×List AV)} {w w':World} (hW:WI Γ c bx w) {row:Option Nat} (hg:w.grownBy w' row) (hr:∀ r,row=some r→Γ.w0.heap.size≤r∧∃ o:Obj,w.heap[r]?=some o∧pC o=false):WI Γ c bx w':=by
 have hkeep:∀ (k:Nat) (o:Obj),w.heap[k]?=some o→pC o=true→w'.heap[k]?=some o:=by
  intro k o hk ho
  rw [hg.block k (Array.getElem?_eq_some_iff.1 hk).1 ?_]
  ·exact hk
  ·intro hc
   obtain ⟨_,p,h1,h2⟩:=hr k hc.symm
   rw [hk] at h1; cases h1; rw [ho] at h2; cases h2
 refine hW.keep ?_ ?_ hkeep
 ·refine hW.ext.trans ⟨hg.os,hg.tape,hg.output,hg.size,fun k hk=>hg.block k (by have:=hW.ext.size; omega) fun hc=>?_⟩
  have:=(hr k hc.symm).1
  omega
 ·refine ⟨fun b o v hv=>?_,fun b x hx=>hkeep b _ (hW.sub.map b x hx) rfl⟩
  have:=hW.sub.cell b o v hv
  simp only [World.cell?] at this ⊢
  cases hb:w.heap[b]? with
  | none=>rw [hb] at this; cases this
  | some p=>
   rw [hb] at this
   cases p with
   | cells vs U fr=>rw [hkeep b _ hb rfl]; exact this
   | _=>cases this
theorem WI.grownI {Γ:aO} {c:Ctx} {bx:List (Nat×List AV)} {w w':World} (hW:WI Γ c bx w) {N:Nat} (hN:Γ.w0.heap.size≤N) (hg:GrI N w w'):WI Γ c bx w':=by
 have hkeep:∀ (k:Nat) (o:Obj),w.heap[k]?=some o→pC o=true→w'.heap[k]?=some o:=fun k o hk ho=>hg.obj hk (.inr (uo ho))
 refine hW.keep (hW.ext.trans ⟨hg.os,hg.tape,hg.output,hg.size,fun k hk=>hg.block k (by have:=hW.ext.size; omega) (.inl (by omega))⟩) ⟨fun b o v hv=>?_,fun b x hx=>hkeep b _ (hW.sub.map b x hx) rfl⟩ hkeep
 have:=hW.sub.cell b o v hv
 simp only [World.cell?] at this ⊢
 cases hb:w.heap[b]? with
 | none=>rw [hb] at this; cases this
 | some p=>
  rw [hb] at this
  cases p with
  | cells vs U fr=>rw [hkeep b _ hb rfl]; exact this
  | _=>cases this
structure cm (Γ:aO) (s:St) (a:Act) (w:World):Prop where
 ex:∃ c,WI Γ c s.b w∧∀ d x,get s.t d=some x→RC c x (a.tmps.getD d Go.undef)
 size:a.tmps.size=Γ.nt
theorem Inv.toT {Γ:aO} {s:St} {a:Act} {w:World} (h:Inv Γ s a w):cm Γ s a w:=⟨h.ex,h.size⟩
theorem cm.grown {Γ:aO} {s:St} {a:Act} {w w':World} (h:cm Γ s a w) {row:Option Nat} (hg:w.grownBy w' row) (hr:∀ r,row=some r→Γ.w0.heap.size≤r∧∃ o:Obj,w.heap[r]?=some o∧pC o=false):cm Γ s a w':=by
 obtain ⟨⟨c,hW,ht⟩,h2⟩:=h
 exact ⟨⟨c,hW.grown hg hr,ht⟩,h2⟩
theorem cm.grownI {Γ:aO} {s:St} {a:Act} {w w':World} (h:cm Γ s a w) {N:Nat} (hN:Γ.w0.heap.size≤N) (hg:GrI N w w'):cm Γ s a w':=by
 obtain ⟨⟨c,hW,ht⟩,h2⟩:=h
 exact ⟨⟨c,hW.grownI hN hg,ht⟩,h2⟩
theorem NC.grownI {w0 w w':World} (h:NC w0 w) {N:Nat} (hN:w0.heap.size≤N) (hg:GrI N w w'):NC w0 w':=
 ⟨Nat.le_trans h.size hg.size,fun b o hb ho=>hg.obj (h.same b o hb ho) (.inl (Nat.lt_of_lt_of_le (Array.getElem?_eq_some_iff.1 hb).1 hN)),h.more.trans hg.more,fun b hb=>by
  obtain ⟨c,T,h'⟩:=h.soft b hb
  exact ⟨c,T,hg.obj h' (.inr rfl)⟩⟩
theorem cm.less {Γ:aO} {s s':St} {a:Act} {w:World} (h:cm Γ s a w) (hle:s.le s'):cm Γ s' a w:=by
 obtain ⟨⟨c,hW,ht⟩,h2⟩:=h
 exact ⟨⟨c,hW.less hle.b,fun d x hx=>ht d x (hle.t d x hx)⟩,h2⟩
theorem cm.tmps {Γ:aO} {s:St} {a a':Act} {w:World} (h:cm Γ s a w) (hs:a'.tmps.size=a.tmps.size) (ht:∀ d∈d9 s.t,a'.tmps.getD d Go.undef=a.tmps.getD d Go.undef):cm Γ s a' w:=by
 obtain ⟨⟨c,hW,h1⟩,h2⟩:=h
 exact ⟨⟨c,hW,fun d x hx=>by rw [ht d (cQ.2 (by rw [hx]; simp))]; exact h1 d x hx⟩,hs.trans h2⟩
theorem NC.grown {w0 w w':World} (h:NC w0 w) {row:Option Nat} (hg:w.grownBy w' row) (hr:∀ r,row=some r→w0.heap.size≤r) (hd:dI w w'):NC w0 w':=
 ⟨Nat.le_trans h.size hg.size,fun b o hb ho=>by
  have:=h.same b o hb ho
  rw [hg.block b (Array.getElem?_eq_some_iff.1 this).1 fun hc=>by
   have h1:=hr b hc.symm
   have h2:=(Array.getElem?_eq_some_iff.1 hb).1
   omega]
  exact this,h.more.trans hd,fun b hb=>by
  obtain ⟨c,T,h'⟩:=h.soft b hb
  obtain ⟨c0,T0,h0⟩:=hb
  refine ⟨c,T,?_⟩
  rw [hg.block b (Array.getElem?_eq_some_iff.1 h').1 fun hc=>by
   have h1:=hr b hc.symm
   have h2:=(Array.getElem?_eq_some_iff.1 h0).1
   omega]
  exact h'⟩
def rd:List Nat→List AV→List (Nat×AV)
 | p::ps,v::vs=>(p,v)::rd ps vs
 | _,_=>[]
theorem kB:∀ (ps:List Nat) (vs:List Value) (t:Array Value),((ps.zip vs).foldl (fun t (p:Nat×Value)=>t.setIfInBounds p.1 p.2) t).size=t.size
 | [],_,_=>by simp
 | _::_,[],_=>by simp
 | p::ps,v::vs,t=>by simp [kB ps vs]
theorem eC:∀ (ps:List Nat) (vs:List Value) (t:Array Value) (d:Nat),d ∉ ps→((ps.zip vs).foldl (fun t (p:Nat×Value)=>t.setIfInBounds p.1 p.2) t).getD d Go.undef=t.getD d Go.undef
 | [],_,_,_,_=>by simp
 | _::_,[],_,_,_=>by simp
 | p::ps,v::vs,t,d,hd=>by
  simp only [List.mem_cons,not_or] at hd
  simp only [List.zip_cons_cons,List.foldl_cons]
  rw [eC ps vs _ d hd.2]
  simp only [Array.getD_eq_getD_getElem?,Array.getElem?_setIfInBounds_ne (Ne.symm hd.1)]
theorem lZ {m:Mem}:∀ (ps:List Nat) (vs:List Value) (xs:List AV) (t:Array Value) (d:Nat) (x:AV),ps.Nodup→(∀ p∈ps,p<t.size)→xs.length=vs.length →
  (∀ (i:Nat) (a:AV) (v:Value),xs[i]?=some a→vs[i]?=some v→RD m a v)→get (rd ps xs) d=some x→RD m x (((ps.zip vs).foldl (fun t (p:Nat×Value)=>t.setIfInBounds p.1 p.2) t).getD d Go.undef)
 | [],_,_,_,_,_,_,_,_,_,h=>by simp [rd,get] at h
 | p::ps,vs,[],_,_,_,_,_,_,_,h=>by simp [rd,get] at h
 | p::ps,[],x::xs,_,_,_,_,_,hl,_,_=>by simp at hl
 | p::ps,v::vs,y::xs,t,d,x,hnd,hlt,hl,hr,h=>by
  simp only [rd,aq] at h
  simp only [List.zip_cons_cons,List.foldl_cons]
  obtain ⟨h1,h2⟩:=List.nodup_cons.1 hnd
  split at h
  ·rename_i hd
   subst hd
   cases h
   rw [eC ps vs _ d h1]
   have:(t.setIfInBounds d v).getD d Go.undef=v:=by
    rw [Array.getD_eq_getD_getElem?,Array.getElem?_setIfInBounds_self_of_lt (hlt d List.mem_cons_self)]; rfl
   rw [this]
   exact hr 0 y v rfl rfl
  ·exact lZ ps vs xs _ d x h2 (fun q hq=>by simpa using hlt q (List.mem_cons_of_mem _ hq)) (by simpa using hl) (fun i a u g1 g2=>hr (i+1) a u (by simpa using g1) (by simpa using g2)) h
end Go.AI
namespace Go.AI
open Go
open Go.RowKit (Below)
def yC {α:Type} (t0:List α→List (Nat×AV)) (B:List α→List (Nat×List AV)) (K:Exit→St→Prop) (xs:List α) (e:Exit) (s:St):Prop:=match e with
 | .normal=>s.le ⟨t0 xs,B xs⟩
 | .ret=>∃ b,s.le ⟨t0 xs,b⟩∧K .ret ⟨t0 xs,b⟩
 | .exit id=>∃ b,s.le ⟨t0 xs,b⟩∧K (.exit id) ⟨t0 xs,b⟩
 | _=>False
section
variable {Γ:aO}
theorem SP.rangeN2 (hΓ:Γ.OK) (hro:Γ.F.round=none) (h1:1≤Γ.n) {s:St} {g:Operand} {ps:Array Tmp} {assign body:Code} {K:Exit→St→Prop} {α:Type} (avs:α→List AV) (vals:α→Array Value)
  {f:FuncId} {cap:List AV} {nx:List α→α→Prop} {fin:List α→Prop} (hg:ev s g = .clo f cap) (hseq:yD Γ.P vals f cap nx fin) (hsz:∀ x,(vals x).size=ps.size) (hav:∀ x,(avs x).length=(vals x).size)
  (hrd:∀ (m:Mem) (x:α) (i:Nat) (a:AV) (v:Value),(avs x)[i]?=some a→(vals x)[i]?=some v→RD m a v)
  (t0:List α→List (Nat×AV)) (ks:List Nat) (hks:∀ p,d9 (t0 p)=ks) (B:List α→List (Nat×List AV)) (hle:s.le ⟨t0 [],B []⟩)
  (hk:(gC ks (wrs assign++(wrs body++ps.toList))&&gC ks [1000000000]&&gC [1000000000] (wrs assign)&&(ps.toList.all fun p=>Nat.blt p Γ.nt))=true) (hnd:ps.toList.Nodup)
  (round:∀ (F':Fence) (n':Nat) (m':Mem),aO.OK ⟨Γ.P,F',n',Γ.w0,m',Γ.nt⟩→(∃ l,F'.round=some l)→n'=Γ.n - 1 - 1→∀ (pre:List α) (x:α),nx pre x →
   SP ⟨Γ.P,F',n',Γ.w0,m',Γ.nt⟩ ⟨rd ps.toList (avs x)++t0 pre,B pre⟩ assign fun e s1=>e = .normal∧s1.le ⟨t0 pre,B pre⟩ ∧
    SP ⟨Γ.P,F',n',Γ.w0,m',Γ.nt⟩ s1 body (yC t0 B K (pre++[x])))
  (done:∀ p,fin p→K .normal ⟨t0 p,B p⟩):SP Γ s (.rangeFunc g ps assign body) K:=by
 intro a w hI
 simp only [Bool.and_eq_true] at hk
 obtain ⟨⟨⟨hk1,hk2⟩,hk3⟩,hk4⟩:=hk
 obtain ⟨⟨c,hW,ht⟩,hsize,⟨Ds,hD1,hD2,hD3⟩,_⟩:=hI
 have hgv:RC c (.clo f cap) (a.eval g):=by rw [← hg]; exact aN ht g
 obtain ⟨lb,hlb,hcl,hcr⟩:∃ lb:Array Value,a.eval g = .func (.func f) #[] lb∧cap.length=lb.size∧∀ (i:Nat) (x:AV) (v:Value),cap[i]?=some x→lb[i]?=some v→RD c.m x v:=by
  have h:RD c.m (.clo f cap) (a.eval g):=hgv
  generalize a.eval g=v at h
  cases h with
  | clo _ _ vs hl hr=>exact ⟨vs,rfl,hl,hr⟩
 have hw0:Γ.w0.heap.size≤w.heap.size:=hW.ext.size
 -- the ground of the rounds
 have hΓ2:∀ l,aO.OK ⟨Γ.P,Γ.F.inRound l,Γ.n - 1 - 1,Γ.w0,c.m,Γ.nt⟩:=fun l=>⟨hΓ.fn,hΓ.depth,hΓ.alive,hΓ.mixed⟩
 let G:aO:=⟨Γ.P,Γ.F,Γ.n,Γ.w0,c.m,Γ.nt⟩
 have hGl:∀ (l:Nat) (s:St) (a:Act) (w:World),cm G s a w→cm ⟨Γ.P,Γ.F.inRound l,Γ.n - 1 - 1,Γ.w0,c.m,Γ.nt⟩ s a w:=fun l s a w h=>by
  obtain ⟨⟨c',hW',ht'⟩,h2⟩:=h
  exact ⟨⟨c',hW'.re rfl hW'.le0 hW'.new,ht'⟩,h2⟩
 have hlG:∀ (l:Nat) (s:St) (a:Act) (w:World),cm ⟨Γ.P,Γ.F.inRound l,Γ.n - 1 - 1,Γ.w0,c.m,Γ.nt⟩ s a w→cm G s a w:=fun l s a w h=>by
  obtain ⟨⟨c',hW',ht'⟩,h2⟩:=h
  exact ⟨⟨c',hW'.re rfl hW'.le0 hW'.new,ht'⟩,h2⟩
 have hI0:cm G ⟨t0 [],B []⟩ a w:=(show cm G s a w from ⟨⟨c,hW.re rfl (.refl _) ⟨fun b o v h => .inl h,fun b x h => .inl h⟩,ht⟩,hsize⟩).less hle
 have hback:∀ (s:St) (a:Act) (W:World),(∀ b,bh w b→bh W b)→cm G s a W→∃ c,WI Γ c s.b W∧∀ d x,get s.t d=some x→RC c x (a.tmps.getD d Go.undef):=fun s a W hk h=>by
  obtain ⟨⟨c',hW',ht'⟩,_⟩:=h
  refine ⟨c',hW'.re rfl (hW.le0.trans hW'.le0) ⟨fun b o v h=>?_,fun b x h=>?_⟩,ht'⟩
  ·rcases hW'.new.cell b o v h with h | h
   ·rcases hW.new.cell b o v h with h | h
    ·exact .inl h
    ·exact .inr ⟨h.1,hk b h.2⟩
   ·exact .inr h
  ·rcases hW'.new.map b x h with h | h
   ·rcases hW.new.map b x h with h | h
    ·exact .inl h
    ·exact .inr h
   ·exact .inr h
 have hsubm:∀ (s:St) (a:Act) (W:World),cm G s a W→c.m.sub W:=fun s a W h=>by
  obtain ⟨⟨c',hW',_⟩,_⟩:=h
  exact ⟨fun b o v hb=>hW'.sub.cell b o v (hW'.le0.cell b o v hb),fun b x hb=>hW'.sub.map b x (hW'.le0.map b x hb)⟩
 have hfin:∀ (D:Nat) (s:St) (W:World),w.heap.size≤D→cm G s a W→NC w W→W.heap[D]?=some (.deferred (some []))→Inv Γ s { a with defers:={ target := .collected D,args:=#[] }::a.defers } W:=fun D s W hD hT hN hWD=>by
  refine ⟨hback s a W hN.soft hT,hsize,⟨D::Ds,by simp [qm,hD1],List.nodup_cons.2 ⟨fun hc=>?_,hD2⟩,fun E hE=>?_⟩,fun l e=>by rw [hro] at e; cases e⟩
  ·have:=(Array.getElem?_eq_some_iff.1 (hD3 D hc).1).1
   omega
  ·rcases List.mem_cons.1 hE with rfl | hE
   ·exact ⟨hWD,by omega⟩
   ·exact ⟨hN.same E _ (hD3 E hE).1 rfl,(hD3 E hE).2⟩
 have hFT:∀ {b:Act} {ds:List Nat},(∀ d∈ds,d∈wrs assign++(wrs body++ps.toList))→∀ {a1:Act},FT ds a1 b→∀ d∈ks,b.tmps.getD d Go.undef=a1.tmps.getD d Go.undef:=fun hds _ h d hd=>
  h.tmps (fun hc=>aP hk1 hd (hds d hc)) (fun hc=>aP hk2 hd (by simp [hc]))
 refine wpIn_rangeFunc ?_
 intro fn hfn
 rw [hro]
 obtain ⟨rec,hrec⟩:∃ rec:LoopState→Option Code→Loop,rec=fun st pe=>{ state:=st,pending:=pe,fn,tmps:=a.tmps,params:=ps,assign,body,defers:=w.heap.size }:=⟨_,rfl⟩
 obtain ⟨W1,hW1⟩:∃ W1,(w.alloc (.deferred (some []))).alloc (.loop (rec .ready none))=W1:=⟨_,rfl⟩
 have hL1:W1.heap[w.heap.size+1]?=some (.loop (rec .ready none)):=by
  rw [← hW1]; have:=World.alloc_heap_new (w.alloc (.deferred (some []))) (.loop (rec .ready none)); rwa [World.size_alloc] at this
 have hK1:W1.heap[w.heap.size]?=some (.deferred (some [])):=by
  rw [← hW1]; exact (Below.heap_alloc _ _ _ (by simp)).trans (World.alloc_heap_new w _)
 have hB1:Below w.heap.size w W1:=by
  rw [← hW1]; exact ((Below.refl _ w).alloc (Nat.le_refl _) _).alloc (by simp) _
 have hB1N:Γ.w0.heap.size≤W1.heap.size:=Nat.le_trans hw0 hB1.size
 have hgr:∀ {A B:World},Below A.heap.size A B→A.grownBy B none:=fun h=>⟨h.os,h.tape,h.output,h.size,fun k hk _=>h.block k hk⟩
 have hIg:∀ {s:St} {a:Act} {A B:World},cm G s a A→Below A.heap.size A B→cm G s a B:=fun h hb=>h.grown (hgr hb) (by intro r e; cases e)
 have hNg:∀ {A B:World},NC w A→Gr A B→NC w B:=fun h hb=>h.grown (hgr hb.below) (by intro r e; cases e) hb.more
 have hOg:∀ {A B:World} {k:Nat} {o:Obj},A.heap[k]?=some o→Below A.heap.size A B→B.heap[k]?=some o:=fun h hb=>(hb.block _ (Array.getElem?_eq_some_iff.1 h).1).trans h
 -- the record is turned
 have hPut:∀ {s:St} {a:Act} {A:World} {r:Loop} (o:Obj),cm G s a A→A.heap[w.heap.size+1]?=some (.loop r)→cm G s a (A.putObj (w.heap.size+1) o):=fun o h hl=>
  h.grown (grownBy_putObj' _ _ o) (by intro r e; cases e; exact ⟨by show Γ.w0.heap.size≤_; omega,_,hl,rfl⟩)
 have hPutN:∀ {A:World} (o:Obj),mO o→NC w A→NC w (A.putObj (w.heap.size+1) o):=fun o ho h=>h.grown (grownBy_putObj' _ _ o) (by intro r e; cases e; omega) (dI.putObj _ _ ho)
 refine ⟨w.heap.size+1,[{ target := .collected w.heap.size,args:=#[] }],W1,{ target := .fn (.func f) lb,args:=#[.func (.yield (w.heap.size+1)) #[] #[]] },W1,f,
  #[.func (.yield (w.heap.size+1)) #[] #[]]++lb,W1,?_,?_,?_,?_,fun _=>h1,?_⟩
 ·rw [← hW1,hrec]; exact run_enterLoop_outer _ _ _ _ _
 ·simp only [resolve,hlb]
  simp [go_sem]
 ·intro f' hf'; exact hΓ.fn f'
 ·have hen:=hseq.1
  simp [invoke,go_sem,hen]
 refine (hseq.2 c.m lb hcl hcr Γ.F (Γ.n - 1) hΓ.fn hΓ.depth hΓ.alive hro (w.heap.size+1)
  (fun p W=>cm G ⟨t0 p,B p⟩ a W∧NC w W∧W.heap[w.heap.size+1]?=some (.loop (rec .ready none))∧W.heap[w.heap.size]?=some (.deferred (some [])))
  (fun W=>∃ cd e t b,(cd=Code.ret∧e=Exit.ret∨∃ id,cd = .exit id∧e = .exit id)∧K e ⟨t,b⟩∧cm G ⟨t,b⟩ a W∧NC w W∧W.heap[w.heap.size+1]?=some (.loop (rec .done (some cd)))∧W.heap[w.heap.size]?=some (.deferred (some [])))
  W1 (hsubm _ a _ (hIg hI0 hB1)) ?_ ?_ ?_ ⟨hIg hI0 hB1,hNg (.refl w) ⟨hB1,by rw [← hW1]; exact (dI.alloc w (o := .deferred (some [])) (fun _ _ _ h=>nomatch h)).trans (.alloc _ (fun _ _ _ h=>nomatch h))⟩,hL1,hK1⟩).mono ?_
 ·rintro k A B' ⟨g1,g2,g3,g4⟩ hb
  exact ⟨g1.grownI hB1N hb,g2.grownI hB1.size hb,hb.obj g3 (.inr rfl),hb.obj g4 (.inr rfl)⟩
 ·rintro A B' ⟨cd,e,t,b,g0,gk,g1,g2,g3,g4⟩ hb
  exact ⟨cd,e,t,b,g0,gk,g1.grownI hB1N hb,g2.grownI hB1.size hb,hb.obj g3 (.inr rfl),hb.obj g4 (.inr rfl)⟩
 ·-- ONE ROUND
  rintro p x W hx ⟨hi,hn,hl,hd⟩ _
  have hy:=run_yield (P:=Γ.P) (args:=vals x) hl (by rw [hrec]; exact hsz x)
  rw [hrec] at hy
  have hrd2:=round (Γ.F.inRound (w.heap.size+1)) (Γ.n - 1 - 1) c.m (hΓ2 _) ⟨_,rfl⟩ rfl p x hx
  have htm:((ps.zip (vals x)).foldl (fun (t:Array Value) (q:Nat×Value)=>t.setIfInBounds q.1 q.2) a.tmps)=((ps.toList.zip (vals x).toList).foldl (fun t (p:Nat×Value)=>t.setIfInBounds p.1 p.2) a.tmps):=by
   rw [← Array.foldl_toList,Array.toList_zip]
  have hpl:∀ p∈ps.toList,p<a.tmps.size:=fun p hp=>by
   rw [hsize]
   exact Nat.le_of_ble_eq_true (List.all_eq_true.1 hk4 p hp)
  refine ⟨fn,_,assign,body,hy,roundIn_of_wpIn hfn (wpIn_mono (hrd2 _ W ⟨?_,?_,⟨[],rfl,List.nodup_nil,by simp⟩,fun l e=>by cases e; exact ⟨_,hl⟩⟩) ?_)⟩
  ·obtain ⟨⟨c',hW',ht'⟩,_⟩:=hi
   refine ⟨c',hW'.re rfl hW'.le0 hW'.new,fun d y hy=>?_⟩
   simp only at hy ⊢
   rw [show ((ps.zip (vals x)).foldl (fun (t:Array Value) (q:Nat×Value)=>match q with | (p,v)=>t.setIfInBounds p v) a.tmps)=_ from htm]
   rw [dZ] at hy
   cases hz:get (rd ps.toList (avs x)) d with
   | some z=>
    rw [hz] at hy
    cases hy
    exact RC.of_RD (lZ _ _ _ _ d _ hnd hpl (by rw [hav x,Array.length_toList]) (fun i a v g1 g2=>hrd _ x i a v g1 (by simpa using g2)) hz)
   | none=>
    rw [hz] at hy
    have hy:get (t0 p) d=some y:=hy
    have hdk:d∈ks:=by rw [← hks p]; exact cQ.2 (by rw [hy]; simp)
    rw [eC _ _ _ d fun hc=>aP hk1 hdk (List.mem_append_right _ (List.mem_append_right _ hc))]
    exact ht' d y hy
  ·simp only
   rw [show ((ps.zip (vals x)).foldl (fun (t:Array Value) (q:Nat×Value)=>match q with | (p,v)=>t.setIfInBounds p v) a.tmps)=_ from htm,kB,hsize]
  ·rintro e a2 W2 ⟨hN2,hF2,s1,hI1,rfl,hle1,hSP⟩
   have hd2:a2.defers=[]:=hF2.defers fun hc=>aP hk3 (by simp) hc
   have hl2:=hN2.same _ _ hl rfl
   have hdd2:=hN2.same _ _ hd rfl
   have ht2:∀ d∈ks,a2.tmps.getD d Go.undef=a.tmps.getD d Go.undef:=fun d hdk=>by
    rw [hF2.tmps (fun hc=>aP hk1 hdk (List.mem_append_left _ hc)) (fun hc=>aP hk2 hdk (by simp [hc]))]
    simp only
    rw [show ((ps.zip (vals x)).foldl (fun (t:Array Value) (q:Nat×Value)=>match q with | (p,v)=>t.setIfInBounds p v) a.tmps)=_ from htm]
    exact eC _ _ _ d fun hc=>aP hk1 hdk (List.mem_append_right _ (List.mem_append_right _ hc))
   refine ⟨_,run_beginRound hl2 (by rw [hrec]),?_⟩
   have hT2:=hPut (.loop { rec .ready none with state := .busy }) (hlG _ _ _ _ hI1.toT) hl2
   have hl3:(W2.putObj (w.heap.size+1) (.loop { rec .ready none with state := .busy })).heap[w.heap.size+1]?=some (.loop { rec .ready none with state := .busy }):=World.putObj_heap_same (Array.getElem?_eq_some_iff.1 hl2).1
   have hd3:(W2.putObj (w.heap.size+1) (.loop { rec .ready none with state := .busy })).heap[w.heap.size]?=some (.deferred (some [])):=(World.putObj_heap_other (by omega)).trans hdd2
   have hN3:=hPutN (.loop { rec .ready none with state := .busy }) (fun _ _ _ h=>nomatch h) (hn.trans hN2)
   refine wpIn_mono (hSP a2 _ ⟨(hGl _ _ _ _ hT2).ex,(hGl _ _ _ _ hT2).size,⟨[],by simpa [qm] using hd2,List.nodup_nil,by simp⟩,fun l e=>by cases e; exact ⟨_,hl3⟩⟩) ?_
   rintro e a3 W3 ⟨hN4,hF4,s2,hI4,hR⟩
   have hl4:=hN4.same _ _ hl3 rfl
   have hd4:=hN4.same _ _ hd3 rfl
   have hN5:=hN3.trans hN4
   have hT4:∀ {p:List α} {b:List (Nat×List AV)},s2.le ⟨t0 p,b⟩→cm G ⟨t0 p,b⟩ a W3:=fun hle=>((hlG _ _ _ _ hI4.toT).less hle).tmps (hsize.trans hI4.size.symm) fun d hdk=>by
    have hdk:d∈ks:=(hks _) ▸ hdk
    rw [← ht2 d hdk]
    exact (hF4.tmps (fun hc=>aP hk1 hdk (List.mem_append_right _ (List.mem_append_left _ hc))) (fun hc=>aP hk2 hdk (by simp [hc]))).symm
   have fin:∀ (jump:Option Code),(Instr.endRound (w.heap.size+1) jump).run Γ.P W3 = .ok (.bool jump.isNone) (W3.putObj (w.heap.size+1) (.loop (rec (if jump.isNone then .ready else .done) jump))):=fun jump=>by
    have:=run_endRound (P:=Γ.P) jump hl4
    rw [hrec] at this ⊢
    exact this
   have hl5:∀ (o:Obj),(W3.putObj (w.heap.size+1) o).heap[w.heap.size+1]?=some o:=fun o=>World.putObj_heap_same (Array.getElem?_eq_some_iff.1 hl4).1
   have hd5:∀ (o:Obj),(W3.putObj (w.heap.size+1) o).heap[w.heap.size]?=some (.deferred (some [])):=fun o=>(World.putObj_heap_other (by omega)).trans hd4
   cases e with
   | normal=>
    have hT5:=hPut (.loop (rec .ready none)) (hT4 hR) hl4
    refine ⟨_,_,fin none,.inl ⟨rfl,⟨hT5,hPutN _ (fun _ _ _ h=>nomatch h) hN5,hl5 _,hd5 _⟩,hsubm _ _ _ hT5,fun b o hb ho=>?_⟩⟩
    have hno:pC o=false:=by cases o <;> first | rfl | cases ho
    have h1:=hN2.same b o hb hno
    have hbl:b≠w.heap.size+1:=fun e=>by rw [e,hl2] at h1; cases h1; cases ho
    have h2:(W2.putObj (w.heap.size+1) (.loop { rec .ready none with state := .busy })).heap[b]?=some o:=(World.putObj_heap_other hbl).trans h1
    have h3:=hN4.same b o h2 hno
    exact (World.putObj_heap_other hbl).trans h3
   | ret=>
    obtain ⟨b,g1,g2⟩:=hR
    have hT5:=hPut (.loop (rec .done (some .ret))) (hT4 g1) hl4
    exact ⟨_,_,fin (some .ret),.inr ⟨rfl,⟨.ret,.ret,_,b,.inl ⟨rfl,rfl⟩,g2,hT5,hPutN _ (fun _ _ _ h=>nomatch h) hN5,hl5 _,hd5 _⟩,hsubm _ _ _ hT5⟩⟩
   | exit id=>
    obtain ⟨b,g1,g2⟩:=hR
    have hT5:=hPut (.loop (rec .done (some (.exit id)))) (hT4 g1) hl4
    exact ⟨_,_,fin (some (.exit id)),.inr ⟨rfl,⟨.exit id,.exit id,_,b,.inr ⟨id,rfl,rfl⟩,g2,hT5,hPutN _ (fun _ _ _ h=>nomatch h) hN5,hl5 _,hd5 _⟩,hsubm _ _ _ hT5⟩⟩
   | goto l=>exact hR.elim
   | panic ch=>exact hR.elim
   | outgrown=>exact hR.elim
 ·-- BEHIND THE ITERATOR
  have hFTd:∀ (ds:List Deferred),FT (wrs (.rangeFunc g ps assign body)) a { a with defers:=ds }:=fun ds d hd=>by
   have hne:d≠1000000000:=fun hc=>hd (by simp [wrs,hc])
   simp [vw,hne]
  rintro e W2 ⟨⟨v,rfl⟩,(⟨p,hp,hi,hn,hl,hd⟩ | ⟨cd,e,t,b,h0,hK,hi,hn,hl,hd⟩)⟩
  ·refine ⟨none,W2.putObj (w.heap.size+1) (.loop { rec .ready none with state := .exhausted }),by have:=run_endLoop (P:=Γ.P) hl (by rw [hrec]; simp); rw [hrec] at this ⊢; exact this,?_⟩
   exact ⟨hPutN _ (fun _ _ _ h=>nomatch h) hn,hFTd _,_,hfin _ _ _ (Nat.le_refl _) (hPut _ hi hl) (hPutN _ (fun _ _ _ h=>nomatch h) hn) ((World.putObj_heap_other (by omega)).trans hd),done p hp⟩
  ·refine ⟨some cd,W2.putObj (w.heap.size+1) (.loop { rec .done (some cd) with state := .exhausted }),by have:=run_endLoop (P:=Γ.P) hl (by rw [hrec]; simp); rw [hrec] at this ⊢; exact this,?_⟩
   have hpost:=(show NC w (W2.putObj (w.heap.size+1) (.loop { rec .done (some cd) with state := .exhausted }))∧FT (wrs (.rangeFunc g ps assign body)) a { a with defers:={ target := .collected w.heap.size,args:=#[] }::a.defers }∧∃ s',Inv Γ s' { a with defers:={ target := .collected w.heap.size,args:=#[] }::a.defers } (W2.putObj (w.heap.size+1) (.loop { rec .done (some cd) with state := .exhausted }))∧K e s' from
    ⟨hPutN _ (fun _ _ _ h=>nomatch h) hn,hFTd _,_,hfin _ _ _ (Nat.le_refl _) (hPut _ hi hl) (hPutN _ (fun _ _ _ h=>nomatch h) hn) ((World.putObj_heap_other (by omega)).trans hd),hK⟩)
   rcases h0 with ⟨rfl,rfl⟩ | ⟨id,rfl,rfl⟩
   ·exact wpIn_ret hpost
   ·exact wpIn_exit hpost
theorem SP.rangeN (hΓ:Γ.OK) (hro:Γ.F.round=none) (h1:1≤Γ.n) {s:St} {g:Operand} {ps:Array Tmp} {assign body:Code} {K:Exit→St→Prop} {α:Type} (avs:α→List AV) (vals:α→Array Value)
  {f:FuncId} {cap:List AV} {nx:List α→α→Prop} {fin:List α→Prop} (hg:ev s g = .clo f cap) (hseq:yD Γ.P vals f cap nx fin) (hsz:∀ x,(vals x).size=ps.size) (hav:∀ x,(avs x).length=(vals x).size)
  (hrd:∀ (m:Mem) (x:α) (i:Nat) (a:AV) (v:Value),(avs x)[i]?=some a→(vals x)[i]?=some v→RD m a v)
  (t0:List α→List (Nat×AV)) (ks:List Nat) (hks:∀ p,d9 (t0 p)=ks) (B:List α→List (Nat×List AV)) (hle:s.le ⟨t0 [],B []⟩)
  (hk:(gC ks (wrs assign++(wrs body++ps.toList))&&gC ks [1000000000]&&gC [1000000000] (wrs assign)&&(ps.toList.all fun p=>Nat.blt p Γ.nt))=true) (hnd:ps.toList.Nodup)
  (round:∀ (F':Fence) (n':Nat) (m':Mem),aO.OK ⟨Γ.P,F',n',Γ.w0,m',Γ.nt⟩→∀ (pre:List α) (x:α),nx pre x →
   SP ⟨Γ.P,F',n',Γ.w0,m',Γ.nt⟩ ⟨rd ps.toList (avs x)++t0 pre,B pre⟩ assign fun e s1=>e = .normal∧s1.le ⟨t0 pre,B pre⟩ ∧
    SP ⟨Γ.P,F',n',Γ.w0,m',Γ.nt⟩ s1 body (yC t0 B K (pre++[x])))
  (done:∀ p,fin p→K .normal ⟨t0 p,B p⟩):SP Γ s (.rangeFunc g ps assign body) K:=
 SP.rangeN2 hΓ hro h1 avs vals hg hseq hsz hav hrd t0 ks hks B hle hk hnd (fun F' n' m' hb _ _ pre x hx=>round F' n' m' hb pre x hx) done
theorem SP.range (hΓ:Γ.OK) (hro:Γ.F.round=none) (h1:1≤Γ.n) {s:St} {g:Operand} {ps:Array Tmp} {assign body:Code} {K:Exit→St→Prop} {α:Type} (avs:α→List AV) (vals:α→Array Value)
  {f:FuncId} {cap:List AV} {items:List α} (hg:ev s g = .clo f cap) (hseq:zS Γ.P vals f cap items) (hsz:∀ x,(vals x).size=ps.size) (hav:∀ x,(avs x).length=(vals x).size)
  (hrd:∀ (m:Mem) (x:α) (i:Nat) (a:AV) (v:Value),(avs x)[i]?=some a→(vals x)[i]?=some v→RD m a v)
  (t0:List (Nat×AV)) (B:List α→List (Nat×List AV)) (hle:s.le ⟨t0,B []⟩)
  (hk:(gC (d9 t0) (wrs assign++(wrs body++ps.toList))&&gC (d9 t0) [1000000000]&&gC [1000000000] (wrs assign)&&(ps.toList.all fun p=>Nat.blt p Γ.nt))=true) (hnd:ps.toList.Nodup)
  (round:∀ (F':Fence) (n':Nat) (m':Mem),aO.OK ⟨Γ.P,F',n',Γ.w0,m',Γ.nt⟩→∀ (pre:List α) (x:α) (rest:List α),items=pre++x::rest →
   SP ⟨Γ.P,F',n',Γ.w0,m',Γ.nt⟩ ⟨rd ps.toList (avs x)++t0,B pre⟩ assign fun e s1=>e = .normal∧s1.le ⟨t0,B pre⟩ ∧
    SP ⟨Γ.P,F',n',Γ.w0,m',Γ.nt⟩ s1 body (yC (fun _=>t0) B K (pre++[x])))
  (done:K .normal ⟨t0,B items⟩):SP Γ s (.rangeFunc g ps assign body) K:=
 SP.rangeN hΓ hro h1 avs vals hg hseq hsz hav hrd (fun _=>t0) (d9 t0) (fun _=>rfl) B hle hk hnd (fun F' n' m' hb pre x ⟨r,hr⟩=>round F' n' m' hb pre x r hr) (fun p hp=>hp ▸ done)
end
end Go.AI
