/- The abstract interpreter for the code, part 1: what it reckons of a piece of code holds of every run. No condition but those typed. -/
import Derived.WalkKit
import Derived.WalkLawsBesides
import Derived.CallsIn
import Derived.RangeFuncNested
import Derived.ChangeKeysEq
import Derived.MapKept
set_option linter.unusedSectionVars false
set_option linter.unusedVariables false
set_option linter.unusedSimpArgs false
namespace Go.AI
open Go
inductive Own where
 | no | full | id (k:Nat)
inductive qo where
 | sl | ptr (sz j:Nat) | arr | mp | ents | sub (sz off:Nat) | box
inductive AV where
 | junk | undef
 | int (k:IntKind) (n:Int)
 | bool (b:Bool)
 | str (s:ByteArray)
 | lit (v:Value)
 | fn (f:FuncId)
 | clo (f:FuncId) (cap:List AV)
 | agg (cs:List AV)
 | tup (vs:List AV)
 | sl (o:Own) (sz:Nat) (xs:List (List AV))
 | loc (d off:Nat)
 | ref (cs:List AV)
 /-- A map that is written no more: its dE,each a key and a value. -/
 | mapv (xs:List (List AV))
 | me (g:qo) (k n:Nat) (xs:List (List AV))
 /-- A pointer into a box whose block is known; the cells behind it that are written no more. -/
 | pin (k b off:Nat) (cs:List AV)
def cq (ks:List Int):Value := .agg (ks.map (Value.int .i64)).toArray
def keyA (ks:List Int):AV := .agg (ks.map (AV.int .i64))
def eL (l:List (List Int×AV)):List (List AV):=l.map fun p=>[keyA p.1,p.2]
def dZ (k:List Int) (v:AV):List (List Int×AV)→List (List Int×AV)
 | []=>[(k,v)]
 |(k',v')::r=>if k'=k then (k,v)::r else (k',v')::dZ k v r
def cst:Value→AV
 | .int k n => .int k n
 | .bool b => .bool b
 | .string s => .str s
 | .nilFunc => .lit .nilFunc
 | .pointer none => .lit (.pointer none)
 | .map none => .lit (.map none)
 | .nilIface => .lit .nilIface
 | .slice none 0 0 => .sl .full 0 []
 | _ => .junk
def Dq:Value→AV
 | .agg cs => .agg (cs.toList.map cst)
 | v=>cst v
structure TI where
 size:Nat
 bytes:Nat
 zero:AV
 flds:List (Nat×Nat)
 arr:Nat
 elem:Nat
 /-- 0 other,1 struct,2 array,3 slice,4 int,5 bool,6 string,7 pointer,8 func,9 map -/
 kind:Nat
 ik:IntKind
 eqOK:Bool
def pf (P:Program) (f:Field):Bool:=f.name != "_" && ((P.underlying f.type).map fun | .int _=>true | .struct _=>true | _=>false).getD false
def ym (P:Program) (e:TypeId):Bool:=((P.underlying e).map fun | .bool=>true | _=>false).getD false
def vk (P:Program) (t e:TypeId):Bool := !P.eqGuardType P.depth t&&(P.info? e).isSome&&ym P e&&(P.cellsOf e==1)
def TI.of (P:Program) (t:TypeId):Option TI:=
  match P.info? t,P.underlying t with
  | some i,some d=>some
    { size:=i.size,bytes:=i.bytes,zero:=match i.zero with | some z=>Dq z | none => .junk,
      flds:=match d with | .struct fs=>fs.toList.map fun f=>(f.offset,f.type) | .map k _=>[(0,k)] | .array _ e=>(bif vk P t e then [(0,e)] else []) | _=>[],
      arr:=match d with | .array n _=>n | .struct fs=>bif !P.stoodInHeld t && !P.eqGuardType P.depth t&&fs.toList.all (pf P) then 1 else 0 | _=>0,
      elem:=match d with | .array _ e=>e | .slice e=>e | .pointer e=>e | .map _ e=>e | _=>0,
      kind:=match d with | .struct _=>1 | .array _ _=>2 | .slice _=>3 | .int _=>4 | .bool=>5 | .string=>6 | .pointer _=>7 | .func _ _ _=>8 | .map _ _=>9 | _=>0,
      ik:=match d with | .int k=>k | _ => .i64,
      eqOK:=match d with | .struct fs => !P.stoodInHeld t && !P.eqGuardType P.depth t&&fs.toList.all (fun f=>f.name != "_" && ((P.underlying f.type).map fun | .int _=>true | _=>false).getD false&&(P.cellsOf f.type==1)) | _=>false }
  | _,_=>none
def xd:List (Nat×Nat)→Nat→Nat→Bool
 | [],m,n=>Nat.beq m n
 |(o,_)::r,m,n=>Nat.beq o m&&xd r (m+1) n
def nQ (i:TI):Bool:=i.eqOK&&xd i.flds 0 i.size
def IA:IntKind→Bool
 | .i64=>true
 | _=>false
def lE (i:TI):Option (Bool×Nat):=bif Nat.beq i.kind 4&&IA i.ik then some (false,1) else bif nQ i then some (true,i.size) else none
def keyE (sk:Bool) (ks:List Int):AV:=bif sk then keyA ks else (match ks with | n::_ => .int .i64 n | [] => .junk)
def BI (l:List (List Int×AV)):List (List AV):=l.map fun p=>[keyE false p.1,p.2]
def d3 (sk:Bool) (l:List (List Int×AV)):List (List AV):=bif sk then eL l else BI l
def jP (k:List Int):List (List Int×AV)→Option AV
 | []=>none
 |(k',v')::r=>if k'=k then some v' else jP k r
def IY (ok:Bool) (z:AV):Option AV→AV
 | some v=>bif ok then .tup [v,.bool true] else v
 | none=>bif ok then .tup [z,.bool false] else z
def get {α:Type}:List (Nat×α)→Nat→Option α
 | [],_=>none
 |(d,v)::r,k=>bif Nat.beq d k then some v else get r k
abbrev Tab:=List (Nat×TI)
def Tab.OK (T:Tab) (P:Program):Prop:=T.map (fun p=>TI.of P p.1)=T.map (fun p=>some p.2)
theorem Tab.OK.get {T:Tab} {P:Program} (h:T.OK P) {t:Nat} {i:TI} (g:AI.get T t=some i):TI.of P t=some i:=by
 unfold Tab.OK at h
 induction T with
 | nil=>simp [AI.get] at g
 | cons p r ih=>
  obtain ⟨d,v⟩:=p
  simp only [List.map_cons,List.cons.injEq] at h
  simp only [AI.get] at g
  cases hb:Nat.beq d t with
  | true=>rw [hb] at g; simp only [cond_true,Option.some.injEq] at g; rw [← Nat.eq_of_beq_eq_true hb,h.1,g]
  | false=>rw [hb] at g; exact ih h.2 g
def nth {α:Type}:List α→Nat→Option α
 | [],_=>none
 | x::_,0=>some x
 | _::r,n+1=>nth r n
structure St where
 t:List (Nat×AV)
 b:List (Nat×List AV)
def St.tmp (s:St) (d:Nat):AV:=match get s.t d with | some v=>v | none => .junk
def St.put (s:St) (d:Option Nat) (v:AV):St:=match d with | some d=>{ s with t:=(d,v)::s.t } | none=>s
def ev (s:St):Operand→AV
 | .tmp t=>s.tmp t
 | .const v=>cst v
 | .func f => .fn f
 | .global _ => .junk
def AV.go1 (v:AV) (K:AV→Prop):Prop:=
 match v with
 | .junk=>K .junk
 | .undef=>K .undef
 | .int k n=>K (.int k n)
 | .bool b=>K (.bool b)
 | .str s=>K (.str s)
 | .lit v=>K (.lit v)
 | .fn f=>K (.fn f)
 | .clo f cap=>K (.clo f cap)
 | .agg cs=>K (.agg cs)
 | .tup vs=>K (.tup vs)
 | .sl o sz xs=>K (.sl o sz xs)
 | .loc d off=>K (.loc d off)
 | .ref cs=>K (.ref cs)
 | .mapv xs=>K (.mapv xs)
 | .me g k n xs=>K (.me g k n xs)
 | .pin k b off cs=>K (.pin k b off cs)
theorem AV.go1_eq (v:AV) (K:AV→Prop):v.go1 K=K v:=by cases v <;> rfl
def goL:List AV→(List AV→Prop)→Prop
 | [],K=>K []
 | v::r,K=>v.go1 fun v=>goL r fun r=>K (v::r)
theorem eY:∀ (l:List AV) (K:List AV→Prop),goL l K=K l
 | [],_=>rfl
 | v::r,K=>by rw [goL,AV.go1_eq,eY r]
def Hz:List (List AV)→(List (List AV)→Prop)→Prop
 | [],K=>K []
 | v::r,K=>goL v fun v=>Hz r fun r=>K (v::r)
theorem u6:∀ (l:List (List AV)) (K:List (List AV)→Prop),Hz l K=K l
 | [],_=>rfl
 | v::r,K=>by rw [Hz,eY,u6 r]
def AV.go (v:AV) (K:AV→Prop):Prop:=v.go1 fun v=>match v with
 | .agg cs=>goL cs fun cs=>K (.agg cs)
 | .ref cs=>goL cs fun cs=>K (.ref cs)
 | .pin k b off cs=>goL cs fun cs=>K (.pin k b off cs)
 | .me g k n xs=>match g,xs with
  | .box,[own]=>goL own fun own=>K (.me .box k n [own])
  | g,xs=>K (.me g k n xs)
 | v=>K v
theorem AV.go_eq (v:AV) (K:AV→Prop):v.go K=K v:=by
 unfold AV.go
 rw [AV.go1_eq]
 cases v with
 | me g k n xs=>
  simp only
  split
  ·exact eY _ _
  ·rfl
 | _=>first | rfl | exact eY _ _
def fY (f:AV→AV):List (Nat×AV)→List (Nat×AV)
 | []=>[]
 |(k,v)::r=>(k,f v)::fY f r
def E6 (f:AV→AV):List (Nat×List AV)→List (Nat×List AV)
 | []=>[]
 |(k,v)::r=>(k,v.map f)::E6 f r
theorem jJ (f:AV→AV):∀ t:List (Nat×AV),fY f t=t.map fun p=>(p.1,f p.2)
 | []=>rfl
 |(k,v)::r=>by rw [fY,jJ f r]; rfl
theorem uY (f:AV→AV):∀ t:List (Nat×List AV),E6 f t=t.map fun p=>(p.1,p.2.map f)
 | []=>rfl
 |(k,v)::r=>by rw [E6,uY f r]; rfl
def goT:List (Nat×AV)→(List (Nat×AV)→Prop)→Prop
 | [],K=>K []
 |(k,v)::r,K=>v.go fun v=>goT r fun r=>K ((k,v)::r)
theorem o4:∀ (l:List (Nat×AV)) (K:List (Nat×AV)→Prop),goT l K=K l
 | [],_=>rfl
 |(k,v)::r,K=>by rw [goT,AV.go_eq,o4 r]
def HA:List (Nat×List AV)→(List (Nat×List AV)→Prop)→Prop
 | [],K=>K []
 |(k,v)::r,K=>goL v fun v=>HA r fun r=>K ((k,v)::r)
theorem B8:∀ (l:List (Nat×List AV)) (K:List (Nat×List AV)→Prop),HA l K=K l
 | [],_=>rfl
 |(k,v)::r,K=>by rw [HA,eY,B8 r]
def St.go (s:St) (K:St→Prop):Prop:=match s with
 | ⟨t,b⟩=>goT t fun t=>HA b fun b=>K ⟨t,b⟩
theorem St.go_eq (s:St) (K:St→Prop):s.go K=K s:=by
 obtain ⟨t,b⟩:=s
 simp only [St.go,o4,B8]
def HR:Op→Bool
 | .box _ _ | .alloc _ | .makeFunc _ _ _ | .makeSlice _ _ _ | .makeMap _ _=>true
 | .assign (.const (.slice none 0 0)) | .move (.const (.slice none 0 0))=>true
 | .call { callee := .builtin .append,args:=_,argTypes:=_ }=>true
 | _=>false
def x4 (op:Op) (s:St) (K:St→Prop):Prop:=bif HR op then s.go K else K s
theorem qy (op:Op) (s:St) (K:St→Prop):x4 op s K=K s:=by
 unfold x4
 cases HR op with
 | true=>rw [cond_true,St.go_eq]
 | false=>rfl
def goB (s:St) (K:St→Prop):Prop:=match s with
 | ⟨t,(d,cs)::b⟩=>goL cs fun cs=>K ⟨t,(d,cs)::b⟩
 | ⟨t,[]⟩=>K ⟨t,[]⟩
theorem IC (s:St) (K:St→Prop):goB s K=K s:=by
 obtain ⟨t,b⟩:=s
 cases b with
 | nil=>rfl
 | cons p b=>obtain ⟨d,cs⟩:=p; exact eY _ _
def IB (k:Nat) (s:St) (K:St→Prop):Prop:=match s with
 | ⟨t,(d,cs)::b⟩=>bif Nat.beq d k then goL cs fun cs=>K ⟨t,(d,cs)::b⟩ else K ⟨t,(d,cs)::b⟩
 | ⟨t,[]⟩=>K ⟨t,[]⟩
theorem HB (k:Nat) (s:St) (K:St→Prop):IB k s K=K s:=by
 obtain ⟨t,b⟩:=s
 cases b with
 | nil=>rfl
 | cons p b=>
  obtain ⟨d,cs⟩:=p
  simp only [IB]
  cases Nat.beq d k with
  | true=>rw [cond_true]; exact eY _ _
  | false=>rfl
def AV.isCell:AV→Bool
 | .int _ _ | .bool _ | .str _ | .lit _ | .fn _ | .clo _ _ | .sl _ _ _ | .ref _ | .mapv _ | .pin _ _ _ _=>true
 | _=>false
def AV.cells?:AV→Option (List AV)
 | .agg cs=>some cs
 | .junk | .undef | .tup _ | .loc _ _ | .me _ _ _ _=>none
 | x=>some [x]
def AV.pub1:AV→AV
 | .loc _ _ | .me _ _ _ _ => .junk
 | .sl (.id _) sz xs => .sl .no sz xs
 | x=>x
def AV.pub:AV→AV
 | .agg cs => .agg (cs.map AV.pub1)
 | .tup vs => .tup vs
 | x=>x.pub1
def AV.demO (k:Nat):AV→AV
 | .sl (.id j) sz xs => .sl (bif Nat.beq j k then .no else .id j) sz xs
 | x=>x
def AV.dem1 (k:Nat):AV→AV
 | .junk => .junk
 | .sl (.id j) sz xs => .sl (bif Nat.beq j k then .no else .id j) sz xs
 | .me .box j b xs => .me .box j b (xs.map fun r=>r.map (AV.demO k))
 | x=>x
def AV.dem (k:Nat):AV→AV
 | .agg cs => .agg (cs.map (AV.dem1 k))
 | x=>x.dem1 k
def St.dem (k:Nat) (s:St):St:={ t:=fY (AV.dem k) s.t,b:=E6 (AV.dem1 k) s.b }
def AZ {α:Type}:List α→List α→Bool
 | [],_=>true
 | _::_,_::_=>true
 | _::_,[]=>false
def rm {α:Type}:List α→Bool
 | []=>false
 | _::_=>true
theorem Dr {α:Type} {xs ys:List α} (h:AZ xs ys=true):xs=[]∨ys≠[]:=by
 cases xs with
 | nil=>exact .inl rfl
 | cons x r=>
  cases ys with
  | nil=>cases h
  | cons y q=>exact .inr (by simp)
def bB {α:Type}:List α→Nat→α→List α
 | [],_,_=>[]
 | _::r,0,v=>v::r
 | x::r,n+1,v=>x::bB r n v
def setMany {α:Type} (l:List α) (off:Nat):List α→List α
 | []=>l
 | v::vs=>setMany (bB l off v) (off+1) vs
def mF {α:Type}:List α→Nat→List α→List α
 | [],_,_=>[]
 | x::r,0,[]=>x::r
 | _::r,0,v::vs=>v::mF r 0 vs
 | x::r,n+1,vs=>x::mF r n vs
theorem pC {α:Type}:∀ (vs:List α) (n:Nat),setMany ([]:List α) n vs=[]
 | [],_=>rfl
 | _::vs,n=>pC vs (n+1)
theorem jD {α:Type} (x:α):∀ (vs r:List α) (n:Nat),setMany (x::r) (n+1) vs=x::setMany r n vs
 | [],_,_=>rfl
 | v::vs,r,n=>jD x vs (bB r n v) (n+1)
theorem fF {α:Type}:∀ (l:List α) (n:Nat) (vs:List α),mF l n vs=setMany l n vs
 | [],n,vs=>(pC vs n).symm
 | _::_,0,[]=>rfl
 | _::r,0,v::vs=>by rw [mF,fF r]; exact (jD v vs r 0).symm
 | x::r,n+1,vs=>by rw [mF,fF r,jD]
def dz (i:TI) (cs:List AV):Option AV:=
 bif Nat.beq i.kind 1||Nat.beq i.kind 2 then (bif Nat.ble i.size cs.length then some (.agg (cs.take i.size)) else none)
 else match cs with | c::_=>some c | []=>none
def fill (place:Nat→Option (Nat×Nat)) (cells:List AV):List (Nat×AV)→Option (List AV)
 | []=>some cells
 |(i,v)::rest=>
  match place i with
  | none=>none
  | some (off,size)=>
   match v.cells? with
   | none=>none
   | some cs=>bif Nat.beq cs.length size&&Nat.ble (off+size) cells.length then fill place (setMany cells off cs) rest else none
def yh (place:Nat→Option (Nat×Nat)) (cells:List AV) (l:List (Nat×AV)) (K:List AV→Prop):Prop:=match l with
 | []=>K cells
 |(i,v)::rest=>
  match place i with
  | none=>False
  | some (off,size)=>
   match v.cells? with
   | none=>False
   | some cs=>bif Nat.beq cs.length size&&Nat.ble (off+size) cells.length then goL (mF cells off cs) fun cells=>yh place cells rest K else False
theorem nV (place:Nat→Option (Nat×Nat)) (K:List AV→Prop):∀ (l:List (Nat×AV)) (cells:List AV),yh place cells l K=match fill place cells l with | some cs=>K cs | none=>False
 | [],_=>rfl
 |(i,v)::rest,cells=>by
  simp only [yh,fill]
  cases place i with
  | none=>rfl
  | some q=>
   obtain ⟨off,size⟩:=q
   simp only
   cases v.cells? with
   | none=>rfl
   | some cs=>
    simp only
    cases (Nat.beq cs.length size&&Nat.ble (off+size) cells.length) with
    | true=>simp only [cond_true,eY,fF]; exact nV place K rest _
    | false=>rfl
def eq (op:BinOp) (k:IntKind) (x y:Int):Int:=
 let a:=BitVec.ofInt k.bits x
 let b:=BitVec.ofInt k.bits y
 match op with
 | .and=>k.wrap (a &&& b).toNat
 | .or=>k.wrap (a ||| b).toNat
 | .xor=>k.wrap (a ^^^ b).toNat
 | .andNot=>k.wrap (a &&& ~~~b).toNat
 | _=>0
def bandW (b:Bool) (A:Prop):Prop:=bif b then A else False
theorem sg {b:Bool} {A:Prop} (h:bandW b A):b=true∧A:=by
 cases b with
 | true=>exact ⟨rfl,h⟩
 | false=>exact h.elim
def s9:IntKind→IntKind→Bool
 | .i8,.i8=>true | .i16,.i16=>true | .i32,.i32=>true | .i64,.i64=>true
 | .u8,.u8=>true | .u16,.u16=>true | .u32,.u32=>true | .u64,.u64=>true
 | _,_=>false
theorem o3 {k k':IntKind} (h:s9 k k'=true):k=k':=by cases k <;> cases k' <;> first | rfl | cases h
def ikW (k k':IntKind) (A:Prop):Prop:=bif s9 k k' then A else False
theorem cr {k k':IntKind} {A:Prop} (h:ikW k k' A):k=k'∧A:=by
 unfold ikW at h
 cases hb:s9 k k' with
 | true=>rw [hb] at h; exact ⟨o3 hb,h⟩
 | false=>rw [hb] at h; exact h.elim
def ix:List (Nat×Nat)→List AV→List AV→Option Bool
 | [],_,_=>some true
 |(off,_)::r,xs,ys=>
  match nth xs off,nth ys off,ix r xs ys with
  | some (.int k x),some (.int k' y),some b=>bif s9 k k' then some ((x==y)&&b) else none
  | _,_,_=>none
def Fr (T:Tab) (f:Nat→List AV→List AV→Option Bool):List (Nat×Nat)→List AV→List AV→Option Bool
 | [],_,_=>some true
 |(off,ft)::r,xs,ys=>match get T ft with
  | none=>none
  | some j=>bif Nat.beq j.kind 4 then
    (match nth xs off,nth ys off,Fr T f r xs ys with
    | some (.int k x),some (.int k' y),some b=>bif s9 k k' then some ((x==y)&&b) else none
    | _,_,_=>none)
   else match f ft ((xs.drop off).take j.size) ((ys.drop off).take j.size),Fr T f r xs ys with
    | some a,some b=>some (a&&b)
    | _,_=>none
def uU {α:Type}:List α→Bool
 | []=>false
 | _::_=>true
def jS:Nat→List AV→List AV→Option Bool
 | 0,_,_=>some true
 | n+1,.bool x::xs,.bool y::ys=>match jS n xs ys with
  | some b=>some ((x==y)&&b)
  | none=>none
 | _,_,_=>none
def pg (T:Tab):Nat→Nat→List AV→List AV→Option Bool
 | 0,_,_,_=>none
 | n+1,t,xs,ys=>match get T t with
  | none=>none
  | some i=>bif i.eqOK then ix i.flds xs ys else bif Nat.beq i.kind 1&&Nat.beq i.arr 1 then Fr T (pg T n) i.flds xs ys else bif Nat.beq i.kind 2&&uU i.flds then jS i.arr xs ys else none
def vj (T:Tab) (op:BinOp) (t:TypeId) (a b:AV) (K:AV→Prop):Prop:=
 match a,b with
 | .int k x,.int k' y=>
  match op with
  | .add=>ikW k k' (K (.int k (k.wrap (x+y))))
  | .sub=>ikW k k' (K (.int k (k.wrap (x - y))))
  | .mul=>ikW k k' (K (.int k (k.wrap (x*y))))
  | .quo=>ikW k k' (y≠0∧K (.int k (k.wrap (x.tdiv y))))
  | .rem=>ikW k k' (y≠0∧K (.int k (x.tmod y)))
  | .and=>ikW k k' (K (.int k (eq .and k x y)))
  | .or=>ikW k k' (K (.int k (eq .or k x y)))
  | .xor=>ikW k k' (K (.int k (eq .xor k x y)))
  | .andNot=>ikW k k' (K (.int k (eq .andNot k x y)))
  | .shl=>0≤y∧K (.int k (k.wrap (x*2 ^ (min y.toNat k.bits))))
  | .shr=>0≤y∧K (.int k (x.fdiv (2 ^ (min y.toNat k.bits))))
  | .eql=>ikW k k' (K (.bool (x==y)))
  | .neq=>ikW k k' (K (.bool (x != y)))
  | .lss=>ikW k k' (K (.bool (decide (x<y))))
  | .leq=>ikW k k' (K (.bool (decide (x≤y))))
  | .gtr=>ikW k k' (K (.bool (decide (x>y))))
  | .geq=>ikW k k' (K (.bool (decide (x≥y))))
 | .bool x,.bool y=>
  match get T t,op with
  | some i,.eql=>bandW (Nat.beq i.kind 5) (K (.bool (x==y)))
  | some i,.neq=>bandW (Nat.beq i.kind 5) (K (.bool (x != y)))
  | _,_=>False
 | .agg xs,.agg ys=>
  match get T t,op with
  | some _,.eql=>match pg T 4 t xs ys with | some e=>K (.bool e) | none=>False
  | some _,.neq=>match pg T 4 t xs ys with | some e=>K (.bool (!e)) | none=>False
  | _,_=>False
 | _,_=>False
def unW (op:UnOp) (a:AV) (K:AV→Prop):Prop:=
 match op,a with
 | .neg,.int k x=>K (.int k (k.wrap (0 - x)))
 | .not,.bool b=>K (.bool (!b))
 | _,_=>False
def eI (o:Option AV) (dflt:Nat) (K:Nat→Prop):Prop:=
 match o with
 | none=>K dflt
 | some (.int _ n)=>0≤n∧K n.toNat
 | _=>False
def gp (big:Bool) (k:IntKind) (x:Int):List AV→Option Int
 | []=>some x
 | .int _ y::r=>gp big k (bif big then max x y else min x y) r
 | _=>none
end Go.AI
namespace Go.AI
open Go
def Fk (T:Tab) (p:Nat×Nat):Bool:=match get T p.2 with | some _=>true | none=>false
def szOK (size sz:Nat) (xs:List (List AV)) (K:Prop):Prop:=
 bif Nat.beq size sz then K else match xs with | []=>K | _::_=>False
def kY (v:AV):Option (List AV):=match v.cells? with
 | some cs=>bif cs.all (fun c=>c.isCell) then some (cs.map AV.pub1) else none
 | none=>none
def fa (e:Operand→AV):List (Nat×Operand)→Nat→Nat→Option (List (List AV))
 | [],_,_=>some []
 |(i,x)::r,n,sz=>match kY (e x),fa e r (n+1) sz with
  | some cs,some l=>bif Nat.beq i n&&Nat.beq cs.length sz then some (cs::l) else none
  | _,_=>none
section
variable (T:Tab) (C:FuncId→List AV→AV→Prop) (bx:List (Nat×List AV)) (e:Operand→AV)
def opV (ty:TypeId):Op→(AV→Prop)→Prop
 | .move x,K | .assign x,K=>K (e x)
 | .pick c a b,K=>match e c with
  | .bool t=>bif t then K (e a) else K (e b)
  | _=>False
 | .binOp op t x y _,K=>vj T op t (e x) (e y) K
 | .unOp op _ x,K=>unW op (e x) K
 | .load t x,K=>match get T t with
  | none=>False
  | some i=>match e x with
   | .loc d off=>match get bx d with
    | some cs=>match dz i (cs.drop off) with | some v=>K v | none=>False
    | none=>False
   | .ref cs=>match dz i cs with | some v=>K v | none=>False
   | .pin _ _ _ cs=>match dz i cs with | some v=>K v | none=>False
   | _=>False
 | .nilCheck x,K=>match e x with
  | .loc d off=>K (.loc d off)
  | .ref cs=>K (.ref cs)
  | .pin k b off cs=>K (.pin k b off cs)
  | _=>False
 | .fieldAddr t x f,K=>match get T t with
  | none=>False
  | some i=>bif Nat.beq i.kind 1 then match nth i.flds f with
   | none=>False
   | some (off,ft)=>match get T ft with
    | none=>False
    | some j=>bif Nat.beq j.size 0 then False else match e x with
     | .loc d o=>K (.loc d (o+off))
     | .ref cs=>K (.ref (cs.drop off))
     | .pin k b o cs=>K (.pin k b (o+off) (cs.drop off))
     | _=>False
   else False
 | .field t x f,K=>match get T t with
  | none=>False
  | some i=>bif Nat.beq i.kind 1 then match nth i.flds f with
   | none=>False
   | some (off,ft)=>match get T ft with
    | none=>False
    | some j=>match e x with
     | .agg cs=>bif Nat.ble (off+j.size) cs.length then match dz j (cs.drop off) with | some v=>K v | none=>False else False
     | _=>False
   else False
 | .indexAddr t x n,K=>match get T t with
  | none=>False
  | some i=>match get T i.elem with
   | none=>False
   | some j=>match e n with
    | .int _ n=>match e x with
     | .sl _ sz xs=>bif Nat.beq i.kind 3 then szOK j.size sz xs (0≤n∧∃ cs,xs[n.toNat]?=some cs∧K (.ref cs)) else False
     | .loc d off=>bif Nat.beq i.kind 2 then 0≤n∧n<i.arr∧K (.loc d (off+n.toNat*j.size)) else False
     | .ref cs=>bif Nat.beq i.kind 2 then 0≤n∧n<i.arr∧K (.ref (cs.drop (n.toNat*j.size))) else False
     | _=>False
    | _=>False
 | .index t x n,K=>match get T t with
  | none=>False
  | some i=>match get T i.elem with
   | none=>False
   | some j=>match e n,e x with
    | .int _ n,.agg cs=>bif Nat.beq i.kind 2 then 0≤n∧n<i.arr∧n.toNat*j.size+j.size≤cs.length∧(match dz j (cs.drop (n.toNat*j.size)) with | some v=>K v | none=>False) else False
    | _,_=>False
 | .slice t x lo hi mx,K=>match get T t with
  | none=>False
  | some i=>match get T i.elem with
   | none=>False
   | some j=>match e x with
    | .sl _ sz xs=>bif Nat.beq i.kind 3 then szOK j.size sz xs (
      eI (lo.map e) 0 fun l=>eI (hi.map e) xs.length fun h=>
       match mx.map e with
       | none=>l≤h∧h≤xs.length∧K (.sl .no sz ((xs.take h).drop l))
       | some (.int _ m)=>bif hi.isSome then l≤h∧h≤xs.length∧m=h∧K (.sl .full sz ((xs.take h).drop l)) else False
       | some _=>False) else False
    | _=>False
 | .extract x n,K=>match e x with
  | .tup vs=>match nth vs n with | some v=>K v | none=>False
  | _=>False
 | .build t parts,K=>match get T t with
  | none=>False
  | some i=>match i.zero with
   | .agg zs=>bif Nat.beq i.kind 1&&i.flds.all (Fk T) then
     yh (fun f=>match nth i.flds f with | some (off,ft)=>(match get T ft with | some j=>some (off,j.size) | none=>none) | none=>none) zs (parts.toList.map fun (j,x)=>(j,e x)) fun cs=>bif cs.all (fun c=>c.isCell) then K (.agg cs) else False
    else bif Nat.beq i.kind 2 then match get T i.elem with
     | none=>False
     | some k=>yh (fun n=>some (n*k.size,k.size)) zs (parts.toList.map fun (j,x)=>(j,e x)) fun cs=>bif cs.all (fun c=>c.isCell) then K (.agg cs) else False
    else False
   | _=>False
 | .buildSlice t n parts,K=>match get T t with
  | none=>False
  | some i=>match get T i.elem with
   | none=>False
   | some j=>bif Nat.beq i.kind 3&&Nat.beq parts.toList.length n&&Nat.ble (n*j.size) 100000 then
     match fa e parts.toList 0 j.size,j.zero.cells? with
     | some xs,some _=>Hz xs fun xs=>K (.sl .full j.size xs)
     | _,_=>False
    else False
 | .convert src dst x,K=>match get T src,get T dst with
  | some _,some i=>match e x with
   | .int k n=>bif Nat.beq i.kind 4 then K (.int i.ik (i.ik.wrap n)) else False
   | _=>False
  | _,_=>False
 | .call c,K=>match c.callee with
  | .value f=>match e f with
   | .fn g=>∃ r,C g (c.args.toList.map fun x=>(e x).pub) r∧K r
   | .clo g cap=>∃ r,C g ((c.args.toList.map fun x=>(e x).pub)++cap) r∧K r
   | _=>False
  | .builtin .len=>match c.args.toList,c.argTypes.toList with
   | [x],[t]=>match get T t with
    | none=>False
    | some i=>match e x with
     | .sl _ _ xs=>bif Nat.beq i.kind 3 then K (.int .i64 xs.length) else False
     | _=>bif Nat.beq i.kind 2 then K (.int .i64 i.arr) else False
   | _,_=>False
  | .builtin .max=>match c.args.toList.map e with
   | .int k x::r=>match gp true k x r with | some z=>K (.int k z) | none=>False
   | _=>False
  | .builtin .min=>match c.args.toList.map e with
   | .int k x::r=>match gp false k x r with | some z=>K (.int k z) | none=>False
   | _=>False
  | _=>False
 | _,_=>False
end
def AV.unloc (d:Nat):AV→AV
 | .loc d' o=>bif Nat.beq d d' then .junk else .loc d' o
 | x=>x
def unloc (d:Nat) (t:List (Nat×AV)):List (Nat×AV):=fY (AV.unloc d) t
def AV.frz (d:Nat) (cs:List AV):AV→AV
 | .loc d' o=>bif Nat.beq d d' then .ref (cs.drop o) else .loc d' o
 | x=>x
def St.frz (d:Nat) (cs:List AV) (s:St):St:=⟨fY (AV.frz d cs) s.t,(d,[])::s.b⟩
def Dn:List Operand→St→(St→List AV→Prop)→Prop
 | [],s,K=>K s []
 | x::r,s,K=>match ev s x with
  | .loc d 0=>match get s.b d with
   | some (c::cs)=>Dn r (s.frz d ((c::cs).map AV.pub1)) fun s l=>K s (.ref ((c::cs).map AV.pub1)::l)
   | _=>False
  | v=>bif v.isCell then Dn r s fun s l=>K s (v.pub1::l) else False
def mf (d j:Nat):Nat:=1000000+1000*d+j
def bM (d:Nat):Nat→List AV→List AV
 | _,[]=>[]
 | j,.sl .full 0 []::r => .sl (.id (mf d j)) 0 []::bM d (j+1) r
 | j,c::r=>c::bM d (j+1) r
def jH (d:Nat):Nat→List AV→List Nat
 | _,[]=>[]
 | j,.sl .full 0 []::r=>mf d j::jH d (j+1) r
 | j,_::r=>jH d (j+1) r
def St.demMany (s:St):List Nat→St
 | []=>s
 | k::r=>(s.dem k).demMany r
def qC (j:TI):Bool:=match j.zero.cells? with | some zs=>Nat.beq zs.length j.size | none=>false
def xx (o:Own) (size sz:Nat):Bool:=match o with | .id _=>Nat.beq size sz||Nat.beq sz 0 | _=>true
def eA (n bytes:Nat):Prop:=n*bytes≤70368744177664
def mC (bx:List (Nat×List AV)) (d off:Nat) (vs:List AV):Option (List (Nat×List AV)):=
 match get bx d with
 | none=>none
 | some cs=>bif Nat.ble (off+vs.length) cs.length&&Nat.blt 0 vs.length then some ((d,mF cs off vs)::bx) else none
section
variable (T:Tab) (C:FuncId→List AV→AV→Prop)
def ef (s:St) (dst:Option Nat) (v:AV) (K:St→Prop):Prop:=match s,dst with
 | ⟨t,b⟩,some d=>K ⟨(d,v)::t,b⟩
 | s,none=>K s
def opS (s:St) (dst:Option Nat) (ty:TypeId) (op:Op) (K:St→Prop):Prop:=
 match op with
 | .box t x=>match dst,get T t,(ev s x).cells? with
  | some d,some i,some cs=>bif Nat.beq cs.length i.size&&cs.all (fun c=>c.isCell) then K ⟨(d,.loc d 0)::(unloc d s.t),(d,cs)::s.b⟩ else False
  | _,_,_=>False
 | .alloc t=>match dst,get T t with
  | some d,some i=>match i.zero.cells? with
   | some cs=>bif Nat.beq cs.length i.size&&cs.all (fun c=>c.isCell) then match (s.demMany (jH d 0 cs)) with
     | ⟨t,b⟩=>K ⟨(d,.loc d 0)::unloc d t,(d,bM d 0 cs)::b⟩ else False
   | none=>False
  | _,_=>False
 | .store t a x=>match dst,get T t,ev s a,(ev s x).cells? with
  | none,some i,.loc d off,some cs=>bif Nat.beq cs.length i.size&&cs.all (fun c=>c.isCell) then
    match mC s.b d off cs with
    | some b=>K { s with b:=b }
    | none=>False
   else False
  | _,_,_,_=>False
 | .makeFunc (.func f) first captured=>bif first.toList.isEmpty then Dn captured.toList s fun s l=>match s,dst with
   | ⟨t,b⟩,some d=>K ⟨(d,.clo f l)::t,b⟩
   | s,none=>K s
  else False
 | .assign (.const (.slice none 0 0)) | .move (.const (.slice none 0 0))=>match dst,get T ty with
  | some d,some i=>match get T i.elem with
   | some j=>bif Nat.beq i.kind 3 then match s.dem d with | ⟨t,b⟩=>K ⟨(d,.sl (.id d) j.size [])::t,b⟩ else False
   | none=>False
  | _,_=>False
 | .makeSlice t l c=>match dst,get T t with
  | some d,some i=>match get T i.elem with
   | some j=>match ev s l,ev s c with
    | .int _ l,.int _ c=>match j.zero.cells? with
     | some zs=>bif Nat.beq i.kind 3&&Nat.beq zs.length j.size&&zs.all (fun c=>c.isCell)&&Nat.blt 0 j.size then
       0≤l∧l≤c∧eA c.toNat j.bytes∧c≤4611686018427387904∧match s.dem d with | ⟨t,b⟩=>K ⟨(d,.sl (.id d) j.size (List.replicate l.toNat zs))::t,b⟩ else False
     | none=>False
    | _,_=>False
   | none=>False
  | _,_=>False
 | .call { callee := .builtin .append,args:=args,argTypes:=ts }=>match args.toList,ts.toList,dst with
  | [x,y],[t,t'],some d=>match get T t with
   | some i=>match get T i.elem with
    | some j=>match ev s x,ev s y with
     | .sl o sz xs,.sl _ sz' ys=>bif Nat.beq i.kind 3&&Nat.beq t t'&&qC j&&Nat.blt 0 j.size&&xx o j.size sz then szOK j.size sz xs (szOK j.size sz' ys (eA (xs.length+ys.length) j.bytes∧xs.length+ys.length≤4611686018427387904 ∧
       match o with
       | .full=>bif AZ xs ys then match s.dem d with | ⟨t,b⟩=>K ⟨(d,.sl (.id d) j.size (xs++ys))::t,b⟩ else bif rm ys then False else match s with | ⟨t,b⟩=>K ⟨(d,.sl .full sz xs)::t,b⟩
       | .id k=>match s.dem k with | ⟨t,b⟩=>K ⟨(d,.sl (.id k) j.size (xs++ys))::t,b⟩
       | .no=>False)) else False
     | _,_=>False
    | none=>False
   | none=>False
  | _,_,_=>False
 | op=>opV T C s.b (ev s) ty op fun v=>v.go fun v=>ef s dst v K
end
def xk (k:Nat):Nat:=2000000000+k
def lo (k:Nat):Nat:=bif Nat.blt k 5000000 then 0 else k % 1000
def el (s:St) (k:Nat):Option (Nat×List (List AV)):=match get s.t (xk k) with
 | some (.me .arr k' sz xs)=>bif Nat.beq k' k&&Nat.beq (lo k) 0 then some (sz,xs) else none
 | _=>none
def ep:qo→Bool
 | .arr | .ents | .box=>true
 | _=>false
def qY (s:St) (k:Nat):Option (Nat×List AV):=match get s.t (xk k) with
 | some (.me .box k' b [own])=>bif Nat.beq k' k then some (b,own) else none
 | _=>none
def kb (k:Nat):List (Nat×AV)→Bool
 | []=>true
 |(d,.me g k' _ _)::r=>(!ep g||(Nat.beq d (xk k) || !Nat.beq k k'))&&kb k r
 | _::r=>kb k r
def AV.unme (k:Nat):AV→AV
 | .me g k' n xs=>bif Nat.beq k k' then .junk else .me g k' n xs
 | x=>x
def AV.frzx (k sz:Nat) (xs:List (List AV)):AV→AV
 | .me g k' n ys=>bif Nat.beq k k' then (match g with | .sl => .sl .no sz xs | _ => .junk) else .me g k' n ys
 | x=>x
def gV (s:St) (l:List Operand) (K:St→Prop):Prop:=match l with
 | []=>K s
 | x::r=>match ev s x with
  | .me .sl k _ _=>match el s k with
   | some (sz,xs)=>(⟨fY (AV.frzx k sz xs) s.t,s.b⟩:St).go fun s=>gV s r K
   | none=>False
  | _=>gV s r K
section
variable (T:Tab) (C:FuncId→List AV→AV→Prop)
def jt (s:St) (dst:Option Nat) (t:TypeId) (k len:Nat) (i:Int) (K:St→Prop):Prop:=match get T t with
 | none=>False
 | some ti=>match get T ti.elem with
  | none=>False
  | some j=>match el s k with
   | none=>False
   | some (sz,_)=>bif Nat.beq ti.kind 3&&Nat.beq j.size sz then 0≤i∧i<len∧ef s dst (.me (.ptr sz 0) k i.toNat []) K else False
def ju (s:St) (dst:Option Nat) (t:TypeId) (f sz j k i:Nat) (K:St→Prop):Prop:=match get T t with
 | none=>False
 | some ti=>bif Nat.beq ti.kind 1 then match nth ti.flds f with
   | none=>False
   | some (off,ft)=>match get T ft with
    | none=>False
    | some u=>bif Nat.beq u.size 0 then False else ef s dst (.me (.ptr sz (j+off)) k i []) K
  else False
def Bt (s:St) (dst:Option Nat) (t:TypeId) (sz j k i:Nat) (K:St→Prop):Prop:=match get T t with
 | none=>False
 | some ti=>match el s k with
  | none=>False
  | some (sz',xs)=>bif Nat.beq sz' sz then ∃ r,xs[i]?=some r∧match dz ti (r.drop j) with | some v=>v.go fun v=>ef s dst v K | none=>False else False
def qr (s:St) (dst:Option Nat) (t:TypeId) (sz j k i:Nat) (v:AV) (K:St→Prop):Prop:=match dst,get T t,v.cells? with
 | none,some ti,some cs=>match el s k with
  | none=>False
  | some (sz',xs)=>bif Nat.beq sz' sz&&(Nat.beq cs.length ti.size&&(cs.all (fun c=>c.isCell)&&(Nat.ble (j+cs.length) sz&&Nat.blt 0 cs.length))) then
    ∃ r,xs[i]?=some r∧K ⟨(xk k,.me .arr k sz (bB xs i (mF r j (cs.map AV.pub1))))::s.t,s.b⟩ else False
 | _,_,_=>False
def Aa (s:St) (dst:Option Nat) (t:TypeId) (sz j k i:Nat) (v:AV) (K:St→Prop):Prop:=bif kb k s.t then qr T s dst t sz j k i v K else False
def Ac (s:St) (dst:Option Nat) (ts:List TypeId) (y:AV) (K:St→Prop):Prop:=match dst,ts with
 | some d,[t,t']=>match get T t with
  | none=>False
  | some ti=>match get T ti.elem with
   | none=>False
   | some j=>match y with
    | .sl _ sz' ys=>bif Nat.beq ti.kind 3&&(Nat.beq t t'&&(qC j&&Nat.blt 0 j.size)) then szOK j.size sz' ys (0<ys.length∧eA ys.length j.bytes∧ys.length≤4611686018427387904 ∧
      K ⟨(d,.me .sl d ys.length [])::(xk d,.me .arr d j.size ys)::fY (AV.unme d) s.t,s.b⟩) else False
    | _=>False
 | _,_=>False
def qE (s:St) (dst:Option Nat) (mt:TypeId) (b:Nat) (kv xv:AV) (K:Nat→AV→Prop):Prop:=match dst,get T mt with
 | none,some im=>match im.flds with
  | [(_,kt)]=>match get T kt with
   | some i=>bif Nat.beq im.kind 9 then match lE i with
     | some (sk,n)=>∃ (k:Nat) (l:List (List Int×AV)) (key:List Int),(get s.t (xk k)=some (.me .ents k b (d3 sk l))∧kv=keyE sk key∧key.length=n∧∀ p∈l,p.1.length=n) ∧
       xv.pub.go1 fun v=>K k (.me .ents k b (d3 sk (dZ key v l)))
     | none=>False
    else False
   | none=>False
  | _=>False
 | _,_=>False
def iU (s:St) (mt:TypeId) (b:Nat) (kv:AV) (ok:Bool) (K:AV→Prop):Prop:=match get T mt with
 | some im=>match im.flds with
  | [(_,kt)]=>match get T kt,get T im.elem with
   | some i,some j=>bif Nat.beq im.kind 9&&j.zero.isCell then match lE i with
     | some (sk,n)=>∃ (k:Nat) (l:List (List Int×AV)) (key:List Int) (g:Option AV),(get s.t (xk k)=some (.me .ents k b (d3 sk l))∧kv=keyE sk key∧key.length=n∧(∀ p∈l,p.1.length=n)∧jP key l=g)∧K (IY ok j.zero g)
     | none=>False
    else False
   | _,_=>False
  | _=>False
 | none=>False
def kK (s:St) (t:TypeId) (k b off:Nat) (cs:List AV) (K:AV→Prop):Prop:=match get T t with
 | none=>False
 | some ti=>match dz ti cs with
  | some v=>K v
  | none=>match qY s k with
   | some (b',own)=>bif Nat.ble (lo k) off then (match dz ti (own.drop (off - lo k)) with | some v=>b'=b∧K v | none=>False) else False
   | none=>False
def mN (s:St) (dst:Option Nat) (t:TypeId) (k b off:Nat) (v:AV) (K:Nat→AV→Prop):Prop:=match dst,get T t,v.cells? with
 | none,some ti,some cs=>match qY s k with
  | none=>False
  | some (b',own)=>bif Nat.beq cs.length ti.size&&(cs.all (fun c=>c.isCell)&&(Nat.ble (lo k) off&&(Nat.ble (off - lo k+cs.length) own.length&&Nat.blt 0 cs.length))) then b'=b∧goL (mF own (off - lo k) cs) fun own'=>K k (.me .box k b' [own']) else False
 | _,_,_=>False
def uF (s:St) (dst:Option Nat) (t:TypeId) (k n:Nat) (lo hi mx:Option AV) (K:St→Prop):Prop:=match get T t with
 | none=>False
 | some i=>match get T i.elem with
  | none=>False
  | some j=>match el s k with
   | none=>False
   | some (sz,_)=>bif Nat.beq i.kind 3&&(Nat.beq j.size sz&&mx.isNone) then eI lo 0 fun l=>eI hi n fun h=>l≤h∧h≤n∧ef s dst (.me (.sub sz l) k (h - l) []) K else False
def G1 (s:St) (dst:Option Nat) (ts:List TypeId) (sz k h:Nat) (y:AV) (K:St→Prop):Prop:=match dst,ts with
 | some d,[t,t']=>match get T t with
  | none=>False
  | some i=>match get T i.elem with
   | none=>False
   | some j=>match y with
    | .me (.sub sz' l) k' m _=>match el s k with
     | none=>False
     | some (sz2,xs)=>bif Nat.beq i.kind 3&&(Nat.beq t t'&&(Nat.beq sz sz2&&(Nat.beq sz' sz2&&(Nat.beq k k'&&(Nat.beq j.size sz2&&Nat.blt 0 sz2))))) then
       h+m≤xs.length∧K ⟨(d,.me .sl k (h+m) [])::(xk k,.me .arr k sz2 (xs.take h++(xs.drop l).take m))::fY (AV.unme k) s.t,s.b⟩ else False
    | _=>False
 | _,_=>False
def Ih (s:St) (dst:Option Nat) (ts:List TypeId) (k n:Nat) (y:AV) (K:St→Prop):Prop:=match dst,ts with
 | some d,[t,t']=>match get T t with
  | none=>False
  | some i=>match get T i.elem with
   | none=>False
   | some j=>match el s k with
    | none=>False
    | some (sz,xs)=>match y with
     | .sl _ sz' ys=>bif Nat.beq i.kind 3&&(Nat.beq t t'&&(qC j&&(Nat.blt 0 j.size&&Nat.beq j.size sz))) then szOK j.size sz' ys (0<ys.length∧eA (xs.length+ys.length) j.bytes∧xs.length+ys.length≤4611686018427387904 ∧
       K ⟨(d,.me .sl k (n+ys.length) [])::(xk k,.me .arr k sz (xs++ys))::fY (AV.unme k) s.t,s.b⟩) else False
     | _=>False
 | _,_=>False
def opX (s:St) (dst:Option Nat) (ty:TypeId) (op:Op) (K:St→Prop):Prop:=match op with
 | .indexAddr t x n=>match ev s x,ev s n with
  | .me .sl k len _,.int _ i=>jt T s dst t k len i K
  | _,_=>opS T C s dst ty op K
 | .fieldAddr t x f=>match ev s x with
  | .me (.ptr sz j) k i _=>ju T s dst t f sz j k i K
  | _=>opS T C s dst ty op K
 | .load t x=>match ev s x with
  | .me (.ptr sz j) k i _=>Bt T s dst t sz j k i K
  | .pin k b off cs=>kK T s t k b off cs fun v=>v.go fun v=>ef s dst v K
  | _=>opS T C s dst ty op K
 | .lookup t m k ok=>match ev s m with
  | .lit (.map (some b))=>iU T s t b (ev s k) ok fun v=>v.go fun v=>ef s dst v K
  | _=>False
 | .store t a x=>match ev s a with
  | .me (.ptr sz j) k i _=>Aa T s dst t sz j k i (ev s x) K
  | .pin _ _ _ _=>gV s [x] fun s=>(match ev s a with
   | .pin k b off _=>mN T s dst t k b off (ev s x) fun k v=>kb k s.t=true∧K ⟨(xk k,v)::s.t,s.b⟩
   | _=>False)
  | _=>gV s [x] fun s=>opS T C s dst ty op K
 | .move _ | .assign _=>opS T C s dst ty op K
 | .makeMap _ none=>match dst with
  | some d=>∀ b,K ⟨(d,.lit (.map (some b)))::(xk d,.me .ents d b [])::fY (AV.unme d) s.t,s.b⟩
  | none=>False
 | .mapUpdate t m k x=>match ev s m with
  | .lit (.map (some b))=>qE T s dst t b (ev s k) (ev s x) fun k v=>kb k s.t=true∧K ⟨(xk k,v)::s.t,s.b⟩
  | _=>False
 | .insert t m k x=>match ev s m with
  | .lit (.map (some b))=>qE T s dst t b (ev s k) (ev s x) fun k v=>kb k s.t=true∧K ⟨(xk k,v)::s.t,s.b⟩
  | _=>False
 | .call { callee := .builtin .len,args:=args,argTypes:=ts }=>match args.toList,ts.toList with
  | [x],[t]=>match ev s x with
   | .me .sl _ n _=>match get T t with
    | some i=>bif Nat.beq i.kind 3 then ef s dst (.int .i64 n) K else False
    | none=>False
   | _=>opS T C s dst ty op K
  | _,_=>opS T C s dst ty op K
 | .call { callee := .builtin .append,args:=args,argTypes:=ts }=>match args.toList with
  | [x,y]=>gV s [y] fun s=>match ev s x with
   | .sl o _ xs=>match o with
    | .full=>opS T C s dst ty op K∨xs=[]∧Ac T s dst ts.toList (ev s y) K
    | _=>opS T C s dst ty op K
   | .me g k n _=>match g with
    | .sub sz off=>bif Nat.beq off 0 then G1 T s dst ts.toList sz k n (ev s y) K else opS T C s dst ty op K
    | .sl=>Ih T s dst ts.toList k n (ev s y) K
    | _=>opS T C s dst ty op K
   | _=>opS T C s dst ty op K
  | _=>opS T C s dst ty op K
 | .slice t x lo hi mx=>match ev s x with
  | .me .sl k n _=>(gV s [x] fun s=>opS T C s dst ty op K)∨uF T s dst t k n (lo.map (ev s)) (hi.map (ev s)) (mx.map (ev s)) K
  | _=>gV s op.operands.toList fun s=>opS T C s dst ty op K
 | op=>gV s op.operands.toList fun s=>opS T C s dst ty op K
end
def bX:List Nat→Nat→Bool
 | [],_=>false
 | d::r,k=>bif Nat.beq d k then true else bX r k
def CH:List Nat→Nat→List Nat
 | [],_=>[]
 | d::r,k=>bif Nat.beq d k then r else d::CH r k
def gW (guards:List Nat) (dst:Option Nat) (s:St) (K:St→Prop):Prop:=
 match dst with
 | some d=>bif bX guards d then match s with
   | ⟨t,b⟩=>match get t d with
    | some (.bool v)=>(v=true→K ⟨(d,.bool true)::t,b⟩)∧(v=false→K ⟨(d,.bool false)::t,b⟩)
    | _=>K ⟨t,b⟩
  else IB d s K
 | none=>goB s K
def gX (ops:List Oper) (j:Nat):Option Nat:=match nth ops j with | some o=>o.dst | none=>none
def bI (ops:List Oper):List Oper→List Nat
 | []=>[]
 | o::r=>match o.guard with
  | some (j,_)=>match gX ops j with | some d=>d::bI ops r | none=>bI ops r
  | none=>bI ops r
def j5 (all:List Oper) (s:St) (o:Oper):Nat:=
 match o.guard with
 | none=>0
 | some (j,want)=>match gX all j with
  | none=>2
  | some d=>match get s.t d with
   | some (.bool b)=>bif b==want then 0 else 1
   | some .undef=>1
   | _=>2
def qv (guards:List Nat) (o:Oper):Bool:=match o.op,o.dst with
 | .assign (.const (.slice none 0 0)),some d=>bX guards (1000000000+d)
 | _,_=>false
def rX (guards:List Nat) (o:Oper):Bool:=match o.op,o.dst with
 | .call _,some d=>bX guards (3000000000+d)
 | _,_=>false
def AV.pubE:AV→AV
 | .me g k n xs => .me g k n xs
 | x=>x.pub
def qk:List AV→List Nat
 | []=>[]
 | .sl (.id k) _ _::r=>k::qk r
 | _::r=>qk r
def Hw:AV→List Nat
 | .me .box _ _ [own]=>qk own
 | _=>[]
def lT:List (Nat×AV)→List Nat
 | []=>[]
 |(_,v)::r=>Hw v++lT r
def fy:List (Nat×AV)→List Nat
 | []=>[]
 |(k,_)::r=>k::fy r
def dE (s:St):List Nat→Option (List (Nat×AV))
 | []=>some []
 | k::r=>match get s.t (xk k),dE s r with
  | some (.me g j n xs),some l=>bif Nat.beq j k&&ep g then some ((k,.me g j n xs)::l) else none
  | _,_=>none
def xkL:List (Nat×AV)→List (Nat×AV)
 | []=>[]
 |(k,v)::r=>(xk k,v)::xkL r
def AV.isRefX:AV→Bool
 | .me .sl _ _ _=>true
 | .me (.ptr _ _) _ _ _=>true
 | _=>false
def AV.unmeMany (x:AV):List Nat→AV
 | []=>x
 | k::r=>(bif Nat.ble 7000000 k&&x.isRefX then x else x.unme k).unmeMany r
def St.unmeMany (s:St) (ns:List Nat):St:=⟨fY (fun x=>x.unmeMany ns) s.t,s.b⟩
def Jm (l:List Nat):Bool:=l.all fun k=>Nat.ble 5000000 k
def HW (N:List Nat):AV→Bool
 | .me .box _ _ _=>false
 | .me _ k _ _=>bX N k
 | _=>true
def FE (N I:List Nat) (L:List (Nat×AV)) (args:List AV):Bool:=(fy L).all (bX N)&&((lT L).all (bX I)&&(Jm I&&args.all (HW N)))
abbrev zT:=FuncId→List Nat→List Nat→List AV→List (Nat×AV)→AV→List (Nat×AV)→Prop
def uf (E:zT) (s:St) (o:Oper) (K:List Nat→List Nat→List (Nat×AV)→AV→List (Nat×AV)→Prop):Prop:=match o.op with
 | .call call=>match call.callee with
  | .value f=>match ev s f with
   | .fn g=>∃ N I L r L',(dE s (fy L)=some L∧FE N I L (call.args.toList.map (ev s))=true∧E g N I ((call.args.toList.map fun x=>(ev s x).pubE)++[]) L r L')∧K N I L r L'
   | .clo g cap=>∃ N I L r L',(dE s (fy L)=some L∧FE N I L (call.args.toList.map (ev s))=true∧E g N I ((call.args.toList.map fun x=>(ev s x).pubE)++cap) L r L')∧K N I L r L'
   | _=>False
  | _=>False
 | _=>False
section
variable (T:Tab) (C:FuncId→List AV→AV→Prop) (E:zT)
def H1 (guards:List Nat) (o:Oper):Bool:=match o.op,o.dst with
 | .makeSlice _ _ _,some d=>bX guards (5000000000+d)
 | _,_=>false
def Eh (s:St) (dst:Option Nat) (op:Op) (K:St→Prop):Prop:=match op,dst with
 | .makeSlice t l c,some d=>match get T t with
  | some i=>match get T i.elem with
   | some j=>match ev s l,ev s c,j.zero.cells? with
    | .int _ l,.int _ c,some zs=>bif Nat.beq i.kind 3&&(Nat.beq zs.length j.size&&(zs.all (fun c=>c.isCell)&&Nat.blt 0 j.size)) then
      0≤l∧l≤c∧eA c.toNat j.bytes∧c≤4611686018427387904∧K ⟨(d,.me .sl d l.toNat [])::(xk d,.me .arr d j.size (List.replicate l.toNat zs))::fY (AV.unme d) s.t,s.b⟩ else False
    | _,_,_=>False
   | none=>False
  | none=>False
 | _,_=>False
def opG (guards:List Nat) (s:St) (o:Oper) (K:St→Prop):Prop:=
 bif qv guards o then ef s o.dst (.sl .full 0 []) K
 else bif rX guards o then uf E s o fun N I _ r L'=>match (s.demMany I).unmeMany N with | ⟨t,b⟩=>(⟨xkL L'++t,b⟩:St).go fun s=>r.go fun r=>ef s o.dst r fun s=>gW guards o.dst s K
 else bif H1 guards o then Eh T s o.dst o.op fun s=>x4 o.op s fun s=>gW guards o.dst s K
 else opX T C s o.dst o.type o.op fun s=>x4 o.op s fun s=>gW guards o.dst s K
def fB (all:List Oper) (guards:List Nat):List Oper→St→(St→Prop)→Prop
 | [],s,K=>K s
 | o::rest,s,K=>match j5 all s o with
  | 0=>opG T C E guards s o fun s=>fB all guards rest s K
  | 1=>ef s o.dst .undef fun s=>fB all guards rest s K
  | _=>False
end
def rI:List Nat→List (Nat×AV)→List (Nat×AV)
 | _,[]=>[]
 | keep,(d,v)::r=>bif bX keep d then (d,v)::rI (CH keep d) r else rI keep r
def rK:List Nat→List (Nat×List AV)→List (Nat×List AV)
 | _,[]=>[]
 | seen,(d,v)::r=>bif bX seen d then rK seen r else (d,v)::rK (d::seen) r
def goN:List Nat→(List Nat→Prop)→Prop
 | [],K=>K []
 | d::r,K=>goN r fun r=>K (d::r)
theorem AL:∀ (l:List Nat) (K:List Nat→Prop),goN l K=K l
 | [],_=>rfl
 | _::r,K=>by rw [goN,AL r]
def Ee:List Nat→List (Nat×AV)→List Nat
 | keep,[]=>keep
 | keep,(d,_)::r=>bif Nat.ble 2000000000 d && !bX keep d then Ee (d::keep) r else Ee keep r
def rH:List Nat→List (Nat×AV)→(List (Nat×AV)→Prop)→Prop
 | _,[],K=>K []
 | keep,(d,v)::r,K=>bif bX keep d then v.go1 fun v=>goN (CH keep d) fun keep=>rH keep r fun t=>K ((d,v)::t) else rH keep r K
def rJ:List Nat→List (Nat×List AV)→(List (Nat×List AV)→Prop)→Prop
 | _,[],K=>K []
 | seen,(d,v)::r,K=>bif bX seen d then rJ seen r K else rJ (d::seen) r fun t=>K ((d,v)::t)
theorem oZ:∀ (t:List (Nat×AV)) (keep:List Nat) (K:List (Nat×AV)→Prop),rH keep t K=K (rI keep t)
 | [],_,_=>rfl
 |(d,v)::r,keep,K=>by
  simp only [rH,rI]
  cases bX keep d with
  | true=>simp only [cond_true,AV.go1_eq,AL]; rw [oZ r]
  | false=>simp only [cond_false]; rw [oZ r]
theorem o0:∀ (t:List (Nat×List AV)) (seen:List Nat) (K:List (Nat×List AV)→Prop),rJ seen t K=K (rK seen t)
 | [],_,_=>rfl
 |(d,v)::r,seen,K=>by
  simp only [rJ,rK]
  cases bX seen d with
  | true=>simp only [cond_true]; rw [o0 r]
  | false=>simp only [cond_false]; rw [o0 r]
def fQ (keep:List Nat) (s:St) (K:St→Prop):Prop:=match s with
 | ⟨t,b⟩=>goN (Ee keep t) fun keep=>rH keep t fun t=>rJ [] b fun b=>K ⟨t,b⟩
end Go.AI
namespace Go.AI
open Go
structure Mem where
 cells:Nat→Nat→Option Value
 maps:Nat→Option (Array MapEntry×Nat)
instance:CoeFun Mem (fun _=>Nat→Nat→Option Value):=⟨Mem.cells⟩
structure Mem.sub (m:Mem) (w:World):Prop where
 cell:∀ b o v,m b o=some v→w.cell? ⟨b,o,none⟩=some v
 map:∀ b x,m.maps b=some x→w.heap[b]?=some (.map x.1 x.2)
structure Mem.le (m m':Mem):Prop where
 cell:∀ b o v,m b o=some v→m' b o=some v
 map:∀ b x,m.maps b=some x→m'.maps b=some x
theorem Mem.le.refl (m:Mem):m.le m:=⟨fun _ _ _ h=>h,fun _ _ h=>h⟩
theorem Mem.le.trans {a b c:Mem} (h:a.le b) (k:b.le c):a.le c:=⟨fun x y v g=>k.cell x y v (h.cell x y v g),fun x v g=>k.map x v (h.map x v g)⟩
def aX (w:World) (b:Nat):Prop:=∃ c T,w.heap[b]?=some (.cells c T (0,0))
structure Mem.News (m:Mem) (B:Nat→Prop) (m':Mem) (w:World):Prop where
 cell:∀ b o v,m' b o=some v→m b o=some v∨B b∧aX w b
 map:∀ b x,m'.maps b=some x→m.maps b=some x∨B b
def free (w0:World) (k:Nat):Prop:=w0.heap.size≤k∨w0.heap[k]?=some (.deferred none)
structure dm (w w':World):Prop where
 os:w'.os=w.os
 tape:w'.tape=w.tape
 output:w'.output=w.output
 size:w.heap.size≤w'.heap.size
 block:∀ k,¬ free w k→w'.heap[k]?=w.heap[k]?
theorem dm.step {w0 a b:World} (h:dm w0 a) (h1:b.os=a.os) (h2:b.tape=a.tape) (h3:b.output=a.output) (h4:a.heap.size≤b.heap.size) (h5:∀ k,¬ free w0 k→b.heap[k]?=a.heap[k]?):dm w0 b:=⟨h1.trans h.os,h2.trans h.tape,h3.trans h.output,Nat.le_trans h.size h4,fun k hk=>(h5 k hk).trans (h.block k hk)⟩
structure GN (w0 a b:World):Prop where
 os:b.os=a.os
 tape:b.tape=a.tape
 output:b.output=a.output
 size:a.heap.size≤b.heap.size
 block:∀ k,¬ free w0 k→b.heap[k]?=a.heap[k]?
theorem dm.trans {w0 a b:World} (h:dm w0 a) (k:GN w0 a b):dm w0 b:=h.step k.os k.tape k.output k.size k.block
theorem not_free {w0:World} {k:Nat} (h:¬ free w0 k):k<w0.heap.size:=Nat.lt_of_not_le fun hc=>h (.inl hc)
theorem d7 {w0:World} {k b:Nat} (h:¬ free w0 k) (hb:free w0 b):k≠b:=fun e=>h (e ▸ hb)
theorem GN.of {w0 a b:World} {B:Nat} (h:RowKit.Below B a b) (hB:w0.heap.size≤B):GN w0 a b:=⟨h.os,h.tape,h.output,h.size,fun k hk=>h.block k (Nat.lt_of_lt_of_le (not_free hk) hB)⟩
theorem dm.alloc {w0 a:World} (h:dm w0 a) (hB:w0.heap.size≤a.heap.size) (o:Obj):dm w0 (a.alloc o):=h.trans (.of ((RowKit.Below.refl _ a).alloc (Nat.le_refl _) o) hB)
theorem dm.drew {w0 a:World} (h:dm w0 a):dm w0 a.drew:=h.trans ⟨rfl,rfl,rfl,Nat.le_refl _,fun _ _=>rfl⟩
theorem dm.refl (w:World):dm w w:=⟨rfl,rfl,rfl,Nat.le_refl _,fun _ _=>rfl⟩
theorem dD {w0:World} {k:Nat} (h:w0.heap.size≤k):free w0 k := .inl h
def Mem.with (m:Mem) (f:Nat→Nat→Option Value):Mem:=⟨f,m.maps⟩
def f9 (es:Array MapEntry) (clock:Nat):Prop:=(∀ (i:Nat) (e:MapEntry),es[i]?=some e→e.born<clock)∧(∀ (i j:Nat) (e f:MapEntry),es[i]?=some e→es[j]?=some f→e.born=f.born→i=j)∧∀ (i j:Nat) (e f:MapEntry),es[i]?=some e→es[j]?=some f→e.key=f.key→i=j
inductive RD (m:Mem):AV→Value→Prop
 | junk (v:Value):RD m .junk v
 | undef:RD m .undef Go.undef
 | int (k:IntKind) (n:Int):RD m (.int k n) (.int k n)
 | bool (b:Bool):RD m (.bool b) (.bool b)
 | str (s:ByteArray):RD m (.str s) (.string s)
 | lit (v:Value) (h:v.oneCell'=true) (h2:v.cells=#[v]):RD m (.lit v) v
 | fn (f:FuncId):RD m (.fn f) (.func (.func f) #[] #[])
 | clo (f:FuncId) (cap:List AV) (vs:Array Value) (hl:cap.length=vs.size) (h:∀ (i:Nat) (x:AV) (v:Value),cap[i]?=some x→vs[i]?=some v→RD m x v):RD m (.clo f cap) (.func (.func f) #[] vs)
 | agg (cs:List AV) (vs:Array Value) (hl:cs.length=vs.size) (hc:∀ x∈cs,x.isCell=true) (h:∀ (i:Nat) (x:AV) (v:Value),cs[i]?=some x→vs[i]?=some v→RD m x v):RD m (.agg cs) (.agg vs)
 | tup (cs:List AV) (vs:Array Value) (hl:cs.length=vs.size) (h:∀ (i:Nat) (x:AV) (v:Value),cs[i]?=some x→vs[i]?=some v→RD m x v):RD m (.tup cs) (.tuple vs)
 | sl (o:Own) (sz:Nat) (xs:List (List AV)) (base:Option Addr) (len cap:Nat) (ho:∀ k,o≠.id k) (hf:o = .full→cap=len) (hl:xs.length=len) (hc:len≤cap)
   (hsz:∀ x∈xs,x.length=sz) (hcell:∀ x∈xs,∀ c∈x,AV.isCell c=true) (b off:Nat) (hb:0<len→base=some ⟨b,off,none⟩) (g:Nat→Nat→Value)
   (hm:∀ (i:Nat) (x:List AV) (j:Nat) (c:AV),xs[i]?=some x→x[j]?=some c→m b (off+i*sz+j)=some (g i j)) (h:∀ (i:Nat) (x:List AV) (j:Nat) (c:AV),xs[i]?=some x→x[j]?=some c→RD m c (g i j)):RD m (.sl o sz xs) (.slice base len cap)
 | ref (cs:List AV) (b off:Nat) (hc:∀ x∈cs,x.isCell=true) (g:Nat→Value) (hm:∀ (i:Nat) (c:AV),cs[i]?=some c→m b (off+i)=some (g i)) (h:∀ (i:Nat) (c:AV),cs[i]?=some c→RD m c (g i)):RD m (.ref cs) (.pointer (some ⟨b,off,none⟩))
 | pin (k b off:Nat) (cs:List AV) (hc:∀ x∈cs,x.isCell=true) (g:Nat→Value) (hm:∀ (i:Nat) (c:AV),cs[i]?=some c→m b (off+i)=some (g i)) (h:∀ (i:Nat) (c:AV),cs[i]?=some c→RD m c (g i)):RD m (.pin k b off cs) (.pointer (some ⟨b,off,none⟩))
 | mapv (xs:List (List AV)) (b:Nat) (es:Array MapEntry) (clock:Nat) (hm:m.maps b=some (es,clock)) (hb:f9 es clock) (hl:xs.length=es.size) (h2:∀ x∈xs,x.length=2)
   (hk:∀ (i:Nat) (x:List AV) (e:MapEntry) (k:AV),xs[i]?=some x→es[i]?=some e→x[0]?=some k→RD m k e.key) (hv:∀ (i:Nat) (x:List AV) (e:MapEntry) (k:AV),xs[i]?=some x→es[i]?=some e→x[1]?=some k→RD m k e.val):RD m (.mapv xs) (.map (some b))
theorem RD.mono {m m':Mem} (hm:m.le m') {x:AV} {v:Value} (h:RD m x v):RD m' x v:=by
 induction h with
 | junk v=>exact .junk v
 | undef=>exact .undef
 | int k n=>exact .int k n
 | bool b=>exact .bool b
 | str s=>exact .str s
 | lit v h h2=>exact .lit v h h2
 | fn f=>exact .fn f
 | clo f cap vs hl _ ih=>exact .clo f cap vs hl ih
 | agg cs vs hl hc _ ih=>exact .agg cs vs hl hc ih
 | tup cs vs hl _ ih=>exact .tup cs vs hl ih
 | sl o sz xs base len cap ho hf hl hc hsz hcell b off hb g hg _ ih=>exact .sl o sz xs base len cap ho hf hl hc hsz hcell b off hb g (fun i x j c h1 h2=>hm.cell _ _ _ (hg i x j c h1 h2)) ih
 | ref cs b off hc g hg _ ih=>exact .ref cs b off hc g (fun i c h1=>hm.cell _ _ _ (hg i c h1)) ih
 | pin k b off cs hc g hg _ ih=>exact .pin k b off cs hc g (fun i c h1=>hm.cell _ _ _ (hg i c h1)) ih
 | mapv xs b es clock hg hb hl h2 _ _ ihk ihv=>exact .mapv xs b es clock (hm.map _ _ hg) hb hl h2 ihk ihv
theorem RD.one {m:Mem} {x:AV} {v:Value} (h:RD m x v) (hc:x.isCell=true):v.oneCell'=true∧v.cells=#[v]:=by
 cases h <;> first | (simp [AV.isCell] at hc; done) | exact ⟨rfl,rfl⟩ | exact ⟨by assumption,by assumption⟩
structure Ctx where
 ρ:Nat→Nat
 τ:Nat→Value
 σ:Nat→Nat
 m:Mem
 x:Nat→Option (Nat×Obj)
 xn:Nat→Nat×Nat
def j6:Value→Bool
 | .slice _ len cap=>decide (len<cap)
 | _=>false
def RO (c:Ctx):AV→Value→Prop
 | .sl (.id k) sz xs,v=>v=c.τ k∧(j6 v=true→c.σ k=sz∧0<sz)∧RD c.m (.sl .no sz xs) v
 | x,v=>RD c.m x v
def RX (c:Ctx) (g:qo) (k n:Nat) (xs:List (List AV)) (v:Value):Prop:=match g with
 | .sl=>∃ b cells T cap,c.x k=some (b,.cells cells T (0,0))∧v = .slice (some ⟨b,0,none⟩) n cap∧(n=(c.xn k).1∧cap=(c.xn k).2)∧n≤cap
 | .ptr sz j=>∃ b cells T,c.x k=some (b,.cells cells T (0,0))∧v = .pointer (some ⟨b,n*sz+j,none⟩)
 | .arr=>∃ b cells T,c.x k=some (b,.cells cells T (0,0))∧(xs.length=(c.xn k).1∧(c.xn k).2*n≤cells.size)∧xs.length*n≤cells.size∧(∀ r∈xs,r.length=n∧∀ y∈r,y.isCell=true) ∧
   ∀ (i:Nat) (r:List AV) (j:Nat) (y:AV),xs[i]?=some r→r[j]?=some y→∃ u,cells[i*n+j]?=some u∧RD c.m y u
 | .sub sz l=>∃ b cells T off cap,c.x k=some (b,.cells cells T (0,0))∧v = .slice (some ⟨b,off,none⟩) n cap∧(off=l*sz∨n=0∧off=0)∧l+n≤(c.xn k).1∧((c.xn k).1≤l+cap∧l+cap≤(c.xn k).2)
 | .mp=>∃ b es clock,c.x k=some (b,.map es clock)∧v = .map (some b)
 | .ents=>∃ es clock,c.x k=some (n,.map es clock)∧f9 es clock∧xs.length=es.size∧(∀ x∈xs,x.length=2) ∧
   (∀ (i:Nat) (x:List AV) (e:MapEntry) (y:AV),xs[i]?=some x→es[i]?=some e→x[0]?=some y→RD c.m y e.key)∧∀ (i:Nat) (x:List AV) (e:MapEntry) (y:AV),xs[i]?=some x→es[i]?=some e→x[1]?=some y→RD c.m y e.val
 | .box=>∃ cells T own,c.x k=some (n,.cells cells T (0,0))∧xs=[own]∧cells.size=lo k+own.length∧(∀ y∈own,y.isCell=true)∧∀ (i:Nat) (y:AV) (u:Value),own[i]?=some y→cells[lo k+i]?=some u→RO c y u
def RC1 (c:Ctx):AV→Value→Prop
 | .me g k n xs,v=>RX c g k n xs v
 | .loc d off,v=>v = .pointer (some ⟨c.ρ d,off,none⟩)
 | .sl (.id k) sz xs,v=>v=c.τ k∧(j6 v=true→c.σ k=sz∧0<sz)∧RD c.m (.sl .no sz xs) v
 | x,v=>RD c.m x v
def RC (c:Ctx):AV→Value→Prop
 | .agg cs,v=>∃ vs:Array Value,v = .agg vs∧cs.length=vs.size∧(∀ x∈cs,x.isCell=true)∧∀ (i:Nat) (x:AV) (u:Value),cs[i]?=some x→vs[i]?=some u→RC1 c x u
 | x,v=>RC1 c x v
structure Ctx.le (c c':Ctx):Prop where
 m:c.m.le c'.m
 ρ:c'.ρ=c.ρ
 τ:c'.τ=c.τ
 σ:c'.σ=c.σ
 x:c'.x=c.x
 xn:c'.xn=c.xn
theorem Ctx.le.refl (c:Ctx):c.le c:=⟨.refl _,rfl,rfl,rfl,rfl,rfl⟩
theorem RO.mono {c c':Ctx} (hτ:c'.τ=c.τ) (hσ:c'.σ=c.σ) (hm:c.m.le c'.m) {x:AV} {v:Value} (r:RO c x v):RO c' x v:=by
 cases x with
 | sl o sz xs=>
  cases o with
  | id k=>obtain ⟨r1,r2,r3⟩:=r; exact ⟨by rw [hτ]; exact r1,by rw [hσ]; exact r2,r3.mono hm⟩
  | no=>exact RD.mono hm (show RD c.m _ v from r)
  | full=>exact RD.mono hm (show RD c.m _ v from r)
 | _=>exact RD.mono hm (show RD c.m _ v from r)
theorem RX.mono {c c':Ctx} (hx:c'.x=c.x) (hxn:c'.xn=c.xn) (hτ:c'.τ=c.τ) (hσ:c'.σ=c.σ) (hm:c.m.le c'.m) {g:qo} {k n:Nat} {xs:List (List AV)} {v:Value} (r:RX c g k n xs v):RX c' g k n xs v:=by
 cases g with
 | box=>
  obtain ⟨cells,T,own,r1,r2,r3,r4,r5⟩:=r
  exact ⟨cells,T,own,by rw [hx]; exact r1,r2,r3,r4,fun i y u h1 h2=>(r5 i y u h1 h2).mono hτ hσ hm⟩
 | sl=>simp only [RX,hx,hxn] at r ⊢; exact r
 | ptr sz j=>simp only [RX,hx] at r ⊢; exact r
 | arr=>
  obtain ⟨b,cells,T,r1,r0,r2,r3,r4⟩:=r
  exact ⟨b,cells,T,by rw [hx]; exact r1,by rw [hxn]; exact r0,r2,r3,fun i r j y h1 h2=>let ⟨u,q1,q2⟩:=r4 i r j y h1 h2; ⟨u,q1,q2.mono hm⟩⟩
 | mp=>simp only [RX,hx] at r ⊢; exact r
 | sub sz l=>simp only [RX,hx,hxn] at r ⊢; exact r
 | ents=>
  obtain ⟨es,clock,r1,r2,r3,r4,r5,r6⟩:=r
  exact ⟨es,clock,by rw [hx]; exact r1,r2,r3,r4,fun i x e y h1 h2 h3=>(r5 i x e y h1 h2 h3).mono hm,fun i x e y h1 h2 h3=>(r6 i x e y h1 h2 h3).mono hm⟩
theorem RC1.mono {c c':Ctx} (h:c.le c') {x:AV} {v:Value} (r:RC1 c x v):RC1 c' x v:=by
 cases x with
 | me g k n xs=>exact RX.mono h.x h.xn h.τ h.σ h.m r
 | loc d off=>simp only [RC1] at r ⊢; rw [h.ρ]; exact r
 | sl o sz xs=>
  cases o with
  | id k=>obtain ⟨r1,r2,r3⟩:=r; exact ⟨by rw [h.τ]; exact r1,by rw [h.σ]; exact r2,r3.mono h.m⟩
  | no=>exact RD.mono h.m (show RD c.m _ v from r)
  | full=>exact RD.mono h.m (show RD c.m _ v from r)
 | _=>exact RD.mono h.m (show RD c.m _ v from r)
theorem RC.iff {c:Ctx} {x:AV} {v:Value} (h:∀ cs,x≠.agg cs):RC c x v↔RC1 c x v:=by
 cases x with
 | agg cs=>exact absurd rfl (h cs)
 | _=>exact Iff.rfl
theorem RC.mono {c c':Ctx} (h:c.le c') {x:AV} {v:Value} (r:RC c x v):RC c' x v:=by
 cases x with
 | agg cs=>obtain ⟨vs,r1,r2,r3,r4⟩:=r; exact ⟨vs,r1,r2,r3,fun i x u h1 h2=>(r4 i x u h1 h2).mono h⟩
 | _=>exact (RC.iff (by intro cs hc; cases hc)).2 (RC1.mono h ((RC.iff (by intro cs hc; cases hc)).1 r))
theorem RC1.of_RD {c:Ctx} {x:AV} {v:Value} (h:RD c.m x v):RC1 c x v:=by
 cases h with
 | sl o sz xs base len cap ho hf hl hc hsz hcell b off hb g hg hr=>
  cases o with
  | id k=>exact absurd rfl (ho k)
  | no=>exact .sl _ _ _ _ _ _ ho hf hl hc hsz hcell b off hb g hg hr
  | full=>exact .sl _ _ _ _ _ _ ho hf hl hc hsz hcell b off hb g hg hr
 | junk v=>exact .junk v
 | undef=>exact .undef
 | int k n=>exact .int k n
 | bool b=>exact .bool b
 | str s=>exact .str s
 | lit v h h2=>exact .lit v h h2
 | fn f=>exact .fn f
 | clo f cap vs hl h=>exact .clo f cap vs hl h
 | agg cs vs hl hc h=>exact .agg cs vs hl hc h
 | tup cs vs hl h=>exact .tup cs vs hl h
 | ref cs b off hc g hg hr=>exact .ref cs b off hc g hg hr
 | pin k b off cs hc g hg hr=>exact .pin k b off cs hc g hg hr
 | mapv xs b es clock hg hb hl h2 hk hv=>exact .mapv xs b es clock hg hb hl h2 hk hv
theorem RC.of_RD {c:Ctx} {x:AV} {v:Value} (h:RD c.m x v):RC c x v:=by
 cases x with
 | agg cs=>cases h with | agg _ vs hl hc hr=>exact ⟨vs,rfl,hl,hc,fun i x u h1 h2 => .of_RD (hr i x u h1 h2)⟩
 | _=>exact (RC.iff (by intro cs hc; cases hc)).2 (RC1.of_RD h)
theorem RD.no {m:Mem} {o:Own} {sz:Nat} {xs:List (List AV)} {v:Value} (h:RD m (.sl o sz xs) v):RD m (.sl .no sz xs) v:=by
 cases h with
 | sl _ _ _ base len cap ho hf hl hc hsz hcell b off hb g hg hr=>exact .sl _ _ _ _ _ _ (by intro k hk; cases hk) (by intro hk; cases hk) hl hc hsz hcell b off hb g hg hr
theorem RC1.sl_no {c:Ctx} {o:Own} {sz:Nat} {xs:List (List AV)} {v:Value} (h:RC1 c (.sl o sz xs) v):RD c.m (.sl .no sz xs) v:=by
 cases o with
 | id k=>exact h.2.2
 | no=>exact RD.no h
 | full=>exact RD.no h
theorem RC1.pub {c:Ctx} {x:AV} {v:Value} (h:RC1 c x v):RD c.m x.pub1 v:=by
 cases x with
 | loc d off=>exact .junk v
 | me g k n xs=>exact .junk v
 | sl o sz xs=>
  cases o with
  | id k=>exact h.2.2
  | no=>exact h
  | full=>exact h
 | _=>exact h
theorem AV.pub1_cell {x:AV} (h:x.isCell=true):x.pub1.isCell=true:=by
 cases x with
 | sl o sz xs=>cases o <;> rfl
 | _=>first | exact h | (simp [AV.isCell] at h)
theorem RC.pub {c:Ctx} {x:AV} {v:Value} (h:RC c x v):RD c.m x.pub v:=by
 cases x with
 | agg cs=>
  obtain ⟨vs,rfl,h2,h3,h4⟩:=h
  refine .agg _ vs (by simpa using h2) (fun y hy=>?_) (fun i y u h1 h2=>?_)
  ·obtain ⟨z,hz,rfl⟩:=List.mem_map.1 hy
   exact AV.pub1_cell (h3 z hz)
  ·rw [List.getElem?_map] at h1
   obtain ⟨z,hz,rfl⟩:=Option.map_eq_some_iff.1 h1
   exact (h4 i z u hz h2).pub
 | tup vs=>exact h
 | _=>exact RC1.pub ((RC.iff (by intro cs hc; cases hc)).1 h)
theorem RC1.one {c:Ctx} {x:AV} {v:Value} (h:RC1 c x v) (hc:x.isCell=true):v.oneCell'=true∧v.cells=#[v]:=by
 cases x with
 | loc d off=>simp [AV.isCell] at hc
 | me g k n xs=>simp [AV.isCell] at hc
 | sl o sz xs=>
  cases o with
  | id k=>exact RD.one h.2.2 rfl
  | no=>exact RD.one (show RD c.m _ v from h) rfl
  | full=>exact RD.one (show RD c.m _ v from h) rfl
 | _=>exact RD.one (show RD c.m _ v from h) hc
theorem RC.cells {c:Ctx} {x:AV} {v:Value} {cs:List AV} (h:RC c x v) (hc:x.cells?=some cs) (hcell:∀ y∈cs,y.isCell=true) :
  cs.length=v.cells.size∧∀ (i:Nat) (y:AV) (u:Value),cs[i]?=some y→v.cells[i]?=some u→RC1 c y u:=by
 cases x with
 | agg ds=>
  simp only [AV.cells?,Option.some.injEq] at hc
  subst hc
  obtain ⟨vs,rfl,h2,h3,h4⟩:=h
  exact ⟨h2,h4⟩
 | junk=>cases hc
 | undef=>cases hc
 | tup vs=>cases hc
 | loc d off=>cases hc
 | me g k n xs=>cases hc
 | int _ _ | bool _ | str _ | lit _ | fn _ | clo _ _ | sl _ _ _ | ref _ | mapv _ | pin _ _ _ _=>
  simp only [AV.cells?,Option.some.injEq] at hc
  subst hc
  have h:=(RC.iff (by intro cs hc; cases hc)).1 h
  have h1:=RC1.one h rfl
  rw [h1.2]
  refine ⟨rfl,fun i y u g1 g2=>?_⟩
  cases i with
  | zero=>simp at g1 g2; subst g1; subst g2; exact h
  | succ i=>simp at g1
structure aH where
 P:Program
 F:Fence
 n:Nat
 w0:World
 m0:Mem
 nt:Nat
structure aH.OK (Γ:aH):Prop where
 fn:∀ f,Γ.F.fn f
 depth:Γ.F.depth=none
 alive:Γ.F.alive=false
 mixed:Γ.P.follows .mixedOrders=true
def iC:Value→Option Nat
 | .slice (some a) len cap=>if len<cap then some a.block else none
 | _=>none
def aU (c:Ctx) (k:Nat):Option Nat:=iC (c.τ k)
def js (B:Nat→Prop) (v:Value):Prop:=v = .slice none 0 0∨∃ base len cap,v = .slice base len cap∧(base=none→len=cap)∧∀ a,base=some a→0<len→a=⟨a.block,0,none⟩∧B a.block
def rl (w0:World) (k g:Nat):Prop:=w0.heap.size≤g∨5000000≤k∧w0.heap[g]?=some (.deferred none)
theorem rl.free {w0:World} {k g:Nat} (h:rl w0 k g):free w0 g:=h.imp id And.right
theorem EW {w0:World} {k g:Nat} (h:w0.heap.size≤g):rl w0 k g := .inl h
def sfree (w0:World) (k g:Nat):Prop:=w0.heap.size≤g∨5000000≤k
theorem rl.sfree {w0:World} {k g:Nat} (h:rl w0 k g):sfree w0 k g:=h.imp id And.left
theorem Ev {w0:World} {k g:Nat} (h:w0.heap.size≤g):sfree w0 k g := .inl h
structure Jg (Γ:aH) (c:Ctx) (bx:List (Nat×List AV)) (w:World) (k:Nat):Prop where
 blk:∀ g,aU c k=some g→∃ len cap T,∃ cells:Array Value,c.τ k = .slice (some ⟨g,0,none⟩) len cap∧w.heap[g]?=some (.cells cells T (0,0))∧cells.size=cap*c.σ k∧(∀ o,len*c.σ k≤o→c.m g o=none)∧rl Γ.w0 k g
 shape:js (sfree Γ.w0 k) (c.τ k)
 box:∀ g d cs,aU c k=some g→get bx d=some cs→cs≠[]→c.ρ d≠g
 apart:∀ g j,aU c k=some g→aU c j=some g→j=k
def nD:Obj→Bool
 | .cells .. | .map .. => true
 | _=>false
def u3:Option Obj→Bool
 | some (.mapIter ..)=>true
 | _=>false
structure XOK (Γ:aH) (c:Ctx) (bx:List (Nat×List AV)) (w:World) (k b:Nat) (o:Obj):Prop where
 new:free Γ.w0 b
 obj:w.heap[b]?=some o
 kept:nD o=true
 mem:∀ i,lo k≤i→c.m b i=none
 map:c.m.maps b=none
 box:∀ d cs,get bx d=some cs→cs≠[]→c.ρ d≠b
 own:∀ j,aU c j≠some b
 inj:∀ j o',c.x j=some (b,o')→j=k
structure WI (Γ:aH) (c:Ctx) (bx:List (Nat×List AV)) (w:World):Prop where
 ext:dm Γ.w0 w
 sub:c.m.sub w
 le0:Γ.m0.le c.m
 new:Γ.m0.News (free Γ.w0) c.m w
 box:∀ d cs,get bx d=some cs→cs≠[]→free Γ.w0 (c.ρ d)∧(∀ o,c.m (c.ρ d) o=none)∧(∀ x∈cs,x.isCell=true) ∧
  ∃ (vs:Array Value) (T:TypeId),w.heap[c.ρ d]?=some (.cells vs T (0,0))∧cs.length=vs.size∧∀ (i:Nat) (x:AV) (v:Value),cs[i]?=some x→vs[i]?=some v→RC1 c x v
 inj:∀ d d' cs cs',get bx d=some cs→get bx d'=some cs'→cs≠[]→cs'≠[]→c.ρ d=c.ρ d'→d=d'
 own:∀ k,Jg Γ c bx w k
 xo:∀ k b o,c.x k=some (b,o)→XOK Γ c bx w k b o
def nk (o:Obj):Prop:=∀ c T fr,o = .cells c T fr→fr=(0,0)
structure dU (w w':World):Prop where
 drawn:w.drawn≤w'.drawn
theorem dU.refl (w:World):dU w w:=⟨Nat.le_refl _⟩
theorem dU.trans {a b c:World} (h:dU a b) (k:dU b c):dU a c:=⟨Nat.le_trans h.drawn k.drawn⟩
theorem dU.drew (w:World):dU w w.drew:=⟨Nat.le_succ _⟩
theorem dU.alloc (w:World) {o:Obj} (_ho:nk o):dU w (w.alloc o):=⟨Nat.le_refl _⟩
theorem dU.putObj (w:World) (r:Nat) {o:Obj} (_ho:nk o):dU w (w.putObj r o):=⟨Nat.le_refl _⟩
theorem bA (c:Array Value) (T:TypeId):nk (.cells c T (0,0)):=fun _ _ _ h=>by cases h; rfl
theorem pw {w:World} {b:Nat} (h:aX w b) (o:Obj):aX (w.alloc o) b:=by
 obtain ⟨c,T,h⟩:=h
 exact ⟨c,T,(RowKit.Below.heap_alloc w o b (Array.getElem?_eq_some_iff.1 h).1).trans h⟩
theorem pu {w w':World} {b:Nat} (h:aX w b) (hb:RowKit.Below w.heap.size w w'):aX w' b:=by
 obtain ⟨c,T,h⟩:=h
 exact ⟨c,T,(hb.block _ (Array.getElem?_eq_some_iff.1 h).1).trans h⟩
theorem jB {w:World} {b r:Nat} (h:aX w b) {p:Obj} (hp:w.heap[r]?=some p) (hn:∀ c T,p≠.cells c T (0,0)) (o:Obj):aX (w.putObj r o) b:=by
 obtain ⟨c,T,h⟩:=h
 refine ⟨c,T,?_⟩
 rw [World.putObj_heap_other (fun e=>by subst e; rw [h] at hp; cases hp; exact hn _ _ rfl)]; exact h
theorem Mem.News.keep {m m':Mem} {B:Nat→Prop} {w w':World} (h:m.News B m' w) (hk:∀ b,aX w b→aX w' b):m.News B m' w':=
 ⟨fun b o v hv=>(h.cell b o v hv).imp id fun ⟨h1,h2⟩=>⟨h1,hk b h2⟩,h.map⟩
structure NC (w w':World):Prop where
 size:w.heap.size≤w'.heap.size
 same:∀ (b:Nat) (o:Obj),w.heap[b]?=some o→nD o=false→w'.heap[b]?=some o
 more:dU w w'
 soft:∀ b,aX w b→aX w' b
theorem NC.refl (w:World):NC w w:=⟨Nat.le_refl _,fun _ _ h _=>h,.refl _,fun _ h=>h⟩
theorem NC.trans {a b c:World} (h:NC a b) (k:NC b c):NC a c:=⟨Nat.le_trans h.size k.size,fun x o g e=>k.same x o (h.same x o g e) e,h.more.trans k.more,fun b hb=>k.soft b (h.soft b hb)⟩
theorem tR {o:Obj} (h:nD o=true):u3 (some o)=false:=by cases o <;> first | rfl | cases h
def kc (Ds:List Nat):List Deferred:=Ds.map fun D=>{ target := .collected D,args:=#[] }
structure Inv (Γ:aH) (s:St) (a:Act) (w:World):Prop where
 ex:∃ c,WI Γ c s.b w∧∀ d x,get s.t d=some x→RC c x (a.tmps.getD d Go.undef)
 size:a.tmps.size=Γ.nt
 defers:∃ Ds:List Nat,a.defers=kc Ds∧Ds.Nodup∧∀ D∈Ds,w.heap[D]?=some (.deferred (some []))∧Γ.w0.heap.size≤D
 rnd:∀ l,Γ.F.round=some l→∃ r,w.heap[l]?=some (.loop r)
def dc:List Oper→List Nat
 | []=>[]
 | o::r=>o.dst.toList++dc r
def wrs:Code→List Nat
 | .region _ ops _=>dc ops.toList
 | .seq a b=>wrs a++wrs b
 | .cond _ a b=>wrs a++wrs b
 | .block _ c=>wrs c
 | .loop c=>wrs c
 | .scope c=>wrs c
 | .rangeFunc _ _ _ _=>[1000000000]
 | _=>[]
def vw (a:Act) (d:Nat):List Deferred×Value:=if d=1000000000 then (a.defers,Go.undef) else ([],a.tmps.getD d Go.undef)
def FT (ds:List Nat) (a a':Act):Prop:=∀ d,d ∉ ds→vw a' d=vw a d
theorem FT.tmps {ds:List Nat} {a a':Act} (h:FT ds a a') {d:Nat} (hd:d ∉ ds) (hn:d≠1000000000):a'.tmps.getD d Go.undef=a.tmps.getD d Go.undef:=by
 have:=h d hd
 simp only [vw,if_neg hn,Prod.mk.injEq] at this
 exact this.2
theorem FT.defers {ds:List Nat} {a a':Act} (h:FT ds a a') (hd:1000000000 ∉ ds):a'.defers=a.defers:=by
 have:=h _ hd
 simp only [vw,if_true,Prod.mk.injEq] at this
 exact this.1
theorem FT.refl (ds:List Nat) (a:Act):FT ds a a:=fun _ _=>rfl
theorem FT.trans {ds:List Nat} {a b c:Act} (h:FT ds a b) (k:FT ds b c):FT ds a c:=fun d hd=>(k d hd).trans (h d hd)
theorem FT.mono {ds es:List Nat} {a b:Act} (h:FT ds a b) (hs:∀ d∈ds,d∈es):FT es a b:=fun d hd=>h d fun hc=>hd (hs d hc)
theorem FT.put {a a':Act} {dst:Option Nat} (h:∃ v,a'=a.put dst v):FT dst.toList a a':=by
 obtain ⟨v,rfl⟩:=h
 intro d hd
 cases dst with
 | none=>rfl
 | some k=>
  have:k≠d:=fun hc=>hd (by simp [hc])
  simp only [vw,Act.put,Array.getD_eq_getD_getElem?,Array.getElem?_setIfInBounds_ne this]
def SP (Γ:aH) (s:St) (c:Code) (K:Exit→St→Prop):Prop:=
 ∀ a w,Inv Γ s a w→c.wpIn Γ.F Γ.n Γ.P (fun e a' w'=>NC w w'∧FT (wrs c) a a'∧∃ s',Inv Γ s' a' w'∧K e s') a w
structure ae (P:Program) (f:FuncId) (args:List AV) (r:AV):Prop where
 enters:∀ (args:Array Value) (w:World),(callFunc f args).run P w = .ok (.enter f args) w
 runs:∀ (m:Mem) (w:World) (vs:List Value),m.sub w→args.length=vs.length→(∀ (i:Nat) (x:AV) (v:Value),args[i]?=some x→vs[i]?=some v→RD m x v) →
  Calls P f vs.toArray w fun e w'=>∃ v m',e = .returned v∧RD m' r v∧m.le m'∧Mem.sub m' w'∧RowKit.Below w.heap.size w w'∧m.News (w.heap.size≤·) m' w'∧dU w w'
end Go.AI
namespace Go.AI
open Go
theorem RC.int {c:Ctx} {k:IntKind} {n:Int} {v:Value} (h:RC c (.int k n) v):v = .int k n:=by cases (show RD c.m _ _ from h); rfl
theorem RC.bool {c:Ctx} {b:Bool} {v:Value} (h:RC c (.bool b) v):v = .bool b:=by cases (show RD c.m _ _ from h); rfl
theorem RC.fn {c:Ctx} {f:FuncId} {v:Value} (h:RC c (.fn f) v):v = .func (.func f) #[] #[]:=by cases (show RD c.m _ _ from h); rfl
theorem RC.loc {c:Ctx} {d off:Nat} {v:Value} (h:RC c (.loc d off) v):v = .pointer (some ⟨c.ρ d,off,none⟩):=h
theorem RC.of_int {c:Ctx} (k:IntKind) (n:Int):RC c (.int k n) (.int k n):=RD.int k n
theorem RC.of_bool {c:Ctx} (b:Bool):RC c (.bool b) (.bool b):=RD.bool b
section
variable {Γ:aH} {o:Oper} {a:Act} {w w':World} {next:Act→World→Prop} {Q:Exit→Act→World→Prop}
theorem aP (hΓ:Γ.OK) (hd:∀ c,o.op≠.defer c) {v:Value} (hr:(execOp a.eval o).run Γ.P w = .ok (.value v) w') (hn:next (a.put o.dst v) w'):o.wpIn Γ.F Γ.n Γ.P a w next Q:=by
 refine ⟨fun f _=>hΓ.fn f,?_⟩
 rw [Oper.semAt_eq _ _ _ hd,hr]
 exact hn
theorem gG (hΓ:Γ.OK) (hd:∀ c,o.op≠.defer c) (hr:(execOp a.eval o).run Γ.P w = .ok .skip w') (hn:next (a.put o.dst Go.undef) w'):o.wpIn Γ.F Γ.n Γ.P a w next Q:=by
 refine ⟨fun f _=>hΓ.fn f,?_⟩
 rw [Oper.semAt_eq _ _ _ hd,hr]
 exact hn
end
section
variable {T:Tab} {P:Program} (hT:T.OK P)
include hT
theorem bH {t:TypeId} {i:TI} (g:get T t=some i):∃ j d,P.info? t=some j∧P.underlying t=some d∧TI.of P t=some i:=by
 have h:=hT.get g
 have h':=h
 unfold TI.of at h
 split at h
 ·rename_i j d h1 h2
  exact ⟨j,d,h1,h2,h'⟩
 ·cases h
theorem bF {t:TypeId} {i:TI} (g:get T t=some i) (w:World):(sizeOf t).run P w = .ok i.size w:=by
 obtain ⟨j,d,h1,h2,h3⟩:=bH hT g
 simp only [TI.of,h1,h2,Option.some.injEq] at h3
 simp [sizeOf,typeInfo,h1,← h3,go_sem]
theorem jz {t:TypeId} {i:TI} (g:get T t=some i) (hk:i.kind=1):∃ fs,P.underlying t=some (.struct fs)∧i.flds=fs.toList.map fun f=>(f.offset,f.type):=by
 obtain ⟨j,d,h1,h2,h3⟩:=bH hT g
 simp only [TI.of,h1,h2,Option.some.injEq] at h3
 subst h3
 cases d <;> simp at hk
 exact ⟨_,h2,rfl⟩
theorem iX {t:TypeId} {i:TI} (g:get T t=some i) (hk:i.kind=2):P.underlying t=some (.array i.arr i.elem):=by
 obtain ⟨j,d,h1,h2,h3⟩:=bH hT g
 simp only [TI.of,h1,h2,Option.some.injEq] at h3
 subst h3
 cases d <;> simp at hk
 exact h2
theorem bK {t:TypeId} {i:TI} (g:get T t=some i) (hk:i.kind=3):P.underlying t=some (.slice i.elem):=by
 obtain ⟨j,d,h1,h2,h3⟩:=bH hT g
 simp only [TI.of,h1,h2,Option.some.injEq] at h3
 subst h3
 cases d <;> simp at hk
 exact h2
theorem Bx {t:TypeId} {i:TI} (g:get T t=some i) (hk:i.kind=4):P.underlying t=some (.int i.ik):=by
 obtain ⟨j,d,h1,h2,h3⟩:=bH hT g
 simp only [TI.of,h1,h2,Option.some.injEq] at h3
 subst h3
 cases d <;> simp at hk
 exact h2
theorem wT {t:TypeId} {i:TI} (g:get T t=some i) (hk:i.kind=5):P.underlying t=some .bool:=by
 obtain ⟨j,d,h1,h2,h3⟩:=bH hT g
 simp only [TI.of,h1,h2,Option.some.injEq] at h3
 subst h3
 cases d <;> simp at hk
 exact h2
theorem By {t:TypeId} {i:TI} (g:get T t=some i) (w:World):(isAgg t).run P w = .ok (Nat.beq i.kind 1||Nat.beq i.kind 2) w:=by
 obtain ⟨j,d,h1,h2,h3⟩:=bH hT g
 simp only [TI.of,h1,h2,Option.some.injEq] at h3
 subst h3
 cases d <;> simp [isAgg,underlying,h2,go_sem] <;> exact ⟨rfl,rfl⟩
end
theorem cG (b off j:Nat):(⟨b,off,none⟩:Addr).add j=⟨b,off+j,none⟩:=by unfold Addr.add; split <;> simp_all
theorem eF {T:Tab} {P:Program} (hT:T.OK P) {t:TypeId} {i:TI} (g:get T t=some i) {c:Ctx} {w:World} {b off:Nat} {cells:List AV} {vals:List Value} (hlen:cells.length=vals.length)
  (hcell:∀ x∈cells,x.isCell=true) (hr:∀ (j:Nat) (x:AV) (v:Value),cells[j]?=some x→vals[j]?=some v→RC1 c x v)
  (hm:∀ (j:Nat) (v:Value),vals[j]?=some v→w.cell? ⟨b,off+j,none⟩=some v) {x:AV} (h:dz i cells=some x) :
  ∃ v,(loadVar t ⟨b,off,none⟩).run P w = .ok v w∧RC c x v:=by
 unfold dz at h
 have ha:=By hT g w
 cases hk:(Nat.beq i.kind 1||Nat.beq i.kind 2) with
 | true=>
  rw [hk] at h ha
  simp only [cond_true] at h
  cases hs:Nat.ble i.size cells.length with
  | false=>rw [hs] at h; cases h
  | true=>
   rw [hs] at h
   simp only [cond_true,Option.some.injEq] at h
   have hsz:i.size≤cells.length:=Nat.le_of_ble_eq_true hs
   have hl:=run_loadCells_list (P:=P) w ⟨b,off,none⟩ (vals.take i.size) (fun j v hv=>by
    rw [cG]
    rw [List.getElem?_take] at hv
    split at hv
    ·exact hm j v hv
    ·cases hv)
   rw [List.length_take,Nat.min_eq_left (by omega)] at hl
   refine ⟨.agg (vals.take i.size).toArray,?_,?_⟩
   ·simp only [loadVar,Sem.run_bind,ha,Result.andThen_ok,if_true,bF hT g,hl,Sem.run_pure]
   ·subst h
    refine ⟨_,rfl,by simp; omega,fun y hy=>hcell y (List.mem_of_mem_take hy),fun j y u h1 h2=>?_⟩
    rw [List.getElem?_toArray] at h2
    rw [List.getElem?_take] at h1 h2
    split at h1
    ·rename_i hj; rw [if_pos hj] at h2; exact hr j y u h1 h2
    ·cases h1
 | false=>
  rw [hk] at h ha
  simp only [cond_false] at h
  cases cells with
  | nil=>cases h
  | cons y ys=>
   simp only [Option.some.injEq] at h
   subst h
   cases vals with
   | nil=>cases hlen
   | cons v vs=>
    have h0:=hm 0 v rfl
    refine ⟨v,?_,?_⟩
    ·simp only [loadVar,Sem.run_bind,ha,Result.andThen_ok,Bool.false_eq_true,if_false,run_load]
     rw [show (⟨b,off,none⟩:Addr)=⟨b,off+0,none⟩ from rfl,h0]
    ·have h1:=hr 0 y v rfl rfl
     refine (RC.iff ?_).2 h1
     rintro cs rfl
     exact absurd (hcell _ (List.mem_cons_self ..)) (by simp [AV.isCell])
theorem uk {Γ:aH} {c:Ctx} {bx:List (Nat×List AV)} {w:World} (hW:WI Γ c bx w) {d:Nat} {cs:List AV} (hd:get bx d=some cs) (off:Nat) :
  ∃ vals:List Value,(cs.drop off).length=vals.length∧(∀ x∈cs.drop off,x.isCell=true)∧(∀ (j:Nat) (x:AV) (v:Value),(cs.drop off)[j]?=some x→vals[j]?=some v→RC1 c x v) ∧
   ∀ (j:Nat) (v:Value),vals[j]?=some v→w.cell? ⟨c.ρ d,off+j,none⟩=some v:=by
 by_cases hne:cs=[]
 ·subst hne
  exact ⟨[],by simp,by simp,by simp,by simp⟩
 ·obtain ⟨h1,h2,h3,vs,U,h4,h5,h6⟩:=hW.box d cs hd hne
  refine ⟨vs.toList.drop off,by simp [h5],fun x hx=>h3 x (List.mem_of_mem_drop hx),fun j x v g1 g2=>?_,fun j v g=>?_⟩
  ·rw [List.getElem?_drop] at g1 g2
   exact h6 _ x v g1 (by simpa using g2)
  ·rw [List.getElem?_drop] at g
   simp only [World.cell?,h4]
   simpa using g
theorem oO {c:Ctx} {w:World} (hs:c.m.sub w) {cs:List AV} {b off:Nat} (h:RD c.m (.ref cs) (.pointer (some ⟨b,off,none⟩))) :
  ∃ vals:List Value,cs.length=vals.length∧(∀ x∈cs,x.isCell=true)∧(∀ (j:Nat) (x:AV) (v:Value),cs[j]?=some x→vals[j]?=some v→RC1 c x v) ∧
   ∀ (j:Nat) (v:Value),vals[j]?=some v→w.cell? ⟨b,off+j,none⟩=some v:=by
 cases h with
 | ref _ _ _ hc g hm hr=>
  refine ⟨(List.range cs.length).map g,by simp,hc,fun j x v g1 g2=>?_,fun j v g2=>?_⟩
  ·rw [List.getElem?_map] at g2
   obtain ⟨k,hk,rfl⟩:=Option.map_eq_some_iff.1 g2
   obtain ⟨hk1,hk2⟩:=List.getElem?_eq_some_iff.1 hk
   simp at hk2; subst hk2
   exact RC1.of_RD (hr j x g1)
  ·rw [List.getElem?_map] at g2
   obtain ⟨k,hk,rfl⟩:=Option.map_eq_some_iff.1 g2
   obtain ⟨hk1,hk2⟩:=List.getElem?_eq_some_iff.1 hk
   simp at hk1 hk2; subst hk2
   exact hs.cell _ _ _ (hm j _ (List.getElem?_eq_getElem hk1))
end Go.AI
namespace Go.AI
open Go
theorem d6 {α:Type}:∀ (l:List α) (n:Nat),nth l n=l[n]?
 | [],n=>by simp [nth]
 | x::r,0=>by simp [nth]
 | x::r,n+1=>by simp [nth,d6 r n]
def cQ (Γ:aH) (c:Ctx) (a:Act) (w:World) (o:Oper) (K:AV→Prop):Prop:=
 ∃ v x,(execOp a.eval o).run Γ.P w = .ok (.value v) w∧RC c x v∧K x
section
variable {Γ:aH} {T:Tab} (hT:T.OK Γ.P) {bx:List (Nat×List AV)} {e:Operand→AV} {K:AV→Prop} {o:Oper} {a:Act} {w:World} {c:Ctx}
theorem G4 {op:UnOp} {x:AV} {u:Value} (h:unW op x K) (hx:RC c x u):∃ v y,(Op.unary op u).run Γ.P w = .ok v w∧RC c y v∧K y:=by
 unfold unW at h
 split at h
 ·rw [hx.int]; exact ⟨_,_,by simp [Op.unary,Op.intArith],RC.of_int _ _,h⟩
 ·rw [hx.bool]; exact ⟨_,_,by simp [Op.unary],RC.of_bool _,h⟩
 ·exact h.elim
theorem yi {op:BinOp} {t:TypeId} {x y:Operand} {k k':IntKind} {m n:Int}:(eqGuard op t x y (.int k m) (.int k' n)).run Γ.P w = .ok () w:=by
 unfold eqGuard; split <;> simp
theorem nW {op:BinOp} {t:TypeId} {x y:Operand} {m n:Bool}:(eqGuard op t x y (.bool m) (.bool n)).run Γ.P w = .ok () w:=by
 unfold eqGuard; split <;> simp
theorem FM {op:BinOp} {t:TypeId} {k k':IntKind} {m n:Int} (h:vj T op t (.int k m) (.int k' n) K):∃ v y,(binOp op t (.int k m) (.int k' n)).run Γ.P w = .ok v w∧RC c y v∧K y:=by
 unfold vj at h
 cases op <;> simp only at h
 case add=>obtain ⟨rfl,h'⟩:=cr h; clear h; have h:=h'; exact ⟨_,_,by simp [binOp,Op.intArith],RC.of_int _ _,h⟩
 case sub=>obtain ⟨rfl,h'⟩:=cr h; clear h; have h:=h'; exact ⟨_,_,by simp [binOp,Op.intArith],RC.of_int _ _,h⟩
 case mul=>obtain ⟨rfl,h'⟩:=cr h; clear h; have h:=h'; exact ⟨_,_,by simp [binOp,Op.intArith],RC.of_int _ _,h⟩
 case quo=>obtain ⟨rfl,h0,h'⟩:=cr h; clear h; have h:=h'; exact ⟨_,_,by simp [binOp,Op.intDiv,h0],RC.of_int _ _,h⟩
 case rem=>obtain ⟨rfl,h0,h'⟩:=cr h; clear h; have h:=h'; exact ⟨_,_,by simp [binOp,Op.intDiv,h0],RC.of_int _ _,h⟩
 case and=>obtain ⟨rfl,h'⟩:=cr h; clear h; have h:=h'; exact ⟨_,_,by simp only [binOp,Op.intBits,ne_eq,not_true_eq_false,if_false]; rfl,RC.of_int _ _,h⟩
 case or=>obtain ⟨rfl,h'⟩:=cr h; clear h; have h:=h'; exact ⟨_,_,by simp only [binOp,Op.intBits,ne_eq,not_true_eq_false,if_false]; rfl,RC.of_int _ _,h⟩
 case xor=>obtain ⟨rfl,h'⟩:=cr h; clear h; have h:=h'; exact ⟨_,_,by simp only [binOp,Op.intBits,ne_eq,not_true_eq_false,if_false]; rfl,RC.of_int _ _,h⟩
 case andNot=>obtain ⟨rfl,h'⟩:=cr h; clear h; have h:=h'; exact ⟨_,_,by simp only [binOp,Op.intBits,ne_eq,not_true_eq_false,if_false]; rfl,RC.of_int _ _,h⟩
 case shl=>obtain ⟨h0,h⟩:=h; exact ⟨_,_,by simp [binOp,Op.shift,show ¬ n<0 by omega],RC.of_int _ _,h⟩
 case shr=>obtain ⟨h0,h⟩:=h; exact ⟨_,_,by simp [binOp,Op.shift,show ¬ n<0 by omega],RC.of_int _ _,h⟩
 case eql=>obtain ⟨rfl,h'⟩:=cr h; clear h; have h:=h'; exact ⟨_,_,by simp [binOp,Op.intCmp],RC.of_bool _,h⟩
 case neq=>obtain ⟨rfl,h'⟩:=cr h; clear h; have h:=h'; exact ⟨_,_,by simp [binOp,Op.intCmp],RC.of_bool _,h⟩
 case lss=>obtain ⟨rfl,h'⟩:=cr h; clear h; have h:=h'; exact ⟨_,_,by simp [binOp,Op.intCmp],RC.of_bool _,h⟩
 case leq=>obtain ⟨rfl,h'⟩:=cr h; clear h; have h:=h'; exact ⟨_,_,by simp [binOp,Op.intCmp],RC.of_bool _,h⟩
 case gtr=>obtain ⟨rfl,h'⟩:=cr h; clear h; have h:=h'; exact ⟨_,_,by simp [binOp,Op.intCmp],RC.of_bool _,h⟩
 case geq=>obtain ⟨rfl,h'⟩:=cr h; clear h; have h:=h'; exact ⟨_,_,by simp [binOp,Op.intCmp],RC.of_bool _,h⟩
theorem nX {P:Program} (fs:List Field) (hf:∀ f∈fs,f.name ≠ "_" ∧ ∃ k,P.underlying f.type=some (.int k)) {xs ys:Array Value} {cx cy:List AV}
  (hx:cx.length=xs.size∧∀ (i:Nat) (x:AV) (u:Value),cx[i]?=some x→xs[i]?=some u→RC1 c x u) (hy:cy.length=ys.size∧∀ (i:Nat) (x:AV) (u:Value),cy[i]?=some x→ys[i]?=some u→RC1 c x u)
  (d:Nat):∀ b:Bool,ix (fs.map fun f=>(f.offset,f.type)) cx cy=some b→(Op.eqFields (d+1) xs ys fs).run P w = .ok b w:=by
 induction fs with
 | nil=>intro b h; simp only [List.map_nil,ix,Option.some.injEq] at h; subst h; simp [Op.eqFields]
 | cons f fs ih=>
  intro b h
  obtain ⟨hn,k,hk⟩:=hf f (List.mem_cons_self ..)
  simp only [List.map_cons,ix,d6] at h
  split at h
  ·rename_i k1 x k2 y b' h1 h2 h3
   have hkk:k1=k2:=by
    cases hb:s9 k1 k2 with
    | true=>exact o3 hb
    | false=>rw [hb] at h; cases h
   rw [show s9 k1 k2=true by subst hkk; cases k1 <;> rfl,cond_true] at h
   simp only [Option.some.injEq] at h
   have hl1:f.offset<cx.length:=(List.getElem?_eq_some_iff.1 h1).1
   have hl2:f.offset<cy.length:=(List.getElem?_eq_some_iff.1 h2).1
   have g1:xs[f.offset]?=some (.int k1 x):=by
    have hlt:f.offset<xs.size:=by omega
    have:=hx.2 _ _ _ h1 (Array.getElem?_eq_getElem hlt)
    rw [Array.getElem?_eq_getElem hlt]
    exact congrArg some (RC.int (c:=c) this)
   have g2:ys[f.offset]?=some (.int k2 y):=by
    have hlt:f.offset<ys.size:=by omega
    have:=hy.2 _ _ _ h2 (Array.getElem?_eq_getElem hlt)
    rw [Array.getElem?_eq_getElem hlt]
    exact congrArg some (RC.int (c:=c) this)
   have p1:(part f.type xs f.offset).run P w = .ok (.int k1 x) w:=by simp [part,isAgg,run_underlying hk,g1]
   have p2:(part f.type ys f.offset).run P w = .ok (.int k2 y) w:=by simp [part,isAgg,run_underlying hk,g2]
   have ih':=ih (fun g hg=>hf g (List.mem_cons_of_mem _ hg)) b' h3
   subst hkk
   simp only [Op.eqFields,ne_eq,hn,not_false_eq_true,if_true,Sem.run_bind,p1,p2,Result.andThen_ok,run_equalIn_int w d f.type k1 k x y hk,Sem.run_ite]
   cases hxy:x==y with
   | true=>simp only [Bool.not_true,Bool.false_eq_true,if_false,ih']; rw [← h,hxy]; rfl
   | false=>simp only [Bool.not_false,if_true,Sem.run_pure]; rw [← h,hxy]; rfl
  ·cases h
include hT in
theorem nj {t:TypeId} {i:TI} (g:get T t=some i) (hq:i.eqOK=true):∃ fs:Array Field,Γ.P.underlying t=some (.struct fs)∧i.flds=(fs.toList.map fun f=>(f.offset,f.type))∧Γ.P.stoodInHeld t=false ∧
  Γ.P.eqGuardType Γ.P.depth t=false∧∀ f∈fs.toList,f.name ≠ "_" ∧ ∃ k,Γ.P.underlying f.type=some (.int k):=by
 obtain ⟨j,d,h1,h2,h3⟩:=bH hT g
 simp only [TI.of,h1,h2,Option.some.injEq] at h3
 subst h3
 cases d <;> simp only [Bool.false_eq_true] at hq
 rename_i fs
 simp only [Bool.and_eq_true,Bool.not_eq_true',List.all_eq_true] at hq
 refine ⟨fs,h2,rfl,hq.1.1,hq.1.2,fun f hf=>?_⟩
 have:=hq.2 f hf
 refine ⟨by simpa using this.1.1,?_⟩
 cases hu:Γ.P.underlying f.type with
 | none=>rw [hu] at this; simp at this
 | some d=>cases d <;> simp [hu] at this; exact ⟨_,rfl⟩
include hT in
theorem G6 {t:TypeId} {i:TI} (g:get T t=some i) (hk:Nat.beq i.kind 1=true) (hq:Nat.beq i.arr 1=true):∃ fs:Array Field,Γ.P.underlying t=some (.struct fs)∧i.flds=(fs.toList.map fun f=>(f.offset,f.type))∧Γ.P.stoodInHeld t=false ∧
  Γ.P.eqGuardType Γ.P.depth t=false∧∀ f∈fs.toList,f.name ≠ "_" ∧ ((∃ k,Γ.P.underlying f.type=some (.int k))∨∃ gs,Γ.P.underlying f.type=some (.struct gs)):=by
 obtain ⟨j,d,h1,h2,h3⟩:=bH hT g
 simp only [TI.of,h1,h2,Option.some.injEq] at h3
 subst h3
 cases d with
 | struct fs=>
  simp only at hq
  cases hb:(!Γ.P.stoodInHeld t && !Γ.P.eqGuardType Γ.P.depth t&&fs.toList.all (pf Γ.P)) with
  | false=>rw [hb] at hq; cases hq
  | true=>
   simp only [Bool.and_eq_true,Bool.not_eq_true',List.all_eq_true] at hb
   refine ⟨fs,h2,rfl,hb.1.1,hb.1.2,fun f hf=>?_⟩
   have:=hb.2 f hf
   simp only [pf,Bool.and_eq_true] at this
   refine ⟨by simpa using this.1,?_⟩
   have this:=this.2
   cases hu:Γ.P.underlying f.type with
   | none=>rw [hu] at this; simp at this
   | some d=>cases d <;> simp [hu] at this <;> first | exact Or.inl ⟨_,rfl⟩ | exact Or.inr ⟨_,rfl⟩
 | _=>simp at hk
include hT in
theorem G7 {t:TypeId} {i:TI} (g:get T t=some i) (hk:Nat.beq i.kind 2=true) (hq:uU i.flds=true):∃ e ie,Γ.P.underlying t=some (.array i.arr e)∧Γ.P.info? e=some ie∧Γ.P.underlying e=some .bool∧Γ.P.cellsOf e=1∧Γ.P.eqGuardType Γ.P.depth t=false:=by
 obtain ⟨j,d,h1,h2,h3⟩:=bH hT g
 simp only [TI.of,h1,h2,Option.some.injEq] at h3
 subst h3
 cases d with
 | array n e=>
  simp only at hq
  cases hb:vk Γ.P t e with
  | false=>rw [hb] at hq; cases hq
  | true=>
   simp only [vk,ym,Bool.and_eq_true,Bool.not_eq_true',beq_iff_eq] at hb
   obtain ⟨ie,hie⟩:=Option.isSome_iff_exists.1 hb.1.1.2
   refine ⟨e,ie,h2,hie,?_,hb.2,hb.1.1.1⟩
   have this:=hb.1.2
   cases hu:Γ.P.underlying e with
   | none=>rw [hu] at this; simp at this
   | some d=>cases d <;> simp [hu] at this <;> rfl
 | _=>simp at hk
theorem va {n:Nat} {xs ys:List AV} {b:Bool} (h:jS (n+1) xs ys=some b):∃ p r q r' b',xs = .bool p::r∧ys = .bool q::r'∧jS n r r'=some b'∧b=((p==q)&&b'):=by
 match xs,ys,h with
 | .bool p::r,.bool q::r',h=>
  simp only [jS] at h
  split at h
  ·rename_i b' hb'
   simp only [Option.some.injEq] at h
   exact ⟨p,r,q,r',b',rfl,rfl,hb',h.symm⟩
  ·cases h
theorem mo {e:TypeId} (he:Γ.P.underlying e=some .bool) {cx cy:List AV} {xs ys:Array Value}
  (hx:cx.length=xs.size∧∀ (i:Nat) (x:AV) (u:Value),cx[i]?=some x→xs[i]?=some u→RC1 c x u) (hy:cy.length=ys.size∧∀ (i:Nat) (x:AV) (u:Value),cy[i]?=some x→ys[i]?=some u→RC1 c x u) (d:Nat) :
  ∀ (n j:Nat) (b:Bool),jS n (cx.drop j) (cy.drop j)=some b→(Op.eqItems (d+1) e 1 xs ys (List.range' j n)).run Γ.P w = .ok b w
 | 0,j,b,h=>by simp only [jS,Option.some.injEq] at h; subst h; simp [Op.eqItems]
 | n+1,j,b,h=>by
  have get:∀ {cz:List AV} {zs:Array Value} {q:Bool} {r:List AV},(cz.length=zs.size∧∀ (i:Nat) (x:AV) (u:Value),cz[i]?=some x→zs[i]?=some u→RC1 c x u)→cz.drop j = .bool q::r→(part e zs (j*1)).run Γ.P w = .ok (.bool q) w∧cz.drop (j+1)=r:=by
   intro cz zs q r hz hd
   have h0:cz[j]?=some (.bool q):=by rw [← List.head?_drop,hd]; rfl
   have hlt:j<zs.size:=by rw [← hz.1]; exact (List.getElem?_eq_some_iff.1 h0).1
   have hv:=hz.2 _ _ _ h0 (Array.getElem?_eq_getElem hlt)
   have g:zs[j]?=some (.bool q):=by rw [Array.getElem?_eq_getElem hlt]; exact congrArg some (RC.bool (c:=c) hv)
   refine ⟨by simp [part,isAgg,run_underlying he,g],?_⟩
   rw [← List.tail_drop,hd]; rfl
  obtain ⟨p,r,q,r',b',hd1,hd2,hb',rfl⟩:=va h
  obtain ⟨p1,e1⟩:=get hx hd1
  obtain ⟨p2,e2⟩:=get hy hd2
  rw [← e1,← e2] at hb'
  have ih:=mo he hx hy d n (j+1) b' hb'
  rw [List.range'_succ]
  simp only [Op.eqItems,Sem.run_bind,p1,p2,Result.andThen_ok,run_equalIn_bool w d e p q he,Sem.run_ite]
  cases hpq:p==q with
  | true=>simp only [Bool.not_true,Bool.false_eq_true,if_false,ih]; rfl
  | false=>simp only [Bool.not_false,if_true,Sem.run_pure]; rfl
include hT in
theorem m7:∀ (n:Nat) (t:TypeId) (cx cy:List AV) (xs ys:Array Value) (b:Bool),pg T n t cx cy=some b →
  (cx.length=xs.size∧∀ (i:Nat) (x:AV) (u:Value),cx[i]?=some x→xs[i]?=some u→RC1 c x u)→(cy.length=ys.size∧∀ (i:Nat) (x:AV) (u:Value),cy[i]?=some x→ys[i]?=some u→RC1 c x u) →
  Γ.P.eqGuardType Γ.P.depth t=false∧∀ d,n≤d→(Op.equalIn (d+2) t (.agg xs) (.agg ys)).run Γ.P w = .ok b w
 | 0,_,_,_,_,_,_,h,_,_=>by cases h
 | n+1,t,cx,cy,xs,ys,b,h,hx,hy=>by
  unfold pg at h
  split at h
  ·cases h
  ·rename_i i hg
   cases hk:i.eqOK with
   | true=>
    rw [hk] at h
    obtain ⟨fs,hu,hfl,hs,hgd,hf⟩:=nj hT hg hk
    rw [cond_true,hfl] at h
    have hfo:Γ.P.fieldsOf t=fs:=by simp [Program.fieldsOf,hu]
    refine ⟨hgd,fun d hd=>?_⟩
    rw [run_equalIn_struct w (d+1) t xs ys (by rw [hfo]; exact hu) hs,hfo]
    exact nX (w:=w) fs.toList hf hx hy d b h
   | false=>
    rw [hk,cond_false] at h
    cases hb:(Nat.beq i.kind 1&&Nat.beq i.arr 1) with
    | false=>
     rw [hb,cond_false] at h
     cases ha:(Nat.beq i.kind 2&&uU i.flds) with
     | false=>rw [ha] at h; cases h
     | true=>
      rw [ha,cond_true] at h
      simp only [Bool.and_eq_true] at ha
      obtain ⟨e,ie,hu,hie,he,hc1,hgd⟩:=G7 hT hg ha.1 ha.2
      refine ⟨hgd,fun d hd=>?_⟩
      rw [run_equalIn_array w (d+1) xs ys hu hie,hc1,List.range_eq_range']
      exact mo (w:=w) he hx hy d i.arr 0 b (by simpa using h)
    | true=>
     rw [hb,cond_true] at h
     simp only [Bool.and_eq_true] at hb
     obtain ⟨fs,hu,hfl,hs,hgd,hf⟩:=G6 hT hg hb.1 hb.2
     rw [hfl] at h
     have hfo:Γ.P.fieldsOf t=fs:=by simp [Program.fieldsOf,hu]
     refine ⟨hgd,fun d hd=>?_⟩
     rw [run_equalIn_struct w (d+1) t xs ys (by rw [hfo]; exact hu) hs,hfo]
     clear hu hfl hfo
     generalize fs.toList=fl at h hf ⊢
     induction fl generalizing b with
     | nil=>simp only [List.map_nil,Fr,Option.some.injEq] at h; subst h; simp [Op.eqFields]
     | cons f fl ih=>
      obtain ⟨hn,hty⟩:=hf f (List.mem_cons_self ..)
      simp only [List.map_cons,Fr,d6] at h
      split at h
      ·cases h
      ·rename_i j hj
       obtain ⟨_,dsc,_,hj2,hj3⟩:=bH hT hj
       cases h4:Nat.beq j.kind 4 with
       | true=>
        rw [h4,cond_true] at h
        split at h
        ·rename_i k1 x k2 y b' h1 h2 h3
         have hkk:k1=k2:=by
          cases hb:s9 k1 k2 with
          | true=>exact o3 hb
          | false=>rw [hb] at h; cases h
         rw [show s9 k1 k2=true by subst hkk; cases k1 <;> rfl,cond_true] at h
         simp only [Option.some.injEq] at h
         have hl1:f.offset<cx.length:=(List.getElem?_eq_some_iff.1 h1).1
         have hl2:f.offset<cy.length:=(List.getElem?_eq_some_iff.1 h2).1
         have g1:xs[f.offset]?=some (.int k1 x):=by
          have hlt:f.offset<xs.size:=by omega
          have:=hx.2 _ _ _ h1 (Array.getElem?_eq_getElem hlt)
          rw [Array.getElem?_eq_getElem hlt]
          exact congrArg some (RC.int (c:=c) this)
         have g2:ys[f.offset]?=some (.int k2 y):=by
          have hlt:f.offset<ys.size:=by omega
          have:=hy.2 _ _ _ h2 (Array.getElem?_eq_getElem hlt)
          rw [Array.getElem?_eq_getElem hlt]
          exact congrArg some (RC.int (c:=c) this)
         obtain ⟨k,hk⟩:∃ k,Γ.P.underlying f.type=some (.int k):=by
          rcases hty with h | ⟨gs,h⟩
          ·exact h
          ·exfalso
           rw [hj2] at h; cases h
           simp only [TI.of,‹Γ.P.info? f.type=some _›,hj2,Option.some.injEq] at hj3
           rw [← hj3] at h4; cases h4
         have p1:(part f.type xs f.offset).run Γ.P w = .ok (.int k1 x) w:=by simp [part,isAgg,run_underlying hk,g1]
         have p2:(part f.type ys f.offset).run Γ.P w = .ok (.int k2 y) w:=by simp [part,isAgg,run_underlying hk,g2]
         have ih':=ih b' h3 (fun g hg=>hf g (List.mem_cons_of_mem _ hg))
         subst hkk
         simp only [Op.eqFields,ne_eq,hn,not_false_eq_true,if_true,Sem.run_bind,p1,p2,Result.andThen_ok,run_equalIn_int w d f.type k1 k x y hk,Sem.run_ite]
         cases hxy:x==y with
         | true=>simp only [Bool.not_true,Bool.false_eq_true,if_false,ih']; rw [← h,hxy]; rfl
         | false=>simp only [Bool.not_false,if_true,Sem.run_pure]; rw [← h,hxy]; rfl
        ·cases h
       | false=>
        rw [h4,cond_false] at h
        split at h
        ·rename_i b1 b2 h1 h2
         simp only [Option.some.injEq] at h
         obtain ⟨gs,hst⟩:∃ gs,Γ.P.underlying f.type=some (.struct gs):=by
          rcases hty with ⟨k,h⟩ | h
          ·exfalso
           rw [hj2] at h; cases h
           simp only [TI.of,‹Γ.P.info? f.type=some _›,hj2,Option.some.injEq] at hj3
           rw [← hj3] at h4; cases h4
          ·exact h
         have sub:∀ {cz:List AV} {zs:Array Value},(cz.length=zs.size∧∀ (i:Nat) (x:AV) (u:Value),cz[i]?=some x→zs[i]?=some u→RC1 c x u) →
           (((cz.drop f.offset).take j.size).length=(zs.extract f.offset (f.offset+j.size)).size∧∀ (i:Nat) (x:AV) (u:Value),((cz.drop f.offset).take j.size)[i]?=some x→(zs.extract f.offset (f.offset+j.size))[i]?=some u→RC1 c x u):=by
          intro cz zs ⟨g1,g2⟩
          refine ⟨by simp; omega,fun i x u e1 e2=>?_⟩
          rw [List.getElem?_take] at e1
          split at e1
          ·rw [List.getElem?_drop] at e1
           rw [Array.getElem?_extract] at e2
           split at e2
           ·exact g2 _ _ _ e1 e2
           ·cases e2
          ·cases e1
         have hd2:=(m7 n f.type _ _ _ _ b1 h1 (sub hx) (sub hy)).2 (d - 1) (by omega)
         rw [show d - 1+2=d+1 by omega] at hd2
         have p1:(part f.type xs f.offset).run Γ.P w = .ok (.agg (xs.extract f.offset (f.offset+j.size))) w:=by simp [part,isAgg,run_underlying hst,bF hT hj]
         have p2:(part f.type ys f.offset).run Γ.P w = .ok (.agg (ys.extract f.offset (f.offset+j.size))) w:=by simp [part,isAgg,run_underlying hst,bF hT hj]
         have ih':=ih b2 h2 (fun g hg=>hf g (List.mem_cons_of_mem _ hg))
         simp only [Op.eqFields,ne_eq,hn,not_false_eq_true,if_true,Sem.run_bind,p1,p2,Result.andThen_ok,hd2,Sem.run_ite]
         cases hxy:b1 with
         | true=>simp only [Bool.not_true,Bool.false_eq_true,if_false,ih']; rw [← h,hxy]; rfl
         | false=>simp only [Bool.not_false,if_true,Sem.run_pure]; rw [← h,hxy]; rfl
        ·cases h
include hT in
theorem FL {op:BinOp} {t:TypeId} {p q:Operand} {x y:AV} {u v:Value} (h:vj T op t x y K) (hx:RC c x u) (hy:RC c y v) :
  ∃ r z,((do eqGuard op t p q u v; binOp op t u v:Sem Value)).run Γ.P w = .ok r w∧RC c z r∧K z:=by
 cases x with
 | int k m=>
  cases y with
  | int k' n=>
   rw [hx.int,hy.int]
   obtain ⟨r,z,h1,h2,h3⟩:=FM (Γ:=Γ) (w:=w) (c:=c) h
   exact ⟨r,z,by simp only [Sem.run_bind,yi,Result.andThen_ok,h1],h2,h3⟩
  | _=>exact h.elim
 | bool m=>
  cases y with
  | bool n=>
   rw [hx.bool,hy.bool]
   unfold vj at h
   simp only at h
   split at h
   ·rename_i i hg
    obtain ⟨hk,h⟩:=sg h
    have hb:=wT hT hg (Nat.eq_of_beq_eq_true hk)
    refine ⟨_,_,?_,RC.of_bool _,h⟩
    simp only [Sem.run_bind,nW,Result.andThen_ok,binOp,Op.equal,Op.maxDepth,run_equalIn_bool' w 9999 t m n hb]
    rfl
   ·rename_i i hg
    obtain ⟨hk,h⟩:=sg h
    have hb:=wT hT hg (Nat.eq_of_beq_eq_true hk)
    refine ⟨_,_,?_,RC.of_bool _,h⟩
    simp only [Sem.run_bind,nW,Result.andThen_ok,binOp,Op.equal,Op.maxDepth,run_equalIn_bool' w 9999 t m n hb]
    rfl
   ·exact h.elim
  | _=>exact h.elim
 | agg cx=>
  cases y with
  | agg cy=>
   obtain ⟨xs,rfl,hx1,_,hx2⟩:=hx
   obtain ⟨ys,rfl,hy1,_,hy2⟩:=hy
   unfold vj at h
   simp only at h
   split at h
   ·split at h
    ·rename_i b hb
     obtain ⟨hgd,hr⟩:=m7 (c:=c) (w:=w) hT 4 t cx cy xs ys b hb ⟨hx1,hx2⟩ ⟨hy1,hy2⟩
     have hr:=hr 9998 (by omega)
     refine ⟨_,_,?_,RC.of_bool _,h⟩
     simp only [Sem.run_bind,run_eqGuard_agg w _ t p q xs ys hgd,Result.andThen_ok,run_eql_struct,hr]
    ·exact h.elim
   ·split at h
    ·rename_i b hb
     obtain ⟨hgd,hr⟩:=m7 (c:=c) (w:=w) hT 4 t cx cy xs ys b hb ⟨hx1,hx2⟩ ⟨hy1,hy2⟩
     have hr:=hr 9998 (by omega)
     refine ⟨_,_,?_,RC.of_bool _,h⟩
     simp only [Sem.run_bind,run_eqGuard_agg w _ t p q xs ys hgd,Result.andThen_ok,run_neq_struct,hr]
    ·exact h.elim
   ·exact h.elim
  | _=>exact h.elim
 | _=>exact h.elim
end
end Go.AI
namespace Go.AI
open Go
theorem xY:∀ {x y:List Int},y.map (Value.int .i64)=x.map (Value.int .i64)→x=y
 | [],[],_=>rfl
 | [],b::y,h=>by simp at h
 | a::x,[],h=>by simp at h
 | a::x,b::y,h=>by simp only [List.map_cons,List.cons.injEq,Value.int.injEq,true_and] at h; rw [h.1,xY h.2]
theorem rE {x y:List Int} (h:cq y=cq x):x=y:=by
 simp only [cq,Value.agg.injEq] at h
 exact xY (congrArg Array.toList h)
theorem uK:∀ (l:List (Nat×Nat)) (m n:Nat),xd l m n=true→m≤n
 | [],m,n,h=>Nat.le_of_eq (Nat.eq_of_beq_eq_true h)
 |(o,_)::r,m,n,h=>by
  simp only [xd,Bool.and_eq_true] at h
  exact Nat.le_of_succ_le (uK r _ _ h.2)
theorem BC:∀ (l:List (Nat×Nat)) (m n:Nat),xd l m n=true→∀ p∈l,p.1<n
 | [],m,n,h,p,hp=>by cases hp
 |(o,_)::r,m,n,h,p,hp=>by
  simp only [xd,Bool.and_eq_true] at h
  rcases List.mem_cons.1 hp with rfl | hp
  ·have:=uK r _ _ h.2
   have:=Nat.eq_of_beq_eq_true h.1
   simp only; omega
  ·exact BC r _ _ h.2 p hp
theorem xJ (x:List Int) {m:Nat} (h:m<x.length):nth (x.map (AV.int .i64)) m=some (.int .i64 x[m]):=by rw [d6]; simp [h]
theorem nY:∀ (l:List (Nat×Nat)) (m n:Nat) (x y:List Int),xd l m n=true→x.length=n→y.length=n →
  ix l (x.map (AV.int .i64)) (y.map (AV.int .i64))=some (decide (x.drop m=y.drop m))
 | [],m,n,x,y,h,hx,hy=>by
  have:=Nat.eq_of_beq_eq_true h
  rw [ix,List.drop_of_length_le (by omega),List.drop_of_length_le (by omega)]
  rfl
 |(o,t)::r,m,n,x,y,h,hx,hy=>by
  simp only [xd,Bool.and_eq_true] at h
  have h1:=Nat.eq_of_beq_eq_true h.1
  have h2:=uK r _ _ h.2
  subst h1
  simp only [ix,xJ x (show o<x.length by omega),xJ y (show o<y.length by omega),nY r _ _ x y h.2 hx hy]
  rw [List.drop_eq_getElem_cons (show o<x.length by omega),List.drop_eq_getElem_cons (show o<y.length by omega)]
  simp only [s9,cond_true,Option.some.injEq,List.cons.injEq]
  by_cases h1:x[o]'(by omega)=y[o]'(by omega) <;> by_cases h2:x.drop (o+1)=y.drop (o+1) <;> simp [h1,h2]
def Jl:Ctx:=⟨fun _=>0,fun _ => .slice none 0 0,fun _=>0,⟨fun _ _=>none,fun _=>none⟩,fun _=>none,fun _=>(0,0)⟩
theorem rL (x:List Int):(x.map (AV.int .i64)).length=(x.map (Value.int .i64)).toArray.size∧∀ (i:Nat) (y:AV) (u:Value),(x.map (AV.int .i64))[i]?=some y→((x.map (Value.int .i64)).toArray)[i]?=some u→RC1 Jl y u:=by
 refine ⟨by simp,fun i y u h1 h2=>?_⟩
 simp only [List.getElem?_map,Option.map_eq_some_iff,List.getElem?_toArray] at h1 h2
 obtain ⟨a,ha,rfl⟩:=h1
 obtain ⟨b,hb,rfl⟩:=h2
 rw [ha] at hb
 cases hb
 exact RD.int _ _
section
variable {Γ:aH} {T:Tab} (hT:T.OK Γ.P) {w:World}
include hT
theorem sV {t:TypeId} {i:TI} (g:get T t=some i) (hk:nQ i=true) (x y:List Int) (hx:x.length=i.size) (hy:y.length=i.size):(Op.equal t (cq x) (cq y)).run Γ.P w = .ok (decide (x=y)) w:=by
 simp only [nQ,Bool.and_eq_true] at hk
 obtain ⟨fs,hu,hfl,hs,hgd,hf⟩:=nj hT g hk.1
 have hfo:Γ.P.fieldsOf t=fs:=by simp [Program.fieldsOf,hu]
 have he:=nY _ _ _ x y hk.2 hx hy
 rw [hfl] at he
 have hr:=nX (w:=w) fs.toList hf (rL x) (rL y) 9998 _ he
 simp only [cq,Op.equal,Op.maxDepth,run_equalIn_struct w 9999 t _ _ (by rw [hfo]; exact hu) hs,hfo,hr,List.drop_zero]
theorem sW {t:TypeId} {i:TI} (g:get T t=some i) (hk:nQ i=true) (x:List Int) (hx:x.length=i.size) (em:Bool):(Instr.checkKey em 10000 t (cq x)).run Γ.P w = .ok () w:=by
 simp only [nQ,Bool.and_eq_true] at hk
 obtain ⟨fs,hu,hfl,hs,hgd,hf⟩:=nj hT g hk.1
 have hlt:∀ f∈fs.toList,f.offset<x.length:=fun f hf'=>by
  have:=BC _ _ _ hk.2 (f.offset,f.type) (by rw [hfl]; exact List.mem_map_of_mem hf')
  simp only at this; omega
 rw [show (10000:Nat)=9999+1 from rfl,cq,Instr.checkKey]
 simp only [Sem.run_bind,run_underlying hu,Result.andThen_ok]
 rw [← Array.forIn_toList]
 generalize fs.toList=L at hf hlt
 induction L with
 | nil=>simp
 | cons f L ih=>
  obtain ⟨hn,k,hk'⟩:=hf f (by simp)
  have hl:=hlt f (by simp)
  have p1:(part f.type (x.map (Value.int .i64)).toArray f.offset).run Γ.P w = .ok (.int .i64 (x[f.offset])) w:=by
   simp [part,isAgg,run_underlying hk',List.getElem?_map,hl]
  have p2:(Instr.checkKey em 9999 f.type (.int .i64 (x[f.offset]))).run Γ.P w = .ok () w:=by
   rw [show (9999:Nat)=9998+1 from rfl,Instr.checkKey]
   simp only [Sem.run_bind,run_underlying hk',Result.andThen_ok,Sem.run_pure]
  simp only [List.forIn_cons,Sem.run_bind,hn,ne_eq,not_false_eq_true,if_true,Result.andThen_ok,p1,p2,Sem.run_pure]
  exact ih (fun y hy=>hf y (by simp [hy])) (fun y hy=>hlt y (by simp [hy]))
theorem gK {t:TypeId} {i:TI} (g:get T t=some i) (hk:nQ i=true) (x:List Int) (hx:x.length=i.size):∀ (es:List MapEntry) (n:Nat),(∀ e∈es,∃ y:List Int,e.key=cq y∧y.length=i.size) →
  ((Instr.findAsking t (cq x) es n).run Γ.P w = .ok none w∧∀ e∈es,e.key≠cq x)∨∃ j e,(Instr.findAsking t (cq x) es n).run Γ.P w = .ok (some (n+j,e.val)) w∧es[j]?=some e∧e.key=cq x
 | [],n,_ => .inl ⟨by simp [Instr.findAsking],by simp⟩
 | e::es,n,h=>by
  obtain ⟨y,hy,hyl⟩:=h e (by simp)
  have hr:=sV (w:=w) hT g hk x y hx hyl
  by_cases hxy:x=y
  ·refine .inr ⟨0,e,?_,rfl,by rw [hy,hxy]⟩
   simp only [Instr.findAsking,Sem.run_bind,hy,hr,Result.andThen_ok,decide_eq_true hxy,if_true,Sem.run_pure,Nat.add_zero]
  ·have hne:e.key≠cq x:=fun hc=>by
    rw [hy] at hc
    simp only [cq,Value.agg.injEq] at hc
    exact hxy (rE (by simp only [cq,hc]))
   have hstep:∀ r,(Instr.findAsking t (cq x) es (n+1)).run Γ.P w=r→(Instr.findAsking t (cq x) (e::es) n).run Γ.P w=r:=fun r hr'=>by
    simp only [Instr.findAsking,Sem.run_bind,hy,hr,Result.andThen_ok,hxy,decide_false,Bool.false_eq_true,if_false,hr']
   rcases gK g hk x hx es (n+1) (fun e he=>h e (by simp [he])) with ⟨h1,h2⟩ | ⟨j,e',h1,h2,h3⟩
   ·exact .inl ⟨hstep _ h1,fun e' he'=>by
     rcases List.mem_cons.1 he' with rfl | he'
     ·exact hne
     ·exact h2 e' he'⟩
   ·exact .inr ⟨j+1,e',by rw [hstep _ h1,show n+1+j=n+(j+1) by omega],by simpa using h2,h3⟩
theorem qf {t:TypeId} {i:TI} (g:get T t=some i) (hk:nQ i=true) (x:List Int) (hx:x.length=i.size) (es:List MapEntry) (h:∀ e∈es,∃ y:List Int,e.key=cq y∧y.length=i.size) :
  ((Instr.findKey t (cq x) es).run Γ.P w = .ok none w∧∀ e∈es,e.key≠cq x)∨∃ j e,(Instr.findKey t (cq x) es).run Γ.P w = .ok (some (j,e.val)) w∧es[j]?=some e∧e.key=cq x:=by
 have hk':=hk
 simp only [nQ,Bool.and_eq_true] at hk'
 obtain ⟨fs,hu,_⟩:=nj hT g hk'.1
 cases es with
 | nil=>exact .inl ⟨by simp [Instr.findKey,run_underlying hu,Instr.findNow],by simp⟩
 | cons e es=>
  have hn:Instr.findNow (.struct fs) (cq x) (e::es) 0=none:=by simp [Instr.findNow,Instr.sameNow]
  have he:∀ r,(Instr.findAsking t (cq x) (e::es) 0).run Γ.P w=r→(Instr.findKey t (cq x) (e::es)).run Γ.P w=r:=fun r hr=>by
   simp only [Instr.findKey,Sem.run_bind,run_underlying hu,Result.andThen_ok,hn,hr]
  rcases gK (w:=w) hT g hk x hx (e::es) 0 h with ⟨h1,h2⟩ | ⟨j,e',h1,h2,h3⟩
  ·exact .inl ⟨he _ h1,h2⟩
  ·exact .inr ⟨j,e',by rw [he _ h1,Nat.zero_add],h2,h3⟩
omit hT in
theorem sT (x:List Int):(Instr.keyThatStays (cq x) (cq x)).run Γ.P w = .ok (cq x) w:=by
 have hs:Instr.sameBits 10000 (cq x) (cq x)=true:=by
  show Instr.sameBits (9999+1) (.agg _) (.agg _)=true
  simp only [Instr.sameBits,beq_self_eq_true,Bool.true_and,List.all_eq_true]
  intro p hp
  obtain ⟨i,hi,e⟩:=List.getElem_of_mem hp
  rw [List.getElem_zip] at e
  rw [← e]
  simp [Instr.sameBits]
 simp [Instr.keyThatStays,hs]
end
def kvE (sk:Bool) (ks:List Int):Value:=bif sk then cq ks else (match ks with | n::_ => .int .i64 n | []=>Go.undef)
structure Ia (P:Program) (kt:TypeId) (sk:Bool) (n:Nat):Prop where
 find:∀ (w:World) (x:List Int),x.length=n→∀ es:List MapEntry,(∀ e∈es,∃ y:List Int,e.key=kvE sk y∧y.length=n) →
  ((Instr.findKey kt (kvE sk x) es).run P w = .ok none w∧∀ e∈es,e.key≠kvE sk x)∨∃ j e,(Instr.findKey kt (kvE sk x) es).run P w = .ok (some (j,e.val)) w∧es[j]?=some e∧e.key=kvE sk x
 check:∀ (w:World) (em:Bool) (x:List Int),x.length=n→(Instr.checkKey em 10000 kt (kvE sk x)).run P w = .ok () w
 stays:∀ (w:World) (x:List Int),x.length=n→(Instr.keyThatStays (kvE sk x) (kvE sk x)).run P w = .ok (kvE sk x) w
 inj:∀ x y:List Int,x.length=n→y.length=n→kvE sk x=kvE sk y→x=y
 pos:sk=false→n=1
theorem gj {x:List Int} (h:x.length=1):∃ n,x=[n]:=List.length_eq_one_iff.1 h
theorem u9 {P:Program} {kt:TypeId} (h2:P.underlying kt=some (.int .i64)) (w:World) (x:Int) (es:List MapEntry) (h:∀ e∈es,∃ y:Int,e.key = .int .i64 y) :
  ((Instr.findKey kt (.int .i64 x) es).run P w = .ok none w∧∀ e∈es,e.key≠.int .i64 x)∨∃ j e,(Instr.findKey kt (.int .i64 x) es).run P w = .ok (some (j,e.val)) w∧es[j]?=some e∧e.key = .int .i64 x:=by
 have key:∀ (es:List MapEntry) (n:Nat),(∀ e∈es,∃ y:Int,e.key = .int .i64 y)→(Instr.findNow (.int .i64) (.int .i64 x) es n=some none∧∀ e∈es,e.key≠.int .i64 x) ∨
   ∃ j e,Instr.findNow (.int .i64) (.int .i64 x) es n=some (some (n+j,e.val))∧es[j]?=some e∧e.key = .int .i64 x:=by
  intro es
  induction es with
  | nil=>intro n _; exact .inl ⟨rfl,by simp⟩
  | cons e r ih=>
   intro n h
   obtain ⟨y,hy⟩:=h e (by simp)
   by_cases hx:x=y
   ·refine .inr ⟨0,e,?_,rfl,by rw [hy,hx]⟩
    simp [Instr.findNow,Instr.sameNow,hy,hx]
   ·have hs:Instr.sameNow (.int .i64) (.int .i64 x) e.key=some false:=by simp [Instr.sameNow,hy,hx]
    rcases ih (n+1) (fun e he=>h e (by simp [he])) with ⟨h1,h2⟩ | ⟨j,e',h1,h2,h3⟩
    ·refine .inl ⟨by simp only [Instr.findNow,hs,h1],fun e' he=>?_⟩
     rcases List.mem_cons.1 he with rfl | he
     ·rw [hy]; intro hc; simp only [Value.int.injEq,true_and] at hc; exact hx hc.symm
     ·exact h2 e' he
    ·exact .inr ⟨j+1,e',by simp only [Instr.findNow,hs,h1]; rw [show n+1+j=n+(j+1) by omega],by simpa using h2,h3⟩
 rcases key es 0 h with ⟨h1,h3⟩ | ⟨j,e,h1,h3,h4⟩
 ·exact .inl ⟨by simp only [Instr.findKey,Sem.run_bind,run_underlying h2,Result.andThen_ok,h1,Sem.run_pure],h3⟩
 ·exact .inr ⟨j,e,by simp only [Instr.findKey,Sem.run_bind,run_underlying h2,Result.andThen_ok,h1,Sem.run_pure,Nat.zero_add],h3,h4⟩
theorem Hu {k:IntKind} (h:IA k=true):k = .i64:=by cases k <;> first | rfl | cases h
theorem rF {P:Program} {T:Tab} (hT:T.OK P) {kt:TypeId} {i:TI} {sk:Bool} {n:Nat} (g:get T kt=some i) (h:lE i=some (sk,n)):Ia P kt sk n:=by
 unfold lE at h
 cases h1:(Nat.beq i.kind 4&&IA i.ik) with
 | true=>
  rw [h1] at h
  cases h
  rw [Bool.and_eq_true] at h1
  have hu:P.underlying kt=some (.int .i64):=by rw [Bx hT g (Nat.eq_of_beq_eq_true h1.1),Hu h1.2]
  refine ⟨fun w x hx es he=>?_,fun w em x hx=>?_,fun w x hx=>?_,fun x y hx hy h=>?_,fun _=>rfl⟩
  ·obtain ⟨m,rfl⟩:=gj hx
   exact u9 hu w m es fun e he'=>by
    obtain ⟨y,h3,h4⟩:=he e he'
    obtain ⟨z,rfl⟩:=gj h4
    exact ⟨z,h3⟩
  ·obtain ⟨m,rfl⟩:=gj hx
   show (Instr.checkKey em (9999+1) kt (.int .i64 m)).run P w=_
   rw [Instr.checkKey]
   simp only [Sem.run_bind,run_underlying hu,Result.andThen_ok,Sem.run_pure]
  ·obtain ⟨m,rfl⟩:=gj hx
   show (Instr.keyThatStays (.int .i64 m) (.int .i64 m)).run P w=_
   have hs:Instr.sameBits 10000 (.int .i64 m) (.int .i64 m)=true:=by
    rw [show (10000:Nat)=9999+1 from rfl]
    simp [Instr.sameBits]
   simp [Instr.keyThatStays,hs,kvE]
  ·obtain ⟨m,rfl⟩:=gj hx
   obtain ⟨m',rfl⟩:=gj hy
   simp only [kvE,cond_false,Value.int.injEq,true_and] at h
   rw [h]
 | false=>
  rw [h1,cond_false] at h
  cases h2:nQ i with
  | false=>rw [h2] at h; cases h
  | true=>
   rw [h2] at h
   cases h
   have g2:∀ w:World,∃ Γ:aH,Γ.P=P:=fun w=>⟨⟨P,Fence.wide,0,w,⟨fun _ _=>none,fun _=>none⟩,0⟩,rfl⟩
   refine ⟨fun w x hx es he=>?_,fun w em x hx=>?_,fun w x _=>?_,fun x y _ _ h=>rE h.symm,fun h=>nomatch h⟩
   ·obtain ⟨Γ,rfl⟩:=g2 w
    exact qf (w:=w) hT g h2 x hx es he
   ·obtain ⟨Γ,rfl⟩:=g2 w
    exact sW (w:=w) hT g h2 x hx em
   ·obtain ⟨Γ,rfl⟩:=g2 w
    exact sT (Γ:=Γ) (w:=w) x
section
variable {P:Program} {w:World}
theorem nv {mt kt et:TypeId} {sk:Bool} {n:Nat} (hK:Ia P kt sk n) (hm:P.underlying mt=some (.map kt et)) (x:List Int) (hx:x.length=n) {b:Nat} {es:Array MapEntry} {clock:Nat} (v:Value) (hb:w.heap[b]?=some (.map es clock))
  (h:∀ e∈es.toList,∃ y:List Int,e.key=kvE sk y∧y.length=n) :
  ((Instr.mapUpdate mt (.map (some b)) (kvE sk x) v).run P w = .ok () (w.putObj b (.map (es.push ⟨kvE sk x,v,clock⟩) (clock+1)))∧∀ e∈es.toList,e.key≠kvE sk x) ∨
  ∃ j e,(Instr.mapUpdate mt (.map (some b)) (kvE sk x) v).run P w = .ok () (w.putObj b (.map (es.modify j fun e=>{ e with key:=kvE sk x,val:=v }) clock))∧es[j]?=some e∧e.key=kvE sk x:=by
 rcases hK.find w x hx es.toList h with ⟨h1,h2⟩ | ⟨j,e,h1,h2,h3⟩
 ·refine .inl ⟨?_,h2⟩
  simp only [Instr.mapUpdate,Sem.run_bind,run_underlying hm,Result.andThen_ok,MapKept.run_getObj_map hb,hK.check w false x hx,h1,MapKept.run_setObj_map _ hb]
  rfl
 ·refine .inr ⟨j,e,?_,by simpa using h2,h3⟩
  have h2':es[j]?=some e:=by simpa using h2
  simp only [Instr.mapUpdate,Sem.run_bind,run_underlying hm,Result.andThen_ok,MapKept.run_getObj_map hb,hK.check w false x hx,h1,h2',Option.map_some,Option.getD_some,h3,hK.stays w x hx,MapKept.run_setObj_map _ hb]
  rfl
end
end Go.AI
namespace Go.AI
open Go
section
variable {Γ:aH} {T:Tab} (hT:T.OK Γ.P) {C:FuncId→List AV→AV→Prop} {bx:List (Nat×List AV)} {e:Operand→AV} {K:AV→Prop} {o:Oper} {a:Act} {w:World} {c:Ctx} {ty:TypeId}
theorem Ie {x:Operand} (h:opV T C bx e ty (.move x) K) (ho:o.op = .move x) (hE:RC c (e x) (a.eval x)):cQ Γ c a w o K:=
 ⟨_,_,by simp only [execOp,ho]; rfl,hE,h⟩
theorem Ed {x:Operand} (h:opV T C bx e ty (.assign x) K) (ho:o.op = .assign x) (hE:RC c (e x) (a.eval x)):cQ Γ c a w o K:=
 ⟨_,_,by simp only [execOp,ho]; rfl,hE,h⟩
theorem Ic {x y z:Operand} (h:opV T C bx e ty (.pick x y z) K) (ho:o.op = .pick x y z) (hx:RC c (e x) (a.eval x)) (hy:RC c (e y) (a.eval y)) (hz:RC c (e z) (a.eval z)):cQ Γ c a w o K:=by
 unfold opV at h
 simp only at h
 split at h
 ·rename_i t ht
  rw [ht] at hx
  cases t with
  | true=>exact ⟨a.eval y,_,by simp [execOp,ho,hx.bool,asBool],hy,h⟩
  | false=>exact ⟨a.eval z,_,by simp [execOp,ho,hx.bool,asBool],hz,h⟩
 ·exact h.elim
include hT in
theorem GY {op:BinOp} {t t':TypeId} {x y:Operand} (h:opV T C bx e ty (.binOp op t x y t') K) (ho:o.op = .binOp op t x y t') (hx:RC c (e x) (a.eval x)) (hy:RC c (e y) (a.eval y)):cQ Γ c a w o K:=by
 obtain ⟨r,z,h1,h2,h3⟩:=FL hT (p:=x) (q:=y) (w:=w) (show vj T op t (e x) (e y) K from h) hx hy
 refine ⟨r,z,?_,h2,h3⟩
 simp only [execOp,ho,Sem.run_bind] at h1 ⊢
 rw [h1]; rfl
theorem Ib {op:UnOp} {t:TypeId} {x:Operand} (h:opV T C bx e ty (.unOp op t x) K) (ho:o.op = .unOp op t x) (hx:RC c (e x) (a.eval x)):cQ Γ c a w o K:=by
 obtain ⟨r,z,h1,h2,h3⟩:=G4 (Γ:=Γ) (w:=w) (show unW op (e x) K from h) hx
 exact ⟨r,z,by simp only [execOp,ho,Sem.run_bind,h1]; rfl,h2,h3⟩
theorem RD.pin_ref {m:Mem} {k b off:Nat} {cs:List AV} {v:Value} (h:RD m (.pin k b off cs) v):v = .pointer (some ⟨b,off,none⟩)∧RD m (.ref cs) (.pointer (some ⟨b,off,none⟩)):=by
 cases h with | pin _ _ _ _ hc g hm hr=>exact ⟨rfl,.ref _ _ _ hc g hm hr⟩
theorem RD.ref_pin {m:Mem} {b off:Nat} {cs:List AV} (k:Nat) (h:RD m (.ref cs) (.pointer (some ⟨b,off,none⟩))):RD m (.pin k b off cs) (.pointer (some ⟨b,off,none⟩)):=by
 cases h with | ref _ _ _ hc g hm hr=>exact .pin _ _ _ _ hc g hm hr
include hT in
theorem If {t:TypeId} {x:Operand} (hW:WI Γ c bx w) (h:opV T C bx e ty (.load t x) K) (ho:o.op = .load t x) (hx:RC c (e x) (a.eval x)):cQ Γ c a w o K:=by
 unfold opV at h
 simp only at h
 split at h
 ·exact h.elim
 ·rename_i i hi
  split at h
  ·rename_i d off hl
   split at h
   ·rename_i cs hcs
    split at h
    ·rename_i v hv
     rw [hl] at hx
     obtain ⟨vals,g1,g2,g3,g4⟩:=uk hW hcs off
     obtain ⟨u,hu1,hu2⟩:=eF hT hi g1 g2 g3 g4 hv
     refine ⟨u,v,?_,hu2,h⟩
     simp only [execOp,ho,hx.loc,Sem.run_bind,Instr.loadAt,Instr.sureAddr,Sem.run_pure,Result.andThen_ok,hu1]
    ·exact h.elim
   ·exact h.elim
  ·rename_i cs hl
   split at h
   ·rename_i v hv
    rw [hl] at hx
    have hx':RD c.m (.ref cs) (a.eval x):=hx
    have hx'':=hx'
    generalize hav:a.eval x=av at hx' hx''
    cases hx' with
    | ref _ b off hc g hm hr=>
     obtain ⟨vals,g1,g2,g3,g4⟩:=oO hW.sub hx''
     obtain ⟨u,hu1,hu2⟩:=eF hT hi g1 g2 g3 g4 hv
     refine ⟨u,v,?_,hu2,h⟩
     simp only [execOp,ho,hav,Sem.run_bind,Instr.loadAt,Instr.sureAddr,Sem.run_pure,Result.andThen_ok,hu1]
   ·exact h.elim
  ·rename_i k b off cs hl
   split at h
   ·rename_i v hv
    rw [hl] at hx
    obtain ⟨hav,hx''⟩:=RD.pin_ref (show RD c.m (.pin k b off cs) (a.eval x) from hx)
    obtain ⟨vals,g1,g2,g3,g4⟩:=oO hW.sub hx''
    obtain ⟨u,hu1,hu2⟩:=eF hT hi g1 g2 g3 g4 hv
    refine ⟨u,v,?_,hu2,h⟩
    simp only [execOp,ho,hav,Sem.run_bind,Instr.loadAt,Instr.sureAddr,Sem.run_pure,Result.andThen_ok,hu1]
   ·exact h.elim
  ·exact h.elim
theorem zY {x:Operand} (h:opV T C bx e ty (.nilCheck x) K) (ho:o.op = .nilCheck x) (hx:RC c (e x) (a.eval x)):cQ Γ c a w o K:=by
 unfold opV at h
 simp only at h
 split at h
 ·rename_i d off hl
  rw [hl] at hx
  refine ⟨_,_,?_,hx,h⟩
  simp only [execOp,ho,hx.loc,Sem.run_pure,Result.andThen_ok]
 ·rename_i cs hl
  rw [hl] at hx
  have hx':RD c.m (.ref cs) (a.eval x):=hx
  obtain ⟨b,off',hv⟩:∃ b off,a.eval x = .pointer (some ⟨b,off,none⟩):=by
   generalize a.eval x=v at hx'
   cases hx' with | ref _ b off=>exact ⟨b,off,rfl⟩
  refine ⟨_,_,?_,hx,h⟩
  simp only [execOp,ho,hv,Sem.run_pure,Result.andThen_ok]
 ·rename_i k b off cs hl
  rw [hl] at hx
  obtain ⟨hv,_⟩:=RD.pin_ref (show RD c.m (.pin k b off cs) (a.eval x) from hx)
  refine ⟨_,_,?_,hx,h⟩
  simp only [execOp,ho,hv,Sem.run_pure,Result.andThen_ok]
 ·exact h.elim
theorem RD.ref_inv {m:Mem} {cs:List AV} {v:Value} (h:RD m (.ref cs) v):∃ b off,v = .pointer (some ⟨b,off,none⟩):=by
 cases h with | ref _ b off=>exact ⟨b,off,rfl⟩
theorem RD.ref_drop {m:Mem} {cs:List AV} {b off:Nat} (h:RD m (.ref cs) (.pointer (some ⟨b,off,none⟩))) (k:Nat):RD m (.ref (cs.drop k)) (.pointer (some ⟨b,off+k,none⟩)):=by
 cases h with
 | ref _ _ _ hc g hm hr=>
  refine .ref _ _ _ (fun x hx=>hc x (List.mem_of_mem_drop hx)) (fun i=>g (k+i)) (fun i x hi=>?_) (fun i x hi=>?_)
  ·rw [List.getElem?_drop] at hi
   rw [Nat.add_assoc]
   exact hm _ x hi
  ·rw [List.getElem?_drop] at hi
   exact hr _ x hi
include hT in
theorem eT {ft:TypeId} {j:TI} (hj:get T ft=some j) (hj0:Nat.beq j.size 0=false) {f:Field} (hf:f.type=ft) (b off:Nat):(fieldPlace ⟨b,off,none⟩ f).run Γ.P w = .ok ⟨b,off+f.offset,none⟩ w:=by
 have hne:j.size≠0:=fun h=>by rw [h] at hj0; cases hj0
 simp only [fieldPlace,hf,Sem.run_bind,bF hT hj,Result.andThen_ok,if_neg hne,Sem.run_pure,cG]
include hT in
theorem wM {t:TypeId} {x:Operand} {f:Nat} (h:opV T C bx e ty (.fieldAddr t x f) K) (ho:o.op = .fieldAddr t x f) (hx:RC c (e x) (a.eval x)):cQ Γ c a w o K:=by
 unfold opV at h
 simp only at h
 split at h
 ·exact h.elim
 rename_i i hi
 cases hk:Nat.beq i.kind 1 with
 | false=>rw [hk] at h; exact h.elim
 | true=>
  rw [hk] at h
  simp only [cond_true] at h
  obtain ⟨fs,hu,hfl⟩:=jz hT hi (Nat.eq_of_beq_eq_true hk)
  split at h
  ·exact h.elim
  rename_i off ft hn
  rw [d6,hfl,List.getElem?_map] at hn
  obtain ⟨fd,hfd,hfd2⟩:=Option.map_eq_some_iff.1 hn
  simp only [Prod.mk.injEq] at hfd2
  obtain ⟨rfl,rfl⟩:=hfd2
  have hfd':fs[f]?=some fd:=by simpa using hfd
  split at h
  ·exact h.elim
  rename_i j hj
  cases hj0:Nat.beq j.size 0 with
  | true=>rw [hj0] at h; exact h.elim
  | false=>
   rw [hj0] at h
   simp only [cond_false] at h
   split at h
   ·rename_i d off' hl
    rw [hl] at hx
    refine ⟨.pointer (some ⟨c.ρ d,off'+fd.offset,none⟩),.loc d (off'+fd.offset),?_,rfl,h⟩
    simp only [execOp,ho,hx.loc,Instr.fieldAt,Sem.run_bind,run_underlying hu,Result.andThen_ok,hfd',Instr.sureAddr,Sem.run_pure,eT hT hj hj0 rfl]
   ·rename_i cs hl
    rw [hl] at hx
    have hx':RD c.m (.ref cs) (a.eval x):=hx
    obtain ⟨b,off',hv⟩:=hx'.ref_inv
    rw [hv] at hx'
    refine ⟨.pointer (some ⟨b,off'+fd.offset,none⟩),.ref (cs.drop fd.offset),?_,hx'.ref_drop fd.offset,h⟩
    simp only [execOp,ho,hv,Instr.fieldAt,Sem.run_bind,run_underlying hu,Result.andThen_ok,hfd',Instr.sureAddr,Sem.run_pure,eT hT hj hj0 rfl]
   ·rename_i k b off' cs hl
    rw [hl] at hx
    obtain ⟨hv,hx'⟩:=RD.pin_ref (show RD c.m (.pin k b off' cs) (a.eval x) from hx)
    refine ⟨.pointer (some ⟨b,off'+fd.offset,none⟩),.pin k b (off'+fd.offset) (cs.drop fd.offset),?_,(hx'.ref_drop fd.offset).ref_pin k,h⟩
    simp only [execOp,ho,hv,Instr.fieldAt,Sem.run_bind,run_underlying hu,Result.andThen_ok,hfd',Instr.sureAddr,Sem.run_pure,eT hT hj hj0 rfl]
   ·exact h.elim
include hT in
theorem xh {t:TypeId} {i:TI} (g:get T t=some i) {vs:Array Value} {cs:List AV} {off:Nat} (hl:cs.length=vs.size) (hc:∀ x∈cs,x.isCell=true) (hr:∀ (i:Nat) (x:AV) (u:Value),cs[i]?=some x→vs[i]?=some u→RC1 c x u)
  (hb:off+i.size≤cs.length) {x:AV} (h:dz i (cs.drop off)=some x):∃ v,(part t vs off).run Γ.P w = .ok v w∧RC c x v:=by
 unfold dz at h
 have ha:=By hT g w
 cases hk:(Nat.beq i.kind 1||Nat.beq i.kind 2) with
 | true=>
  rw [hk] at h ha
  simp only [cond_true] at h
  cases hs:Nat.ble i.size (cs.drop off).length with
  | false=>rw [hs] at h; cases h
  | true=>
   rw [hs] at h
   simp only [cond_true,Option.some.injEq] at h
   refine ⟨.agg (vs.extract off (off+i.size)),by simp only [part,Sem.run_bind,ha,Result.andThen_ok,if_true,bF hT g,Sem.run_pure],?_⟩
   subst h
   refine ⟨_,rfl,by simp; omega,fun y hy=>hc y (List.mem_of_mem_drop (List.mem_of_mem_take hy)),fun j y u h1 h2=>?_⟩
   rw [List.getElem?_take] at h1
   split at h1
   ·rename_i hj
    rw [List.getElem?_drop] at h1
    rw [Array.getElem?_extract] at h2
    split at h2
    ·exact hr _ y u h1 h2
    ·cases h2
   ·cases h1
 | false=>
  rw [hk] at h ha
  simp only [cond_false] at h
  split at h
  ·rename_i y ys hd
   simp only [Option.some.injEq] at h
   subst h
   have h0:cs[off]?=some y:=by
    have:=congrArg (fun l=>l[0]?) hd
    simpa [List.getElem?_drop] using this
   have hlt:off<vs.size:=by have:=(List.getElem?_eq_some_iff.1 h0).1; omega
   refine ⟨vs[off],by simp only [part,Sem.run_bind,ha,Result.andThen_ok,Bool.false_eq_true,if_false,Array.getElem?_eq_getElem hlt,Sem.run_pure],?_⟩
   have h1:=hr off y _ h0 (Array.getElem?_eq_getElem hlt)
   refine (RC.iff ?_).2 h1
   rintro ds rfl
   exact absurd (hc _ (List.mem_of_getElem? h0)) (by simp [AV.isCell])
  ·cases h
include hT in
theorem GW {t:TypeId} {x:Operand} {f:Nat} (h:opV T C bx e ty (.field t x f) K) (ho:o.op = .field t x f) (hx:RC c (e x) (a.eval x)):cQ Γ c a w o K:=by
 unfold opV at h
 simp only at h
 split at h
 ·exact h.elim
 rename_i i hi
 cases hk:Nat.beq i.kind 1 with
 | false=>rw [hk] at h; exact h.elim
 | true=>
  rw [hk] at h
  simp only [cond_true] at h
  obtain ⟨fs,hu,hfl⟩:=jz hT hi (Nat.eq_of_beq_eq_true hk)
  split at h
  ·exact h.elim
  rename_i off ft hn
  rw [d6,hfl,List.getElem?_map] at hn
  obtain ⟨fd,hfd,hfd2⟩:=Option.map_eq_some_iff.1 hn
  simp only [Prod.mk.injEq] at hfd2
  obtain ⟨rfl,rfl⟩:=hfd2
  have hfd':fs[f]?=some fd:=by simpa using hfd
  split at h
  ·exact h.elim
  rename_i j hj
  split at h
  ·rename_i cs hl
   cases hb:Nat.ble (fd.offset+j.size) cs.length with
   | false=>rw [hb] at h; exact h.elim
   | true=>
    rw [hb] at h
    simp only [cond_true] at h
    split at h
    ·rename_i v hv
     rw [hl] at hx
     obtain ⟨vs,hvs,q1,q2,q3⟩:=hx
     obtain ⟨u,hu1,hu2⟩:=xh hT (w:=w) hj q1 q2 q3 (Nat.le_of_ble_eq_true hb) hv
     refine ⟨u,v,?_,hu2,h⟩
     simp only [execOp,ho,hvs,Instr.field,Sem.run_bind,run_underlying hu,Result.andThen_ok,hfd',asAgg,Sem.run_pure,hu1]
    ·exact h.elim
  ·exact h.elim
end
end Go.AI
namespace Go.AI
open Go
section
variable {Γ:aH} {T:Tab} (hT:T.OK Γ.P) {C:FuncId→List AV→AV→Prop} {bx:List (Nat×List AV)} {e:Operand→AV} {K:AV→Prop} {o:Oper} {a:Act} {w:World} {c:Ctx} {ty:TypeId}
theorem gC {size sz:Nat} {xs:List (List AV)} {K:Prop} (h:szOK size sz xs K):K∧(size=sz∨xs=[]):=by
 unfold szOK at h
 cases hb:Nat.beq size sz with
 | true=>rw [hb] at h; exact ⟨h,.inl (Nat.eq_of_beq_eq_true hb)⟩
 | false=>
  rw [hb] at h
  cases xs with
  | nil=>exact ⟨h,.inr rfl⟩
  | cons x r=>exact h.elim
theorem RD.elem {m:Mem} {o:Own} {sz:Nat} {xs:List (List AV)} {v:Value} (h:RD m (.sl o sz xs) v):∃ base len cap,v = .slice base len cap∧xs.length=len ∧
  ∀ i cs,xs[i]?=some cs→∃ b off,base=some ⟨b,off,none⟩∧RD m (.ref cs) (.pointer (some ⟨b,off+i*sz,none⟩)):=by
 cases h with
 | sl _ _ _ base len cap ho hf hl hc hsz hcell b off hb g hm hr=>
  refine ⟨base,len,cap,rfl,hl,fun i cs hi=>⟨b,off,hb (by have:=(List.getElem?_eq_some_iff.1 hi).1; omega),?_⟩⟩
  exact .ref cs _ _ (fun x hx=>hcell cs (List.mem_of_getElem? hi) x hx) (fun j=>g i j) (fun j x hj=>hm i cs j x hi hj) (fun j x hj=>hr i cs j x hi hj)
include hT in
theorem wL {t:TypeId} {x y:Operand} (h:opV T C bx e ty (.indexAddr t x y) K) (ho:o.op = .indexAddr t x y) (hx:RC c (e x) (a.eval x)) (hy:RC c (e y) (a.eval y)):cQ Γ c a w o K:=by
 unfold opV at h
 simp only at h
 split at h
 ·exact h.elim
 rename_i i hi
 split at h
 ·exact h.elim
 rename_i j hj
 split at h
 ·rename_i k n hn
  rw [hn] at hy
  split at h
  ·rename_i ow sz xs hxs
   rw [hxs] at hx
   cases hk:Nat.beq i.kind 3 with
   | false=>rw [hk] at h; exact h.elim
   | true=>
    rw [hk] at h
    simp only [cond_true] at h
    have hu:=bK hT hi (Nat.eq_of_beq_eq_true hk)
    obtain ⟨⟨h0,cs,hcs,h⟩,hsz⟩:=gC h
    have hx':RD c.m (.sl .no sz xs) (a.eval x):=RC1.sl_no ((RC.iff (by intro cs hc; cases hc)).1 hx)
    obtain ⟨base,len,cap,hv,hlen,hel⟩:=hx'.elem
    obtain ⟨b,off,rfl,hr⟩:=hel n.toNat cs hcs
    have hlt:n.toNat<xs.length:=(List.getElem?_eq_some_iff.1 hcs).1
    have hsz':j.size=sz:=by
     rcases hsz with hsz | hsz
     ·exact hsz
     ·subst hsz; simp at hlt
    refine ⟨.pointer (some ⟨b,off+n.toNat*sz,none⟩),.ref cs,?_,hr,h⟩
    simp only [execOp,ho,hv,hy.int,Instr.indexAt,asIntOf,Sem.run_bind,Sem.run_pure,Result.andThen_ok,run_underlying hu]
    rw [if_pos ⟨h0,by omega⟩]
    simp only [Sem.run_bind,bF hT hj,Result.andThen_ok,Sem.run_pure,hsz',cG]
  ·rename_i d off hl
   rw [hl] at hx
   cases hk:Nat.beq i.kind 2 with
   | false=>rw [hk] at h; exact h.elim
   | true=>
    rw [hk] at h
    simp only [cond_true] at h
    have hu:=iX hT hi (Nat.eq_of_beq_eq_true hk)
    obtain ⟨h0,h1,h⟩:=h
    refine ⟨.pointer (some ⟨c.ρ d,off+n.toNat*j.size,none⟩),.loc d (off+n.toNat*j.size),?_,rfl,h⟩
    simp only [execOp,ho,hx.loc,hy.int,Instr.indexAt,asIntOf,Sem.run_bind,Sem.run_pure,Result.andThen_ok,run_underlying hu,Instr.sureAddr]
    rw [if_pos ⟨h0,h1⟩]
    simp only [Sem.run_bind,bF hT hj,Result.andThen_ok,Sem.run_pure,cG]
  ·rename_i cs hl
   rw [hl] at hx
   cases hk:Nat.beq i.kind 2 with
   | false=>rw [hk] at h; exact h.elim
   | true=>
    rw [hk] at h
    simp only [cond_true] at h
    have hu:=iX hT hi (Nat.eq_of_beq_eq_true hk)
    obtain ⟨h0,h1,h⟩:=h
    have hx':RD c.m (.ref cs) (a.eval x):=hx
    obtain ⟨b,off,hv⟩:=hx'.ref_inv
    rw [hv] at hx'
    refine ⟨.pointer (some ⟨b,off+n.toNat*j.size,none⟩),.ref (cs.drop (n.toNat*j.size)),?_,hx'.ref_drop _,h⟩
    simp only [execOp,ho,hv,hy.int,Instr.indexAt,asIntOf,Sem.run_bind,Sem.run_pure,Result.andThen_ok,run_underlying hu,Instr.sureAddr]
    rw [if_pos ⟨h0,h1⟩]
    simp only [Sem.run_bind,bF hT hj,Result.andThen_ok,Sem.run_pure,cG]
  ·exact h.elim
 ·exact h.elim
include hT in
theorem GV {t:TypeId} {x y:Operand} (h:opV T C bx e ty (.index t x y) K) (ho:o.op = .index t x y) (hx:RC c (e x) (a.eval x)) (hy:RC c (e y) (a.eval y)):cQ Γ c a w o K:=by
 unfold opV at h
 simp only at h
 split at h
 ·exact h.elim
 rename_i i hi
 split at h
 ·exact h.elim
 rename_i j hj
 split at h
 ·rename_i k n cs hn hcs
  rw [hn] at hy
  rw [hcs] at hx
  cases hk:Nat.beq i.kind 2 with
  | false=>rw [hk] at h; exact h.elim
  | true=>
   rw [hk] at h
   simp only [cond_true] at h
   have hu:=iX hT hi (Nat.eq_of_beq_eq_true hk)
   obtain ⟨h0,h1,h2,h⟩:=h
   split at h
   ·rename_i v hv
    obtain ⟨vs,hvs,q1,q2,q3⟩:=hx
    obtain ⟨u,hu1,hu2⟩:=xh hT (w:=w) hj q1 q2 q3 h2 hv
    refine ⟨u,v,?_,hu2,h⟩
    simp only [execOp,ho,hvs,hy.int,Instr.index,asIntOf,Sem.run_bind,Sem.run_pure,Result.andThen_ok,run_underlying hu]
    rw [if_pos ⟨h0,h1⟩]
    simp only [Sem.run_bind,bF hT hj,Result.andThen_ok,hu1]
   ·exact h.elim
 ·exact h.elim
theorem Cs {x:Operand} {n:Nat} (h:opV T C bx e ty (.extract x n) K) (ho:o.op = .extract x n) (hx:RC c (e x) (a.eval x)):cQ Γ c a w o K:=by
 unfold opV at h
 simp only at h
 split at h
 ·rename_i vs hvs
  rw [hvs] at hx
  split at h
  ·rename_i v hv
   have hx':RD c.m (.tup vs) (a.eval x):=hx
   rw [d6] at hv
   generalize hav:a.eval x=av at hx'
   cases hx' with
   | tup _ us hl hr=>
    have hlt:n<us.size:=by have:=(List.getElem?_eq_some_iff.1 hv).1; omega
    have hg:=Array.getElem?_eq_getElem hlt
    refine ⟨us[n],v,?_,RC.of_RD (hr n v _ hv hg),h⟩
    simp only [execOp,ho,hav,Instr.extract,hg,Sem.run_bind,Sem.run_pure,Result.andThen_ok]
  ·exact h.elim
 ·exact h.elim
include hT in
theorem Ct {s d:TypeId} {x:Operand} (h:opV T C bx e ty (.convert s d x) K) (ho:o.op = .convert s d x) (hx:RC c (e x) (a.eval x)):cQ Γ c a w o K:=by
 unfold opV at h
 simp only at h
 split at h
 ·rename_i i j hi hj
  split at h
  ·rename_i k n hn
   rw [hn] at hx
   cases hk:Nat.beq j.kind 4 with
   | false=>rw [hk] at h; exact h.elim
   | true=>
    rw [hk] at h
    simp only [cond_true] at h
    have hu:=Bx hT hj (Nat.eq_of_beq_eq_true hk)
    obtain ⟨j',d',_,hd',_⟩:=bH hT hi
    refine ⟨.int j.ik (j.ik.wrap n),_,?_,RC.of_int _ _,h⟩
    simp only [execOp,ho,hx.int,convert,Sem.run_bind,run_underlying hd',run_underlying hu,Result.andThen_ok]
    cases d' <;> simp [Conv.intToInt]
  ·exact h.elim
 ·exact h.elim
theorem pM {big:Bool} {k:IntKind}:∀ (cs:List AV) (us:List Value) (x z:Int),gp big k x cs=some z→cs.length=us.length→(∀ (i:Nat) (y:AV) (u:Value),cs[i]?=some y→us[i]?=some u→RC c y u) →
  (us.foldlM (if big then Builtin.max2 else Builtin.min2) (.int k x)).run Γ.P w = .ok (.int k z) w
 | [],us,x,z,h,hl,_=>by
  simp only [gp,Option.some.injEq] at h
  cases us with
  | nil=>simp [h]
  | cons _ _=>cases hl
 | y::r,us,x,z,h,hl,hr=>by
  cases us with
  | nil=>cases hl
  | cons u us=>
   cases y with
   | int k' n=>
    simp only [gp] at h
    have hu:=(hr 0 _ u rfl rfl).int
    subst hu
    have ih:=pM r us _ z h (by simpa using hl) (fun i y u h1 h2=>hr (i+1) y u h1 h2)
    cases big with
    | true=>
     simp only [if_true,cond_true,List.foldlM_cons,Sem.run_bind,Builtin.max2,Sem.run_pure,Result.andThen_ok] at ih ⊢
     rw [← ih]
     congr 3
     simp only [Int.max_def]; split <;> split <;> omega
    | false=>
     simp only [Bool.false_eq_true,if_false,cond_false,List.foldlM_cons,Sem.run_bind,Builtin.min2,Sem.run_pure,Result.andThen_ok] at ih ⊢
     rw [← ih]
     congr 3
     simp only [Int.min_def]; split <;> split <;> omega
   | _=>cases h
end
end Go.AI
namespace Go.AI
open Go
section
variable {Γ:aH} {T:Tab} (hT:T.OK Γ.P) {C:FuncId→List AV→AV→Prop} {bx:List (Nat×List AV)} {e:Operand→AV} {K:AV→Prop} {o:Oper} {a:Act} {w:World} {c:Ctx} {ty:TypeId}
theorem bT {b:Builtin} {args:Array Operand} {ts:Array TypeId} {t:TypeId}:(resolve a.eval { callee := .builtin b,args:=args,argTypes:=ts } t).run Γ.P w =
  .ok { target := .builtin b ts t (args.map fun | .const _=>true | _=>false),args:=args.map a.eval } w:=rfl
include hT in
theorem IN {args:Array Operand} {ts:Array TypeId} (h:opV T C bx e ty (.call { callee := .builtin .len,args:=args,argTypes:=ts }) K) (ho:o.op = .call { callee := .builtin .len,args:=args,argTypes:=ts })
  (hE:∀ x∈args.toList,RC c (e x) (a.eval x)):cQ Γ c a w o K:=by
 unfold opV at h
 simp only at h
 split at h
 ·rename_i x t hx ht
  obtain ⟨args⟩:=args
  obtain ⟨ts⟩:=ts
  simp only at hx ht
  subst hx
  subst ht
  have hx:=hE x (by simp)
  have hrun:∀ v u,(Builtin.len_ #[t] o.type #[a.eval x]).run Γ.P w = .ok v w→u=v→(execOp a.eval o).run Γ.P w = .ok (.value u) w:=by
   intro v u hv huv
   subst huv
   simp only [execOp,ho,Sem.run_bind,bT,Result.andThen_ok,invoke,builtin]
   simp only [List.map_toArray,List.map_cons,List.map_nil,hv,Result.andThen_ok,Sem.run_pure]
  split at h
  ·exact h.elim
  rename_i i hi
  have harr:∀ hk:Nat.beq i.kind 2=true,K (.int .i64 i.arr)→cQ Γ c a w o K:=by
   intro hk h
   have hu:=iX hT hi (Nat.eq_of_beq_eq_true hk)
   refine ⟨.int .i64 i.arr,_,hrun _ _ ?_ rfl,RC.of_int _ _,h⟩
   simp [Builtin.len_,run_underlying hu,goInt]
  split at h
  ·rename_i ow sz xs hxs
   rw [hxs] at hx
   cases hk:Nat.beq i.kind 3 with
   | false=>rw [hk] at h; exact h.elim
   | true=>
    rw [hk] at h
    have hu:=bK hT hi (Nat.eq_of_beq_eq_true hk)
    have hx':RD c.m (.sl .no sz xs) (a.eval x):=RC1.sl_no ((RC.iff (by intro cs hc; cases hc)).1 hx)
    obtain ⟨base,len,cap,hv,hlen,_⟩:=hx'.elem
    refine ⟨.int .i64 len,.int .i64 xs.length,hrun _ _ ?_ rfl,by rw [hlen]; exact RC.of_int _ _,h⟩
    rw [hv]
    simp [Builtin.len_,run_underlying hu,goInt]
  ·cases hk:Nat.beq i.kind 2 with
   | false=>rw [hk] at h; exact h.elim
   | true=>rw [hk] at h; exact harr hk h
 ·exact h.elim
theorem wK {big:Bool} {args:Array Operand} {ts:Array TypeId} (h:opV T C bx e ty (.call { callee := .builtin (if big then .max else .min),args:=args,argTypes:=ts }) K) (ho:o.op = .call { callee := .builtin (if big then .max else .min),args:=args,argTypes:=ts })
  (hE:∀ x∈args.toList,RC c (e x) (a.eval x)):cQ Γ c a w o K:=by
 obtain ⟨args⟩:=args
 simp only at hE
 have key:∀ (k:IntKind) (x:Int) (r:List AV),args.map e = .int k x::r→∀ z,gp big k x r=some z→K (.int k z)→cQ Γ c a w o K:=by
  intro k x r hl z hz hK
  clear h
  cases args with
  | nil=>cases hl
  | cons y ys=>
   simp only [List.map_cons,List.cons.injEq] at hl
   obtain ⟨hl1,hl2⟩:=hl
   have hy:=hE y (List.mem_cons_self ..)
   rw [hl1] at hy
   have hfold:=pM (Γ:=Γ) (w:=w) (c:=c) r (ys.map a.eval) x z hz (by rw [← hl2]; simp) (fun i q u h1 h2=>by
    rw [← hl2,List.getElem?_map] at h1
    rw [List.getElem?_map] at h2
    obtain ⟨p,hp,rfl⟩:=Option.map_eq_some_iff.1 h1
    rw [hp] at h2
    simp only [Option.map_some,Option.some.injEq] at h2
    subst h2
    exact hE p (List.mem_cons_of_mem _ (List.mem_of_getElem? hp)))
   refine ⟨.int k z,_,?_,RC.of_int _ _,hK⟩
   simp only [execOp,ho,Sem.run_bind,bT,Result.andThen_ok,invoke]
   cases big with
   | true=>
    simp only [if_true] at hfold ⊢
    simp only [builtin,Builtin.max_,List.map_toArray,List.map_cons,hy.int,Sem.run_bind,hfold,Result.andThen_ok,Sem.run_pure]
   | false=>
    simp only [Bool.false_eq_true,if_false] at hfold ⊢
    simp only [builtin,Builtin.min_,List.map_toArray,List.map_cons,hy.int,Sem.run_bind,hfold,Result.andThen_ok,Sem.run_pure]
 unfold opV at h
 cases big with
 | true=>
  simp only [if_true] at h
  split at h
  ·rename_i k x r hl
   split at h
   ·rename_i z hz; exact key k x r hl z hz h
   ·exact h.elim
  ·exact h.elim
 | false=>
  simp only [Bool.false_eq_true,if_false] at h
  split at h
  ·rename_i k x r hl
   split at h
   ·rename_i z hz; exact key k x r hl z hz h
   ·exact h.elim
  ·exact h.elim
theorem RD.part {m:Mem} {o:Own} {sz:Nat} {xs:List (List AV)} {base:Option Addr} {len cap:Nat} (h:RD m (.sl o sz xs) (.slice base len cap)) {l k mx:Nat} (hl:l≤k) (hk:k≤xs.length) (hm:k≤mx) (_hmx:mx≤cap)
  {o':Own} (ho':∀ j,o'≠.id j) (hf':o' = .full→mx=k) :
  RD m (.sl o' sz ((xs.take k).drop l)) (.slice (if mx=l then base else base.map (·.add (l*sz))) (k - l) (mx - l)):=by
 cases h with
 | sl _ _ _ _ _ _ ho hf hlen hc hsz hcell b off hb g hg hr=>
  have hmem:∀ i x,((xs.take k).drop l)[i]?=some x→xs[l+i]?=some x:=by
   intro i x hx
   rw [List.getElem?_drop,List.getElem?_take] at hx
   split at hx
   ·exact hx
   ·cases hx
  refine .sl _ _ _ _ _ _ ho' (fun h=>by rw [hf' h]) (by simp; omega) (by omega) (fun x hx=>?_) (fun x hx=>?_) b (off+l*sz) (fun h0=>?_) (fun i j=>g (l+i) j) (fun i x j y h1 h2=>?_) (fun i x j y h1 h2=>hr (l+i) x j y (hmem i x h1) h2)
  ·exact hsz x (List.mem_of_mem_take (List.mem_of_mem_drop hx))
  ·exact hcell x (List.mem_of_mem_take (List.mem_of_mem_drop hx))
  ·rw [if_neg (by omega),hb (by omega)]
   simp only [Option.map_some,cG]
  ·have:=hg (l+i) x j y (hmem i x h1) h2
   rw [← this]
   congr 1
   rw [Nat.add_mul]; omega
theorem pi {v:Value} {n:Int} {k:IntKind} (hv:v = .int k n) {y:Nat} {code:BoundsCode} (h0:0≤n) (h1:n.toNat≤y):(Instr.sliceBound v y code).run Γ.P w = .ok n.toNat w:=by
 subst hv
 simp only [Instr.sliceBound,asIntOf,Sem.run_bind,Sem.run_pure,Result.andThen_ok]
 rw [if_pos ⟨h0,by omega⟩]
 rfl
theorem pR {len cap l k:Nat} {lo hi:Option Value} (hk:match hi with | none=>k=len | some v=>∀ code,(Instr.sliceBound v cap code).run Γ.P w = .ok k w)
  (hl:match lo with | none=>l=0 | some v=>∀ code,(Instr.sliceBound v k code).run Γ.P w = .ok l w):(Instr.sliceBounds true len cap lo hi none).run Γ.P w = .ok (l,k,cap) w:=by
 cases hi with
 | none=>
  subst hk
  cases lo <;> simp only at hl <;> simp [Instr.sliceBounds,hl]
 | some v=>cases lo <;> simp only at hk hl <;> simp [Instr.sliceBounds,hk,hl]
theorem yu {len cap l k m:Nat} {lo:Option Value} {u v:Value} (hm:∀ code,(Instr.sliceBound v cap code).run Γ.P w = .ok m w) (hk:∀ code,(Instr.sliceBound u m code).run Γ.P w = .ok k w)
  (hl:match lo with | none=>l=0 | some v=>∀ code,(Instr.sliceBound v k code).run Γ.P w = .ok l w):(Instr.sliceBounds true len cap lo (some u) (some v)).run Γ.P w = .ok (l,k,m) w:=by
 cases lo <;> simp only at hl <;> simp [Instr.sliceBounds,hm,hk,hl]
include hT in
theorem GU {t:TypeId} {x:Operand} {lo hi mx:Option Operand} (h:opV T C bx e ty (.slice t x lo hi mx) K) (ho:o.op = .slice t x lo hi mx) (hx:RC c (e x) (a.eval x)) (hlo:∀ y,lo=some y→RC c (e y) (a.eval y))
  (hhi:∀ y,hi=some y→RC c (e y) (a.eval y)) (hmx:∀ y,mx=some y→RC c (e y) (a.eval y)):cQ Γ c a w o K:=by
 unfold opV at h
 simp only at h
 split at h
 ·exact h.elim
 rename_i i hi'
 split at h
 ·exact h.elim
 rename_i j hj
 split at h
 ·rename_i ow sz xs hxs
  rw [hxs] at hx
  cases hk:Nat.beq i.kind 3 with
  | false=>rw [hk] at h; exact h.elim
  | true=>
   rw [hk] at h
   simp only [cond_true] at h
   have hu:=bK hT hi' (Nat.eq_of_beq_eq_true hk)
   obtain ⟨h,hsz⟩:=gC h
   have hx':RD c.m (.sl .no sz xs) (a.eval x):=RC1.sl_no ((RC.iff (by intro cs hc; cases hc)).1 hx)
   have hx'':=hx'
   obtain ⟨base,len,cap,hv,hlen,_⟩:=hx'.elem
   rw [hv] at hx''
   have hcap:len≤cap:=by cases hx'' with | sl=>assumption
   -- the bounds
   have bnd:∀ (bo:Option Operand) (d:Nat) (K':Nat→Prop),(∀ y,bo=some y→RC c (e y) (a.eval y))→eI (bo.map e) d K' →
     ∃ n,K' n∧(∀ (y:Nat) (code:BoundsCode),n≤y→∀ v,bo.map a.eval=some v→(Instr.sliceBound v y code).run Γ.P w = .ok n w)∧(bo.map a.eval=none→n=d)∧(bo=none↔bo.map a.eval=none):=by
    intro bo d K' hr hb
    cases bo with
    | none=>exact ⟨d,hb,by simp,fun _=>rfl,by simp⟩
    | some y=>
     simp only [Option.map_some,eI] at hb
     split at hb
     ·cases ‹some (e y)=none›
     ·rename_i k n hy
      simp only [Option.some.injEq] at hy
      have:=hr y rfl
      rw [hy] at this
      refine ⟨n.toNat,hb.2,fun z code hz v hv=>?_,by simp,by simp⟩
      simp only [Option.map_some,Option.some.injEq] at hv
      exact pi (hv ▸ this.int) hb.1 hz
     ·exact hb.elim
   obtain ⟨l,h,hl1,hl2,_⟩:=bnd lo 0 _ hlo h
   obtain ⟨k,h,hk1,hk2,hk3⟩:=bnd hi xs.length _ hhi h
   have fin:∀ m:Nat,l≤k→k≤xs.length→k≤m→m≤cap→(Instr.sliceBounds true len cap (lo.map a.eval) (hi.map a.eval) (mx.map a.eval)).run Γ.P w = .ok (l,k,m) w →
     ∀ o',(∀ j,o'≠Own.id j)→(o' = .full→m=k)→K (.sl o' sz ((xs.take k).drop l))→cQ Γ c a w o K:=by
    intro m g1 g2 g3 g4 hrun o' ho1 ho2 hK
    have hp:=hx''.part g1 g2 g3 g4 ho1 ho2
    refine ⟨_,_,?_,RC.of_RD hp,hK⟩
    have hsize:(if m=l then base else base.map (·.add (l*j.size)))=(if m=l then base else base.map (·.add (l*sz))):=by
     rcases hsz with hsz | hsz
     ·rw [hsz]
     ·subst hsz
      simp at g2
      obtain rfl:k=0:=g2
      obtain rfl:l=0:=by omega
      simp
    simp only [execOp,ho,hv,Instr.sliceAt,Sem.run_bind,run_underlying hu,Result.andThen_ok,Instr.slice,hrun,bF hT hj,Sem.run_pure,hsize]
   split at h
   ·rename_i hm
    obtain ⟨g1,g2,hK⟩:=h
    have hmn:mx=none:=by cases mx <;> simp at hm ⊢
    subst hmn
    refine fin cap g1 g2 (by omega) (Nat.le_refl _) ?_ .no (by intro j hj; cases hj) (by intro hh; cases hh) hK
    refine pR ?_ ?_
    ·cases hi with
     | none=>exact (hk2 rfl).trans hlen
     | some z=>exact fun code=>hk1 _ code (by omega) _ rfl
    ·cases lo with
     | none=>exact hl2 rfl
     | some y=>exact fun code=>hl1 _ code g1 _ rfl
   ·rename_i km m hm
    cases hi with
    | none=>exact h.elim
    | some z=>
    simp only [Option.isSome_some,cond_true] at h
    obtain ⟨g1,g2,g3,hK⟩:=h
    cases mx with
    | none=>cases hm
    | some q=>
     simp only [Option.map_some,Option.some.injEq] at hm
     have hq:=hmx q rfl
     rw [hm] at hq
     have hmk:m.toNat=k:=by omega
     refine fin k g1 g2 (Nat.le_refl _) (by omega) ?_ .full (by intro j hj; cases hj) (fun _=>rfl) hK
     refine yu (fun code=>?_) (fun code=>hk1 _ code (Nat.le_refl k) _ rfl) ?_
     ·have:=pi (Γ:=Γ) (w:=w) (code:=code) hq.int (by omega) (show m.toNat≤cap by omega)
      rw [hmk] at this
      exact this
     ·cases lo with
      | none=>exact hl2 rfl
      | some y=>exact fun code=>hl1 _ code g1 _ rfl
   ·exact h.elim
 ·exact h.elim
end
end Go.AI
namespace Go.AI
open Go
section
variable {Γ:aH} {T:Tab} (hT:T.OK Γ.P) {C:FuncId→List AV→AV→Prop} {bx:List (Nat×List AV)} {e:Operand→AV} {K:AV→Prop} {o:Oper} {a:Act} {w:World} {c:Ctx} {ty:TypeId}
theorem RD.cst (m:Mem) (v:Value):RD m (cst v) v:=by
 unfold AI.cst
 split
 ·exact .int _ _
 ·exact .bool _
 ·exact .str _
 ·exact .lit _ rfl rfl
 ·exact .lit _ rfl rfl
 ·exact .lit _ rfl rfl
 ·exact .lit _ rfl rfl
 ·exact .sl .full 0 [] none 0 0 (by intro k hk; cases hk) (fun _=>rfl) rfl (Nat.le_refl _) (by simp) (by simp) 0 0 (by omega) (fun _ _=>Go.undef) (by simp) (by simp)
 ·exact .junk _
def gc (c:Ctx) (cs:List AV) (vs:Array Value):Prop:=cs.length=vs.size∧∀ (i:Nat) (x:AV) (u:Value),cs[i]?=some x→vs[i]?=some u→RC1 c x u
theorem cR {α:Type}:∀ (l:List α) (n:Nat) (v:α) (i:Nat),(bB l n v)[i]?=if n=i∧i<l.length then some v else l[i]?
 | [],n,v,i=>by simp [bB]
 | x::r,0,v,i=>by cases i <;> simp [bB]
 | x::r,n+1,v,i=>by
  cases i with
  | zero=>simp [bB]
  | succ i=>simp only [bB,List.getElem?_cons_succ,cR r n v i,List.length_cons]; congr 1; simp
theorem nu {α:Type}:∀ (l:List α) (n:Nat) (v:α),(bB l n v).length=l.length
 | [],n,v=>by simp [bB]
 | x::r,0,v=>by simp [bB]
 | x::r,n+1,v=>by simp [bB,nu r n v]
theorem gc.set {cs:List AV} {vs:Array Value} (h:gc c cs vs) {x:AV} {u:Value} (hx:RC1 c x u) (n:Nat):gc c (bB cs n x) (vs.setIfInBounds n u):=by
 refine ⟨by simp [nu,h.1],fun i y q h1 h2=>?_⟩
 rw [cR] at h1
 rw [Array.getElem?_setIfInBounds] at h2
 by_cases hn:n=i
 ·subst hn
  by_cases hl:n<cs.length
  ·rw [if_pos ⟨rfl,hl⟩] at h1
   rw [if_pos rfl,if_pos (by have:=h.1; omega)] at h2
   cases h1; cases h2; exact hx
  ·rw [if_neg (fun hh=>hl hh.2)] at h1
   rw [List.getElem?_eq_none (by omega)] at h1
   cases h1
 ·rw [if_neg (fun hh=>hn hh.1)] at h1
  rw [if_neg hn] at h2
  exact h.2 i y q h1 h2
theorem gc.setMany:∀ {ds:List AV} {us:List Value} {cs:List AV} {vs:Array Value} (_:gc c cs vs) (_:ds.length=us.length) (_:∀ (i:Nat) (x:AV) (u:Value),ds[i]?=some x→us[i]?=some u→RC1 c x u) (off:Nat),
  gc c (setMany cs off ds) ((us.zipIdx.foldl (fun cs (c,j)=>cs.setIfInBounds (off+j) c) vs))
 | [],us,cs,vs,h,hl,_,off=>by
  cases us with
  | nil=>exact h
  | cons _ _=>cases hl
 | d::ds,us,cs,vs,h,hl,hr,off=>by
  cases us with
  | nil=>cases hl
  | cons u us=>
   have h1:=h.set (hr 0 d u rfl rfl) off
   have ih:=gc.setMany (ds:=ds) (us:=us) h1 (by simpa using hl) (fun i x u g1 g2=>hr (i+1) x u g1 g2) (off+1)
   simp only [AI.setMany,List.zipIdx_cons,List.foldl_cons,Nat.add_zero,Nat.zero_add]
   rw [List.zipIdx_eq_map_add]
   rw [List.foldl_map]
   have:(fun (x:Array Value) (y:Value×Nat)=>x.setIfInBounds (off+(1+y.2)) y.1)=fun x y=>x.setIfInBounds (off+1+y.2) y.1:=by funext x y; rw [Nat.add_assoc]
   simp only [this]
   exact ih
theorem RC.cells0 {x:AV} {v:Value} {cs:List AV} (h:RC c x v) (hc:x.cells?=some cs):gc c cs v.cells:=by
 cases x with
 | agg ds=>
  simp only [AV.cells?,Option.some.injEq] at hc
  subst hc
  obtain ⟨vs,rfl,h2,h3,h4⟩:=h
  exact ⟨h2,h4⟩
 | junk=>cases hc
 | undef=>cases hc
 | tup vs=>cases hc
 | loc d off=>cases hc
 | me g k n xs=>cases hc
 | int _ _ | bool _ | str _ | lit _ | fn _ | clo _ _ | sl _ _ _ | ref _ | mapv _ | pin _ _ _ _=>
  exact RC.cells h hc (by simp only [AV.cells?,Option.some.injEq] at hc; subst hc; simp [AV.isCell])
theorem m6 {place place':Nat→Option (Nat×Nat)} (hp:∀ n q,place n=some q→place' n=some q):∀ {ps:List (Nat×AV)} {us:List (Nat×Value)} {cs:List AV} {vs:Array Value} (_:gc c cs vs) (_:ps.length=us.length)
  (_:∀ (i:Nat) (p:Nat×AV) (u:Nat×Value),ps[i]?=some p→us[i]?=some u→p.1=u.1∧RC c p.2 u.2) {r:List AV},fill place cs ps=some r→∃ vr,Instr.fill place' vs us=some vr∧gc c r vr
 | [],us,cs,vs,h,hl,_,r,hr=>by
  simp only [fill,Option.some.injEq] at hr
  subst hr
  cases us with
  | nil=>exact ⟨vs,rfl,h⟩
  | cons _ _=>cases hl
 |(n,x)::ps,us,cs,vs,h,hl,hR,r,hr=>by
  cases us with
  | nil=>cases hl
  | cons u us=>
   obtain ⟨n',u⟩:=u
   have h0:=hR 0 (n,x) (n',u) rfl rfl
   simp only at h0
   obtain ⟨rfl,hx⟩:=h0
   simp only [fill] at hr
   split at hr
   ·cases hr
   rename_i off size hpl
   split at hr
   ·cases hr
   rename_i ds hds
   cases hb:Nat.beq ds.length size&&Nat.ble (off+size) cs.length with
   | false=>rw [hb] at hr; cases hr
   | true=>
    rw [hb] at hr
    simp only [cond_true] at hr
    simp only [Bool.and_eq_true] at hb
    have hb1:=Nat.eq_of_beq_eq_true hb.1
    have hb2:=Nat.le_of_ble_eq_true hb.2
    have hc:=hx.cells0 hds
    have h1:=h.setMany (ds:=ds) (us:=u.cells.toList) (by simpa using hc.1) (fun i x q g1 g2=>hc.2 i x q g1 (by simpa using g2)) off
    obtain ⟨vr,g1,g2⟩:=m6 hp (us:=us) h1 (by simpa using hl) (fun i p u q1 q2=>hR (i+1) p u q1 q2) hr
    refine ⟨vr,?_,g2⟩
    simp only [Instr.fill,hp _ _ hpl]
    rw [if_neg (by simp only [ne_eq,Bool.or_eq_true,decide_eq_true_eq,not_or]; have:=h.1; have:=hc.1; constructor <;> omega)]
    rw [← g1]
    congr 1
    rw [← Array.foldl_toList]
    simp [Array.toList_zipIdx]
theorem l9 {α β:Type} {P:Program} (f:α→Sem β) (g:α→β) (w:World):∀ (xs:List α),(∀ x∈xs,(f x).run P w = .ok (g x) w)→(xs.mapM f).run P w = .ok (xs.map g) w
 | [],_=>by simp
 | x::xs,h=>by
  have h0:=h x (List.mem_cons_self ..)
  have ih:=l9 f g w xs (fun y hy=>h y (List.mem_cons_of_mem _ hy))
  simp only [List.mapM_cons,Sem.run_bind,h0,Result.andThen_ok,ih,Sem.run_pure,List.map_cons]
include hT in
theorem qL {t:TypeId} {i:TI} (g:get T t=some i) {cs:List AV} (hz:i.zero.cells?=some cs):∃ z,(zeroValue t).run Γ.P w = .ok z w∧gc c cs z.cells∧(i.zero = .agg cs→∃ vs,z = .agg vs):=by
 obtain ⟨j,d,h1,h2,h3⟩:=bH hT g
 simp only [TI.of,h1,h2,Option.some.injEq] at h3
 have hzero:=(congrArg TI.zero h3).symm
 simp only at hzero
 clear h3
 cases hj:j.zero with
 | none=>rw [hj] at hzero; simp only at hzero; rw [hzero] at hz; cases hz
 | some z=>
  rw [hj] at hzero
  simp only at hzero
  refine ⟨z,by simp only [zeroValue,typeInfo,Sem.run_bind,run_program,Result.andThen_ok,h1,Sem.run_pure,hj],?_,?_⟩
  ·rw [hzero] at hz
   cases z with
   | agg vs=>
    simp only [Dq,AV.cells?,Option.some.injEq] at hz
    subst hz
    refine ⟨by simp [Value.cells],fun n x u g1 g2=>?_⟩
    rw [List.getElem?_map] at g1
    obtain ⟨v,hv,rfl⟩:=Option.map_eq_some_iff.1 g1
    have:vs[n]?=some v:=by simpa using hv
    simp only [Value.cells] at g2
    rw [this] at g2
    cases g2
    exact RC1.of_RD (RD.cst _ _)
   | _=>exact RC.cells0 (RC.of_RD (RD.cst _ _)) hz
  ·intro hq
   rw [hq] at hzero
   cases z <;> first | exact ⟨_,rfl⟩ | (simp only [Dq,cst] at hzero; split at hzero <;> cases hzero) | (simp only [Dq,cst] at hzero; cases hzero)
theorem gc.agg {cs:List AV} {vs:Array Value} (h:gc c cs vs) (hc:∀ x∈cs,x.isCell=true):RC c (.agg cs) (.agg vs):=⟨vs,rfl,h.1,hc,h.2⟩
theorem tP {parts:Array (Nat×Operand)} (hE:∀ p∈parts.toList,RC c (e p.2) (a.eval p.2)):∀ (i:Nat) (p:Nat×AV) (u:Nat×Value),(parts.toList.map fun (j,x)=>(j,e x))[i]?=some p→(parts.toList.map fun (j,x)=>(j,a.eval x))[i]?=some u→p.1=u.1∧RC c p.2 u.2:=by
 intro i p u h1 h2
 rw [List.getElem?_map] at h1 h2
 obtain ⟨q,hq,rfl⟩:=Option.map_eq_some_iff.1 h1
 rw [hq] at h2
 simp only [Option.map_some,Option.some.injEq] at h2
 subst h2
 exact ⟨rfl,hE q (List.mem_of_getElem? hq)⟩
include hT in
theorem GX {t:TypeId} {parts:Array (Nat×Operand)} (h:opV T C bx e ty (.build t parts) K) (ho:o.op = .build t parts) (hE:∀ p∈parts.toList,RC c (e p.2) (a.eval p.2)):cQ Γ c a w o K:=by
 unfold opV at h
 simp only at h
 split at h
 ·exact h.elim
 rename_i i hi
 split at h
 ·rename_i zs hzs
  obtain ⟨z,hz1,hz2,hz3⟩:=qL hT (w:=w) (c:=c) hi (cs:=zs) (by rw [hzs]; rfl)
  obtain ⟨zv,rfl⟩:=hz3 hzs
  simp only [Value.cells] at hz2
  cases hk:Nat.beq i.kind 1&&i.flds.all (Fk T) with
  | true=>
   rw [hk] at h
   simp only [cond_true] at h
   simp only [Bool.and_eq_true,List.all_eq_true] at hk
   obtain ⟨hk1,hk2⟩:=hk
   obtain ⟨fs,hu,hfl⟩:=jz hT hi (Nat.eq_of_beq_eq_true hk1)
   rw [nV] at h
   split at h
   ·rename_i cs hcs
    cases hb:cs.all (fun c=>c.isCell) with
    | false=>rw [hb] at h; exact h.elim
    | true=>
     rw [hb] at h
     simp only [cond_true] at h
     -- the places
     let sz:Field→Nat×Nat:=fun f=>(f.offset,match get T f.type with | some j=>j.size | none=>0)
     have hplaces:(fs.mapM fun (f:Field)=>do pure (f.offset,← sizeOf f.type)).run Γ.P w = .ok (fs.map sz) w:=by
      rw [Array.mapM_eq_mapM_toList,Sem.run_map,l9 _ sz w fs.toList]
      ·simp only [Result.andThen_ok]
       congr 1
       apply Array.ext'
       simp
      ·intro f hf
       have:=hk2 (f.offset,f.type) (by rw [hfl]; exact List.mem_map.2 ⟨f,hf,rfl⟩)
       unfold Fk at this
       split at this
       ·rename_i j hj
        simp only at hj
        simp only [Sem.run_bind,bF hT hj,Result.andThen_ok,Sem.run_pure,sz,hj]
       ·cases this
     have hfill:=m6 (c:=c) (place':=((fs.map sz)[·]?)) (fun n q hq=>by
      rw [d6,hfl,List.getElem?_map] at hq
      cases hf:fs.toList[n]? with
      | none=>rw [hf] at hq; cases hq
      | some f=>
       rw [hf] at hq
       simp only [Option.map_some] at hq
       split at hq
       ·rename_i j hj
        cases hq
        have hf':fs[n]?=some f:=by simpa using hf
        simp [hf',sz,hj]
       ·cases hq) (ps:=parts.toList.map fun (j,x)=>(j,e x)) (us:=parts.toList.map fun (j,x)=>(j,a.eval x)) hz2 (by simp) (tP hE) hcs
     obtain ⟨vr,g1,g2⟩:=hfill
     refine ⟨.agg vr,.agg cs,?_,g2.agg (by simpa using hb),h⟩
     simp only [execOp,ho,Instr.build,Sem.run_bind,hz1,Result.andThen_ok,run_underlying hu,Value.cells,hplaces,Array.toList_map,g1,Sem.run_pure]
   ·exact h.elim
  | false=>
   rw [hk] at h
   simp only [cond_false] at h
   cases hk':Nat.beq i.kind 2 with
   | false=>rw [hk'] at h; exact h.elim
   | true=>
    rw [hk'] at h
    simp only [cond_true] at h
    have hu:=iX hT hi (Nat.eq_of_beq_eq_true hk')
    split at h
    ·exact h.elim
    rename_i j hj
    rw [nV] at h
    split at h
    ·rename_i cs hcs
     cases hb:cs.all (fun c=>c.isCell) with
     | false=>rw [hb] at h; exact h.elim
     | true=>
      rw [hb] at h
      simp only [cond_true] at h
      obtain ⟨vr,g1,g2⟩:=m6 (c:=c) (place':=fun n=>some (n*j.size,j.size)) (fun n q hq=>hq) (ps:=parts.toList.map fun (j,x)=>(j,e x)) (us:=parts.toList.map fun (j,x)=>(j,a.eval x)) hz2 (by simp) (tP hE) hcs
      refine ⟨.agg vr,.agg cs,?_,g2.agg (by simpa using hb),h⟩
      simp only [execOp,ho,Instr.build,Sem.run_bind,hz1,Result.andThen_ok,run_underlying hu,Value.cells,bF hT hj,Array.toList_map,g1,Sem.run_pure]
    ·exact h.elim
 ·exact h.elim
end
end Go.AI
namespace Go.AI
open Go
open Go.RowKit (Below)
section
variable {Γ:aH} {c:Ctx} {bx:List (Nat×List AV)} {w w':World}
theorem WI.lt_box (hW:WI Γ c bx w) {d:Nat} {cs:List AV} (h:get bx d=some cs) (hne:cs≠[]):c.ρ d<w.heap.size:=by
 obtain ⟨_,_,_,vs,T,h1,_⟩:=hW.box d cs h hne
 exact (Array.getElem?_eq_some_iff.1 h1).1
theorem WI.lt_own (hW:WI Γ c bx w) {k g:Nat} (h:aU c k=some g):g<w.heap.size:=by
 obtain ⟨_,_,_,_,_,h1,_⟩:=(hW.own k).blk g h
 exact (Array.getElem?_eq_some_iff.1 h1).1
theorem WI.lt_m (hW:WI Γ c bx w) {b o:Nat} {v:Value} (h:c.m b o=some v):b<w.heap.size:=by
 have:=hW.sub.cell b o v h
 unfold World.cell? at this
 split at this
 ·exact (Array.getElem?_eq_some_iff.1 ‹_›).1
 ·cases this
theorem WI.lt_map (hW:WI Γ c bx w) {b:Nat} {x:Array MapEntry×Nat} (h:c.m.maps b=some x):b<w.heap.size:=(Array.getElem?_eq_some_iff.1 (hW.sub.map b x h)).1
theorem WI.lt_x (hW:WI Γ c bx w) {k b:Nat} {o:Obj} (h:c.x k=some (b,o)):b<w.heap.size:=(Array.getElem?_eq_some_iff.1 (hW.xo k b o h).obj).1
theorem WI.grow (hW:WI Γ c bx w) {m':Mem} (hb:Below w.heap.size w w') (hdr:dU w w') (hle:c.m.le m') (hs:m'.sub w') (hn:c.m.News (w.heap.size≤·) m' w') :
  WI Γ { c with m:=m' } bx w'∧c.le { c with m:=m' }∧NC w w':=by
 have hB:Γ.w0.heap.size≤w.heap.size:=hW.ext.size
 have hle':c.le { c with m:=m' }:=⟨hle,rfl,rfl,rfl,rfl,rfl⟩
 refine ⟨⟨hW.ext.trans (.of hb hB),hs,hW.le0.trans hle,⟨fun b o v h=>?_,fun b x h=>?_⟩,fun d cs h hne=>?_,hW.inj,fun k=>?_,fun k b o h=>?_⟩,hle',⟨hb.size,fun b o h _=>?_,hdr,fun _ h=>pu h hb⟩⟩
 ·rcases hn.cell b o v h with h | h
  ·exact (hW.new.cell b o v h).imp id fun ⟨h1,h2⟩=>⟨h1,pu h2 hb⟩
  ·exact .inr ⟨dD (Nat.le_trans hB h.1),h.2⟩
 ·rcases hn.map b x h with h | h
  ·exact hW.new.map b x h
  ·exact .inr (dD (Nat.le_trans hB h))
 ·have hlt:=hW.lt_box h hne
  obtain ⟨h1,h2,h3,vs,T,h4,h5,h6⟩:=hW.box d cs h hne
  refine ⟨h1,fun o=>?_,h3,vs,T,(hb.block _ hlt).trans h4,h5,fun i x v g1 g2=>(h6 i x v g1 g2).mono hle'⟩
  cases hm:m' (c.ρ d) o with
  | none=>rfl
  | some v=>
   rcases hn.cell _ _ _ hm with h | h
   ·rw [h2 o] at h; cases h
   ·omega
 ·have ho:=hW.own k
  refine ⟨fun g hg=>?_,ho.shape,ho.box,ho.apart⟩
  have hlt:=hW.lt_own hg
  obtain ⟨len,cap,T,cells,h1,h2,h3,h4,h5⟩:=ho.blk g hg
  refine ⟨len,cap,T,cells,h1,(hb.block _ hlt).trans h2,h3,fun o ho'=>?_,h5⟩
  cases hm:m' g o with
  | none=>rfl
  | some v=>
   rcases hn.cell _ _ _ hm with h | h
   ·rw [h4 o ho'] at h; cases h
   ·omega
 ·have hlt:=hW.lt_x h
  have hx:=hW.xo k b o h
  refine ⟨hx.new,(hb.block _ hlt).trans hx.obj,hx.kept,fun i hi=>?_,?_,hx.box,hx.own,hx.inj⟩
  ·cases hm:m' b i with
   | none=>rfl
   | some v=>
    rcases hn.cell _ _ _ hm with h | h
    ·rw [hx.mem i hi] at h; cases h
    ·omega
  ·cases hm:m'.maps b with
   | none=>rfl
   | some v=>
    rcases hn.map _ _ hm with h | h
    ·rw [hx.map] at h; cases h
    ·omega
 ·rw [hb.block b (Array.getElem?_eq_some_iff.1 h).1]; exact h
theorem WI.allocData (hW:WI Γ c bx w) (vs:Array Value) (E:TypeId) :
  WI Γ { c with m:=c.m.with fun b o=>if b=w.heap.size then vs[o]? else c.m b o } bx (w.alloc (.cells vs E))∧c.le { c with m:=c.m.with fun b o=>if b=w.heap.size then vs[o]? else c.m b o }∧NC w (w.alloc (.cells vs E)):=by
 refine hW.grow ((Below.refl _ w).alloc (Nat.le_refl _) _) (.alloc w (bA _ _)) ⟨fun b o v h=>?_,fun _ _ h=>h⟩ ⟨fun b o v h=>?_,fun b x h=>?_⟩ ⟨fun b o v h=>?_,fun _ _ h => .inl h⟩
 ·have:=hW.lt_m h
  show (if _ then _ else _)=_
  rw [if_neg (by omega)]; exact h
 ·simp only [Mem.with] at h
  split at h
  ·rename_i hb
   subst hb
   rw [World.cell?_alloc_new]; exact h
  ·have:=hW.lt_m h
   rw [World.cell?_alloc_lt _ _ _ this]
   exact hW.sub.cell b o v h
 ·exact (Below.heap_alloc _ _ _ (hW.lt_map (x:=x) h)).trans (hW.sub.map b x h)
 ·simp only [Mem.with] at h
  split at h
  ·rename_i hb; exact .inr ⟨by omega,vs,E,by rw [hb]; exact World.alloc_heap_new _ _⟩
  ·exact .inl h
theorem RX.boxmap {c c':Ctx} {f:AV→AV} (hx:c'.x=c.x) (hf:∀ x v,RO c x v→RO c' (f x) v) (hc:∀ x:AV,x.isCell=true→(f x).isCell=true) {j n:Nat} {xs:List (List AV)} {v:Value} (h:RX c .box j n xs v) :
  RX c' .box j n (xs.map fun r=>r.map f) v:=by
 obtain ⟨cells,T,own,r1,rfl,r3,r4,r5⟩:=h
 refine ⟨cells,T,own.map f,by rw [hx]; exact r1,rfl,by simpa using r3,fun y hy=>?_,fun i y u h1 h2=>?_⟩
 ·obtain ⟨z,hz,rfl⟩:=List.mem_map.1 hy
  exact hc z (r4 z hz)
 ·rw [List.getElem?_map] at h1
  obtain ⟨z,hz,rfl⟩:=Option.map_eq_some_iff.1 h1
  exact hf _ _ (r5 i z u hz h2)
theorem AV.demO_cell {x:AV} (k:Nat) (h:x.isCell=true):(x.demO k).isCell=true:=by
 cases x with
 | sl o sz xs=>cases o <;> rfl
 | _=>exact h
theorem AV.dem1_cell {x:AV} (k:Nat) (h:x.isCell=true):(x.dem1 k).isCell=true:=by
 cases x with
 | sl o sz xs=>cases o <;> rfl
 | me g _ _ _=>cases h
 | _=>exact h
def Ctx.own (c:Ctx) (k:Nat) (v:Value) (sz:Nat):Ctx:={ c with τ:=fun j=>if j=k then v else c.τ j,σ:=fun j=>if j=k then sz else c.σ j }
theorem RO.own {x:AV} {v u:Value} {k sz:Nat} (h:RO c x v):RO (c.own k u sz) (x.demO k) v:=by
 cases x with
 | sl o s xs=>
  cases o with
  | id j=>
   simp only [AV.demO]
   cases hj:Nat.beq j k with
   | true=>exact h.2.2
   | false=>
    have hne:j≠k:=fun e=>by subst e; rw [Nat.beq_refl] at hj; cases hj
    refine ⟨?_,?_,h.2.2⟩
    ·simp only [Ctx.own,if_neg hne]; exact h.1
    ·simp only [Ctx.own,if_neg hne]; exact h.2.1
  | no=>exact h
  | full=>exact h
 | _=>exact h
theorem RC1.own {x:AV} {v u:Value} {k sz:Nat} (h:RC1 c x v):RC1 (c.own k u sz) (x.dem1 k) v:=by
 cases x with
 | sl o s xs=>
  cases o with
  | id j=>
   simp only [AV.dem1]
   cases hj:Nat.beq j k with
   | true=>exact h.2.2
   | false=>
    have hne:j≠k:=fun e=>by subst e; rw [Nat.beq_refl] at hj; cases hj
    refine ⟨?_,?_,h.2.2⟩
    ·simp only [Ctx.own,if_neg hne]; exact h.1
    ·simp only [Ctx.own,if_neg hne]; exact h.2.1
  | no=>exact h
  | full=>exact h
 | me g j n xs=>
  cases g with
  | box=>exact RX.boxmap (c:=c) (c':=c.own k u sz) (f:=AV.demO k) (v:=v) rfl (fun _ _ h=>h.own) (fun _ h=>AV.demO_cell k h) h
  | _=>exact h
 | _=>exact h
theorem RC.own {x:AV} {v u:Value} {k sz:Nat} (h:RC c x v):RC (c.own k u sz) (x.dem k) v:=by
 cases x with
 | agg cs=>
  obtain ⟨vs,rfl,h1,h2,h3⟩:=h
  refine ⟨vs,rfl,by simpa using h1,fun y hy=>?_,fun i y u' g1 g2=>?_⟩
  ·obtain ⟨z,hz,rfl⟩:=List.mem_map.1 hy
   exact AV.dem1_cell k (h2 z hz)
  ·rw [List.getElem?_map] at g1
   obtain ⟨z,hz,rfl⟩:=Option.map_eq_some_iff.1 g1
   exact (h3 i z u' hz g2).own
 | sl o s xs=>
  have h1:=(RC.iff (by intro cs hc; cases hc)).1 h
  have h2:=h1.own (k:=k) (u:=u) (sz:=sz)
  cases o with
  | id j=>exact (RC.iff (by intro cs hc; simp only [AV.dem,AV.dem1] at hc; cases hc)).2 h2
  | no=>exact h
  | full=>exact h
 | me g j n xs=>
  cases g with
  | box=>exact RC1.own (k:=k) (u:=u) (sz:=sz) (show RC1 c (.me .box j n xs) v from h)
  | _=>exact h
 | _=>exact h
theorem gn {α β:Type} (f:Nat→α→β):∀ (l:List (Nat×α)) (k:Nat),get (l.map fun p=>(p.1,f p.1 p.2)) k=(get l k).map (f k)
 | [],_=>rfl
 |(d,v)::r,k=>by
  simp only [List.map_cons,get]
  cases hd:Nat.beq d k with
  | true=>simp only [cond_true,Option.map_some]; rw [Nat.eq_of_beq_eq_true hd]
  | false=>simp only [cond_false]; exact gn f r k
theorem jj (s:St) (k d:Nat):get (s.dem k).t d=(get s.t d).map (AV.dem k):=by unfold St.dem; rw [jJ]; exact gn (fun (_:Nat) (v:AV)=>v.dem k) s.t d
theorem o5 (s:St) (k d:Nat):get (s.dem k).b d=(get s.b d).map (fun cs=>cs.map (AV.dem1 k)):=by unfold St.dem; rw [uY]; exact gn (fun (_:Nat) (cs:List AV)=>cs.map (AV.dem1 k)) s.b d
end
end Go.AI
namespace Go.AI
open Go
open Go.RowKit (Below)
theorem bO (a:Act) (d:Nat) (v:Value) (k:Nat) (hd:d<a.tmps.size):(a.put (some d) v).tmps.getD k Go.undef=if k=d then v else a.tmps.getD k Go.undef:=by
 simp only [Act.put,Array.getD_eq_getD_getElem?,Array.getElem?_setIfInBounds]
 by_cases h:d=k
 ·subst h; simp [hd]
 ·rw [if_neg h,if_neg (fun e=>h e.symm)]
theorem bL (a:Act) (d:Option Nat) (v:Value):(a.put d v).tmps.size=a.tmps.size:=by cases d <;> simp [Act.put]
theorem bv (a:Act) (d:Option Nat) (v:Value):(a.put d v).defers=a.defers:=by cases d <;> rfl
section
variable {Γ:aH} {s:St} {a:Act} {w w':World}
theorem Inv.next (hI:Inv Γ s a w) (hn:NC w w') {t:List (Nat×AV)} {b:List (Nat×List AV)} {c:Ctx} (hW:WI Γ c b w') {d:Option Nat} {v:Value} (hd:∀ k,d=some k→k<Γ.nt)
  (ht:∀ k x,get t k=some x→RC c x ((a.put d v).tmps.getD k Go.undef)):Inv Γ ⟨t,b⟩ (a.put d v) w':=by
 obtain ⟨Ds,h1,h2,h3⟩:=hI.defers
 exact ⟨⟨c,hW,ht⟩,by rw [bL]; exact hI.size,⟨Ds,by rw [bv]; exact h1,h2,fun D hD=>⟨hn.same D _ (h3 D hD).1 rfl,(h3 D hD).2⟩⟩,fun l hl=>let ⟨r,hr⟩:=hI.rnd l hl; ⟨r,hn.same l _ hr rfl⟩⟩
theorem ak {α:Type} (d:Nat) (v:α) (l:List (Nat×α)) (k:Nat):get ((d,v)::l) k=if k=d then some v else get l k:=by
 simp only [get]
 cases h:Nat.beq d k with
 | true=>rw [if_pos (Nat.eq_of_beq_eq_true h).symm]; rfl
 | false=>rw [if_neg (fun e=>by subst e; rw [Nat.beq_refl] at h; cases h)]; rfl
theorem bV {c:Ctx} {t:List (Nat×AV)} (ht:∀ k x,get t k=some x→RC c x (a.tmps.getD k Go.undef)) {d:Nat} (hd:d<a.tmps.size) {x:AV} {v:Value} (hx:RC c x v) :
  ∀ k y,get ((d,x)::t) k=some y→RC c y ((a.put (some d) v).tmps.getD k Go.undef):=by
 intro k y hy
 rw [bO a d v k hd]
 rw [ak] at hy
 split at hy
 ·rename_i hk; rw [if_pos hk]; cases hy; exact hx
 ·rename_i hk; rw [if_neg hk]; exact ht k y hy
end
section
variable {Γ:aH} (hΓ:Γ.OK) {T:Tab} (hT:T.OK Γ.P) {bx:List (Nat×List AV)} {e:Operand→AV} {K:AV→Prop} {o:Oper} {a:Act} {w:World} {c:Ctx} {ty:TypeId}
 {next:Act→World→Prop} {Q:Exit→Act→World→Prop}
def GM (Γ:aH) (c:Ctx) (bx:List (Nat×List AV)) (w:World) (o:Oper) (a:Act) (K:AV→Prop) (next:Act→World→Prop):Prop:=
 ∀ x v w' c',K x→c.le c'→WI Γ c' bx w'→NC w w'→RC c' x v→next (a.put o.dst v) w'
include hΓ in
theorem cQ.wp (h:cQ Γ c a w o K) (hW:WI Γ c bx w) (hd:∀ c,o.op≠.defer c) (hn:GM Γ c bx w o a K next):o.wpIn Γ.F Γ.n Γ.P a w next Q:=by
 obtain ⟨v,x,h1,h2,h3⟩:=h
 exact aP hΓ hd h1 (hn x v w c h3 (.refl c) hW (.refl w) h2)
theorem mv:∀ (ps:List (Nat×Operand)) (n sz:Nat) (xs:List (List AV)),fa e ps n sz=some xs→xs.length=ps.length∧(∀ x∈xs,x.length=sz)∧(∀ x∈xs,∀ y∈x,AV.isCell y=true) ∧
  ∀ i p,ps[i]?=some p→p.1=n+i∧∃ cs,xs[i]?=some cs∧kY (e p.2)=some cs
 | [],n,sz,xs,h=>by simp only [fa,Option.some.injEq] at h; subst h; simp
 |(j,x)::ps,n,sz,xs,h=>by
  simp only [fa] at h
  split at h
  ·rename_i cs l h1 h2
   cases hb:Nat.beq j n&&Nat.beq cs.length sz with
   | false=>rw [hb] at h; cases h
   | true=>
    rw [hb] at h
    simp only [cond_true,Option.some.injEq] at h
    subst h
    simp only [Bool.and_eq_true] at hb
    obtain ⟨g1,g2,g3,g4⟩:=mv ps (n+1) sz l h2
    refine ⟨by simp [g1],?_,?_,?_⟩
    ·intro y hy
     rcases List.mem_cons.1 hy with rfl | hy
     ·exact Nat.eq_of_beq_eq_true hb.2
     ·exact g2 y hy
    ·intro y hy
     rcases List.mem_cons.1 hy with rfl | hy
     ·intro z hz
      unfold kY at h1
      split at h1
      ·rename_i ds hds
       cases hall:ds.all (fun c=>c.isCell) with
       | false=>rw [hall] at h1; cases h1
       | true=>
        rw [hall] at h1
        simp only [cond_true,Option.some.injEq] at h1
        subst h1
        obtain ⟨u,hu,rfl⟩:=List.mem_map.1 hz
        exact AV.pub1_cell (List.all_eq_true.1 hall u hu)
      ·cases h1
     ·exact g3 y hy
    ·intro i p hp
     cases i with
     | zero=>
      simp only [List.getElem?_cons_zero,Option.some.injEq] at hp
      subst hp
      exact ⟨Nat.eq_of_beq_eq_true hb.1,cs,rfl,h1⟩
     | succ i=>
      simp only [List.getElem?_cons_succ] at hp ⊢
      obtain ⟨q1,q2⟩:=g4 i p hp
      exact ⟨by omega,q2⟩
  ·cases h
theorem mr {x:AV} {v:Value} {cs:List AV} (h:kY x=some cs) (hx:RC c x v):cs.length=v.cells.size∧(∀ y∈cs,y.isCell=true)∧∀ (i:Nat) (y:AV) (u:Value),cs[i]?=some y→v.cells[i]?=some u→RD c.m y u:=by
 unfold kY at h
 split at h
 ·rename_i ds hds
  cases hall:ds.all (fun c=>c.isCell) with
  | false=>rw [hall] at h; cases h
  | true=>
   rw [hall] at h
   simp only [cond_true,Option.some.injEq] at h
   subst h
   obtain ⟨h1,h2⟩:=hx.cells0 hds
   refine ⟨by simpa using h1,fun y hy=>?_,fun i y u g1 g2=>?_⟩
   ·obtain ⟨z,hz,rfl⟩:=List.mem_map.1 hy
    exact AV.pub1_cell (List.all_eq_true.1 hall z hz)
   ·rw [List.getElem?_map] at g1
    obtain ⟨z,hz,rfl⟩:=Option.map_eq_some_iff.1 g1
    exact (h2 i z u hz g2).pub
 ·cases h
end
end Go.AI
namespace Go.AI
open Go
open Go.RowKit (Below)
theorem o9:∀ (us:List Value) (off:Nat) (arr:Array Value),(us.zipIdx.foldl (fun cs (c,j)=>cs.setIfInBounds (off+j) c) arr).size=arr.size ∧
  ∀ k,(us.zipIdx.foldl (fun cs (c,j)=>cs.setIfInBounds (off+j) c) arr)[k]?=if off≤k∧k<off+us.length∧k<arr.size then us[k - off]? else arr[k]?
 | [],off,arr=>by
  refine ⟨rfl,fun k=>?_⟩
  rw [if_neg (by simp; omega)]; rfl
 | u::us,off,arr=>by
  have ih:=o9 us (off+1) (arr.setIfInBounds off u)
  simp only [List.zipIdx_cons,List.foldl_cons,Nat.add_zero,Nat.zero_add]
  rw [List.zipIdx_eq_map_add,List.foldl_map]
  have:(fun (x:Array Value) (y:Value×Nat)=>x.setIfInBounds (off+(1+y.2)) y.1)=fun x y=>x.setIfInBounds (off+1+y.2) y.1:=by funext x y; rw [Nat.add_assoc]
  simp only [this]
  refine ⟨by rw [ih.1]; simp,fun k=>?_⟩
  rw [ih.2 k]
  simp only [Array.size_setIfInBounds,List.length_cons,Array.getElem?_setIfInBounds]
  by_cases hk:off=k
  ·subst hk
   rw [if_neg (by omega),if_pos rfl]
   by_cases hl:off<arr.size
   ·rw [if_pos hl,if_pos ⟨Nat.le_refl _,by omega,hl⟩]; simp
   ·rw [if_neg hl,if_neg (by omega),Array.getElem?_eq_none (by omega)]
  ·rw [if_neg hk]
   by_cases h1:off+1≤k∧k<off+1+us.length∧k<arr.size
   ·rw [if_pos h1,if_pos (by omega),show k - off=(k - (off+1))+1 by omega]; simp
   ·rw [if_neg h1,if_neg (by omega)]
theorem ue (size:Nat):∀ (ps:List (Nat×Value)) (n:Nat) (arr:Array Value),(∀ i p,ps[i]?=some p→p.1=n+i∧p.2.cells.size=size)→(n+ps.length)*size≤arr.size →
  ∃ r,Instr.fill (fun i=>some (i*size,size)) arr ps=some r∧r.size=arr.size∧(∀ k,k<n*size→r[k]?=arr[k]?)∧∀ (i:Nat) (p:Nat×Value),ps[i]?=some p→∀ j,j<size→r[(n+i)*size+j]?=p.2.cells[j]?
 | [],n,arr,_,_=>⟨arr,rfl,rfl,fun _ _=>rfl,by simp⟩
 |(m,v)::ps,n,arr,h,hN=>by
  obtain ⟨hm,hv⟩:=h 0 (m,v) rfl
  simp only [Nat.add_zero] at hm hv
  have hm':n=m:=hm.symm
  subst hm'
  clear hm
  have hf:=o9 v.cells.toList (n*size) arr
  have hlen:v.cells.toList.length=size:=by simpa using hv
  have hN':(n+1+ps.length)*size≤arr.size:=by rw [List.length_cons] at hN; rw [Nat.add_right_comm,Nat.add_assoc]; exact hN
  obtain ⟨r,g1,g2,g3,g4⟩:=ue size ps (n+1) _ (fun i p hp=>by obtain ⟨q1,q2⟩:=h (i+1) p hp; exact ⟨by omega,q2⟩) (by rw [hf.1]; exact hN')
  have hbnd:n*size+size≤arr.size:=by
   have:(n+1)*size≤(n+1+ps.length)*size:=Nat.mul_le_mul_right _ (by omega)
   rw [Nat.succ_mul] at this; omega
  refine ⟨r,?_,by rw [g2,hf.1],fun k hk=>?_,fun i p hp j hj=>?_⟩
  ·simp only [Instr.fill]
   rw [if_neg (by simp only [ne_eq,Bool.or_eq_true,decide_eq_true_eq,not_or]; constructor <;> omega)]
   rw [← g1]
   congr 1
   rw [← Array.foldl_toList]
   simp [Array.toList_zipIdx]
  ·rw [g3 k (by rw [Nat.succ_mul]; omega),hf.2 k,if_neg (by omega)]
  ·cases i with
   | zero=>
    simp only [List.getElem?_cons_zero,Option.some.injEq] at hp
    subst hp
    rw [Nat.add_zero,g3 _ (by rw [Nat.succ_mul]; omega),hf.2,if_pos ⟨by omega,by omega,by omega⟩]
    rw [show n*size+j - n*size=j by omega]
    simp
   | succ i=>
    simp only [List.getElem?_cons_succ] at hp
    rw [show n+(i+1)=n+1+i by omega]
    exact g4 i p hp j hj
section
variable {Γ:aH} (hΓ:Γ.OK) {T:Tab} (hT:T.OK Γ.P) {C:FuncId→List AV→AV→Prop} {bx:List (Nat×List AV)} {e:Operand→AV} {K:AV→Prop} {o:Oper} {a:Act} {w:World} {c:Ctx} {ty:TypeId}
 {next:Act→World→Prop} {Q:Exit→Act→World→Prop}
include hΓ hT in
theorem uG {t:TypeId} {n:Nat} {parts:Array (Nat×Operand)} (h:opV T C bx e ty (.buildSlice t n parts) K) (ho:o.op = .buildSlice t n parts) (hW:WI Γ c bx w)
  (hE:∀ p∈parts.toList,RC c (e p.2) (a.eval p.2)) (hn:GM Γ c bx w o a K next):o.wpIn Γ.F Γ.n Γ.P a w next Q:=by
 unfold opV at h
 simp only at h
 split at h
 ·exact h.elim
 rename_i i hi
 split at h
 ·exact h.elim
 rename_i j hj
 cases hk:Nat.beq i.kind 3&&Nat.beq parts.toList.length n&&Nat.ble (n*j.size) 100000 with
 | false=>rw [hk] at h; exact h.elim
 | true=>
  rw [hk] at h
  simp only [cond_true] at h
  simp only [Bool.and_eq_true] at hk
  obtain ⟨⟨hk1,hk2⟩,hk3⟩:=hk
  have hlen:=Nat.eq_of_beq_eq_true hk2
  have hmax:=Nat.le_of_ble_eq_true hk3
  have hu:=bK hT hi (Nat.eq_of_beq_eq_true hk1)
  split at h
  ·rename_i xs zs hxs hzs
   obtain ⟨z,hz1,_,_⟩:=qL hT (w:=w) (c:=c) hj hzs
   obtain ⟨q1,q2,q3,q4⟩:=mv _ _ _ _ hxs
   -- the cells
   obtain ⟨zero,hzero⟩:∃ zero:Array Value,zero=if n*j.size=0 then #[] else z.cells:=⟨_,rfl⟩
   have hsz:∀ i p,(parts.toList.map fun (j,x)=>(j,a.eval x))[i]?=some p→p.1=0+i∧p.2.cells.size=j.size:=by
    intro i p hp
    rw [List.getElem?_map] at hp
    obtain ⟨q,hq,rfl⟩:=Option.map_eq_some_iff.1 hp
    obtain ⟨r1,cs,r2,r3⟩:=q4 i q hq
    refine ⟨r1,?_⟩
    have:=(mr r3 (hE q (List.mem_of_getElem? hq))).1
    rw [← this]
    exact q2 cs (List.mem_of_getElem? r2)
   obtain ⟨r,g1,g2,g3,g4⟩:=ue j.size _ 0 ((Array.range (n*j.size)).map (zero[· % zero.size]!)) hsz (by simp [← hlen])
   obtain ⟨W1,W2,W3⟩:=hW.allocData r i.elem
   have hrd:RD (c.m.with fun b o=>if b=w.heap.size then r[o]? else c.m b o) (.sl .full j.size xs) (.slice (some ⟨w.heap.size,0,none⟩) n n):=by
    have hcell:∀ (i:Nat) (x:List AV) (k:Nat) (y:AV),xs[i]?=some x→x[k]?=some y→∃ v,r[i*j.size+k]?=some v∧RD c.m y v:=by
     intro i x k y hx hy
     have hlt:i<parts.toList.length:=by rw [← q1]; exact (List.getElem?_eq_some_iff.1 hx).1
     obtain ⟨r1,cs,r2,r3⟩:=q4 i _ (List.getElem?_eq_getElem hlt)
     rw [hx] at r2
     cases r2
     obtain ⟨s1,s2,s3⟩:=mr r3 (hE _ (List.getElem_mem hlt))
     have hxl:=q2 x (List.mem_of_getElem? hx)
     have hkl:k<x.length:=(List.getElem?_eq_some_iff.1 hy).1
     have:=g4 i (_,a.eval (parts.toList[i]).2) (by rw [List.getElem?_map,List.getElem?_eq_getElem hlt]; rfl) k (by omega)
     rw [Nat.zero_add] at this
     have hks:k<(a.eval (parts.toList[i]).2).cells.size:=by omega
     refine ⟨(a.eval (parts.toList[i]).2).cells[k],by rw [this]; exact Array.getElem?_eq_getElem hks,?_⟩
     exact s3 k y _ hy (Array.getElem?_eq_getElem hks)
    refine .sl _ _ _ _ _ _ (by intro k hk; cases hk) (fun _=>rfl) (by rw [q1,hlen]) (Nat.le_refl _) q2 q3 w.heap.size 0 (fun _=>rfl) (fun i k=>(r[i*j.size+k]?).getD Go.undef) (fun i x k y hx hy=>?_) (fun i x k y hx hy=>?_)
    ·obtain ⟨v,hv,_⟩:=hcell i x k y hx hy
     show (if _ then _ else _)=_; rw [if_pos rfl,Nat.zero_add,hv]; rfl
    ·obtain ⟨v,hv,hr⟩:=hcell i x k y hx hy
     rw [hv]
     exact hr.mono W2.m
   refine aP hΓ (by rw [ho]; intro c hc; cases hc) (v := .slice (some ⟨w.heap.size,0,none⟩) n n) (w':=w.alloc (.cells r i.elem)) ?_ (hn _ _ _ _ (by rw [u6] at h; exact h) W2 W1 W3 (RC.of_RD hrd))
   simp only [execOp,ho,Instr.buildSlice,Sem.run_bind,run_underlying hu,Result.andThen_ok,bF hT hj]
   rw [if_neg (by omega)]
   by_cases h0:n*j.size=0
   ·rw [if_pos h0] at hzero
    subst hzero
    simp only [h0,if_true,Sem.run_bind,Sem.run_pure,Result.andThen_ok,Array.toList_map,newRow,World.alloc_eq] at g1 ⊢
    rw [g1]
    simp only [Sem.run_bind,Sem.run_pure,Result.andThen_ok,newRow,run_newObj,World.alloc_eq]
   ·rw [if_neg h0] at hzero
    subst hzero
    simp only [h0,if_false,Sem.run_bind,hz1,Sem.run_pure,Result.andThen_ok,Array.toList_map,g1,newRow,run_newObj,World.alloc_eq]
  ·exact h.elim
end
end Go.AI
namespace Go.AI
open Go
open Go.RowKit (Below)
section
variable {Γ:aH} (hΓ:Γ.OK) {T:Tab} (hT:T.OK Γ.P) {bx:List (Nat×List AV)} {e:Operand→AV} {K:AV→Prop} {o:Oper} {a:Act} {w:World} {c:Ctx} {ty:TypeId}
 {next:Act→World→Prop} {Q:Exit→Act→World→Prop}
include hΓ in
theorem rV (m:Machine):m.fenced Γ.P Γ.F:=by
 intro g _
 refine ⟨fun h=>?_,.inl (hΓ.fn _),fun f _=>hΓ.fn f,fun d h=>?_⟩
 ·rw [hΓ.alive] at h; cases h
 ·rw [hΓ.depth] at h; cases h
include hΓ in
theorem ck {f:FuncId} {args:Array Value} {R:Ending→World→Prop} (h:Calls Γ.P f args w R) (n:Nat):CallsIn Γ.F n Γ.P f args w R:=by
 refine ⟨hΓ.fn f,fun cs _=>?_⟩
 obtain ⟨e,w',fr,h1,h2,h3,h4⟩:=h cs
 refine ⟨e,w',fr,h1,?_,h3,h4⟩
 cases e with
 | returned v=>exact (StepsIn.of_steps h2).mono fun m _=>rV hΓ m
 | panicked ch=>exact (StepsIn.of_steps h2).mono fun m _=>rV hΓ m
 | outgrown=>exact h2
theorem AT (hW:WI Γ c bx w) {f:FuncId} {args:List AV} {r:AV} (h:ae Γ.P f args r) {vs:List Value} (hl:args.length=vs.length) (hr:∀ (i:Nat) (x:AV) (v:Value),args[i]?=some x→vs[i]?=some v→RD c.m x v) :
  Calls Γ.P f vs.toArray w fun e w'=>∃ v c',e = .returned v∧RC c' r v∧c.le c'∧WI Γ c' bx w'∧NC w w':=by
 refine (h.2 c.m w vs hW.sub hl hr).mono ?_
 rintro e w' ⟨v,m',rfl,h1,h2,h3,h4,h5,h6⟩
 obtain ⟨g1,g2,g3⟩:=hW.grow h4 h6 h2 h3 h5
 exact ⟨v,_,rfl,RC.of_RD (c:={ c with m:=m' }) h1,g2,g1,g3⟩
include hΓ in
theorem wP {f:FuncId} {args:List AV} {r:AV} (h:ae Γ.P f args r) (hW:WI Γ c bx w) {vs:List Value} (hl:args.length=vs.length) (hr:∀ (i:Nat) (x:AV) (v:Value),args[i]?=some x→vs[i]?=some v→RD c.m x v)
  (hd:∀ c,o.op≠.defer c) (hrun:(execOp a.eval o).run Γ.P w = .ok (.enter f vs.toArray) w) (hK:K r) (hn:GM Γ c bx w o a K next):o.wpIn Γ.F Γ.n Γ.P a w next Q:=by
 refine ⟨fun f _=>hΓ.fn f,?_⟩
 rw [Oper.semAt_eq _ _ _ hd,hrun,Oper.uponIn_enter]
 refine ⟨fun h=>(by rw [hΓ.depth] at h; cases h),(ck hΓ (AT hW h hl hr) _).mono ?_⟩
 rintro e w' ⟨v,c',rfl,h1,h2,h3,h4⟩
 exact hn r v w' c' hK h2 h3 h4 h1
theorem yz {args:List Operand} (hE:∀ x∈args,RC c (e x) (a.eval x)) {cap:List AV} {vs:List Value} (hl:cap.length=vs.length) (hr:∀ (i:Nat) (x:AV) (v:Value),cap[i]?=some x→vs[i]?=some v→RD c.m x v) :
  ((args.map fun x=>(e x).pub)++cap).length=(args.map a.eval++vs).length∧∀ (i:Nat) (x:AV) (v:Value),((args.map fun x=>(e x).pub)++cap)[i]?=some x→(args.map a.eval++vs)[i]?=some v→RD c.m x v:=by
 refine ⟨by simp [hl],fun i x v h1 h2=>?_⟩
 by_cases hi:i<args.length
 ·rw [List.getElem?_append_left (by simpa using hi),List.getElem?_map] at h1
  rw [List.getElem?_append_left (by simpa using hi),List.getElem?_map] at h2
  obtain ⟨q,hq,rfl⟩:=Option.map_eq_some_iff.1 h1
  rw [hq] at h2
  simp only [Option.map_some,Option.some.injEq] at h2
  subst h2
  exact (hE q (List.mem_of_getElem? hq)).pub
 ·rw [List.getElem?_append_right (by simpa using hi)] at h1 h2
  simp only [List.length_map] at h1 h2
  exact hr _ x v h1 h2
include hΓ in
theorem Ii {call:Call} {f:Operand} (hcal:call.callee = .value f) (h:opV T (ae Γ.P) bx e ty (.call call) K) (ho:o.op = .call call) (hW:WI Γ c bx w)  (hf:RC c (e f) (a.eval f)) (hE:∀ x∈call.args.toList,RC c (e x) (a.eval x)) (hn:GM Γ c bx w o a K next):o.wpIn Γ.F Γ.n Γ.P a w next Q:=by
 unfold opV at h
 simp only [hcal] at h
 have hres:∀ g cap,a.eval f = .func (.func g) #[] cap→(resolve a.eval call o.type).run Γ.P w = .ok { target := .fn (.func g) cap,args:=#[]++call.args.map a.eval } w:=by
  intro g cap hg
  simp only [resolve,hcal,hg,Deferred.ofValue,Sem.run_pure]
 have hrun:∀ g cap as r,a.eval f = .func (.func g) #[] cap→ae Γ.P g as r→(execOp a.eval o).run Γ.P w = .ok (.enter g (call.args.toList.map a.eval++cap.toList).toArray) w:=by
  intro g cap as r hg hA
  simp only [execOp,ho,Sem.run_bind,hres g cap hg,Result.andThen_ok,invoke,hA.1 _ w]
  congr 2
  apply Array.ext'
  simp
 split at h
 ·rename_i g hg
  obtain ⟨r,hA,hK⟩:=h
  rw [hg] at hf
  obtain ⟨h1,h2⟩:=yz (c:=c) (a:=a) (e:=e) hE (cap:=[]) (vs:=[]) rfl (by simp)
  rw [List.append_nil] at h1 h2
  exact wP hΓ hA hW h1 h2 (by rw [ho]; intro c hc; cases hc) (hrun g #[] _ r hf.fn hA) hK hn
 ·rename_i g cap hg
  obtain ⟨r,hA,hK⟩:=h
  rw [hg] at hf
  have hf':RD c.m (.clo g cap) (a.eval f):=hf
  generalize hv:a.eval f=fv at hf'
  cases hf' with
  | clo _ _ vs hl hr=>
   obtain ⟨h1,h2⟩:=yz (c:=c) (a:=a) (e:=e) hE (cap:=cap) (vs:=vs.toList) (by simpa using hl) (fun i x v g1 g2=>hr i x v g1 (by simpa using g2))
   exact wP hΓ hA hW h1 h2 (by rw [ho]; intro c hc; cases hc) (hrun g vs _ r hv hA) hK hn
 ·exact h.elim
end
end Go.AI
namespace Go.AI
open Go
section
variable {Γ:aH} (hΓ:Γ.OK) {T:Tab} (hT:T.OK Γ.P) {bx:List (Nat×List AV)} {e:Operand→AV} {K:AV→Prop} {o:Oper} {a:Act} {w:World} {c:Ctx} {ty:TypeId}
 {next:Act→World→Prop} {Q:Exit→Act→World→Prop}
include hΓ hT in
theorem CQ {op:Op} (h:opV T (ae Γ.P) bx e ty op K) (ho:o.op=op) (hW:WI Γ c bx w) (hE:∀ x∈op.operands,RC c (e x) (a.eval x)) (hn:GM Γ c bx w o a K next):o.wpIn Γ.F Γ.n Γ.P a w next Q:=by
 have nd:∀ {op':Op},o.op=op'→(∀ c,op'≠.defer c)→∀ c,o.op≠.defer c:=fun h1 h2 c=>by rw [h1]; exact h2 c
 cases op with
 | move x=>exact (Ie h ho (hE x (by simp [Op.operands]))).wp hΓ hW (nd ho (by intro c hc; cases hc)) hn
 | assign x=>exact (Ed h ho (hE x (by simp [Op.operands]))).wp hΓ hW (nd ho (by intro c hc; cases hc)) hn
 | pick x y z=>exact (Ic h ho (hE x (by simp [Op.operands])) (hE y (by simp [Op.operands])) (hE z (by simp [Op.operands]))).wp hΓ hW (nd ho (by intro c hc; cases hc)) hn
 | binOp op t x y t'=>exact (GY hT h ho (hE x (by simp [Op.operands])) (hE y (by simp [Op.operands]))).wp hΓ hW (nd ho (by intro c hc; cases hc)) hn
 | unOp op t x=>exact (Ib h ho (hE x (by simp [Op.operands]))).wp hΓ hW (nd ho (by intro c hc; cases hc)) hn
 | load t x=>exact (If hT hW h ho (hE x (by simp [Op.operands]))).wp hΓ hW (nd ho (by intro c hc; cases hc)) hn
 | nilCheck x=>exact (zY h ho (hE x (by simp [Op.operands]))).wp hΓ hW (nd ho (by intro c hc; cases hc)) hn
 | fieldAddr t x f=>exact (wM hT h ho (hE x (by simp [Op.operands]))).wp hΓ hW (nd ho (by intro c hc; cases hc)) hn
 | field t x f=>exact (GW hT h ho (hE x (by simp [Op.operands]))).wp hΓ hW (nd ho (by intro c hc; cases hc)) hn
 | indexAddr t x y=>exact (wL hT h ho (hE x (by simp [Op.operands])) (hE y (by simp [Op.operands]))).wp hΓ hW (nd ho (by intro c hc; cases hc)) hn
 | index t x y=>exact (GV hT h ho (hE x (by simp [Op.operands])) (hE y (by simp [Op.operands]))).wp hΓ hW (nd ho (by intro c hc; cases hc)) hn
 | slice t x lo hi mx=>
  refine (GU hT h ho (hE x (by simp [Op.operands])) (fun y hy=>hE y ?_) (fun y hy=>hE y ?_) (fun y hy=>hE y ?_)).wp hΓ hW (nd ho (by intro c hc; cases hc)) hn <;>
   (subst hy; simp [Op.operands])
 | extract x n=>exact (Cs h ho (hE x (by simp [Op.operands]))).wp hΓ hW (nd ho (by intro c hc; cases hc)) hn
 | convert s d x=>exact (Ct hT h ho (hE x (by simp [Op.operands]))).wp hΓ hW (nd ho (by intro c hc; cases hc)) hn
 | build t parts=>exact (GX hT h ho (fun p hp=>hE p.2 (by simp only [Op.operands,List.mem_toArray,List.mem_map]; exact ⟨p,hp,rfl⟩))).wp hΓ hW (nd ho (by intro c hc; cases hc)) hn
 | buildSlice t n parts=>exact uG hΓ hT h ho hW (fun p hp=>hE p.2 (by simp only [Op.operands,List.mem_toArray,List.mem_map]; exact ⟨p,hp,rfl⟩)) hn
 | call call=>
  obtain ⟨callee,args,ts⟩:=call
  cases callee with
  | value f=>exact Ii hΓ rfl h ho hW (hE f (by simp [Op.operands,Call.operands])) (fun x hx=>hE x (by simp only [Op.operands,Call.operands,Array.mem_append]; exact .inr (by simpa using hx))) hn
  | invoke r m=>exact h.elim
  | builtin b=>
   have hE':∀ x∈args.toList,RC c (e x) (a.eval x):=fun x hx=>hE x (by simp only [Op.operands,Call.operands,Array.mem_append]; exact .inr (by simpa using hx))
   cases b with
   | len=>exact (IN hT h ho hE').wp hΓ hW (nd ho (by intro c hc; cases hc)) hn
   | max=>exact (wK (big:=true) h ho hE').wp hΓ hW (nd ho (by intro c hc; cases hc)) hn
   | min=>exact (wK (big:=false) h ho hE').wp hΓ hW (nd ho (by intro c hc; cases hc)) hn
   | _=>exact h.elim
 | _=>exact h.elim
end
end Go.AI
namespace Go.AI
open Go
open Go.RowKit (Below)
theorem tE {α:Type}:∀ (l:List α) (n:Nat) (v:α) (x:α),x∈bB l n v→x=v∨x∈l
 | [],n,v,x,h=>by simp [bB] at h
 | y::r,0,v,x,h=>by
  simp only [bB,List.mem_cons] at h
  rcases h with h | h
  ·exact .inl h
  ·exact .inr (List.mem_cons_of_mem _ h)
 | y::r,n+1,v,x,h=>by
  simp only [bB,List.mem_cons] at h
  rcases h with h | h
  ·exact .inr (by rw [h]; exact List.mem_cons_self ..)
  ·rcases tE r n v x h with h | h
   ·exact .inl h
   ·exact .inr (List.mem_cons_of_mem _ h)
theorem ip {α:Type}:∀ (vs:List α) (l:List α) (off:Nat) (x:α),x∈setMany l off vs→x∈vs∨x∈l
 | [],l,off,x,h => .inr h
 | v::vs,l,off,x,h=>by
  simp only [setMany] at h
  rcases ip vs _ _ x h with h | h
  ·exact .inl (List.mem_cons_of_mem _ h)
  ·rcases tE _ _ _ _ h with h | h
   ·exact .inl (by rw [h]; exact List.mem_cons_self ..)
   ·exact .inr h
section
variable {Γ:aH} {c:Ctx} {bx:List (Nat×List AV)} {w:World}
theorem jA {w:World} {b:Nat} (h:aX w b) (g:Nat) (vs:Array Value):aX (w.setRow g vs) b:=by
 obtain ⟨c,T,h⟩:=h
 by_cases e:b=g
 ·subst e; exact ⟨vs,T,setRow_heap _ _ _ _ _ _ h⟩
 ·exact ⟨c,T,by rw [setRow_other _ _ _ _ e]; exact h⟩
theorem lP {g:Nat} {old:Array Value} {T:TypeId} {fr:Nat×Nat} (hg:w.heap[g]?=some (.cells old T fr)) (vs:Array Value):NC w (w.setRow g vs):=by
 refine ⟨by simp,fun b o hb ho=>?_,⟨Nat.le_refl _⟩,fun b hb=>jA hb g vs⟩
 by_cases h:b=g
 ·subst h; rw [hg] at hb; cases hb; cases ho
 ·rw [setRow_other _ _ _ _ h]; exact hb
theorem fV (o:Obj) (ho:nk o):NC w (w.alloc o):=⟨by simp,fun b p hb _=>by rw [Below.heap_alloc w o b (Array.getElem?_eq_some_iff.1 hb).1]; exact hb,.alloc w ho,fun _ h=>pw h o⟩
theorem WI.storeBox (hW:WI Γ c bx w) {d:Nat} {cs cs':List AV} (h:get bx d=some cs) (hne:cs≠[]) {vs':Array Value} (hl:cs'.length=vs'.size) (hc:∀ x∈cs',x.isCell=true)
  (hr:∀ (i:Nat) (x:AV) (v:Value),cs'[i]?=some x→vs'[i]?=some v→RC1 c x v):WI Γ c ((d,cs')::bx) (w.setRow (c.ρ d) vs')∧NC w (w.setRow (c.ρ d) vs'):=by
 obtain ⟨h1,h2,h3,vs,T,h4,h5,h6⟩:=hW.box d cs h hne
 have hB:=hW.ext.size
 refine ⟨⟨hW.ext.trans ⟨rfl,rfl,rfl,by simp,fun k hk=>setRow_other _ _ _ _ (by intro e; exact hk (by first | (rw [e]; exact h1) | (rw [← e]; exact h1)))⟩,⟨fun b o v hm=>?_,fun b x hx=>by
  have hx:=hW.sub.map b x hx
  rw [setRow_other _ _ _ _ (fun e=>by rw [e,h4] at hx; cases hx)]; exact hx⟩,hW.le0,hW.new.keep (fun _ h=>jA h _ _),fun d' ds hd' hne'=>?_,fun d1 d2 c1 c2 g1 g2 n1 n2 hρ=>?_,fun k=>?_,fun k b o hx=>?_⟩,lP h4 _⟩
 ·by_cases hb:b=c.ρ d
  ·subst hb; rw [h2 o] at hm; cases hm
  ·rw [cell_setRow_other _ _ _ _ hb]; exact hW.sub.cell b o v hm
 ·rw [ak] at hd'
  split at hd'
  ·rename_i hdd
   subst hdd
   cases hd'
   exact ⟨h1,h2,hc,vs',T,setRow_heap _ _ _ _ _ _ h4,hl,hr⟩
  ·rename_i hdd
   obtain ⟨g1,g2,g3,us,U,g4,g5,g6⟩:=hW.box d' ds hd' hne'
   refine ⟨g1,g2,g3,us,U,?_,g5,g6⟩
   rw [setRow_other _ _ _ _ (fun e=>hdd (hW.inj d' d ds cs hd' h hne' hne e))]; exact g4
 ·rw [ak] at g1 g2
  split at g1
  ·rename_i e1
   split at g2
   ·rename_i e2; rw [e1,e2]
   ·rename_i e2
    rw [e1] at hρ ⊢
    exact hW.inj d d2 cs c2 h g2 hne n2 hρ
  ·rename_i e1
   split at g2
   ·rename_i e2
    rw [e2] at hρ ⊢
    exact hW.inj d1 d c1 cs g1 h n1 hne hρ
   ·exact hW.inj d1 d2 c1 c2 g1 g2 n1 n2 hρ
 ·have ho:=hW.own k
  refine ⟨fun g hg=>?_,ho.shape,fun g d' ds hg hd' hne'=>?_,ho.apart⟩
  ·obtain ⟨len,cap,U,cells,q1,q2,q3⟩:=ho.blk g hg
   refine ⟨len,cap,U,cells,q1,?_,q3⟩
   rw [setRow_other _ _ _ _ (fun e=>ho.box g d cs hg h hne e.symm)]; exact q2
  ·rw [ak] at hd'
   split at hd'
   ·rename_i e; rw [e]; exact ho.box g d cs hg h hne
   ·exact ho.box g d' ds hg hd' hne'
 ·have hq:=hW.xo k b o hx
  refine ⟨hq.new,?_,hq.kept,hq.mem,hq.map,fun d' ds hd' hne'=>?_,hq.own,hq.inj⟩
  ·rw [setRow_other _ _ _ _ (fun e=>hq.box d cs h hne e.symm)]; exact hq.obj
  ·rw [ak] at hd'
   split at hd'
   ·rename_i e; rw [e]; exact hq.box d cs h hne
   ·exact hq.box d' ds hd' hne'
def Ctx.at (c:Ctx) (d b:Nat):Ctx:={ c with ρ:=fun j=>if j=d then b else c.ρ j }
theorem RC1.at_cell {x:AV} {v:Value} (h:RC1 c x v) (hx:x.isCell=true) (d b:Nat):RC1 (c.at d b) x v:=by
 cases x with
 | loc d' o=>simp [AV.isCell] at hx
 | sl o sz xs=>cases o <;> exact h
 | _=>exact h
theorem RC.unloc {x:AV} {v:Value} (h:RC c x v) (d b:Nat):RC (c.at d b) (x.unloc d) v:=by
 cases x with
 | loc d' o=>
  simp only [AV.unloc]
  cases hd:Nat.beq d d' with
  | true=>exact RD.junk v
  | false=>
   have hne:d'≠d:=fun e=>by subst e; rw [Nat.beq_refl] at hd; cases hd
   show v=_
   simp only [Ctx.at,if_neg hne]
   exact h
 | agg cs=>
  obtain ⟨vs,h1,h2,h3,h4⟩:=h
  exact ⟨vs,h1,h2,h3,fun i x u g1 g2=>(h4 i x u g1 g2).at_cell (h3 x (List.mem_of_getElem? g1)) d b⟩
 | sl o sz xs=>
  have h1:=(RC.iff (by intro cs hc; cases hc)).1 h
  exact (RC.iff (by intro cs hc; cases hc)).2 (h1.at_cell rfl d b)
 | _=>exact h
theorem Db (d:Nat) (t:List (Nat×AV)) (k:Nat):get (unloc d t) k=(get t k).map (AV.unloc d):=by unfold unloc; rw [jJ]; exact gn (fun (_:Nat) (v:AV)=>v.unloc d) t k
theorem WI.newBox (hW:WI Γ c bx w) (d:Nat) (T:TypeId) {cs:List AV} {vs:Array Value} (hl:cs.length=vs.size) (hc:∀ x∈cs,x.isCell=true)
  (hr:∀ (i:Nat) (x:AV) (v:Value),cs[i]?=some x→vs[i]?=some v→RC1 c x v):WI Γ (c.at d w.heap.size) ((d,cs)::bx) (w.alloc (.cells vs T)):=by
 have hB:=hW.ext.size
 have hnm:∀ o,c.m w.heap.size o=none:=fun o=>by
  cases hm:c.m w.heap.size o with
  | none=>rfl
  | some v=>have:=hW.lt_m hm; omega
 refine ⟨hW.ext.alloc hB _,⟨fun b o v hm=>?_,fun b x hx=>(Below.heap_alloc _ _ _ (hW.lt_map hx)).trans (hW.sub.map b x hx)⟩,hW.le0,hW.new.keep (fun _ h=>pw h _),fun d' ds hd' hne'=>?_,fun d1 d2 c1 c2 g1 g2 n1 n2 hρ=>?_,fun k=>?_,fun k b o hx=>?_⟩
 ·rw [World.cell?_alloc_lt _ _ _ (show (⟨b,o,none⟩:Addr).block<_ from hW.lt_m hm)]; exact hW.sub.cell b o v hm
 ·rw [ak] at hd'
  split at hd'
  ·rename_i hdd
   cases hd'
   have hρ:(c.at d w.heap.size).ρ d'=w.heap.size:=by simp [Ctx.at,hdd]
   rw [hρ]
   exact ⟨dD hB,hnm,hc,vs,T,World.alloc_heap_new _ _,hl,fun i x v g1 g2=>(hr i x v g1 g2).at_cell (hc x (List.mem_of_getElem? g1)) d _⟩
  ·rename_i hdd
   have hρ:(c.at d w.heap.size).ρ d'=c.ρ d':=by simp [Ctx.at,hdd]
   rw [hρ]
   obtain ⟨g1,g2,g3,us,U,g4,g5,g6⟩:=hW.box d' ds hd' hne'
   exact ⟨g1,g2,g3,us,U,(Below.heap_alloc _ _ _ (hW.lt_box hd' hne')).trans g4,g5,fun i x v q1 q2=>(g6 i x v q1 q2).at_cell (g3 x (List.mem_of_getElem? q1)) d _⟩
 ·rw [ak] at g1 g2
  simp only [Ctx.at] at hρ
  split at g1
  ·rename_i e1
   split at g2
   ·rename_i e2; rw [e1,e2]
   ·rename_i e2
    rw [if_pos e1,if_neg e2] at hρ
    have:=hW.lt_box g2 n2
    omega
  ·rename_i e1
   split at g2
   ·rename_i e2
    rw [if_pos e2,if_neg e1] at hρ
    have:=hW.lt_box g1 n1
    omega
   ·rename_i e2
    rw [if_neg e1,if_neg e2] at hρ
    exact hW.inj d1 d2 c1 c2 g1 g2 n1 n2 hρ
 ·have ho:=hW.own k
  refine ⟨fun g hg=>?_,ho.shape,fun g d' ds hg hd' hne'=>?_,ho.apart⟩
  ·obtain ⟨len,cap,U,cells,q1,q2,q3⟩:=ho.blk g hg
   exact ⟨len,cap,U,cells,q1,(Below.heap_alloc _ _ _ (hW.lt_own hg)).trans q2,q3⟩
  ·rw [ak] at hd'
   have hlt:=hW.lt_own (k:=k) (g:=g) hg
   split at hd'
   ·rename_i e
    simp only [Ctx.at,if_pos e]
    omega
   ·rename_i e
    simp only [Ctx.at,if_neg e]
    exact ho.box g d' ds hg hd' hne'
 ·have hq:=hW.xo k b o hx
  have hlt:=hW.lt_x hx
  refine ⟨hq.new,(Below.heap_alloc _ _ _ hlt).trans hq.obj,hq.kept,hq.mem,hq.map,fun d' ds hd' hne'=>?_,hq.own,hq.inj⟩
  rw [ak] at hd'
  split at hd'
  ·rename_i e
   simp only [Ctx.at,if_pos e]
   omega
  ·rename_i e
   simp only [Ctx.at,if_neg e]
   exact hq.box d' ds hd' hne'
end
end Go.AI
namespace Go.AI
open Go
open Go.RowKit (Below)
section
variable {Γ:aH} {c:Ctx} {bx:List (Nat×List AV)} {w:World}
def vb (k:Nat) (bx:List (Nat×List AV)):List (Nat×List AV):=E6 (AV.dem1 k) bx
theorem Fp (k:Nat) (bx:List (Nat×List AV)) (d:Nat):get (vb k bx) d=(get bx d).map (fun cs=>cs.map (AV.dem1 k)):=by unfold vb; rw [uY]; exact gn (fun (_:Nat) (cs:List AV)=>cs.map (AV.dem1 k)) bx d
theorem jm {k d:Nat} {cs:List AV} (h:get (vb k bx) d=some cs) (hne:cs≠[]):∃ ds,get bx d=some ds∧ds≠[]∧cs=ds.map (AV.dem1 k):=by
 rw [Fp] at h
 obtain ⟨ds,h1,h2⟩:=Option.map_eq_some_iff.1 h
 exact ⟨ds,h1,fun e=>hne (by rw [← h2,e]; rfl),h2.symm⟩
def Ctx.mem (c:Ctx) (m:Mem):Ctx:={ c with m:=m }
theorem Dm {cs:List AV} {vs:Array Value} {k:Nat} {u:Value} {sz:Nat} {m':Mem} (hle:c.m.le m') (h:cs.length=vs.size∧∀ (i:Nat) (x:AV) (v:Value),cs[i]?=some x→vs[i]?=some v→RC1 c x v) :
  (cs.map (AV.dem1 k)).length=vs.size∧∀ (i:Nat) (x:AV) (v:Value),(cs.map (AV.dem1 k))[i]?=some x→vs[i]?=some v→RC1 ((c.mem m').own k u sz) x v:=by
 refine ⟨by simpa using h.1,fun i x v g1 g2=>?_⟩
 rw [List.getElem?_map] at g1
 obtain ⟨y,hy,rfl⟩:=Option.map_eq_some_iff.1 g1
 exact ((h.2 i y v hy g2).mono (c':=c.mem m') ⟨hle,rfl,rfl,rfl,rfl,rfl⟩).own
theorem eC (k j:Nat) (u:Value) (sz:Nat) (m':Mem):aU ((c.mem m').own k u sz) j=if j=k then iC u else aU c j:=by
 by_cases h:j=k
 ·simp only [aU,Ctx.own,Ctx.mem,if_pos h]
 ·simp only [aU,Ctx.own,Ctx.mem,if_neg h]
theorem WI.reown (hW:WI Γ c bx w) {k sz:Nat} {u:Value} {m':Mem} {w':World} (hle:c.m.le m') (hs:m'.sub w') (gk:Nat) (hgk:aU c k=some gk∨w.heap.size≤gk)
  (hn:∀ b o v,m' b o=some v→c.m b o=some v∨(b=gk∧aX w' gk)) (hmp:m'.maps=c.m.maps) (hos:w'.os=w.os) (htape:w'.tape=w.tape) (hout:w'.output=w.output) (hsize:w.heap.size≤w'.heap.size)
  (hblk:∀ b,b<w.heap.size→b≠gk→w'.heap[b]?=w.heap[b]?) (hNC:NC w w')
  (hshape:js (sfree Γ.w0 k) u)
  (hu:∀ g,iC u=some g→g=gk∧∃ len cap T,∃ cells:Array Value,u = .slice (some ⟨g,0,none⟩) len cap∧w'.heap[g]?=some (.cells cells T (0,0))∧cells.size=cap*sz ∧
   ∀ o,len*sz≤o→m' g o=none) :
  WI Γ ((c.mem m').own k u sz) (vb k bx) w'∧NC w w':=by
 have hB:=hW.ext.size
 have hgo:rl Γ.w0 k gk:=by
  rcases hgk with h | h
  ·obtain ⟨_,_,_,_,_,_,_,_,h5⟩:=(hW.own k).blk gk h; exact h5
  ·exact EW (by omega)
 have hgB:free Γ.w0 gk:=hgo.free
 have hbox:∀ d cs,get bx d=some cs→cs≠[]→c.ρ d≠gk:=fun d cs h hne e=>by
  rcases hgk with h' | h'
  ·exact (hW.own k).box gk d cs h' h hne e
  ·have:=hW.lt_box h hne; omega
 refine ⟨⟨hW.ext.trans ⟨hos,htape,hout,hsize,fun b hb=>hblk b (Nat.lt_of_lt_of_le (not_free hb) hB) (d7 hb hgB)⟩,hs,hW.le0.trans hle,⟨fun b o v h=>?_,fun b x h=>hW.new.map b x (by rw [← hmp]; exact h)⟩,fun d cs h hne=>?_,fun d1 d2 c1 c2 g1 g2 n1 n2 hρ=>?_,fun j=>?_,fun j b o hx=>?_⟩,hNC⟩
 ·rcases hn b o v h with h | h
  ·exact (hW.new.cell b o v h).imp id fun ⟨h1,h2⟩=>⟨h1,hNC.soft b h2⟩
  ·exact .inr (by rw [h.1]; exact ⟨hgB,h.2⟩)
 ·obtain ⟨ds,h1,h2,rfl⟩:=jm h hne
  obtain ⟨q1,q2,q3,vs,T,q4,q5,q6⟩:=hW.box d ds h1 h2
  have hneg:=hbox d ds h1 h2
  refine ⟨q1,fun o=>?_,fun x hx=>?_,vs,T,(hblk _ (hW.lt_box h1 h2) hneg).trans q4,Dm hle ⟨q5,q6⟩⟩
  ·show m' (c.ρ d) o=none
   cases hm:m' (c.ρ d) o with
   | none=>rfl
   | some v=>
    rcases hn _ _ _ hm with h | h
    ·rw [q2 o] at h; cases h
    ·exact absurd h.1 hneg
  ·obtain ⟨y,hy,rfl⟩:=List.mem_map.1 hx
   exact AV.dem1_cell k (q3 y hy)
 ·obtain ⟨e1,q1,q2,_⟩:=jm g1 n1
  obtain ⟨e2,q3,q4,_⟩:=jm g2 n2
  exact hW.inj d1 d2 e1 e2 q1 q3 q2 q4 hρ
 ·have hj:=hW.own j
  by_cases hjk:j=k
  ·subst hjk
   refine ⟨fun g hg=>?_,?_,fun g d cs hg h hne=>?_,fun g i hg hi=>?_⟩
   ·rw [eC,if_pos rfl] at hg
    obtain ⟨rfl,len,cap,T,cells,r1,r2,r3,r4⟩:=hu g hg
    exact ⟨len,cap,T,cells,by simp [Ctx.own,r1],r2,by simpa [Ctx.own] using r3,fun o ho=>by simp only [Ctx.own,if_true] at ho; exact r4 o ho,hgo⟩
   ·simp only [Ctx.own,if_true]; exact hshape
   ·rw [eC,if_pos rfl] at hg
    obtain ⟨rfl,_⟩:=hu g hg
    obtain ⟨ds,h1,h2,_⟩:=jm h hne
    exact hbox d ds h1 h2
   ·rw [eC,if_pos rfl] at hg
    obtain ⟨rfl,_⟩:=hu g hg
    rw [eC] at hi
    by_cases hij:i=j
    ·exact hij
    ·rw [if_neg hij] at hi
     rcases hgk with h' | h'
     ·exact (hW.own j).apart g i h' hi
     ·have:=hW.lt_own hi; omega
  ·have hob:aU ((c.mem m').own k u sz) j=aU c j:=by rw [eC,if_neg hjk]
   have hne':∀ g,aU c j=some g→g≠gk:=fun g hg e=>by
    subst e
    rcases hgk with h' | h'
    ·exact hjk ((hW.own k).apart g j h' hg)
    ·have:=hW.lt_own hg; omega
   refine ⟨fun g hg=>?_,?_,fun g d cs hg h hne=>?_,fun g i hg hi=>?_⟩
   ·rw [hob] at hg
    obtain ⟨len,cap,T,cells,r1,r2,r3,r4,r5⟩:=hj.blk g hg
    refine ⟨len,cap,T,cells,by simp only [Ctx.own,Ctx.mem,if_neg hjk]; exact r1,(hblk g (hW.lt_own hg) (hne' g hg)).trans r2,by simp only [Ctx.own,Ctx.mem,if_neg hjk]; exact r3,fun o ho=>?_,r5⟩
    simp only [Ctx.own,Ctx.mem,if_neg hjk] at ho
    show m' g o=none
    cases hm:m' g o with
    | none=>rfl
    | some v=>
     rcases hn _ _ _ hm with h | h
     ·rw [r4 o ho] at h; cases h
     ·exact absurd h.1 (hne' g hg)
   ·simp only [Ctx.own,Ctx.mem,if_neg hjk]; exact hj.shape
   ·rw [hob] at hg
    obtain ⟨ds,h1,h2,_⟩:=jm h hne
    exact hj.box g d ds hg h1 h2
   ·rw [hob] at hg
    rw [eC] at hi
    split at hi
    ·rename_i e
     obtain ⟨rfl,_⟩:=hu g hi
     exact absurd rfl (hne' g hg)
    ·exact hj.apart g i hg hi
 ·have hq:=hW.xo j b o hx
  have hlt:=hW.lt_x hx
  have hne':b≠gk:=fun e=>by
   rcases hgk with h' | h'
   ·exact hq.own k (by rw [h',e])
   ·omega
  refine ⟨hq.new,(hblk b hlt hne').trans hq.obj,hq.kept,fun i hi=>?_,(congrFun hmp b).trans hq.map,fun d cs h hne=>?_,fun i hi=>?_,hq.inj⟩
  ·show m' b i=none
   cases hm:m' b i with
   | none=>rfl
   | some v=>
    rcases hn _ _ _ hm with h | h
    ·rw [hq.mem i hi] at h; cases h
    ·exact absurd h.1 hne'
  ·obtain ⟨ds,h1,h2,_⟩:=jm h hne
   exact hq.box d ds h1 h2
  ·rw [eC] at hi
   split at hi
   ·obtain ⟨e,_⟩:=hu b hi
    exact hne' e
   ·exact hq.own i hi
theorem RC.reown {x:AV} {v:Value} (h:RC c x v) {k sz:Nat} {u:Value} {m':Mem} (hle:c.m.le m'):RC ((c.mem m').own k u sz) (x.dem k) v:=
 (h.mono (c':=c.mem m') ⟨hle,rfl,rfl,rfl,rfl,rfl⟩).own
theorem WI.own_none (hW:WI Γ c bx w) (k sz:Nat) (u:Value) (hshape:js (sfree Γ.w0 k) u) (hsp:j6 u=false) :
  WI Γ ((c.mem c.m).own k u sz) (vb k bx) w:=by
 refine (hW.reown (.refl _) hW.sub w.heap.size (.inr (Nat.le_refl _)) (fun b o v h => .inl h) rfl rfl rfl rfl (Nat.le_refl _) (fun _ _ _=>rfl) (.refl w) hshape (fun g hg=>?_)).1
 unfold iC at hg
 split at hg
 ·split at hg
  ·rename_i hlt
   simp [j6,hlt] at hsp
  ·cases hg
 ·cases hg
theorem WI.own_new (hW:WI Γ c bx w) (k sz len cap:Nat) (cells:Array Value) (E:TypeId) (hsz:cells.size=cap*sz) (_hlc:len≤cap) :
  WI Γ ((c.mem (c.m.with fun b o=>if b=w.heap.size then (if o<len*sz then cells[o]? else none) else c.m b o)).own k (.slice (some ⟨w.heap.size,0,none⟩) len cap) sz) (vb k bx) (w.alloc (.cells cells E)) ∧
   c.m.le (c.m.with fun b o=>if b=w.heap.size then (if o<len*sz then cells[o]? else none) else c.m b o)∧NC w (w.alloc (.cells cells E)):=by
 have hle:c.m.le (c.m.with fun b o=>if b=w.heap.size then (if o<len*sz then cells[o]? else none) else c.m b o):=⟨fun b o v h=>by
  have:=hW.lt_m h
  show (if b=w.heap.size then _ else _)=_
  rw [if_neg (by omega)]; exact h,fun _ _ h=>h⟩
 refine ⟨(hW.reown (w':=w.alloc (.cells cells E)) hle ⟨fun b o v h=>?_,fun b x h=>(Below.heap_alloc _ _ _ (hW.lt_map (x:=x) h)).trans (hW.sub.map b x h)⟩ w.heap.size (.inr (Nat.le_refl _)) (fun b o v h=>?_) rfl rfl rfl rfl (by simp) (fun b hb _=>Below.heap_alloc _ _ _ hb) (fV _ (bA _ _)) (.inr ⟨_,_,_,rfl,(by intro h; cases h),fun a ha _=>by cases ha; exact ⟨rfl,Ev hW.ext.size⟩⟩) (fun g hg=>?_)).1,hle,fV _ (bA _ _)⟩
 ·simp only [Mem.with] at h
  split at h
  ·rename_i hb
   subst hb
   split at h
   ·rw [World.cell?_alloc_new]; exact h
   ·cases h
  ·rw [World.cell?_alloc_lt _ _ _ (show (⟨b,o,none⟩:Addr).block<_ from hW.lt_m h)]
   exact hW.sub.cell b o v h
 ·simp only [Mem.with] at h
  split at h
  ·exact .inr ⟨‹_›,cells,E,World.alloc_heap_new _ _⟩
  ·exact .inl h
 ·simp only [iC] at hg
  split at hg
  ·cases hg
   refine ⟨rfl,len,cap,E,cells,rfl,World.alloc_heap_new _ _,hsz,fun o ho=>?_⟩
   simp only [Mem.with]
   rw [if_pos trivial,if_neg (by omega)]
  ·cases hg
theorem WI.own_ext (hW:WI Γ c bx w) {k g len cap:Nat} (hτ:c.τ k = .slice (some ⟨g,0,none⟩) len cap) (hlt:len<cap) (news:List Value) (n:Nat) (hnl:news.length=n*c.σ k) (hneed:len+n≤cap)
  {cells:Array Value} {T:TypeId} (hg:w.heap[g]?=some (.cells cells T (0,0))) :
  WI Γ ((c.mem (c.m.with fun b o=>if b=g∧len*c.σ k≤o∧o<(len+n)*c.σ k then news[o - len*c.σ k]? else c.m b o)).own k (.slice (some ⟨g,0,none⟩) (len+n) cap) (c.σ k)) (vb k bx)
    (w.setRow g (cells.toList.take (len*c.σ k)++news++cells.toList.drop (len*c.σ k+news.length)).toArray) ∧
   c.m.le (c.m.with fun b o=>if b=g∧len*c.σ k≤o∧o<(len+n)*c.σ k then news[o - len*c.σ k]? else c.m b o)∧NC w (w.setRow g (cells.toList.take (len*c.σ k)++news++cells.toList.drop (len*c.σ k+news.length)).toArray):=by
 have hblk:aU c k=some g:=by simp [aU,iC,hτ,hlt]
 obtain ⟨len',cap',T',cells',h1,h2,h3,h4,h5⟩:=(hW.own k).blk g hblk
 rw [hτ] at h1
 cases h1
 rw [hg] at h2
 cases h2
 have hmul:(len+n)*c.σ k≤cap*c.σ k:=Nat.mul_le_mul_right _ hneed
 have hmul2:(len+n)*c.σ k=len*c.σ k+news.length:=by rw [Nat.add_mul,hnl]
 have hle:c.m.le (c.m.with fun b o=>if b=g∧len*c.σ k≤o∧o<(len+n)*c.σ k then news[o - len*c.σ k]? else c.m b o):=⟨fun b o v h=>by
  by_cases hc:b=g∧len*c.σ k≤o∧o<(len+n)*c.σ k
  ·have:=h4 o hc.2.1
   rw [hc.1] at h
   rw [this] at h; cases h
  ·show (if _ then _ else _)=_
   rw [if_neg hc]; exact h,fun _ _ h=>h⟩
 have hrow:∀ o:Nat,(cells.toList.take (len*c.σ k)++news++cells.toList.drop (len*c.σ k+news.length)).toArray[o]?=if len*c.σ k≤o∧o<(len+n)*c.σ k then news[o - len*c.σ k]? else cells[o]?:=fun o=>by
  have hl1:(cells.toList.take (len*c.σ k)).length=len*c.σ k:=by simp; omega
  rw [List.getElem?_toArray]
  by_cases ho1:o<len*c.σ k
  ·rw [if_neg (by omega),List.append_assoc,List.getElem?_append_left (by omega),List.getElem?_take,if_pos ho1]; simp
  ·by_cases ho2:o<(len+n)*c.σ k
   ·rw [if_pos ⟨by omega,ho2⟩,List.append_assoc,List.getElem?_append_right (by omega),hl1,List.getElem?_append_left (by omega)]
   ·rw [if_neg (by omega),List.getElem?_append_right (by simp; omega),List.getElem?_drop]
    simp only [List.length_append,hl1]
    rw [show len*c.σ k+news.length+(o - (len*c.σ k+news.length))=o by omega]; simp
 refine ⟨(hW.reown (w':=w.setRow g (cells.toList.take (len*c.σ k)++news++cells.toList.drop (len*c.σ k+news.length)).toArray) hle ⟨fun b o v h=>?_,fun b x h=>?_⟩ g (.inl hblk) (fun b o v h=>?_) rfl rfl rfl rfl (by simp) (fun b hb hne=>setRow_other _ _ _ _ hne) (lP hg _) (.inr ⟨_,_,_,rfl,(by intro h; cases h),fun a ha _=>by cases ha; exact ⟨rfl,h5.sfree⟩⟩) (fun g' hg'=>?_)).1,hle,lP hg _⟩
 ·simp only [Mem.with] at h
  by_cases hb:b=g
  ·subst hb
   rw [cell_setRow_same _ _ _ _ _ _ _ hg,hrow]
   by_cases hc:len*c.σ k≤o∧o<(len+n)*c.σ k
   ·rw [if_pos ⟨rfl,hc⟩] at h; rw [if_pos hc]; exact h
   ·rw [if_neg (fun hh=>hc hh.2)] at h
    rw [if_neg hc]
    have:=hW.sub.cell b o v h
    simpa [World.cell?,hg] using this
  ·rw [if_neg (fun hh=>hb hh.1)] at h
   rw [cell_setRow_other _ _ _ _ hb]; exact hW.sub.cell b o v h
 ·have hx:=hW.sub.map b x h
  rw [setRow_other _ _ _ _ (fun e=>by rw [e,hg] at hx; cases hx)]
  exact hx
 ·simp only [Mem.with] at h
  by_cases hc:b=g∧len*c.σ k≤o∧o<(len+n)*c.σ k
  ·exact .inr ⟨hc.1,_,T,setRow_heap _ _ _ _ _ _ hg⟩
  ·rw [if_neg hc] at h; exact .inl h
 ·simp only [iC] at hg'
  split at hg'
  ·cases hg'
   refine ⟨rfl,len+n,cap,T,_,rfl,setRow_heap _ _ _ _ _ _ hg,?_,fun o ho=>?_⟩
   ·simp only [List.size_toArray,List.length_append,List.length_take,List.length_drop,Array.length_toList]
    omega
   ·simp only [Mem.with]
    rw [if_neg (by omega)]
    exact h4 o (by omega)
  ·cases hg'
end
end Go.AI
namespace Go.AI
open Go
open Go.RowKit (Below)
section
variable {Γ:aH} {c:Ctx} {bx:List (Nat×List AV)} {w:World}
theorem WI.freeze (hW:WI Γ c bx w) {d:Nat} {cs:List AV} (h:get bx d=some cs) (hne:cs≠[]):∃ m',c.m.le m'∧WI Γ (c.mem m') ((d,[])::bx) w ∧
  RD m' (.ref (cs.map AV.pub1)) (.pointer (some ⟨c.ρ d,0,none⟩)):=by
 obtain ⟨h1,h2,h3,vs,T,h4,h5,h6⟩:=hW.box d cs h hne
 have hle:c.m.le (c.m.with fun b o=>if b=c.ρ d then vs[o]? else c.m b o):=⟨fun b o v hm=>by
  show (if _ then _ else _)=_
  rw [if_neg (fun e=>by subst e; rw [h2 o] at hm; cases hm)]; exact hm,fun _ _ h=>h⟩
 refine ⟨_,hle,⟨hW.ext,⟨fun b o v hm=>?_,hW.sub.map⟩,hW.le0.trans hle,⟨fun b o v hm=>?_,hW.new.map⟩,fun d' ds hd' hne'=>?_,fun d1 d2 c1 c2 g1 g2 n1 n2 hρ=>?_,fun k=>?_,fun k b o hx=>?_⟩,?_⟩
 ·simp only [Ctx.mem,Mem.with] at hm
  split at hm
  ·rename_i hb; subst hb; simpa [World.cell?,h4] using hm
  ·exact hW.sub.cell b o v hm
 ·simp only [Ctx.mem,Mem.with] at hm
  split at hm
  ·rename_i hb; exact .inr (by rw [hb]; exact ⟨h1,vs,T,h4⟩)
  ·exact hW.new.cell b o v hm
 ·rw [ak] at hd'
  split at hd'
  ·cases hd'; exact absurd rfl hne'
  ·rename_i hdd
   obtain ⟨g1,g2,g3,us,U,g4,g5,g6⟩:=hW.box d' ds hd' hne'
   refine ⟨g1,fun o=>?_,g3,us,U,g4,g5,fun i x v q1 q2=>(g6 i x v q1 q2).mono (c':=c.mem _) ⟨hle,rfl,rfl,rfl,rfl,rfl⟩⟩
   show (if c.ρ d'=c.ρ d then _ else _)=_
   rw [if_neg (fun e=>hdd (hW.inj d' d ds cs hd' h hne' hne e))]; exact g2 o
 ·rw [ak] at g1 g2
  split at g1
  ·cases g1; exact absurd rfl n1
  ·split at g2
   ·cases g2; exact absurd rfl n2
   ·exact hW.inj d1 d2 c1 c2 g1 g2 n1 n2 hρ
 ·have ho:=hW.own k
  refine ⟨fun g hg=>?_,ho.shape,fun g d' ds hg hd' hne'=>?_,ho.apart⟩
  ·obtain ⟨len,cap,U,cells,q1,q2,q3,q4,q5⟩:=ho.blk g hg
   refine ⟨len,cap,U,cells,q1,q2,q3,fun o ho'=>?_,q5⟩
   show (if g=c.ρ d then _ else _)=_
   rw [if_neg (fun e=>ho.box g d cs hg h hne e.symm)]; exact q4 o ho'
  ·rw [ak] at hd'
   split at hd'
   ·cases hd'; exact absurd rfl hne'
   ·exact ho.box g d' ds hg hd' hne'
 ·have hq:=hW.xo k b o hx
  refine ⟨hq.new,hq.obj,hq.kept,fun i hi=>?_,hq.map,fun d' ds hd' hne'=>?_,hq.own,hq.inj⟩
  ·show (if b=c.ρ d then _ else _)=_
   rw [if_neg (fun e=>hq.box d cs h hne e.symm)]; exact hq.mem i hi
  ·rw [ak] at hd'
   split at hd'
   ·cases hd'; exact absurd rfl hne'
   ·exact hq.box d' ds hd' hne'
 ·have hget:∀ (i:Nat) (y:AV),(cs.map AV.pub1)[i]?=some y→∃ x v,cs[i]?=some x∧vs[i]?=some v∧y=x.pub1:=by
   intro i y hy
   rw [List.getElem?_map] at hy
   obtain ⟨x,hx,rfl⟩:=Option.map_eq_some_iff.1 hy
   have hlt:i<vs.size:=by have:=(List.getElem?_eq_some_iff.1 hx).1; omega
   exact ⟨x,vs[i],hx,Array.getElem?_eq_getElem hlt,rfl⟩
  refine .ref _ _ _ (fun y hy=>?_) (fun i=>(vs[i]?).getD Go.undef) (fun i y hy=>?_) (fun i y hy=>?_)
  ·obtain ⟨x,hx,rfl⟩:=List.mem_map.1 hy
   exact AV.pub1_cell (h3 x hx)
  ·obtain ⟨x,v,q1,q2,rfl⟩:=hget i y hy
   show (if _ then _ else _)=_
   rw [if_pos rfl,Nat.zero_add,q2]; rfl
  ·obtain ⟨x,v,q1,q2,rfl⟩:=hget i y hy
   rw [q2]
   exact (h6 i x v q1 q2).pub.mono hle
theorem RC.frz {x:AV} {v:Value} (h:RC c x v) {m':Mem} (hle:c.m.le m') {d:Nat} {ds:List AV} (hr:RD m' (.ref ds) (.pointer (some ⟨c.ρ d,0,none⟩))):RC (c.mem m') (x.frz d ds) v:=by
 have hm:RC (c.mem m') x v:=h.mono (c':=c.mem m') ⟨hle,rfl,rfl,rfl,rfl,rfl⟩
 cases x with
 | loc d' o=>
  simp only [AV.frz]
  cases hd:Nat.beq d d' with
  | true=>
   have hdd:=Nat.eq_of_beq_eq_true hd
   subst hdd
   have hv:v=_:=h.loc
   have:=hr.ref_drop o
   rw [Nat.zero_add] at this
   rw [hv]
   exact this
  | false=>exact hm
 | _=>exact hm
end
end Go.AI
namespace Go.AI
open Go
open Go.RowKit (Below)
theorem RD.flat {m:Mem} {o:Own} {sz:Nat} {xs:List (List AV)} {base:Option Addr} {len cap:Nat} (h:RD m (.sl o sz xs) (.slice base len cap)) :
  ∃ l:List Value,l.length=len*sz∧(∀ (i:Nat) (x:List AV) (j:Nat) (c:AV),xs[i]?=some x→x[j]?=some c→∃ v,l[i*sz+j]?=some v∧RD m c v)∧(∀ v∈l,v.oneCell'=true) ∧
   xs.length=len∧len≤cap∧(∀ x∈xs,x.length=sz)∧(∀ x∈xs,∀ c∈x,AV.isCell c=true)∧(0<len→∃ b off,base=some ⟨b,off,none⟩∧∀ k v,l[k]?=some v→m b (off+k)=some v):=by
 cases h with
 | sl _ _ _ _ _ _ ho hf hl hc hsz hcell b off hb g hg hr=>
  have key:∀ k,k<len*sz→∃ x c,xs[k / sz]?=some x∧x[k % sz]?=some c∧k / sz*sz+k % sz=k:=by
   intro k hk
   have hsz0:0<sz:=by
    rcases Nat.eq_zero_or_pos sz with h | h
    ·rw [h,Nat.mul_zero] at hk; omega
    ·exact h
   have h1:k / sz<xs.length:=by rw [hl]; exact (Nat.div_lt_iff_lt_mul hsz0).2 hk
   have h2:k % sz<(xs[k / sz]).length:=by rw [hsz _ (List.getElem_mem h1)]; exact Nat.mod_lt _ hsz0
   exact ⟨_,_,List.getElem?_eq_getElem h1,List.getElem?_eq_getElem h2,Nat.div_add_mod' k sz⟩
  refine ⟨(List.range (len*sz)).map fun k=>g (k / sz) (k % sz),by simp,fun i x j c hx hj=>?_,fun v hv=>?_,hl,hc,hsz,hcell,fun h0=>⟨b,off,hb h0,fun k v hk=>?_⟩⟩
  ·have hi:i<len:=by rw [← hl]; exact (List.getElem?_eq_some_iff.1 hx).1
   have hj':j<sz:=by rw [← hsz x (List.mem_of_getElem? hx)]; exact (List.getElem?_eq_some_iff.1 hj).1
   have hlt:i*sz+j<len*sz:=by
    have:(i+1)*sz≤len*sz:=Nat.mul_le_mul_right _ hi
    rw [Nat.succ_mul] at this; omega
   refine ⟨g i j,?_,hr i x j c hx hj⟩
   rw [List.getElem?_map,List.getElem?_eq_getElem (by simpa using hlt)]
   simp only [List.getElem_range,Option.map_some,Option.some.injEq]
   rw [Nat.mul_comm i sz,Nat.mul_add_div (by omega),Nat.mul_add_mod,Nat.div_eq_of_lt hj',Nat.mod_eq_of_lt hj',Nat.add_zero]
  ·obtain ⟨k,hk,rfl⟩:=List.mem_map.1 hv
   obtain ⟨x,c,h1,h2,h3⟩:=key k (List.mem_range.1 hk)
   exact (RD.one (hr _ x _ c h1 h2) (hcell x (List.mem_of_getElem? h1) c (List.mem_of_getElem? h2))).1
  ·rw [List.getElem?_map] at hk
   obtain ⟨q,hq,rfl⟩:=Option.map_eq_some_iff.1 hk
   obtain ⟨hq1,hq2⟩:=List.getElem?_eq_some_iff.1 hq
   simp at hq1 hq2
   subst hq2
   obtain ⟨x,c,h1,h2,h3⟩:=key k hq1
   have:=hg _ x _ c h1 h2
   rw [Nat.add_assoc,h3] at this
   exact this
theorem RD.of_flat {m:Mem} {o:Own} {sz:Nat} {xs:List (List AV)} {b off len cap:Nat} (ho:∀ k,o≠.id k) (hf:o = .full→cap=len) (hl:xs.length=len) (hc:len≤cap) (hsz:∀ x∈xs,x.length=sz)
  (hcell:∀ x∈xs,∀ c∈x,AV.isCell c=true) {l:List Value} (hr:∀ (i:Nat) (x:List AV) (j:Nat) (c:AV),xs[i]?=some x→x[j]?=some c→∃ v,l[i*sz+j]?=some v∧RD m c v)
  (hm:∀ k v,l[k]?=some v→k<len*sz→m b (off+k)=some v):RD m (.sl o sz xs) (.slice (some ⟨b,off,none⟩) len cap):=by
 have hlt:∀ (i:Nat) (x:List AV) (j:Nat) (c:AV),xs[i]?=some x→x[j]?=some c→i*sz+j<len*sz:=by
  intro i x j c hx hj
  have hi:i<len:=by rw [← hl]; exact (List.getElem?_eq_some_iff.1 hx).1
  have hj':j<sz:=by rw [← hsz x (List.mem_of_getElem? hx)]; exact (List.getElem?_eq_some_iff.1 hj).1
  have:(i+1)*sz≤len*sz:=Nat.mul_le_mul_right _ hi
  rw [Nat.succ_mul] at this; omega
 refine .sl _ _ _ _ _ _ ho hf hl hc hsz hcell b off (fun _=>rfl) (fun i j=>(l[i*sz+j]?).getD Go.undef) (fun i x j c hx hj=>?_) (fun i x j c hx hj=>?_)
 ·obtain ⟨v,hv,_⟩:=hr i x j c hx hj
  rw [hv,Nat.add_assoc]
  exact hm _ v hv (hlt i x j c hx hj)
 ·obtain ⟨v,hv,h⟩:=hr i x j c hx hj
  rw [hv]; exact h
theorem fx {P:Program} {t e:TypeId} {i:TypeInfo} (ht:P.underlying t=some (.slice e)) (hi:P.info? e=some i) {w:World} {T:TypeId}
  {g sLen sCap:Nat} {cur:Array Value} (hg:w.heap[g]?=some (.cells cur T (0,0)))
  (a:Addr) (m c:Nat) (news:List Value) (hl:news.length=m*i.size) (hnews:∀ j u,news[j]?=some u→w.cell? (a.add j)=some u) (h1:∀ u∈news,u.oneCell'=true)
  (hroom:sLen+m≤sCap) (hfit:sLen*i.size+news.length≤cur.size) (ty:TypeId) :
  (Builtin.append_ #[t,t] ty #[.slice (some ⟨g,0,none⟩) sLen sCap,.slice (some a) m c]).run P w =
   .ok (.slice (some ⟨g,0,none⟩) (sLen+m) sCap) (w.setRow g (cur.toList.take (sLen*i.size)++news++cur.toList.drop (sLen*i.size+news.length)).toArray):=by
 have hf:=run_firstCells_some (P:=P) w i.size m a m c news hl hnews
 have hst:=run_storeCells_at P g (sLen*i.size) T news 0 cur w hg (by simpa using hfit) h1
 simp only [Nat.add_zero] at hst
 have hadd:(⟨g,0,none⟩:Addr).add (sLen*i.size)=⟨g,sLen*i.size,none⟩:=by rw [cG,Nat.zero_add]
 simp [Builtin.append_,run_underlying ht,sizeOf,typeInfo,hi,Builtin.lenOf,hroom,hf,hadd,hst]
theorem kW {m:Mem} {sz:Nat} {xs ys:List (List AV)} {l k:List Value} (hl:l.length=xs.length*sz)
  (hx:∀ (i:Nat) (x:List AV) (j:Nat) (c:AV),xs[i]?=some x→x[j]?=some c→∃ v,l[i*sz+j]?=some v∧RD m c v)
  (hy:∀ (i:Nat) (x:List AV) (j:Nat) (c:AV),ys[i]?=some x→x[j]?=some c→∃ v,k[i*sz+j]?=some v∧RD m c v) :
  ∀ (i:Nat) (x:List AV) (j:Nat) (c:AV),(xs++ys)[i]?=some x→x[j]?=some c→∃ v,(l++k)[i*sz+j]?=some v∧RD m c v:=by
 intro i x j c h1 h2
 by_cases hi:i<xs.length
 ·rw [List.getElem?_append_left hi] at h1
  obtain ⟨v,g1,g2⟩:=hx i x j c h1 h2
  refine ⟨v,?_,g2⟩
  rw [List.getElem?_append_left (List.getElem?_eq_some_iff.1 g1).1]; exact g1
 ·rw [List.getElem?_append_right (by omega)] at h1
  obtain ⟨v,g1,g2⟩:=hy _ x j c h1 h2
  refine ⟨v,?_,g2⟩
  have:i*sz+j=xs.length*sz+((i - xs.length)*sz+j):=by
   have:i*sz=xs.length*sz+(i - xs.length)*sz:=by rw [← Nat.add_mul]; congr 1; omega
   omega
  rw [this,List.getElem?_append_right (by omega),hl]
  rw [show xs.length*sz+((i - xs.length)*sz+j) - xs.length*sz=(i - xs.length)*sz+j by omega]; exact g1
section
variable {Γ:aH} {c:Ctx} {bx:List (Nat×List AV)} {w:World}
theorem WI.drew (hW:WI Γ c bx w):WI Γ c bx w.drew:=
 ⟨hW.ext.drew,⟨hW.sub.cell,hW.sub.map⟩,hW.le0,hW.new.keep (fun _ h=>h),hW.box,hW.inj,fun k=>⟨(hW.own k).blk,(hW.own k).shape,(hW.own k).box,(hW.own k).apart⟩,fun k b o h=>⟨(hW.xo k b o h).new,(hW.xo k b o h).obj,(hW.xo k b o h).kept,(hW.xo k b o h).mem,(hW.xo k b o h).map,(hW.xo k b o h).box,(hW.xo k b o h).own,(hW.xo k b o h).inj⟩⟩
theorem gE (w:World) {T:Tab} (hT:T.OK Γ.P) {e:TypeId} {j:TI} (hj:get T e=some j) {zs:List AV} (hz:j.zero.cells?=some zs) (hzl:zs.length=j.size) :
  ∃ (q:TypeInfo) (z:Value),Γ.P.info? e=some q∧q.size=j.size∧q.bytes=j.bytes∧q.zero=some z∧z.cells.size=j.size∧gc c zs z.cells:=by
 obtain ⟨q,d,h1,h2,h3⟩:=bH hT hj
 obtain ⟨z,g1,g2,_⟩:=qL hT (w:=w) (c:=c) hj hz
 simp only [TI.of,h1,h2,Option.some.injEq] at h3
 have hs:=congrArg TI.size h3
 have hb:=congrArg TI.bytes h3
 simp only at hs hb
 simp only [zeroValue,typeInfo,Sem.run_bind,run_program,Result.andThen_ok,h1,Sem.run_pure] at g1
 cases hq:q.zero with
 | none=>rw [hq] at g1; cases g1
 | some z'=>
  rw [hq] at g1
  simp only [Sem.run_pure,Result.ok.injEq,and_true] at g1
  subst g1
  exact ⟨q,z',h1,hs,hb,hq,by have:=g2.1; omega,g2⟩
theorem sm {T:Tab} (hT:T.OK Γ.P) {t:Nat} {i j:TI} {o o':Own} {sz sz':Nat} {xs:List (List AV)} {u v:Value} {zs:List AV} (hi:get T t=some i) (hk3:i.kind=3) (hj:get T i.elem=some j)
  (hz:j.zero.cells?=some zs) (hzl:zs.length=j.size) (hx:RC1 c (.sl o sz xs) u) (hy:RC1 c (.sl o' sz' []) v) (ty:TypeId):(Builtin.append_ #[t,t] ty #[u,v]).run Γ.P w = .ok u w:=by
 have hu:=bK hT hi hk3
 obtain ⟨q,z,q1,q2,q3,q4,q5,_⟩:=gE (c:=c) w hT hj hz hzl
 have hx':RD c.m (.sl .no sz xs) u:=hx.sl_no
 have hy':RD c.m (.sl .no sz' []) v:=hy.sl_no
 obtain ⟨base,len,cap,rfl,_,_⟩:=hx'.elem
 obtain ⟨base',n,cap',rfl,_,_⟩:=hy'.elem
 obtain ⟨l,l1,l2,l3,l4,l5,l6,l7,l8⟩:=hx'.flat
 obtain ⟨k2,k1,k2',k3,k4,k5,k6,k7,k8⟩:=hy'.flat
 subst l4
 simp only [List.length_nil] at k4
 subst k4
 cases base' <;> cases base <;> simp [Builtin.append_,run_underlying hu,sizeOf,typeInfo,q1,Builtin.lenOf,Builtin.firstCells,loadCells,loadCellsFrom,l5,storeCells]
theorem AY {T:Tab} (hT:T.OK Γ.P) (hW:WI Γ c bx w) {t k:Nat} {i j:TI} {o o':Own} {sz sz':Nat} {xs ys:List (List AV)} {u v:Value} {zs:List AV} (hi:get T t=some i) (hk3:i.kind=3) (hj:get T i.elem=some j)
  (hz:j.zero.cells?=some zs) (hzl:zs.length=j.size) (hpos:0<j.size) (hx:RC1 c (.sl o sz xs) u) (hy:RC1 c (.sl o' sz' ys) v) (hsx:j.size=sz∨xs=[]) (hsy:j.size=sz'∨ys=[]) (hroom:eA (xs.length+ys.length) j.bytes)
  (hmax:xs.length+ys.length≤4611686018427387904) (ho:(o = .full∧AZ xs ys=true)∨(o = .id k∧(j.size=sz∨sz=0))) (ty:TypeId) :
  ∃ r w' m',(Builtin.append_ #[t,t] ty #[u,v]).run Γ.P w = .ok r w'∧c.m.le m'∧WI Γ ((c.mem m').own k r j.size) (vb k bx) w'∧NC w w'∧RC1 ((c.mem m').own k r j.size) (.sl (.id k) j.size (xs++ys)) r:=by
 have hu:=bK hT hi hk3
 obtain ⟨q,z,q1,q2,q3,q4,q5,_⟩:=gE (c:=c) w hT hj hz hzl
 have hx':RD c.m (.sl .no sz xs) u:=hx.sl_no
 have hy':RD c.m (.sl .no sz' ys) v:=hy.sl_no
 obtain ⟨base,len,cap,rfl,_,_⟩:=hx'.elem
 obtain ⟨base',n,cap',rfl,_,_⟩:=hy'.elem
 obtain ⟨l,l1,l2,l3,l4,l5,l6,l7,l8⟩:=hx'.flat
 obtain ⟨k2,k1,k2',k3,k4,k5,k6,k7,k8⟩:=hy'.flat
 subst l4
 subst k4
 -- sizes of all elements
 have hx6:∀ x∈xs,x.length=j.size:=by
  rcases hsx with h | h
  ·rw [h]; exact l6
  ·subst h; simp
 have hy6:∀ x∈ys,x.length=j.size:=by
  rcases hsy with h | h
  ·rw [h]; exact k6
  ·subst h; simp
 have hall6:∀ x∈xs++ys,x.length=j.size:=fun x hx=>by rcases List.mem_append.1 hx with h | h; exact hx6 x h; exact hy6 x h
 have hall7:∀ x∈xs++ys,∀ c∈x,AV.isCell c=true:=fun x hx=>by rcases List.mem_append.1 hx with h | h; exact l7 x h; exact k7 x h
 have hll:l.length=xs.length*j.size:=by
  rcases hsx with h | h
  ·rw [h]; exact l1
  ·subst h; simpa using l1
 have hkl:k2.length=ys.length*j.size:=by
  rcases hsy with h | h
  ·rw [h]; exact k1
  ·subst h; simpa using k1
 have hl2:∀ (i:Nat) (x:List AV) (p:Nat) (c':AV),xs[i]?=some x→x[p]?=some c'→∃ v,l[i*j.size+p]?=some v∧RD c.m c' v:=by
  rcases hsx with h | h
  ·rw [h]; exact l2
  ·subst h; simp
 have hk2:∀ (i:Nat) (x:List AV) (p:Nat) (c':AV),ys[i]?=some x→x[p]?=some c'→∃ v,k2[i*j.size+p]?=some v∧RD c.m c' v:=by
  rcases hsy with h | h
  ·rw [h]; exact k2'
  ·subst h; simp
 by_cases hys:ys=[]
 ·-- nothing comes
  subst hys
  have hrun:(Builtin.append_ #[t,t] ty #[.slice base xs.length cap,.slice base' 0 cap']).run Γ.P w = .ok (.slice base xs.length cap) w:=by
   cases base' <;> cases base <;> simp [Builtin.append_,run_underlying hu,sizeOf,typeInfo,q1,Builtin.lenOf,Builtin.firstCells,loadCells,loadCellsFrom,l5,storeCells]
  have hshape:js (sfree Γ.w0 k) (.slice base xs.length cap:Value):=by
   rcases ho with ⟨rfl,hap⟩ | ⟨rfl,_⟩
   ·right
    refine ⟨_,_,_,rfl,fun _=>?_,fun a _ hl=>?_⟩
    ·have hf:RD c.m (.sl .full sz xs) (.slice base xs.length cap):=hx
     cases hf with | sl _ _ _ _ _ _ _ hf=>exact (hf rfl).symm
    ·rcases Dr hap with h | h
     ·rw [h] at hl; simp at hl
     ·exact absurd rfl h
   ·have:=(hW.own k).shape
    rw [← hx.1] at this; exact this
  refine ⟨_,w,c.m,hrun,.refl _,?_,.refl w,?_⟩
  ·by_cases hsp:j6 (.slice base xs.length cap)=true
   ·-- it stays owned
    rcases ho with ⟨rfl,_⟩ | ⟨rfl,hos⟩
    ·have hf:RD c.m (.sl .full sz xs) (.slice base xs.length cap):=hx
     cases hf with | sl _ _ _ _ _ _ _ hf=>simp [j6,hf rfl] at hsp
    ·obtain ⟨g1,g2⟩:=hx.2.1 hsp
     have hszz:j.size=sz:=by rcases hos with h | h; exact h; omega
     simp only [j6,decide_eq_true_eq] at hsp
     have hτ:c.τ k = .slice base xs.length cap:=hx.1.symm
     cases base with
     | none=>
      rcases (hW.own k).shape with h | ⟨b,l',p,h,h',_⟩
      ·rw [hτ] at h; simp only [Value.slice.injEq] at h; omega
      ·rw [hτ] at h; simp only [Value.slice.injEq] at h; have:=h' h.1.symm; omega
     | some a0=>
      have hblk:aU c k=some a0.block:=by simp [aU,iC,hτ,hsp]
      obtain ⟨len',cap',T',cells',r1,r2,r3,r4,r5⟩:=(hW.own k).blk _ hblk
      rw [hτ] at r1
      simp only [Value.slice.injEq,Option.some.injEq] at r1
      obtain ⟨ra,rb,rc⟩:=r1
      subst rb rc
      obtain ⟨gb,hgb⟩:∃ gb,gb=a0.block:=⟨_,rfl⟩
      rw [← hgb] at ra r2 r4 hblk
      subst ra
      refine (hW.reown (.refl _) hW.sub _ (.inl hblk) (fun b o v h => .inl h) rfl rfl rfl rfl (Nat.le_refl _) (fun _ _ _=>rfl) (.refl w) hshape (fun g hg=>?_)).1
      simp only [iC,hsp,if_true,Option.some.injEq] at hg
      subst hg
      exact ⟨rfl,_,_,T',cells',rfl,r2,by rw [r3,g1,hszz],fun o ho=>r4 o (by rw [g1,← hszz]; exact ho)⟩
   ·exact hW.own_none k j.size _ hshape (by simpa using hsp)
  ·refine ⟨by simp [Ctx.own],fun _=>⟨by simp [Ctx.own],hpos⟩,?_⟩
   rw [List.append_nil]
   show RD c.m _ _
   rcases hsx with h | h
   ·rw [h]; exact hx'
   ·subst h
    cases hx' with
    | sl _ _ _ _ _ _ ho' hf hl hc hsz hcell b off hb g hm hr=>exact .sl _ _ _ _ _ _ ho' hf hl hc (by simp) (by simp) b off hb g (by simp) (by simp)
 ·-- something comes
  have hn:0<ys.length:=List.length_pos_iff.2 hys
  obtain ⟨b',off',rfl,hkm⟩:=k8 hn
  have hnews:∀ p v,k2[p]?=some v→w.cell? ((⟨b',off',none⟩:Addr).add p)=some v:=fun p v h=>by rw [cG]; exact hW.sub.cell _ _ _ (hkm p v h)
  have h63:((xs.length+ys.length:Nat):Int)≤9223372036854775807:=by omega
  have hr47:(xs.length+ys.length)*j.bytes≤140737488355328:=by unfold eA at hroom; omega
  by_cases hfit:xs.length+ys.length≤cap
  ·-- in its place
   have hlt:xs.length<cap:=by omega
   rcases ho with ⟨rfl,_⟩ | ⟨rfl,hos⟩
   ·have hf:RD c.m (.sl .full sz xs) (.slice base xs.length cap):=hx
    cases hf with | sl _ _ _ _ _ _ _ hf=>have:=hf rfl; omega
   ·obtain ⟨g1,g2⟩:=hx.2.1 (by simp [j6,hlt])
    have hszz:j.size=sz:=by rcases hos with h | h; exact h; omega
    have hτ:c.τ k = .slice base xs.length cap:=hx.1.symm
    cases base with
    | none=>
     rcases (hW.own k).shape with h | ⟨b,l',p,h,h',_⟩
     ·rw [hτ] at h; simp only [Value.slice.injEq] at h; omega
     ·rw [hτ] at h; simp only [Value.slice.injEq] at h; have:=h' h.1.symm; omega
    | some a0=>
     have hblk:aU c k=some a0.block:=by simp [aU,iC,hτ,hlt]
     obtain ⟨len',cap'',T',cells,r1,r2,r3,r4,r5⟩:=(hW.own k).blk _ hblk
     rw [hτ] at r1
     simp only [Value.slice.injEq,Option.some.injEq] at r1
     obtain ⟨ra,rb,rc⟩:=r1
     subst rb rc
     obtain ⟨gb,hgb⟩:∃ gb,gb=a0.block:=⟨_,rfl⟩
     rw [← hgb] at ra r2
     subst ra
     have hσ:c.σ k=j.size:=by rw [g1,hszz]
     -- the block's own element type
     obtain ⟨W1,W2,W3⟩:=hW.own_ext (k:=k) (g:=gb) hτ hlt k2 ys.length (by rw [hσ]; exact hkl) hfit r2
     rw [hσ] at W1 W2 W3
     have hrun:=fx hu q1 (w:=w) (T:=T') (cur:=cells) (g:=gb) (sLen:=xs.length) (sCap:=cap) r2 ⟨b',off',none⟩ ys.length cap' k2 (by rw [hkl,q2]) hnews k3 hfit (by rw [hkl,q2,r3,hσ,← Nat.add_mul]; exact Nat.mul_le_mul_right _ hfit) ty
     rw [q2] at hrun
     refine ⟨_,_,_,hrun,W2,W1,W3,by simp [Ctx.own],fun _=>⟨by simp [Ctx.own],hpos⟩,?_⟩
     refine RD.of_flat (l:=l++k2) (by intro k hk; cases hk) (by intro hk; cases hk) (by simp) hfit hall6 hall7 (fun i x p c' h1 h2=>?_) (fun p v hp hlt'=>?_)
     ·obtain ⟨v,h3,h4⟩:=kW (m:=c.m) hll hl2 hk2 i x p c' h1 h2
      exact ⟨v,h3,h4.mono W2⟩
     ·simp only [Ctx.own,Ctx.mem,Mem.with,Nat.zero_add]
      by_cases hp1:p<xs.length*j.size
      ·rw [if_neg (by omega)]
       rw [List.getElem?_append_left (by omega)] at hp
       have hl0:0<xs.length:=by
        rcases Nat.eq_zero_or_pos xs.length with h | h
        ·rw [h,Nat.zero_mul] at hp1; omega
        ·exact h
       obtain ⟨b1,o1,e1,e2⟩:=l8 hl0
       cases e1
       have:=e2 p v hp
       rw [Nat.zero_add] at this
       exact this
      ·rw [if_pos (by first | exact ⟨rfl,by omega,hlt'⟩ | exact ⟨trivial,by omega,hlt'⟩ | exact ⟨by omega,hlt'⟩)]
       rw [List.getElem?_append_right (by omega),hll] at hp
       exact hp
  ·-- elsewhere
   have hfits:=growslice_fits (need:=xs.length+ys.length) (old:=cap) (bytes:=q.bytes) (by omega) (by rw [q3]; exact hr47)
   have hge:=grownCap_ge w (xs.length+ys.length) cap i.elem
   obtain ⟨cells,hcells⟩:∃ cells,cells=l.toArray++k2.toArray++Builtin.zeroCells z.cells (grownCap w (xs.length+ys.length) cap i.elem - (xs.length+ys.length)):=⟨_,rfl⟩
   have hrun:(Builtin.append_ #[t,t] ty #[.slice base xs.length cap,.slice (some ⟨b',off',none⟩) ys.length cap']).run Γ.P w =
     .ok (.slice (some ⟨w.heap.size,0,none⟩) (xs.length+ys.length) (grownCap w (xs.length+ys.length) cap i.elem)) (w.drew.alloc (.cells cells i.elem)):=by
    cases base with
    | none=>
     have hx0:xs.length=0:=by
      rcases Nat.eq_zero_or_pos xs.length with h | h
      ·exact h
      ·obtain ⟨_,_,h',_⟩:=l8 h; cases h'
     have hxn:xs=[]:=List.eq_nil_of_length_eq_zero hx0
     have hcap0:cap=0:=by
      rcases ho with ⟨rfl,_⟩ | ⟨rfl,_⟩
      ·have hf:RD c.m (.sl .full sz xs) (.slice none xs.length cap):=hx
       cases hf with | sl _ _ _ _ _ _ _ hf=>have:=hf rfl; omega
      ·have hτ:c.τ k = .slice none xs.length cap:=hx.1.symm
       rcases (hW.own k).shape with h | ⟨b,l',p,h,h',_⟩
       ·rw [hτ] at h; simp only [Value.slice.injEq] at h; omega
       ·rw [hτ] at h; simp only [Value.slice.injEq] at h; have:=h' h.1.symm; omega
     subst hxn
     subst hcap0
     have hl0:l=[]:=List.eq_nil_of_length_eq_zero (by rw [hll]; simp)
     subst hl0
     simp only [List.length_nil,Nat.zero_add] at hcells hr47 ⊢
     have:=run_append_nil (P:=Γ.P) w t ty i.elem q z hu q1 q4 ⟨b',off',none⟩ ys.length cap' k2 (by rw [hkl,q2]) hnews hn (by omega) (by rw [q3]; omega)
     rw [this,hcells]
     simp
    | some a0=>
     have holds:∀ p v,l[p]?=some v→w.cell? (a0.add p)=some v:=fun p v hp=>by
      have hl0:0<xs.length:=by
       rcases Nat.eq_zero_or_pos xs.length with h | h
       ·have:=(List.getElem?_eq_some_iff.1 hp).1; rw [hll,h,Nat.zero_mul] at this; omega
       ·exact h
      obtain ⟨b1,o1,e1,e2⟩:=l8 hl0
      cases e1
      rw [cG]; exact hW.sub.cell _ _ _ (e2 p v hp)
     rw [run_append_grow (P:=Γ.P) w t ty i.elem q z hu q1 q4 a0 xs.length cap l (by rw [hll,q2]) holds ⟨b',off',none⟩ ys.length cap' k2 (by rw [hkl,q2]) hnews (by omega) h63 hfits,hcells]
   have hsz:cells.size=grownCap w (xs.length+ys.length) cap i.elem*j.size:=by
    rw [hcells]
    simp only [Array.size_append,List.size_toArray,size_zeroCells,q5,hll,hkl]
    rw [← Nat.add_mul,← Nat.add_mul]
    congr 1
    omega
   obtain ⟨W1,W2,W3⟩:=hW.drew.own_new k j.size (xs.length+ys.length) (grownCap w (xs.length+ys.length) cap i.elem) cells i.elem hsz hge
   refine ⟨_,_,_,hrun,W2,W1,(NC.trans (show NC w w.drew from ⟨Nat.le_refl _,fun _ _ h _=>h,.drew _,fun _ h=>h⟩) W3),by simp [Ctx.own],fun _=>⟨by simp [Ctx.own],hpos⟩,?_⟩
   refine RD.of_flat (l:=l++k2) (by intro k hk; cases hk) (by intro hk; cases hk) (by simp) hge hall6 hall7 (fun i x p c' h1 h2=>?_) (fun p v hp hlt'=>?_)
   ·obtain ⟨v,h3,h4⟩:=kW (m:=c.m) hll hl2 hk2 i x p c' h1 h2
    exact ⟨v,h3,h4.mono W2⟩
   ·simp only [Ctx.own,Ctx.mem,Mem.with,Nat.zero_add,World.size_drew,if_true]
    rw [if_pos hlt',hcells]
    have hpl:p<(l++k2).length:=(List.getElem?_eq_some_iff.1 hp).1
    rw [Array.getElem?_append_left (by simp at hpl ⊢; omega)]
    simpa using hp
end
end Go.AI
